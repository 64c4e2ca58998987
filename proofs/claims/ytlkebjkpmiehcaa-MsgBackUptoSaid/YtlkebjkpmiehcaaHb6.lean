/- Words, contracts and lemmas that the claim needs, in the order in which they build. Conditions: each lemma's own. -/
import Derived.Test.YtlkebjkpmiehcaaRows
import Derived.Deep.Slices
import Derived.Deep.Fields
import Derived.ChangeSame
import Derived.SliceStrings
import Derived.Test.YtlkebjkpmiehcaaHb5
section
namespace Go.Proofs.Ytlkebjkpmiehcaa.Ms
open Go.RowKit Go.Proofs.YtlkebjkpmiehcaaW.PrintWords Go.Proofs.YtlkebjkpmiehcaaW.PrintLast Go.Proofs.YtlkebjkpmiehcaaW.PrintMore Go.Proofs.Ytlkebjkpmiehcaa.X
open Go.Proofs.Ytlkebjkpmiehcaa.Pure (nv numOf vecOf nv_bd From beL beL_length bytesOf_app bytesOf_strOf beL_byte bytesOf_inj strOf_size bytes_ok bt_get okE encE encs encs_snoc putL kindsOf kinds_snoc dupB)
set_option linter.unusedVariables false
set_option linter.unusedSimpArgs false
def enX (x : E.S41) : List Int := beL 2 x.f0 ++ (beL 2 x.f1.size ++ bytesOf x.f1)
theorem enX_length (x : E.S41) : (enX x).length = 4 + x.f1.size := by
 unfold enX
 rw [List.length_append,List.length_append,beL_length,beL_length,bytesOf_length]
 omega
theorem encE_bytes (x : E.S41) : bytesOf (encE x) = enX x := by
 unfold encE enX
 rw [bytesOf_app,bytesOf_app,bytesOf_strOf (beL_byte _ _),bytesOf_strOf (beL_byte _ _)]
theorem encs_bytes (l : List E.S41) : bytesOf (encs l) = l.flatMap enX := by
 have : ∀ (l : List E.S41) (a : ByteArray),bytesOf (l.foldl (fun a x => a ++ encE x) a) = bytesOf a ++ l.flatMap enX := by
  intro l
  induction l with
  | nil => intro a; rw [List.flatMap_nil,List.append_nil]; rfl
  | cons x r ih => intro a; rw [List.foldl_cons,ih,bytesOf_app,encE_bytes,List.flatMap_cons,List.append_assoc]
 exact this l ⟨#[]⟩
theorem putL_iff : ∀ (l pre : List E.S41),((putL pre l).2 = 0 ↔ (∀ x ∈ l,okE x) ∧ dupB (kindsOf (pre ++ l)) = false) ∧ ((putL pre l).2 = 0 → putL pre l = (encs (pre ++ l),0))
 | [],pre => by
  rw [List.append_nil]
  unfold putL
  by_cases h : dupB (kindsOf pre) = true
  ·rw [if_pos h,h]
   exact ⟨⟨fun h => absurd h (by show ¬ (1601 : Int) = 0; decide),fun h => absurd h.2 (by decide)⟩,fun h => absurd h (by show ¬ (1601 : Int) = 0; decide)⟩
  ·rw [if_neg h]
   exact ⟨⟨fun _ => ⟨(fun x hx => by cases hx),by simpa using h⟩,fun _ => rfl⟩,fun _ => rfl⟩
 | x :: r,pre => by
  unfold putL
  by_cases h : okE x
  ·rw [if_pos h]
   obtain ⟨a,b⟩ := putL_iff r (pre ++ [x])
   rw [List.append_assoc,List.singleton_append] at a b
   refine ⟨?_,b⟩
   rw [a]
   exact ⟨fun g => ⟨fun y hy => (List.mem_cons.1 hy).elim (fun e => e ▸ h) (g.1 y),g.2⟩,fun g => ⟨fun y hy => g.1 y (List.mem_cons_of_mem _ hy),g.2⟩⟩
  ·rw [if_neg h]
   exact ⟨⟨fun g => absurd g (by show ¬ (1600 : Int) = 0; decide),fun g => absurd (g.1 x List.mem_cons_self) h⟩,fun g => absurd g (by show ¬ (1600 : Int) = 0; decide)⟩
def xsOf (L : List (Bool × Int × Wp)) : List E.S41 := (L.filter (·.1)).map fun e => ⟨e.2.1,e.2.2.s⟩
theorem xAll_eq : ∀ (L : List (Bool × Int × Wp)) (W : Wp) (l : List E.S41),(L.foldl (fun p e => (xPut e.1 p.1 e.2.2,xPutL e.1 e.2.1 e.2.2 p.2)) (W,l)).2 = l ++ xsOf L ∧ (L.foldl (fun p e => (xPut e.1 p.1 e.2.2,xPutL e.1 e.2.1 e.2.2 p.2)) (W,l)).1.s = W.s ∧ ((L.foldl (fun p e => (xPut e.1 p.1 e.2.2,xPutL e.1 e.2.1 e.2.2 p.2)) (W,l)).1.b = false ↔ W.b = false ∧ ∀ e ∈ L,e.1 = true → e.2.2.b = false)
 | [],W,l => ⟨(List.append_nil l).symm,rfl,fun h => ⟨h,(fun e he => by cases he)⟩,fun h => h.1⟩
 | e :: L,W,l => by
  obtain ⟨a,b,c⟩ := xAll_eq L (xPut e.1 W e.2.2) (xPutL e.1 e.2.1 e.2.2 l)
  rw [List.foldl_cons]
  refine ⟨?_,?_,?_⟩
  ·rw [a]
   unfold xPutL xsOf
   cases h : e.1 with
   | true => rw [List.filter_cons_of_pos h,List.map_cons,if_pos rfl,List.append_assoc]; rfl
   | false => rw [List.filter_cons_of_neg (by rw [h]; decide),if_neg (by decide)]
  ·rw [b]
   unfold xPut
   split <;> rfl
  ·rw [c]
   unfold xPut
   cases h : e.1 with
   | true =>
    rw [if_pos rfl,need_f_iff,Bool.not_eq_true']
    exact ⟨fun g => ⟨g.1.1,fun y hy hf => (List.mem_cons.1 hy).elim (fun e => e ▸ g.1.2) (fun hy => g.2 y hy hf)⟩,fun g => ⟨⟨g.1,g.2 e List.mem_cons_self h⟩,fun y hy hf => g.2 y (List.mem_cons_of_mem _ hy) hf⟩⟩
   | false =>
    rw [if_neg (by decide)]
    exact ⟨fun g => ⟨g.1,fun y hy hf => (List.mem_cons.1 hy).elim (fun e => by subst e; rw [h] at hf; cases hf) (fun hy => g.2 y hy hf)⟩,fun g => ⟨g.1,fun y hy hf => g.2 y (List.mem_cons_of_mem _ hy) hf⟩⟩
theorem ends_iff (T : Wp) (L : List (Bool × Int × Wp)) : ((xAll T L).1.ends (xAll T L).2).b = false ↔ T.b = false ∧ (∀ e ∈ L,e.1 = true → e.2.2.b = false) ∧ (∀ x ∈ xsOf L,okE x) ∧ dupB (kindsOf (xsOf L)) = false ∧ (encs (xsOf L)).size ≤ 65535 := by
 obtain ⟨a,b,c⟩ := xAll_eq L T []
 rw [List.nil_append] at a
 obtain ⟨p1,p2⟩ := putL_iff (xsOf L) []
 rw [List.nil_append] at p1 p2
 have a' : (xAll T L).2 = xsOf L := a
 have c' : (xAll T L).1.b = false ↔ _ := c
 unfold Wp.ends
 rw [a']
 refine Iff.trans (vec_f_iff (n := 2) (by decide) (by decide)) ?_
 rw [need_f_iff,c',beq_iff_eq]
 refine ⟨fun h => ?_,fun h => ?_⟩
 ·have e := p2 h.1.2
  have hz := h.2.1
  rw [e] at hz
  exact ⟨h.1.1.1,h.1.1.2,(p1.1 h.1.2).1,(p1.1 h.1.2).2,by dsimp only at hz; omega⟩
 ·have h2 := p1.2 ⟨h.2.2.1,h.2.2.2.1⟩
  rw [p2 h2]
  have := h.2.2.2.2
  exact ⟨⟨⟨h.1,h.2.1⟩,rfl⟩,by dsimp only; omega,by omega,by dsimp only; omega⟩
theorem ends_bytes {T : Wp} {L : List (Bool × Int × Wp)} (h : ((xAll T L).1.ends (xAll T L).2).b = false) : bytesOf ((xAll T L).1.ends (xAll T L).2).s = bytesOf T.s ++ (beL 2 (encs (xsOf L)).size ++ bytesOf (encs (xsOf L))) := by
 have hi := (ends_iff T L).1 h
 obtain ⟨a,b,c⟩ := xAll_eq L T []
 rw [List.nil_append] at a
 have a' : (xAll T L).2 = xsOf L := a
 have b' : (xAll T L).1.s = T.s := b
 obtain ⟨p1,p2⟩ := putL_iff (xsOf L) []
 rw [List.nil_append] at p1 p2
 have h2 := p1.2 ⟨hi.2.2.1,hi.2.2.2.1⟩
 unfold Wp.ends
 rw [a',p2 h2]
 show bytesOf ((xAll T L).1.s ++ (pv (encs (xsOf L)) 2).1) = _
 have e : pv (encs (xsOf L)) 2 = _ := pv_ok (encs (xsOf L)) 2 (by omega) (by omega) (by have := hi.2.2.2.2; omega)
 rw [b',e,bytesOf_app,V_bytes]
theorem exts_stepL {take : Int → Mv → Rp → Bool × Mv × Rp} {lastf : Int → Bool → Bool} {s t : ByteArray} {p k : Nat} {kd : Int} {m : List Int} {seen : List Int} {mv mv' : Mv} (h : From s p (beL 2 kd ++ (beL 2 t.size ++ (bytesOf t ++ m)))) (h0 : 0 ≤ kd) (h1 : kd < 65536) (ht : (t.size : Int) < 65536) (hs : kd ∉ seen)
  (hx : take kd mv ⟨t,0,0,false,false⟩ = (true,mv',⟨t,(t.size : Int),0,false,false⟩)) :
  exts take lastf (k + 1) seen mv ⟨s,p,0,false,false⟩ = exts take lastf k (seen ++ [kd]) mv' ⟨s,((p + 4 + t.size : Nat) : Int),0,false,lastf kd false⟩ := by
 obtain ⟨e1,e2,e3,f⟩ := ex_parts h h0 h1 ht hs
 have hl := h.len
 rw [List.length_append,beL_length] at hl
 have hX : exX take ⟨s,p,0,false,false⟩ seen mv = (true,mv',⟨t,(t.size : Int),0,false,false⟩) := by
  unfold exX
  rw [e1,e2,hx]
 have hQ : exQ take lastf ⟨s,p,0,false,false⟩ seen mv = ⟨s,((p + 4 + t.size : Nat) : Int),0,false,lastf kd false⟩ := by
  unfold exQ
  rw [e1,e3,hX]
  rfl
 have hd : Rp.done ⟨t,(t.size : Int),0,false,false⟩ = ⟨t,(t.size : Int),0,false,false⟩ := by
  unfold Rp.done Rp.need
  simp [needed]
 have hN : exN take lastf ⟨s,p,0,false,false⟩ seen mv = ⟨s,((p + 4 + t.size : Nat) : Int),0,false,lastf kd false⟩ := by
  unfold exN
  rw [hX,hQ,hd]
  rfl
 have hO : exO take lastf ⟨s,p,0,false,false⟩ seen mv = [] := by
  unfold exO
  rw [hX]
  rfl
 conv => lhs; unfold exts
 rw [if_pos (more_at (by omega)),hO,hN,hX,e1]
 rfl
def Takes (take : Int → Mv → Rp → Bool × Mv × Rp) : List E.S41 → Mv → Mv → Prop
 | [],m,m' => m' = m
 | x :: xs,m,m' => ∃ m1,take x.f0 m ⟨x.f1,0,0,false,false⟩ = (true,m1,⟨x.f1,(x.f1.size : Int),0,false,false⟩) ∧ Takes take xs m1 m'
theorem exts_endL (take : Int → Mv → Rp → Bool × Mv × Rp) (lastf : Int → Bool → Bool) (k : Nat) (seen : List Int) (m : Mv) (s : ByteArray) (la : Bool) : exts take lastf k seen m ⟨s,(s.size : Int),0,false,la⟩ = ([],m,⟨s,(s.size : Int),0,false,la⟩) := by
 cases k with
 | zero => rfl
 | succ k =>
  unfold exts
  rw [if_neg (by rw [more_iff]; dsimp only; omega)]
theorem exts_list {take : Int → Mv → Rp → Bool × Mv × Rp} {lastf : Int → Bool → Bool} {s : ByteArray} : ∀ (xs : List E.S41) (p k : Nat) (seen : List Int) (m m' : Mv),From s p (xs.flatMap enX) → (∀ x ∈ xs,okE x) → (kindsOf xs).Nodup → (∀ x ∈ xs,x.f0 ∉ seen) → (∀ x ∈ xs.dropLast,lastf x.f0 false = false) → Takes take xs m m' → xs.length ≤ k →
  ∃ la,exts take lastf k seen m ⟨s,p,0,false,false⟩ = ([],m',⟨s,(s.size : Int),0,false,la⟩)
 | [],p,k,seen,m,m',hf,_,_,_,_,ht,_ => by
  have := hf.len
  simp only [List.flatMap_nil,List.length_nil] at this
  have e : (p : Int) = (s.size : Int) := by omega
  have ht' : m' = m := ht
  rw [e,exts_endL,ht']
  exact ⟨_,rfl⟩
 | x :: xs,p,0,_,_,_,_,_,_,_,_,_,hk => by simp at hk
 | x :: xs,p,k + 1,seen,m,m',hf,ho,hn,hs,hl,ht,hk => by
  obtain ⟨m1,ht1,ht2⟩ := ht
  have hox := ho x List.mem_cons_self
  rw [List.flatMap_cons] at hf
  have hf' := hf.skip
  unfold enX at hf
  rw [List.append_assoc,List.append_assoc] at hf
  rw [exts_stepL hf hox.1 (by have := hox.2.1; omega) (by have := hox.2.2; omega) (hs x List.mem_cons_self) ht1]
  have hn' : x.f0 ∉ kindsOf xs ∧ (kindsOf xs).Nodup := List.nodup_cons.1 hn
  rw [enX_length] at hf'
  have ep : p + 4 + x.f1.size = p + (4 + x.f1.size) := by omega
  rw [ep]
  cases xs with
  | nil =>
   have hz := hf'.len
   simp only [List.flatMap_nil,List.length_nil] at hz
   have e : ((p + (4 + x.f1.size) : Nat) : Int) = (s.size : Int) := by omega
   have ht' : m' = m1 := ht2
   rw [e,exts_endL,ht']
   exact ⟨_,rfl⟩
  | cons y ys =>
   rw [hl x (by rw [List.dropLast_cons_cons]; exact List.mem_cons_self)]
   refine exts_list (y :: ys) _ k (seen ++ [x.f0]) m1 m' hf' (fun z hz => ho z (List.mem_cons_of_mem _ hz)) hn'.2 ?_ ?_ ht2 (by simpa using hk)
   ·intro z hz hm
    rcases List.mem_append.1 hm with h | h
    ·exact hs z (List.mem_cons_of_mem _ hz) h
    ·rw [List.mem_singleton] at h
     refine hn'.1 ?_
     rw [← h]
     exact List.mem_map_of_mem hz
   ·intro z hz
    exact hl z (by rw [List.dropLast_cons_cons]; exact List.mem_cons_of_mem _ hz)
theorem enX_lens : ∀ (xs : List E.S41),xs.length ≤ (xs.flatMap enX).length
 | [] => Nat.zero_le _
 | x :: xs => by
  have := enX_lens xs
  rw [List.flatMap_cons,List.length_append,List.length_cons,enX_length]
  omega
theorem exts_whole {take : Int → Mv → Rp → Bool × Mv × Rp} {lastf : Int → Bool → Bool} {v : ByteArray} {xs : List E.S41} {m m' : Mv} (hv : bytesOf v = xs.flatMap enX) (ho : ∀ x ∈ xs,okE x) (hn : dupB (kindsOf xs) = false) (hl : ∀ x ∈ xs.dropLast,lastf x.f0 false = false) (ht : Takes take xs m m') :
  ∃ la,exts take lastf v.size [] m ⟨v,0,0,false,false⟩ = ([],m',⟨v,(v.size : Int),0,false,la⟩) := by
 have f0 := From.start v
 rw [hv] at f0
 have h1 := enX_lens xs
 rw [← hv,bytesOf_length] at h1
 have hn' : (kindsOf xs).Nodup := by
  unfold dupB at hn
  simpa using hn
 exact exts_list xs 0 v.size [] m m' f0 ho hn' (fun x _ h => by cases h) hl ht h1
def xo (e : Bool × Int × Wp) : List E.S41 := if e.1 = true then [⟨e.2.1,e.2.2.s⟩] else []
theorem xsOf_cons (e : Bool × Int × Wp) (L : List (Bool × Int × Wp)) : xsOf (e :: L) = xo e ++ xsOf L := by
 unfold xsOf xo
 cases h : e.1 with
 | true => rw [List.filter_cons_of_pos h,List.map_cons,if_pos rfl]; rfl
 | false => rw [List.filter_cons_of_neg (by rw [h]; decide),if_neg (by decide)]; rfl
theorem xsOf_nil : xsOf [] = [] := rfl
theorem xo_yes {k : Int} {W : Wp} {b : Bool} (h : b = true) : xo (b,k,W) = [⟨k,W.s⟩] := if_pos h
theorem xo_no {k : Int} {W : Wp} {b : Bool} (h : b = false) : xo (b,k,W) = [] := if_neg (by show ¬ b = true; rw [h]; decide)
theorem Takes.app {take : Int → Mv → Rp → Bool × Mv × Rp} : ∀ {xs ys : List E.S41} {m m1 m2 : Mv},Takes take xs m m1 → Takes take ys m1 m2 → Takes take (xs ++ ys) m m2
 | [],_,_,_,_,h1,h2 => by
  have e : _ = _ := h1
  subst e
  exact h2
 | x :: xs,_,_,_,_,h1,h2 => by
  obtain ⟨n,a,b⟩ := h1
  exact ⟨n,a,Takes.app b h2⟩
theorem num_whole {v : ByteArray} {n : Nat} {x : Int} (hv : bytesOf v = beL n x) (h0 : 0 ≤ x) (h1 : x < 256 ^ n) : (Rp.mk v 0 0 false false).numV n = x ∧ (Rp.mk v 0 0 false false).numR n = ⟨v,(v.size : Int),0,false,false⟩ := by
 have f0 := From.start v
 rw [hv] at f0
 have f0' : From v 0 (beL n x ++ []) := by rw [List.append_nil]; exact f0
 obtain ⟨e1,e2,f1⟩ := rnum (tw := false) (la := false) f0' h0 h1
 have hl := f1.len
 simp only [List.length_nil,Nat.add_zero] at hl
 have e2' : (Rp.mk v 0 0 false false).numR n = _ := e2
 refine ⟨e1,?_⟩
 rw [e2']
 congr 1
 omega
theorem len_one {α : Type} {l : List α} (h : l.length ≤ 1) : l = [] ∨ ∃ a,l = [a] := by
 match l,h with
 | [],_ => exact .inl rfl
 | [a],_ => exact .inr ⟨a,rfl⟩
theorem w_num1 {x : Int} {n : Nat} (h0 : 1 ≤ n) (h1 : n ≤ 4) (h : (W0.num x n).b = false) : okN n x ∧ bytesOf (W0.num x n).s = beL n x := by
 have := (num_f_iff h0 h1).1 h
 exact ⟨this.2,(Wk.w0.num h0 h1 this.2.1 this.2.2).2.trans (List.nil_append _)⟩
theorem t_43 {M : Mv} {l : List Int} (hM : M.f5 = []) (hl : l.length ≤ 1) (hb : decide (0 < l.length) = true → (W0.num (rd l 0) 2).b = false) : Takes srv (xo (decide (0 < l.length),43,W0.num (rd l 0) 2)) M { M with f5 := l } := by
 rcases len_one hl with rfl | ⟨a,rfl⟩
 ·rw [xo_no (by decide)]
  show _ = M
  rw [← hM]
 ·have hw : (W0.num a 2).b = false := hb rfl
  obtain ⟨h1,h2⟩ := w_num1 (n := 2) (by decide) (by decide) hw
  obtain ⟨e1,e2⟩ := num_whole h2 h1.1 h1.2
  rw [xo_yes (show decide (0 < [a].length) = true from rfl)]
  refine ⟨_,?_,rfl⟩
  show srv 43 M ⟨(W0.num a 2).s,0,0,false,false⟩ = _
  unfold srv
  rw [if_pos rfl,show (Rp.mk (W0.num a 2).s 0 0 false false).numV 2 = a from e1,show (Rp.mk (W0.num a 2).s 0 0 false false).numR 2 = _ from e2]
  rfl
theorem t_51r {M : Mv} {l : List Int} (hM : M.f6 = []) (hr : M.retry = true ∨ l = []) (hl : l.length ≤ 1) (hb : decide (0 < l.length) = true → (W0.num (rd l 0) 2).b = false) : Takes srv (xo (decide (0 < l.length),51,W0.num (rd l 0) 2)) M { M with f6 := l } := by
 rcases len_one hl with rfl | ⟨a,rfl⟩
 ·rw [xo_no (by decide)]
  show _ = M
  rw [← hM]
 ·have hr' : M.retry = true := hr.elim id (fun h => by cases h)
  have hw : (W0.num a 2).b = false := hb rfl
  obtain ⟨h1,h2⟩ := w_num1 (n := 2) (by decide) (by decide) hw
  obtain ⟨e1,e2⟩ := num_whole h2 h1.1 h1.2
  rw [xo_yes (show decide (0 < [a].length) = true from rfl)]
  refine ⟨_,?_,rfl⟩
  show srv 51 M ⟨(W0.num a 2).s,0,0,false,false⟩ = _
  unfold srv
  rw [if_neg (by decide),if_pos rfl,if_pos hr',show (Rp.mk (W0.num a 2).s 0 0 false false).numV 2 = a from e1,show (Rp.mk (W0.num a 2).s 0 0 false false).numR 2 = _ from e2]
  rfl
theorem t_51s {M : Mv} {l : List S66} (hM : M.f9 = []) (hr : M.retry = false ∨ l = []) (hl : l.length ≤ 1) (hb : decide (0 < l.length) = true → (wS W0 (rd_T66 l 0)).b = false) : Takes srv (xo (decide (0 < l.length),51,wS W0 (rd_T66 l 0))) M { M with f9 := l } := by
 rcases len_one hl with rfl | ⟨a,rfl⟩
 ·rw [xo_no (by decide)]
  show _ = M
  rw [← hM]
 ·have hr' : M.retry = false := hr.elim id (fun h => by cases h)
  have hw : (wS W0 a).b = false := hb rfl
  have ho := ((wfS.iff W0 a).1 hw).2
  have hv : bytesOf (wS W0 a).s = enS a := (wfS.put W0 [] a Wk.w0 ho).2.trans (List.nil_append _)
  have f0 := From.start (wS W0 a).s
  rw [hv] at f0
  have f0' : From (wS W0 a).s 0 (enS a ++ []) := by rw [List.append_nil]; exact f0
  obtain ⟨e1,e2⟩ := sha_fwd (t := false) (la := false) f0' ho
  have hz : (wS W0 a).s.size = (enS a).length := by rw [← hv,bytesOf_length]
  rw [xo_yes (show decide (0 < [a].length) = true from rfl)]
  refine ⟨_,?_,rfl⟩
  show srv 51 M ⟨(wS W0 a).s,0,0,false,false⟩ = _
  unfold srv
  rw [if_neg (by decide),if_pos rfl,if_neg (by rw [hr']; decide),show (Rp.mk (wS W0 a).s 0 0 false false).shaV = a from e1,show (Rp.mk (wS W0 a).s 0 0 false false).shaR = _ from e2,Nat.zero_add,← hz]
  rfl
theorem t_41s {M : Mv} {x : Int} (hM : M.f12 = 0) (hr : M.retry = false ∨ x = 0) (hb : (x != 0) = true → (W0.num (wrap64 (x - 1)) 2).b = false) (hx : -9223372036854775808 ≤ x ∧ x ≤ 9223372036854775807) : Takes srv (xo (x != 0,41,W0.num (wrap64 (x - 1)) 2)) M { M with f12 := x } := by
 by_cases h : x = 0
 ·subst h
  rw [xo_no (by decide)]
  show _ = M
  rw [← hM]
 ·have hr' : M.retry = false := hr.elim id (fun g => absurd g h)
  have hn : (x != 0) = true := by simpa using h
  obtain ⟨h1,h2⟩ := w_num1 (n := 2) (by decide) (by decide) (hb hn)
  obtain ⟨e1,e2⟩ := num_whole h2 h1.1 h1.2
  have hw : wrap64 (x - 1) + 1 = x := by
   have h3 := h1.1
   have h4 := h1.2
   unfold wrap64 at h3 h4 ⊢
   omega
  rw [xo_yes hn]
  refine ⟨_,?_,rfl⟩
  show srv 41 M ⟨(W0.num (wrap64 (x - 1)) 2).s,0,0,false,false⟩ = _
  unfold srv
  rw [if_neg (by decide),if_neg (by decide),if_pos rfl,if_neg (by rw [hr']; decide),show (Rp.mk (W0.num (wrap64 (x - 1)) 2).s 0 0 false false).numV 2 = _ from e1,show (Rp.mk (W0.num (wrap64 (x - 1)) 2).s 0 0 false false).numR 2 = _ from e2,hw]
  rfl
theorem front_iff {r t : ByteArray} : (W0.hello r t).b = false ↔ r.size = 32 ∧ t.size ≤ 32 := by
 unfold Wp.hello
 have i1 : ((((W0.num 771 2).need ((r.size : Int) == 32)).add r).vec t 1 0 32).b = false ↔ _ := vec_f_iff (n := 1) (by decide) (by decide)
 have i2 : (((W0.num 771 2).need ((r.size : Int) == 32)).add r).b = ((W0.num 771 2).need ((r.size : Int) == 32)).b := rfl
 have i3 : (W0.num 771 2).b = false ↔ _ := num_f_iff (n := 2) (by decide) (by decide)
 rw [i1,i2,need_f_iff,i3,beq_iff_eq]
 exact ⟨fun h => ⟨by omega,by omega⟩,fun h => ⟨⟨⟨rfl,by decide,by decide⟩,by omega⟩,by omega,by omega,by omega⟩⟩
theorem front_wk {r t : ByteArray} (h1 : r.size = 32) (h2 : t.size ≤ 32) : Wk (W0.hello r t) (beL 2 771 ++ (bytesOf r ++ (beL 1 t.size ++ bytesOf t))) := by
 have w := (((Wk.w0.num (x := 771) (n := 2) (by decide) (by decide) (by decide) (by decide)).need (b := (r.size : Int) == 32) (by rw [beq_iff_eq]; omega)).add r).vec (v := t) (n := 1) (lo := 0) (hi := 32) (by decide) (by decide) (by omega) (by omega) (by omega)
 have e : ((([] ++ beL 2 771) ++ bytesOf r) ++ (beL 1 t.size ++ bytesOf t)) = beL 2 771 ++ (bytesOf r ++ (beL 1 t.size ++ bytesOf t)) := by
  rw [List.nil_append,List.append_assoc]
 rw [e] at w
 exact w
theorem front_read {s r t : ByteArray} {m : List Int} (hs : bytesOf s = beL 2 771 ++ (bytesOf r ++ (beL 1 t.size ++ (bytesOf t ++ m)))) (hr : r.size = 32) (ht : t.size ≤ 32) (M : Mv) :
  (Rp.mk s 0 0 false false).h3 = ⟨s,((35 + t.size : Nat) : Int),0,false,false⟩ ∧ (Rp.mk s 0 0 false false).hM M = { M with f1 := r,f2 := t } ∧ From s (35 + t.size) m := by
 have f0 := From.start s
 rw [hs] at f0
 obtain ⟨a1,a2,f1⟩ := rnum (tw := false) (la := false) f0 (by decide) (by decide)
 have eh1 : Rp.h1 ⟨s,0,0,false,false⟩ = ⟨s,((0 + 2 : Nat) : Int),0,false,false⟩ := by
  unfold Rp.h1 Rp.verR
  have a1' : (Rp.mk s 0 0 false false).numV 2 = 771 := a1
  have a2' : (Rp.mk s 0 0 false false).numR 2 = _ := a2
  rw [a1',a2']
  rfl
 obtain ⟨b1,b2,f2⟩ := rbyt (tw := false) (la := false) f1 hr
 have eh2 : Rp.h2 ⟨s,0,0,false,false⟩ = ⟨s,((0 + 2 + 32 : Nat) : Int),0,false,false⟩ := by
  unfold Rp.h2
  rw [eh1]
  exact b2
 obtain ⟨c1,c2,f3⟩ := rvec (tw := false) (la := false) 0 32 f2 (by omega) (by omega) (by omega)
 have eh3 : Rp.h3 ⟨s,0,0,false,false⟩ = ⟨s,((0 + 2 + 32 + 1 + t.size : Nat) : Int),0,false,false⟩ := by
  unfold Rp.h3
  rw [eh2]
  exact c2
 have e : 0 + 2 + 32 + 1 + t.size = 35 + t.size := by omega
 rw [e] at eh3 f3
 refine ⟨eh3,?_,f3⟩
 unfold Rp.hM
 rw [eh1,eh2]
 have b1' : (Rp.mk s ((0 + 2 : Nat) : Int) 0 false false).bytV 32 = r := b1
 have c1' : (Rp.mk s ((0 + 2 + 32 : Nat) : Int) 0 false false).vecV 1 0 32 = t := c1
 rw [b1',c1']
theorem rt2 {m : Mv} (hk : m.f0 = 2) (hz : m.unused.zero = true) (hb : (bodyW m).b = false) (h12 : -9223372036854775808 ≤ m.f12 ∧ m.f12 ≤ 9223372036854775807) : Rt m := by
 have hm : m.unused = { m with f12 := 0,f1 := ByteArray.empty,f2 := ByteArray.empty,f3 := [],f5 := [],f6 := [],f9 := [] } := by
  unfold Mv.unused
  rw [if_neg (by omega),if_pos hk]
 rw [hm] at hz
 have hme := congrArg (fun x : Mv => { x with f12 := m.f12,f1 := m.f1,f2 := m.f2,f3 := m.f3,f5 := m.f5,f6 := m.f6,f9 := m.f9 }) (zero_eq hz)
 dsimp only at hme
 rw [hk] at hme
 have hme' : m = { zeroM with f0 := 2,f12 := m.f12,f1 := m.f1,f2 := m.f2,f3 := m.f3,f5 := m.f5,f6 := m.f6,f9 := m.f9 } := by
  obtain ⟨⟩ := m
  dsimp only at hk hme ⊢
  subst hk
  exact hme
 have eW : bodyW m = shP W0 m := by
  unfold bodyW
  rw [if_neg (by omega),if_pos hk]
 unfold Rt
 rw [eW] at hb ⊢
 have hsw : (shW W0 m).b = false := by
  unfold shP at hb
  cases h : (shW W0 m).b with
  | false => rfl
  | true => rw [if_pos h,h] at hb; cases hb
 have eP : shP W0 m = (xAll (shT W0 m) (shL m)).1.ends (xAll (shT W0 m) (shL m)).2 := by
  unfold shP
  rw [if_neg (by rw [hsw]; decide)]
 rw [eP] at hb ⊢
 have hsw' := hsw
 unfold shW at hsw'
 rw [need_f_iff,need_f_iff,front_iff] at hsw'
 obtain ⟨⟨⟨z1,z2⟩,o1⟩,o2⟩ := hsw'
 have hi := (ends_iff (shT W0 m) (shL m)).1 hb
 have hbb := ends_bytes hb
 obtain ⟨hT,hL,hok,hdup,hsz⟩ := hi
 have i1 : (((shW W0 m).num (rd m.f3 0) 2).num 0 1).b = false ↔ _ := num_f_iff (n := 1) (by decide) (by decide)
 have i2 : ((shW W0 m).num (rd m.f3 0) 2).b = false ↔ _ := num_f_iff (n := 2) (by decide) (by decide)
 have hT' : (((shW W0 m).num (rd m.f3 0) 2).num 0 1).b = false := hT
 rw [i1,i2] at hT'
 obtain ⟨⟨_,y0,y1⟩,_⟩ := hT'
 have o1b := o1
 unfold shOk1 at o1
 rw [Bool.and_eq_true,beq_iff_eq,decide_eq_true_iff] at o1
 obtain ⟨su,hsu⟩ : ∃ su,m.f3 = [su] := by
  rcases len_one (l := m.f3) (by omega) with h | h
  ·rw [h] at o1; simp at o1
  ·exact h
 have hrd : rd m.f3 0 = su := by rw [hsu]; rfl
 rw [hrd] at y0 y1
 have wT : Wk (shT W0 m) ((((beL 2 771 ++ (bytesOf m.f1 ++ (beL 1 m.f2.size ++ bytesOf m.f2)))) ++ beL 2 su) ++ beL 1 0) := by
  unfold shT shW
  rw [hrd]
  exact ((((front_wk z1 z2).need o1b).need o2).num (n := 2) (by decide) (by decide) y0 y1).num (n := 1) (by decide) (by decide) (by decide) (by decide)
 obtain ⟨u,hu⟩ : ∃ u,((xAll (shT W0 m) (shL m)).1.ends (xAll (shT W0 m) (shL m)).2).s = u := ⟨_,rfl⟩
 obtain ⟨E,hE⟩ : ∃ E,encs (xsOf (shL m)) = E := ⟨_,rfl⟩
 rw [hE] at hbb hsz
 rw [wT.2,hu] at hbb
 rw [hu]
 simp only [List.append_assoc] at hbb
 obtain ⟨g1,g2,f1⟩ := front_read hbb z1 z2 { zeroM with f0 := 2 }
 obtain ⟨n1,n2,f2⟩ := rnum (tw := false) (la := false) f1 y0 y1
 obtain ⟨n3,n4,f3⟩ := rnum (tw := false) (la := false) f2 (by decide) (by decide)
 have f3' : From u (35 + m.f2.size + 2 + 1) (beL 2 E.size ++ (bytesOf E ++ [])) := by rw [List.append_nil]; exact f3
 obtain ⟨n5,n6,f4⟩ := rin (tw := false) (la := false) f3' (by omega) (by decide)
 have hl := f4.len
 simp only [List.length_nil,Nat.add_zero] at hl
 have s4 : (Rp.mk u 0 0 false false).s4 = ⟨u,((35 + m.f2.size + 2 : Nat) : Int),0,false,false⟩ := by
  unfold Rp.s4
  rw [g1]
  exact n2
 have s6 : (Rp.mk u 0 0 false false).s6 = ⟨u,((35 + m.f2.size + 2 + 1 : Nat) : Int),0,false,false⟩ := by
  unfold Rp.s6 Rp.s5
  rw [s4]
  have n3' : (Rp.mk u ((35 + m.f2.size + 2 : Nat) : Int) 0 false false).numV 1 = 0 := n3
  have n4' : (Rp.mk u ((35 + m.f2.size + 2 : Nat) : Int) 0 false false).numR 1 = _ := n4
  rw [n3',n4']
  rfl
 have hM : (Rp.mk u 0 0 false false).sM { zeroM with f0 := 2 } = { zeroM with f0 := 2,f1 := m.f1,f2 := m.f2,f3 := [su] } := by
  unfold Rp.sM
  rw [g1,g2]
  have n1' : (Rp.mk u ((35 + m.f2.size : Nat) : Int) 0 false false).numV 2 = su := n1
  rw [n1']
 have n5' : (Rp.mk u ((35 + m.f2.size + 2 + 1 : Nat) : Int) 0 false false).inR 2 = ⟨E,0,0,false,false⟩ := n5
 have n6' : (Rp.mk u ((35 + m.f2.size + 2 + 1 : Nat) : Int) 0 false false).outR 2 = _ := n6
 have hr0 : ({ zeroM with f0 := 2,f1 := m.f1,f2 := m.f2,f3 := [su] } : Mv).retry = m.retry := by
  unfold Mv.retry
  rw [hk]
 have k5 : m.f5.length ≤ 1 := by omega
 have hcase : (m.retry = true ∨ m.f6 = []) ∧ m.f6.length ≤ 1 ∧ (m.retry = false ∨ m.f9 = []) ∧ m.f9.length ≤ 1 ∧ (m.retry = false ∨ m.f12 = 0) := by
  unfold shOk2 at o2
  rw [Bool.or_eq_true,Bool.and_eq_true,Bool.and_eq_true,Bool.and_eq_true,Bool.and_eq_true,Bool.and_eq_true,beq_iff_eq,beq_iff_eq,beq_iff_eq,decide_eq_true_iff,decide_eq_true_iff,Bool.not_eq_true'] at o2
  rcases o2 with ⟨⟨⟨p1,p2⟩,p3⟩,p4⟩ | ⟨⟨p1,p2⟩,p3⟩
  ·have := List.eq_nil_of_length_eq_zero (l := m.f9) (by omega)
   exact ⟨.inl p1,by omega,.inr this,by omega,.inr p4⟩
  ·have := List.eq_nil_of_length_eq_zero (l := m.f6) (by omega)
   exact ⟨.inr this,by omega,.inl p1,by omega,.inl p1⟩
 obtain ⟨k6r,k6,k9r,k9,k12r⟩ := hcase
 have T1 := t_43 (M := { zeroM with f0 := 2,f1 := m.f1,f2 := m.f2,f3 := [su] }) (l := m.f5) rfl k5 (fun h => hL _ List.mem_cons_self h)
 have T2 := t_51r (M := { zeroM with f0 := 2,f1 := m.f1,f2 := m.f2,f3 := [su],f5 := m.f5 }) (l := m.f6) rfl (by rw [show ({ zeroM with f0 := 2,f1 := m.f1,f2 := m.f2,f3 := [su],f5 := m.f5 } : Mv).retry = m.retry from hr0]; exact k6r) k6 (fun h => hL _ (List.mem_cons_of_mem _ List.mem_cons_self) h)
 have T3 := t_51s (M := { zeroM with f0 := 2,f1 := m.f1,f2 := m.f2,f3 := [su],f5 := m.f5,f6 := m.f6 }) (l := m.f9) rfl (by rw [show ({ zeroM with f0 := 2,f1 := m.f1,f2 := m.f2,f3 := [su],f5 := m.f5,f6 := m.f6 } : Mv).retry = m.retry from hr0]; exact k9r) k9 (fun h => hL _ (List.mem_cons_of_mem _ (List.mem_cons_of_mem _ List.mem_cons_self)) h)
 have T4 := t_41s (M := { zeroM with f0 := 2,f1 := m.f1,f2 := m.f2,f3 := [su],f5 := m.f5,f6 := m.f6,f9 := m.f9 }) (x := m.f12) rfl (by rw [show ({ zeroM with f0 := 2,f1 := m.f1,f2 := m.f2,f3 := [su],f5 := m.f5,f6 := m.f6,f9 := m.f9 } : Mv).retry = m.retry from hr0]; exact k12r) (fun h => hL _ (List.mem_cons_of_mem _ (List.mem_cons_of_mem _ (List.mem_cons_of_mem _ List.mem_cons_self))) h) h12
 have TT := T1.app (T2.app (T3.app T4))
 have hxs : xsOf (shL m) = xo (decide (0 < m.f5.length),43,W0.num (rd m.f5 0) 2) ++ (xo (decide (0 < m.f6.length),51,W0.num (rd m.f6 0) 2) ++ (xo (decide (0 < m.f9.length),51,wS W0 (rd_T66 m.f9 0)) ++ xo (m.f12 != 0,41,W0.num (wrap64 (m.f12 - 1)) 2))) := by
  unfold shL
  rw [xsOf_cons,xsOf_cons,xsOf_cons,xsOf_cons,xsOf_nil,List.append_nil]
 rw [← hxs] at TT
 obtain ⟨la,hx⟩ := exts_whole (take := srv) (lastf := sameL) (v := E) (by rw [← hE]; exact encs_bytes _) hok hdup (fun x _ => rfl) TT
 have hX : (Rp.mk u 0 0 false false).sX { zeroM with f0 := 2 } = ([],{ zeroM with f0 := 2,f1 := m.f1,f2 := m.f2,f3 := [su],f5 := m.f5,f6 := m.f6,f9 := m.f9,f12 := m.f12 },⟨E,(E.size : Int),0,false,la⟩) := by
  unfold Rp.sX
  rw [s6,hM,n5']
  exact hx
 have hSM : (Rp.mk u 0 0 false false).shM { zeroM with f0 := 2 } = m := by
  unfold Rp.shM
  rw [hX]
  conv => rhs; rw [hme',hsu]
  rfl
 have hSR : (Rp.mk u 0 0 false false).shR { zeroM with f0 := 2 } = ⟨u,(u.size : Int),0,false,false⟩ := by
  unfold Rp.shR
  rw [hX,s6,n6']
  unfold Rp.back
  dsimp only
  congr 1
  omega
 rw [hk,show bodyP ⟨u,0,0,false,false⟩ { zeroM with f0 := 2 } = ((Rp.mk u 0 0 false false).shM { zeroM with f0 := 2 },(Rp.mk u 0 0 false false).shR { zeroM with f0 := 2 }) from rfl,hSM,hSR]
theorem w_lst {α : Type} {f : Wp → α → Wp} {ok : α → Prop} {enc : α → List Int} (wf : WF f ok enc) {W : Wp} {n : Nat} (h0 : 1 ≤ n) (h1 : n ≤ 3) {l : List α} {w : List Int} (hw : W.b = false → Wk W w) (hb : (W.within (fw f l) n).b = false) :
  (∀ x ∈ l,ok x) ∧ ∃ v,bytesOf v = l.flatMap enc ∧ (v.size : Int) < 256 ^ n ∧ bytesOf (W.within (fw f l) n).s = w ++ (beL n v.size ++ bytesOf v) := by
 obtain ⟨a0,a1,a2⟩ := (within_f_iff h0 h1).1 hb
 have a1' := (wf.fw_iff l).1 a1
 have wk := wf.fw a1'
 have hv : bytesOf (fw f l).s = l.flatMap enc := wk.2
 refine ⟨a1',(fw f l).s,hv,a2,?_⟩
 have w2 := (hw a0).within wk h0 h1 (by rw [← hv,bytesOf_length]; exact a2)
 rw [w2.2,← hv,bytesOf_length]
theorem t_lst {α : Type} {f : Wp → α → Wp} {ok : α → Prop} {enc : α → List Int} {one : Rp → α × Rp} (wf : WF f ok enc) (rf : RdL one ok enc) {n : Nat} (h0 : 1 ≤ n) (h1 : n ≤ 3) {l : List α} (he : l ≠ []) (hb : (W0.within (fw f l) n).b = false) :
  lstV one ⟨(W0.within (fw f l) n).s,0,0,false,false⟩ n = l ∧ lstR one ⟨(W0.within (fw f l) n).s,0,0,false,false⟩ n = ⟨(W0.within (fw f l) n).s,((W0.within (fw f l) n).s.size : Int),0,false,false⟩ := by
 obtain ⟨a,v,b,c,d⟩ := w_lst wf h0 h1 (w := []) (fun _ => Wk.w0) hb
 obtain ⟨u,hu⟩ : ∃ u,(W0.within (fw f l) n).s = u := ⟨_,rfl⟩
 rw [hu] at d ⊢
 have f0 := From.start u
 rw [d,List.nil_append] at f0
 have f0' : From u 0 (beL n v.size ++ (bytesOf v ++ [])) := by rw [List.append_nil]; exact f0
 obtain ⟨e1,e2,f1⟩ := rf.lst (t := false) (la := false) f0' c h1 b a he
 have hl := f1.len
 simp only [List.length_nil,Nat.add_zero] at hl
 refine ⟨e1,?_⟩
 have e2' : lstR one (Rp.mk u 0 0 false false) n = _ := e2
 rw [e2']
 congr 1
 omega
theorem nil_of {α : Type} {l : List α} (h : ¬ l = []) : decide (0 < l.length) = true := by
 cases l with
 | nil => exact absurd rfl h
 | cons a r => rfl
theorem t_10 {M : Mv} {l : List Int} (hM : M.f6 = []) (hb : decide (0 < l.length) = true → (W0.within (fw (wN 2) l) 2).b = false) : Takes cli (xo (decide (0 < l.length),10,W0.within (fw (wN 2) l) 2)) M { M with f6 := l } := by
 by_cases h : l = []
 ·subst h
  rw [xo_no (show decide (0 < List.length []) = false from rfl)]
  show _ = M
  rw [← hM]
 ·have hd := nil_of h
  obtain ⟨e1,e2⟩ := t_lst (wfN 2 (by decide) (by decide)) (rfN 2 (by decide)) (n := 2) (by decide) (by decide) h (hb hd)
  rw [xo_yes hd]
  refine ⟨_,?_,rfl⟩
  show cli 10 M ⟨(W0.within (fw (wN 2) l) 2).s,0,0,false,false⟩ = _
  unfold cli
  rw [if_neg (by decide),if_pos rfl]
  exact Prod.ext rfl (Prod.ext (by show ({ M with f6 := _ } : Mv) = _; rw [show lstV (oneNum 2) ⟨(W0.within (fw (wN 2) l) 2).s,0,0,false,false⟩ 2 = l from e1]) e2)
theorem t_13 {M : Mv} {l : List Int} (hM : M.f7 = []) (hb : decide (0 < l.length) = true → (W0.within (fw (wN 2) l) 2).b = false) : Takes cli (xo (decide (0 < l.length),13,W0.within (fw (wN 2) l) 2)) M { M with f7 := l } := by
 by_cases h : l = []
 ·subst h
  rw [xo_no (show decide (0 < List.length []) = false from rfl)]
  show _ = M
  rw [← hM]
 ·have hd := nil_of h
  obtain ⟨e1,e2⟩ := t_lst (wfN 2 (by decide) (by decide)) (rfN 2 (by decide)) (n := 2) (by decide) (by decide) h (hb hd)
  rw [xo_yes hd]
  refine ⟨_,?_,rfl⟩
  show cli 13 M ⟨(W0.within (fw (wN 2) l) 2).s,0,0,false,false⟩ = _
  unfold cli
  rw [if_neg (by decide),if_neg (by decide),if_pos rfl]
  exact Prod.ext rfl (Prod.ext (by show ({ M with f7 := _ } : Mv) = _; rw [show lstV (oneNum 2) ⟨(W0.within (fw (wN 2) l) 2).s,0,0,false,false⟩ 2 = l from e1]) e2)
theorem t_43c {M : Mv} {l : List Int} (hM : M.f5 = []) (hb : decide (0 < l.length) = true → (W0.within (fw (wN 2) l) 1).b = false) : Takes cli (xo (decide (0 < l.length),43,W0.within (fw (wN 2) l) 1)) M { M with f5 := l } := by
 by_cases h : l = []
 ·subst h
  rw [xo_no (show decide (0 < List.length []) = false from rfl)]
  show _ = M
  rw [← hM]
 ·have hd := nil_of h
  obtain ⟨e1,e2⟩ := t_lst (wfN 2 (by decide) (by decide)) (rfN 2 (by decide)) (n := 1) (by decide) (by decide) h (hb hd)
  rw [xo_yes hd]
  refine ⟨_,?_,rfl⟩
  show cli 43 M ⟨(W0.within (fw (wN 2) l) 1).s,0,0,false,false⟩ = _
  unfold cli
  rw [if_neg (by decide),if_neg (by decide),if_neg (by decide),if_pos rfl]
  exact Prod.ext rfl (Prod.ext (by show ({ M with f5 := _ } : Mv) = _; rw [show lstV (oneNum 2) ⟨(W0.within (fw (wN 2) l) 1).s,0,0,false,false⟩ 1 = l from e1]) e2)
theorem t_45 {M : Mv} {l : List Int} (hM : M.f8 = []) (hb : decide (0 < l.length) = true → (W0.within (fw (wN 1) l) 1).b = false) : Takes cli (xo (decide (0 < l.length),45,W0.within (fw (wN 1) l) 1)) M { M with f8 := l } := by
 by_cases h : l = []
 ·subst h
  rw [xo_no (show decide (0 < List.length []) = false from rfl)]
  show _ = M
  rw [← hM]
 ·have hd := nil_of h
  obtain ⟨e1,e2⟩ := t_lst (wfN 1 (by decide) (by decide)) (rfN 1 (by decide)) (n := 1) (by decide) (by decide) h (hb hd)
  rw [xo_yes hd]
  refine ⟨_,?_,rfl⟩
  show cli 45 M ⟨(W0.within (fw (wN 1) l) 1).s,0,0,false,false⟩ = _
  unfold cli
  rw [if_neg (by decide),if_neg (by decide),if_neg (by decide),if_neg (by decide),if_pos rfl]
  exact Prod.ext rfl (Prod.ext (by show ({ M with f8 := _ } : Mv) = _; rw [show lstV (oneNum 1) ⟨(W0.within (fw (wN 1) l) 1).s,0,0,false,false⟩ 1 = l from e1]) e2)
theorem t_51c {M : Mv} {l : List S66} (hM : M.f9 = []) (hb : decide (0 < l.length) = true → (W0.within (fw wS l) 2).b = false) : Takes cli (xo (decide (0 < l.length),51,W0.within (fw wS l) 2)) M { M with f9 := l } := by
 by_cases h : l = []
 ·subst h
  rw [xo_no (show decide (0 < List.length []) = false from rfl)]
  show _ = M
  rw [← hM]
 ·have hd := nil_of h
  obtain ⟨e1,e2⟩ := t_lst wfS rfS (n := 2) (by decide) (by decide) h (hb hd)
  rw [xo_yes hd]
  refine ⟨_,?_,rfl⟩
  show cli 51 M ⟨(W0.within (fw wS l) 2).s,0,0,false,false⟩ = _
  unfold cli
  rw [if_neg (by decide),if_neg (by decide),if_neg (by decide),if_neg (by decide),if_neg (by decide),if_pos rfl]
  exact Prod.ext rfl (Prod.ext (by show ({ M with f9 := _ } : Mv) = _; rw [show lstV oneSha ⟨(W0.within (fw wS l) 2).s,0,0,false,false⟩ 2 = l from e1]) e2)
theorem t_0 {M : Mv} {t : ByteArray} (hM : M.f4 = ⟨#[]⟩) (hb : (!t.toList.isEmpty) = true → (W0.within ((W0.num 0 1).vec t 2 1 64) 2).b = false) : Takes cli (xo (!t.toList.isEmpty,0,W0.within ((W0.num 0 1).vec t 2 1 64) 2)) M { M with f4 := t } := by
 cases h : !t.toList.isEmpty with
 | false =>
  have ht : t = ⟨#[]⟩ := by
   have h1 : t.toList.isEmpty = true := by simpa using h
   rw [ByteArray.toList_eq,List.isEmpty_iff] at h1
   exact size_nil (by simpa using congrArg List.length h1)
  subst ht
  rw [xo_no rfl]
  show _ = M
  rw [← hM]
 | true =>
  have hb' := hb h
  have i1 : (W0.within ((W0.num 0 1).vec t 2 1 64) 2).b = false ↔ _ := within_f_iff (n := 2) (by decide) (by decide)
  have i2 : ((W0.num 0 1).vec t 2 1 64).b = false ↔ _ := vec_f_iff (n := 2) (by decide) (by decide)
  rw [i1,i2] at hb'
  obtain ⟨_,⟨_,c1,c2,c3⟩,a2⟩ := hb'
  have wv := (Wk.w0.num (x := 0) (n := 1) (by decide) (by decide) (by decide) (by decide)).vec (n := 2) (by decide) (by decide) c1 c2 c3
  obtain ⟨v,hv⟩ : ∃ v,((W0.num 0 1).vec t 2 1 64).s = v := ⟨_,rfl⟩
  have hvb : bytesOf v = ([] ++ beL 1 0) ++ (beL 2 t.size ++ bytesOf t) := by rw [← hv]; exact wv.2
  rw [hv] at a2
  have w2 := Wk.w0.within wv (n := 2) (by decide) (by decide) (by rw [← wv.size,show ((W0.num 0 ((1 : Nat) : Int)).vec t ((2 : Nat) : Int) 1 64).s = v from hv]; exact a2)
  obtain ⟨u,hu⟩ : ∃ u,(W0.within ((W0.num 0 1).vec t 2 1 64) 2).s = u := ⟨_,rfl⟩
  have hub : bytesOf u = beL 2 v.size ++ bytesOf v := by
   rw [← hu]
   refine w2.2.trans ?_
   rw [List.nil_append,← hvb,bytesOf_length]
  rw [xo_yes rfl]
  refine ⟨_,?_,rfl⟩
  show cli 0 M ⟨(W0.within ((W0.num 0 1).vec t 2 1 64) 2).s,0,0,false,false⟩ = (true,_,⟨(W0.within ((W0.num 0 1).vec t 2 1 64) 2).s,((W0.within ((W0.num 0 1).vec t 2 1 64) 2).s.size : Int),0,false,false⟩)
  rw [hu]
  have f0 := From.start u
  rw [hub] at f0
  have f0' : From u 0 (beL 2 v.size ++ (bytesOf v ++ [])) := by rw [List.append_nil]; exact f0
  obtain ⟨e1,e2,f1⟩ := rin (tw := false) (la := false) f0' a2 (by decide)
  have hl := f1.len
  simp only [List.length_nil,Nat.add_zero] at hl
  have e1' : (Rp.mk u 0 0 false false).inR 2 = ⟨v,0,0,false,false⟩ := e1
  have e2' : (Rp.mk u 0 0 false false).outR 2 = _ := e2
  have g0 := From.start v
  rw [hvb,List.nil_append] at g0
  obtain ⟨n1,n2,g1⟩ := rnum (tw := false) (la := false) g0 (by decide) (by decide)
  have g1' : From v (0 + 1) (beL 2 t.size ++ (bytesOf t ++ [])) := by rw [List.append_nil]; exact g1
  obtain ⟨n3,n4,g2⟩ := rvec (tw := false) (la := false) 1 64 g1' c1 c2 c3
  have hl2 := g2.len
  simp only [List.length_nil,Nat.add_zero] at hl2
  have n1' : (Rp.mk v 0 0 false false).numV 1 = 0 := n1
  have n2' : (Rp.mk v 0 0 false false).numR 1 = ⟨v,((0 + 1 : Nat) : Int),0,false,false⟩ := n2
  have n3' : (Rp.mk v ((0 + 1 : Nat) : Int) 0 false false).vecV 2 1 64 = t := n3
  have n4' : (Rp.mk v ((0 + 1 : Nat) : Int) 0 false false).vecR 2 1 64 = _ := n4
  have hn1 : (Rp.mk u 0 0 false false).nam1 = ⟨v,((0 + 1 : Nat) : Int),0,false,false⟩ := by
   unfold Rp.nam1
   rw [e1',n1',n2']
   rfl
  have hV : (Rp.mk u 0 0 false false).namV = t := by
   unfold Rp.namV
   rw [hn1,n3']
  have hR : (Rp.mk u 0 0 false false).namR = ⟨u,(u.size : Int),0,false,false⟩ := by
   unfold Rp.namR
   rw [hn1,n4',e2']
   have e : (Rp.mk v ((0 + 1 + 2 + t.size : Nat) : Int) 0 false false).done = ⟨v,((0 + 1 + 2 + t.size : Nat) : Int),0,false,false⟩ := by
    unfold Rp.done Rp.need
    dsimp only
    rw [beq_iff_eq.mpr (show ((0 + 1 + 2 + t.size : Nat) : Int) = (v.size : Int) by omega)]
    rfl
   rw [e]
   unfold Rp.back
   dsimp only
   congr 1
   omega
  unfold cli
  rw [if_pos rfl,hV,hR]
theorem t_41c {M : Mv} {l : List S111} {b : List ByteArray} (hM : M.f10 = []) (hM2 : M.f11 = []) (hlen : b.length = l.length) (hb : decide (0 < l.length) = true → ((W0.within (fw wI l) 2).within (fw wB b) 2).b = false) : Takes cli (xo (decide (0 < l.length),41,(W0.within (fw wI l) 2).within (fw wB b) 2)) M { M with f10 := l,f11 := b } := by
 by_cases h : l = []
 ·subst h
  obtain rfl := List.eq_nil_of_length_eq_zero hlen
  rw [xo_no (show decide (0 < List.length []) = false from rfl)]
  show _ = M
  rw [← hM,← hM2]
 ·have hd := nil_of h
  have hb' := hb hd
  have i1 : ((W0.within (fw wI l) 2).within (fw wB b) 2).b = false ↔ _ := within_f_iff (n := 2) (by decide) (by decide)
  have h1 := (i1.1 hb').1
  obtain ⟨p1,v,p2,p3,p4⟩ := w_lst wfI (W := W0) (n := 2) (by decide) (by decide) (w := []) (fun _ => Wk.w0) h1
  obtain ⟨q1,x,q2,q3,q4⟩ := w_lst wfB (W := W0.within (fw wI l) 2) (n := 2) (by decide) (by decide) (w := beL 2 v.size ++ bytesOf v) (fun _ => ⟨h1,p4.trans (List.nil_append _)⟩) hb'
  obtain ⟨u,hu⟩ : ∃ u,((W0.within (fw wI l) 2).within (fw wB b) 2).s = u := ⟨_,rfl⟩
  have hub : bytesOf u = (beL 2 v.size ++ bytesOf v) ++ (beL 2 x.size ++ bytesOf x) := by rw [← hu]; exact q4
  rw [xo_yes hd]
  refine ⟨_,?_,rfl⟩
  show cli 41 M ⟨((W0.within (fw wI l) 2).within (fw wB b) 2).s,0,0,false,false⟩ = (true,_,⟨((W0.within (fw wI l) 2).within (fw wB b) 2).s,(((W0.within (fw wI l) 2).within (fw wB b) 2).s.size : Int),0,false,false⟩)
  rw [hu]
  have f0 := From.start u
  rw [hub,List.append_assoc] at f0
  obtain ⟨e1,e2,f1⟩ := rfI.lst (t := false) (la := false) f0 p3 (by decide) p2 p1 h
  have f1' : From u (0 + 2 + v.size) (beL 2 x.size ++ (bytesOf x ++ [])) := by rw [List.append_nil]; exact f1
  obtain ⟨e3,e4,f2⟩ := rin (tw := false) (la := false) f1' q3 (by decide)
  have hl := f2.len
  simp only [List.length_nil,Nat.add_zero] at hl
  have hI : (Rp.mk u 0 0 false false).pskI = l := e1
  have h1' : (Rp.mk u 0 0 false false).psk1 = ⟨u,((0 + 2 + v.size : Nat) : Int),0,false,false⟩ := e2
  have e3' : (Rp.mk u ((0 + 2 + v.size : Nat) : Int) 0 false false).inR 2 = ⟨x,0,0,false,false⟩ := e3
  have e4' : (Rp.mk u ((0 + 2 + v.size : Nat) : Int) 0 false false).outR 2 = _ := e4
  have hw := rfB.whole q2 q1 false false
  have hB : (Rp.mk u 0 0 false false).pskB = b := by
   unfold Rp.pskB allV
   rw [h1',e3']
   dsimp only
   rw [hw]
  have hR2 : (Rp.mk u 0 0 false false).psk2 = ⟨u,(u.size : Int),0,false,false⟩ := by
   unfold Rp.psk2 allR
   rw [h1',e3',e4']
   dsimp only
   rw [hw]
   unfold Rp.back
   dsimp only
   congr 1
   omega
  have hR : (Rp.mk u 0 0 false false).pskR = ⟨u,(u.size : Int),0,false,false⟩ := by
   unfold Rp.pskR
   rw [hR2,hB,hI,beq_iff_eq.mpr (show (b.length : Int) = (l.length : Int) by omega)]
   unfold Rp.need Rp.allow
   dsimp only
   rw [beq_self_eq_true]
   rfl
  unfold cli
  rw [if_neg (by decide),if_neg (by decide),if_neg (by decide),if_neg (by decide),if_neg (by decide),if_neg (by decide),if_pos rfl,hI,hB,hR]
theorem xo_kind {b : Bool} {k : Int} {W : Wp} : ∀ x ∈ xo (b,k,W),x.f0 = k := by
 intro x hx
 cases b with
 | true =>
  rw [xo_yes rfl,List.mem_singleton] at hx
  rw [hx]
 | false =>
  rw [xo_no rfl] at hx
  cases hx
theorem dropLast_app {α : Type} {A B : List α} (hB : B.length ≤ 1) : ∀ x ∈ (A ++ B).dropLast,x ∈ A := by
 intro x hx
 rcases len_one hB with rfl | ⟨b,rfl⟩
 ·rw [List.append_nil] at hx
  exact List.dropLast_subset A hx
 ·rw [List.dropLast_concat] at hx
  exact hx
theorem xo_len (e : Bool × Int × Wp) : (xo e).length ≤ 1 := by
 unfold xo
 split <;> simp
theorem pskL_no {k : Int} (h : k ≠ 41) : pskL k false = false := by
 unfold pskL
 exact beq_eq_false_iff_ne.mpr h
theorem rt1 {m : Mv} (hk : m.f0 = 1) (hz : m.unused.zero = true) (hb : (bodyW m).b = false) : Rt m := by
 have hm : m.unused = { m with f4 := ByteArray.empty,f7 := [],f8 := [],f10 := [],f11 := [],f1 := ByteArray.empty,f2 := ByteArray.empty,f3 := [],f5 := [],f6 := [],f9 := [] } := by
  unfold Mv.unused
  rw [if_pos hk]
 rw [hm] at hz
 have hme := congrArg (fun x : Mv => { x with f4 := m.f4,f7 := m.f7,f8 := m.f8,f10 := m.f10,f11 := m.f11,f1 := m.f1,f2 := m.f2,f3 := m.f3,f5 := m.f5,f6 := m.f6,f9 := m.f9 }) (zero_eq hz)
 dsimp only at hme
 rw [hk] at hme
 have hme' : m = { zeroM with f0 := 1,f4 := m.f4,f7 := m.f7,f8 := m.f8,f10 := m.f10,f11 := m.f11,f1 := m.f1,f2 := m.f2,f3 := m.f3,f5 := m.f5,f6 := m.f6,f9 := m.f9 } := by
  obtain ⟨⟩ := m
  dsimp only at hk hme ⊢
  subst hk
  exact hme
 have eW : bodyW m = chP W0 m := by
  unfold bodyW
  rw [if_pos hk]
 have eP : chP W0 m = (xAll (chT W0 m) (chL m)).1.ends (xAll (chT W0 m) (chL m)).2 := rfl
 unfold Rt
 rw [eW,eP] at hb ⊢
 have hi := (ends_iff (chT W0 m) (chL m)).1 hb
 have hbb := ends_bytes hb
 obtain ⟨hT,hL,hok,hdup,hsz⟩ := hi
 have i1 : ((((W0.hello m.f1 m.f2).need (chOk m)).within (fw (wN 2) m.f3) 2).vec ⟨#[0]⟩ 1 1 1).b = false ↔ _ := vec_f_iff (n := 1) (by decide) (by decide)
 have hT' : ((((W0.hello m.f1 m.f2).need (chOk m)).within (fw (wN 2) m.f3) 2).vec ⟨#[0]⟩ 1 1 1).b = false := hT
 rw [i1] at hT'
 have h2 : (((W0.hello m.f1 m.f2).need (chOk m)).within (fw (wN 2) m.f3) ((2 : Nat) : Int)).b = false := hT'.1
 have i2 := (within_f_iff (n := 2) (by decide) (by decide)).1 h2
 have i3 := i2.1
 rw [need_f_iff,front_iff] at i3
 obtain ⟨⟨z1,z2⟩,o1⟩ := i3
 obtain ⟨s1,v,s2,s3,s4⟩ := w_lst (wfN 2 (by decide) (by decide)) (W := (W0.hello m.f1 m.f2).need (chOk m)) (n := 2) (by decide) (by decide) (fun _ => (front_wk z1 z2).need o1) h2
 have o1' := o1
 unfold chOk at o1'
 rw [Bool.and_eq_true,beq_iff_eq,decide_eq_true_iff] at o1'
 have he3 : m.f3 ≠ [] := by
  intro h
  rw [h] at o1'
  exact absurd o1'.1 (by decide)
 have wT : Wk (chT W0 m) (((beL 2 771 ++ (bytesOf m.f1 ++ (beL 1 m.f2.size ++ bytesOf m.f2))) ++ (beL 2 v.size ++ bytesOf v)) ++ (beL 1 (⟨#[0]⟩ : ByteArray).size ++ bytesOf (⟨#[0]⟩ : ByteArray))) := by
  have w : Wk (((W0.hello m.f1 m.f2).need (chOk m)).within (fw (wN 2) m.f3) ((2 : Nat) : Int)) ((beL 2 771 ++ (bytesOf m.f1 ++ (beL 1 m.f2.size ++ bytesOf m.f2))) ++ (beL 2 v.size ++ bytesOf v)) := ⟨h2,s4⟩
  exact w.vec (v := ⟨#[0]⟩) (n := 1) (lo := 1) (hi := 1) (by decide) (by decide) (by decide) (by decide) (by decide)
 obtain ⟨u,hu⟩ : ∃ u,((xAll (chT W0 m) (chL m)).1.ends (xAll (chT W0 m) (chL m)).2).s = u := ⟨_,rfl⟩
 obtain ⟨E,hE⟩ : ∃ E,encs (xsOf (chL m)) = E := ⟨_,rfl⟩
 rw [hE] at hbb hsz
 rw [wT.2,hu] at hbb
 rw [hu]
 simp only [List.append_assoc] at hbb
 obtain ⟨g1,g2,f1⟩ := front_read hbb z1 z2 { zeroM with f0 := 1 }
 obtain ⟨n1,n2,f2⟩ := (rfN 2 (by decide)).lst (t := false) (la := false) f1 s3 (by decide) s2 s1 he3
 obtain ⟨n3,n4,f3⟩ := rvec (tw := false) (la := false) 0 255 f2 (by decide) (by decide) (by decide)
 have f3' : From u (35 + m.f2.size + 2 + v.size + 1 + 1) (beL 2 E.size ++ (bytesOf E ++ [])) := by rw [List.append_nil]; exact f3
 obtain ⟨n5,n6,f4⟩ := rin (tw := false) (la := false) f3' (by omega) (by decide)
 have hl := f4.len
 simp only [List.length_nil,Nat.add_zero] at hl
 have c4 : (Rp.mk u 0 0 false false).c4 = ⟨u,((35 + m.f2.size + 2 + v.size : Nat) : Int),0,false,false⟩ := by
  unfold Rp.c4
  rw [g1]
  exact n2
 have n3' : (Rp.mk u ((35 + m.f2.size + 2 + v.size : Nat) : Int) 0 false false).vecV 1 0 255 = ⟨#[0]⟩ := n3
 have n4' : (Rp.mk u ((35 + m.f2.size + 2 + v.size : Nat) : Int) 0 false false).vecR 1 0 255 = ⟨u,((35 + m.f2.size + 2 + v.size + 1 + 1 : Nat) : Int),0,false,false⟩ := n4
 have c6 : (Rp.mk u 0 0 false false).c6 = ⟨u,((35 + m.f2.size + 2 + v.size + 1 + 1 : Nat) : Int),0,false,false⟩ := by
  unfold Rp.c6 Rp.c5
  rw [c4,n3',n4']
  have : ((⟨#[0]⟩ : ByteArray).toList == ([0] : List UInt8)) = true := by decide +kernel
  rw [this]
  rfl
 have hM : (Rp.mk u 0 0 false false).cM { zeroM with f0 := 1 } = { zeroM with f0 := 1,f1 := m.f1,f2 := m.f2,f3 := m.f3 } := by
  unfold Rp.cM
  rw [g1,g2]
  have n1' : lstV (oneNum 2) (Rp.mk u ((35 + m.f2.size : Nat) : Int) 0 false false) 2 = m.f3 := n1
  rw [n1']
 have n5' : (Rp.mk u ((35 + m.f2.size + 2 + v.size + 1 + 1 : Nat) : Int) 0 false false).inR 2 = ⟨E,0,0,false,false⟩ := n5
 have n6' : (Rp.mk u ((35 + m.f2.size + 2 + v.size + 1 + 1 : Nat) : Int) 0 false false).outR 2 = _ := n6
 have hL' : ∀ (i : Nat) (e : Bool × Int × Wp),(chL m)[i]? = some e → e.1 = true → e.2.2.b = false := fun i e h => hL e (List.mem_of_getElem? h)
 have T0 := t_0 (M := { zeroM with f0 := 1,f1 := m.f1,f2 := m.f2,f3 := m.f3 }) (t := m.f4) rfl (hL' 0 _ rfl)
 have T1 := t_10 (M := { zeroM with f0 := 1,f1 := m.f1,f2 := m.f2,f3 := m.f3,f4 := m.f4 }) (l := m.f6) rfl (hL' 1 _ rfl)
 have T2 := t_13 (M := { zeroM with f0 := 1,f1 := m.f1,f2 := m.f2,f3 := m.f3,f4 := m.f4,f6 := m.f6 }) (l := m.f7) rfl (hL' 2 _ rfl)
 have T3 := t_43c (M := { zeroM with f0 := 1,f1 := m.f1,f2 := m.f2,f3 := m.f3,f4 := m.f4,f6 := m.f6,f7 := m.f7 }) (l := m.f5) rfl (hL' 3 _ rfl)
 have T4 := t_45 (M := { zeroM with f0 := 1,f1 := m.f1,f2 := m.f2,f3 := m.f3,f4 := m.f4,f6 := m.f6,f7 := m.f7,f5 := m.f5 }) (l := m.f8) rfl (hL' 4 _ rfl)
 have T5 := t_51c (M := { zeroM with f0 := 1,f1 := m.f1,f2 := m.f2,f3 := m.f3,f4 := m.f4,f6 := m.f6,f7 := m.f7,f5 := m.f5,f8 := m.f8 }) (l := m.f9) rfl (hL' 5 _ rfl)
 have T6 := t_41c (M := { zeroM with f0 := 1,f1 := m.f1,f2 := m.f2,f3 := m.f3,f4 := m.f4,f6 := m.f6,f7 := m.f7,f5 := m.f5,f8 := m.f8,f9 := m.f9 }) (l := m.f10) (b := m.f11) rfl rfl (by omega) (hL' 6 _ rfl)
 have TT := (T0.app (T1.app (T2.app (T3.app (T4.app T5))))).app T6
 have hxs : xsOf (chL m) = (xo (!m.f4.toList.isEmpty,0,W0.within ((W0.num 0 1).vec m.f4 2 1 64) 2) ++ (xo (decide (0 < m.f6.length),10,W0.within (fw (wN 2) m.f6) 2) ++ (xo (decide (0 < m.f7.length),13,W0.within (fw (wN 2) m.f7) 2) ++ (xo (decide (0 < m.f5.length),43,W0.within (fw (wN 2) m.f5) 1) ++ (xo (decide (0 < m.f8.length),45,W0.within (fw (wN 1) m.f8) 1) ++ xo (decide (0 < m.f9.length),51,W0.within (fw wS m.f9) 2)))))) ++ xo (decide (0 < m.f10.length),41,(W0.within (fw wI m.f10) 2).within (fw wB m.f11) 2) := by
  unfold chL
  rw [xsOf_cons,xsOf_cons,xsOf_cons,xsOf_cons,xsOf_cons,xsOf_cons,xsOf_cons,xsOf_nil]
  simp only [List.append_nil,List.append_assoc]
 have hlast : ∀ x ∈ (xsOf (chL m)).dropLast,pskL x.f0 false = false := by
  intro x hx
  rw [hxs] at hx
  have hA := dropLast_app (xo_len _) x hx
  apply pskL_no
  rcases List.mem_append.1 hA with h | hA
  ·rw [xo_kind x h]; decide
  rcases List.mem_append.1 hA with h | hA
  ·rw [xo_kind x h]; decide
  rcases List.mem_append.1 hA with h | hA
  ·rw [xo_kind x h]; decide
  rcases List.mem_append.1 hA with h | hA
  ·rw [xo_kind x h]; decide
  rcases List.mem_append.1 hA with h | hA
  ·rw [xo_kind x h]; decide
  ·rw [xo_kind x hA]; decide
 rw [← hxs] at TT
 obtain ⟨la,hx⟩ := exts_whole (take := cli) (lastf := pskL) (v := E) (by rw [← hE]; exact encs_bytes _) hok hdup hlast TT
 have hX : (Rp.mk u 0 0 false false).cX { zeroM with f0 := 1 } = ([],{ zeroM with f0 := 1,f1 := m.f1,f2 := m.f2,f3 := m.f3,f4 := m.f4,f6 := m.f6,f7 := m.f7,f5 := m.f5,f8 := m.f8,f9 := m.f9,f10 := m.f10,f11 := m.f11 },⟨E,(E.size : Int),0,false,la⟩) := by
  unfold Rp.cX
  rw [c6,hM,n5']
  exact hx
 have hCM : (Rp.mk u 0 0 false false).chM { zeroM with f0 := 1 } = m := by
  unfold Rp.chM
  rw [hX]
  exact hme'.symm
 have hCR : (Rp.mk u 0 0 false false).chR { zeroM with f0 := 1 } = ⟨u,(u.size : Int),0,false,false⟩ := by
  unfold Rp.chR
  rw [hX,c6,n6']
  unfold Rp.back
  dsimp only
  congr 1
  omega
 rw [hk,show bodyP ⟨u,0,0,false,false⟩ { zeroM with f0 := 1 } = ((Rp.mk u 0 0 false false).chM { zeroM with f0 := 1 },(Rp.mk u 0 0 false false).chR { zeroM with f0 := 1 }) from rfl,hCM,hCR]
theorem rt_all {m : Mv} (hk : knownB m.f0 = true) (hz : m.unused.zero = true) (hb : (bodyW m).b = false) (h12 : -9223372036854775808 ≤ m.f12 ∧ m.f12 ≤ 9223372036854775807) : Rt m := by
 rcases knownB_of hk with e | e | e | e | e | e | e | e
 ·exact rt1 e hz hb
 ·exact rt2 e hz hb h12
 ·exact rt4 e hz hb
 ·exact rt8 e hz hb
 ·exact rt11 e hz hb
 ·exact rt15 e hz hb
 ·exact rt20 e hz hb
 ·exact rt24 e hz hb
theorem putM_zero {m : Mv} (h : (putM m).2 = 0) : knownB m.f0 = true ∧ (bodyW m).b = false ∧ m.unused.zero = true ∧ (bodyW m).s.size ≤ 65532 ∧ putM m = (framedV m.f0 (bodyW m).s,0) := by
 unfold putM at h ⊢
 by_cases c1 : knownB m.f0 = false
 ·rw [if_pos c1] at h
  exact absurd h (by show ¬ (1701 : Int) = 0; decide)
 ·rw [if_neg c1] at h ⊢
  by_cases c2 : (bodyW m).b = true ∨ m.unused.zero = false ∨ 65532 < (bodyW m).s.size
  ·rw [if_pos c2] at h
   exact absurd h (by show ¬ (1700 : Int) = 0; decide)
  ·rw [if_neg c2,framed_eq]
   rw [not_or,not_or] at c2
   exact ⟨by simpa using c1,by simpa using c2.1,by simpa using c2.2.1,by omega,rfl⟩
theorem put_get_back {m : Mv} (h : (putM m).2 = 0) (h12 : -9223372036854775808 ≤ m.f12 ∧ m.f12 ≤ 9223372036854775807) : getM (putM m).1 = (m,0) := by
 obtain ⟨a,b,c,d,e⟩ := putM_zero h
 rw [e]
 have hkb : 0 ≤ m.f0 ∧ m.f0 < 256 := by
  rcases knownB_of a with e | e | e | e | e | e | e | e <;> omega
 exact get_good hkb.1 hkb.2 a d (rt_all a c b h12)
end Go.Proofs.Ytlkebjkpmiehcaa.Ms
end
section
namespace Go.Proofs.Ytlkebjkpmiehcaa.Ms
open Go.RowKit Go.Proofs.YtlkebjkpmiehcaaW.PrintWords Go.Proofs.YtlkebjkpmiehcaaW.PrintLast Go.Proofs.YtlkebjkpmiehcaaW.PrintMore Go.Proofs.Ytlkebjkpmiehcaa.X
open Go.Proofs.Ytlkebjkpmiehcaa.Pure (nv numOf vecOf nv_bd From beL beL_length bytesOf_app bytesOf_strOf bytesOf_extract beL_byte bytesOf_inj strOf_size bytes_ok bt_get)
set_option linter.unusedVariables false
set_option linter.unusedSimpArgs false
theorem head_short {s : ByteArray} (h0 : s.size ≠ 0) (hk : knownB (bt s 0) = true) (h4 : s.size < 4) : getM s = (zeroM,1700) := by
 have e1 : headed s = false := by
  unfold headed
  have : (numOf s 1 3).2.2 = 100 := by
   unfold numOf
   rw [if_pos (by omega)]
  rw [this]
  rfl
 unfold getM
 rw [if_neg h0,if_neg (by rw [hk]; decide),if_pos e1]
theorem head_other {s : ByteArray} {k n : Int} {m : List Int} (hs : bytesOf s = k :: (beL 3 n ++ m)) (hk : knownB k = true) (h0 : 0 ≤ n) (h1 : n < 16777216) (hn : n ≠ (s.size : Int) - 4) : getM s = (zeroM,1700) := by
 have f0 := From.start s
 rw [hs] at f0
 have f1 : From s (0 + 1) (beL 3 n ++ m) := From.skip (l := [k]) f0
 obtain ⟨e,_⟩ := num_from f1 h0 (by omega)
 have hb : bt s 0 = k := by
  rw [bt_get,hs]
  rfl
 have hz : s.size ≠ 0 := by
  have := bytesOf_length s
  rw [hs] at this
  simp only [List.length_cons] at this
  omega
 have e1 : headed s = false := by
  unfold headed
  have e' : numOf s 1 3 = _ := e
  rw [e',beq_eq_false_iff_ne.mpr hn,Bool.and_false,Bool.false_and]
 unfold getM
 rw [if_neg hz,if_neg (by rw [hb,hk]; decide),if_pos e1]
theorem get_cut {k : Int} {u : ByteArray} (hk : knownB k = true) (hu : u.size ≤ 65532) {j : Nat} (h1 : 1 ≤ j) (h2 : j < (framedV k u).size) : getM ((framedV k u).extract 0 j) = (zeroM,1700) := by
 have hkb : 0 ≤ k ∧ k < 256 := by
  rcases knownB_of hk with e | e | e | e | e | e | e | e <;> omega
 have hz := framedV_size k u
 have hb := framedV_bytes k u
 rw [Int.emod_eq_of_lt hkb.1 hkb.2] at hb
 have hs : ((framedV k u).extract 0 j).size = j := by rw [ByteArray.size_extract]; omega
 obtain ⟨i,rfl⟩ : ∃ i,j = i + 1 := ⟨j - 1,by omega⟩
 have he : bytesOf ((framedV k u).extract 0 (i + 1)) = k :: ((beL 3 u.size ++ bytesOf u).take i) := by
  rw [bytesOf_extract,hb]
  rfl
 by_cases h4 : i + 1 < 4
 ·refine head_short (by omega) ?_ (by omega)
  rw [bt_get,he]
  exact hk
 ·have e2 : (beL 3 u.size ++ bytesOf u).take i = beL 3 u.size ++ (bytesOf u).take (i - 3) := by
   rw [List.take_append,beL_length,List.take_of_length_le (by rw [beL_length]; omega)]
  rw [e2] at he
  exact head_other he hk (by omega) (by omega) (by rw [hs]; omega)
theorem get_more {k : Int} {u : ByteArray} (hk : knownB k = true) (hu : u.size ≤ 65532) : getM (framedV k u ++ ⟨#[0]⟩) = (zeroM,1700) := by
 have hkb : 0 ≤ k ∧ k < 256 := by
  rcases knownB_of hk with e | e | e | e | e | e | e | e <;> omega
 have hz := framedV_size k u
 have hb := framedV_bytes k u
 rw [Int.emod_eq_of_lt hkb.1 hkb.2] at hb
 have he : bytesOf (framedV k u ++ ⟨#[0]⟩) = k :: (beL 3 u.size ++ (bytesOf u ++ bytesOf ⟨#[0]⟩)) := by
  rw [bytesOf_app,hb,List.cons_append,List.append_assoc]
 refine head_other he hk (by omega) (by omega) ?_
 rw [ByteArray.size_append,hz]
 show (u.size : Int) ≠ ((u.size + 4 + 1 : Nat) : Int) - 4
 omega
theorem get_fault {s : ByteArray} (h : (getM s).2 ≠ 0) : (getM s).1 = zeroM := by
 unfold getM at h ⊢
 by_cases c0 : s.size = 0
 ·rw [if_pos c0]
 rw [if_neg c0] at h ⊢
 by_cases c1 : knownB (bt s 0) = false
 ·rw [if_pos c1]
 rw [if_neg c1] at h ⊢
 by_cases c2 : headed s = false
 ·rw [if_pos c2]
 rw [if_neg c2] at h ⊢
 by_cases c3 : (getF s).c = 0
 ·rw [if_pos c3] at h
  exact absurd rfl h
 ·rw [if_neg c3]
theorem bad_not {c e : Int} (he : e ≠ 0) (h : bad c e = 0) : False := by
 unfold bad at h
 split at h
 ·exact he h
 ·exact absurd h ‹_›
theorem done_zero {R : Rp} (h : R.done.c = 0) : R.c = 0 ∧ R.p = R.s.size := by
 obtain ⟨a,b⟩ := needed_zero (show needed R.c (R.p == (R.s.size : Int)) = 0 from h)
 exact ⟨a,by simpa using b⟩
theorem get_zero {s : ByteArray} (h : (getM s).2 = 0) : ∃ (u : ByteArray) (k : Int) (R : Rp),knownB k = true ∧ u.size + 4 = s.size ∧ u.size ≤ 65532 ∧ bodyP ⟨u,0,0,false,false⟩ { zeroM with f0 := k } = ((getM s).1,R) ∧ R.c = 0 ∧ R.t = false := by
 unfold getM at h ⊢
 by_cases c0 : s.size = 0
 ·rw [if_pos c0] at h
  exact absurd h (by show ¬ (1701 : Int) = 0; decide)
 rw [if_neg c0] at h ⊢
 by_cases c1 : knownB (bt s 0) = false
 ·rw [if_pos c1] at h
  exact absurd h (by show ¬ (1701 : Int) = 0; decide)
 rw [if_neg c1] at h ⊢
 by_cases c2 : headed s = false
 ·rw [if_pos c2] at h
  exact absurd h (by show ¬ (1700 : Int) = 0; decide)
 rw [if_neg c2] at h ⊢
 by_cases c3 : (getF s).c = 0
 ·rw [if_pos c3]
  have hh : headed s = true := by simpa using c2
  unfold headed at hh
  rw [Bool.and_eq_true,Bool.and_eq_true,beq_iff_eq,beq_iff_eq,decide_eq_true_iff] at hh
  have h4 : 4 ≤ s.size := by
   rcases Nat.lt_or_ge s.size 4 with h4 | h4
   ·have := hh.1.1
    unfold numOf at this
    rw [if_pos (by omega)] at this
    exact absurd this (by show ¬ (100 : Int) = 0; decide)
   ·exact h4
  have hsz : (s.extract 4 s.size).size = s.size - 4 := by rw [ByteArray.size_extract]; omega
  have hD : (getB s).2.c = 0 ∧ (getB s).2.t = false := by
   unfold getF at c3
   cases ht : (getB s).2.done.t with
   | true =>
    rw [if_pos ht] at c3
    exact (bad_not (e := 1702) (by decide) (show bad (getB s).2.done.c 1702 = 0 from c3)).elim
   | false =>
    rw [if_neg (by rw [ht]; decide)] at c3
    exact ⟨(done_zero c3).1,ht⟩
  have hB : bodyP ⟨s.extract 4 s.size,0,0,false,false⟩ { zeroM with f0 := bt s 0 } = ((getB s).1,(getB s).2) := by
   show getB s = _
   generalize getB s = x
   cases x
   rfl
  exact ⟨s.extract 4 s.size,bt s 0,(getB s).2,by simpa using c1,by omega,by omega,hB,hD.1,hD.2⟩
 ·rw [if_neg c3] at h
  exact absurd h c3
def Wr2 (o : Mv) (n : Nat) : Prop := o.unused.zero = true ∧ (bodyW o).b = false ∧ (bodyW o).s.size ≤ n
theorem rw15 {u : ByteArray} {o : Mv} {R : Rp} (h : bodyP ⟨u,0,0,false,false⟩ { zeroM with f0 := 15 } = (o,R)) (hc : R.c = 0) : o.f0 = 15 ∧ Wr2 o u.size := by
 rw [bodyP_15] at h
 obtain ⟨rfl,rfl⟩ := Prod.mk.inj h
 obtain ⟨a,b,c,d⟩ := vec_back hc
 obtain ⟨a2,b2,c2,d2⟩ := num_back a
 have hp : ((Rp.mk u 0 0 false false).numR 2).p = 2 := by rw [c2]; rfl
 have hs : ((Rp.mk u 0 0 false false).numR 2).s = u := by rw [c2]
 rw [hp,hs] at d
 have i2 : ((W0.num ((Rp.mk u 0 0 false false).numV 2) ((2 : Nat) : Int)).vec (((Rp.mk u 0 0 false false).numR 2).vecV 2 0 65536) ((2 : Nat) : Int) 0 65536).b = false := (vec_f_iff (by decide) (by decide)).2 ⟨(num_f_iff (by decide) (by decide)).2 ⟨rfl,b2⟩,b.2.2,b.1,b.2.1⟩
 have w := (Wk.w0.num (n := 2) (by decide) (by decide) b2.1 b2.2).vec (n := 2) (by decide) (by decide) b.2.2 b.1 b.2.1
 refine ⟨rfl,(by show ({ zeroM with f0 := 15 } : Mv).zero = true; decide +kernel),?_,?_⟩
 ·rw [bodyW_15 rfl]
  exact i2
 ·rw [bodyW_15 rfl]
  refine Nat.le_trans (Nat.le_of_eq w.size) ?_
  simp only [List.length_append,List.length_nil,beL_length,bytesOf_length]
  omega
theorem rw24 {u : ByteArray} {o : Mv} {R : Rp} (h : bodyP ⟨u,0,0,false,false⟩ { zeroM with f0 := 24 } = (o,R)) (hc : R.c = 0) : o.f0 = 24 ∧ Wr2 o u.size := by
 rw [bodyP_24] at h
 obtain ⟨rfl,rfl⟩ := Prod.mk.inj h
 obtain ⟨a,b⟩ := allowed_zero (show allowed ((Rp.mk u 0 0 false false).numR 1).c (decide ((Rp.mk u 0 0 false false).numV 1 ≤ 1)) = 0 from hc)
 obtain ⟨a2,b2,c2,d2⟩ := num_back a
 have hv := of_decide_eq_true b
 obtain ⟨x,hx⟩ : ∃ x,(Rp.mk u 0 0 false false).numV 1 = x := ⟨_,rfl⟩
 rw [hx] at hv b2 ⊢
 have h0 := b2.1
 have hw : wrap64 (x + 1 - 1) = x := by unfold wrap64; omega
 have hn : (x + 1 == 1 || x + 1 == 2) = true := by
  have : x = 0 ∨ x = 1 := by omega
  rcases this with rfl | rfl <;> rfl
 refine ⟨rfl,(by show ({ zeroM with f0 := 24 } : Mv).zero = true; decide +kernel),?_,?_⟩
 ·rw [bodyW_24 rfl]
  show ((W0.need (x + 1 == 1 || x + 1 == 2)).num (wrap64 (x + 1 - 1)) ((1 : Nat) : Int)).b = false
  rw [hw]
  exact (num_f_iff (by decide) (by decide)).2 ⟨need_f_iff.2 ⟨rfl,hn⟩,b2⟩
 ·rw [bodyW_24 rfl]
  show ((W0.need (x + 1 == 1 || x + 1 == 2)).num (wrap64 (x + 1 - 1)) ((1 : Nat) : Int)).s.size ≤ _
  rw [hw]
  refine Nat.le_trans (Nat.le_of_eq ((Wk.w0.need hn).num (n := 1) (by decide) (by decide) b2.1 b2.2).size) ?_
  simp only [List.length_append,List.length_nil,beL_length]
  dsimp only at d2
  omega
theorem rw20 {u : ByteArray} {o : Mv} {R : Rp} (h : bodyP ⟨u,0,0,false,false⟩ { zeroM with f0 := 20 } = (o,R)) (hc : R.c = 0) : o.f0 = 20 ∧ Wr2 o u.size := by
 rw [bodyP_20] at h
 obtain ⟨rfl,rfl⟩ := Prod.mk.inj h
 have hc' : (Rp.mk u 0 0 false false).f1.bytC (u.size : Int) = 0 := hc
 obtain ⟨a,b⟩ := needed_zero (show needed (Rp.mk u 0 0 false false).f1.c (decide ((u.size : Int) ≤ ((Rp.mk u 0 0 false false).f1.s.size : Int) - (Rp.mk u 0 0 false false).f1.p)) = 0 from hc')
 obtain ⟨a2,b2⟩ := needed_zero (show needed 0 (fin32 (u.size : Int)) = 0 from a)
 have hV : (Rp.mk u 0 0 false false).f1.bytV (u.size : Int) = u := by
  unfold Rp.bytV
  rw [hc',sel_pos rfl]
  show u.extract (0 : Int).toNat ((0 : Int) + (u.size : Int)).toNat = u
  rw [Int.zero_add,Int.toNat_natCast]
  exact ByteArray.extract_zero_size
 have hV' : (Rp.mk u 0 0 false false).f1.bytV ((Rp.mk u 0 0 false false).s.size : Int) = u := hV
 rw [hV']
 have w := (Wk.w0.need b2).add u
 refine ⟨rfl,(by show ({ zeroM with f0 := 20 } : Mv).zero = true; decide +kernel),?_,?_⟩
 ·rw [bodyW_20 rfl]
  exact w.1
 ·rw [bodyW_20 rfl]
  refine Nat.le_trans (Nat.le_of_eq w.size) ?_
  simp only [List.length_append,List.length_nil,bytesOf_length]
  omega
theorem rw4 {u : ByteArray} {o : Mv} {R : Rp} (h : bodyP ⟨u,0,0,false,false⟩ { zeroM with f0 := 4 } = (o,R)) (hc : R.c = 0) : o.f0 = 4 ∧ Wr2 o u.size := by
 rw [bodyP_4] at h
 obtain ⟨rfl,rfl⟩ := Prod.mk.inj h
 obtain ⟨q0,q1,q2,q3⟩ := bar_back hc
 obtain ⟨a4,b4,c4,d4⟩ := vec_back (R := (Rp.mk u 0 0 false false).ti3) q0
 obtain ⟨a3,b3,c3,d3⟩ := vec_back (R := (Rp.mk u 0 0 false false).ti2) a4
 obtain ⟨a2,b2,c2,d2⟩ := num_back (R := (Rp.mk u 0 0 false false).ti1) a3
 obtain ⟨a1,b1,c1,d1⟩ := num_back (R := (Rp.mk u 0 0 false false)) a2
 have p1 : (Rp.mk u 0 0 false false).ti1.p = 4 := by rw [show (Rp.mk u 0 0 false false).ti1 = _ from c1]; rfl
 have p2 : (Rp.mk u 0 0 false false).ti2.p = 8 := by
  rw [show (Rp.mk u 0 0 false false).ti2 = _ from c2]
  show (Rp.mk u 0 0 false false).ti1.p + ((4 : Nat) : Int) = 8
  omega
 have s1 : (Rp.mk u 0 0 false false).ti1.s = u := by rw [show (Rp.mk u 0 0 false false).ti1 = _ from c1]
 have s2 : (Rp.mk u 0 0 false false).ti2.s = u := by rw [show (Rp.mk u 0 0 false false).ti2 = _ from c2]; exact s1
 obtain ⟨x,hx⟩ : ∃ x,(Rp.mk u 0 0 false false).numV 4 = x := ⟨_,rfl⟩
 obtain ⟨y,hy⟩ : ∃ y,(Rp.mk u 0 0 false false).ti1.numV 4 = y := ⟨_,rfl⟩
 obtain ⟨t,ht⟩ : ∃ t,(Rp.mk u 0 0 false false).ti2.vecV 1 0 255 = t := ⟨_,rfl⟩
 obtain ⟨v,hv⟩ : ∃ v,(Rp.mk u 0 0 false false).ti3.vecV 2 1 65536 = v := ⟨_,rfl⟩
 rw [hx] at b1
 rw [hy] at b2
 rw [ht] at b3 c3 d3
 rw [hv] at b4 c4 d4
 have p3 : (Rp.mk u 0 0 false false).ti3.p = 9 + (t.size : Int) := by
  rw [show (Rp.mk u 0 0 false false).ti3 = _ from c3]
  show (Rp.mk u 0 0 false false).ti2.p + ((1 : Nat) : Int) + (t.size : Int) = _
  omega
 have s3 : (Rp.mk u 0 0 false false).ti3.s = u := by rw [show (Rp.mk u 0 0 false false).ti3 = _ from c3]; exact s2
 have p4 : (Rp.mk u 0 0 false false).ti4.p = 11 + (t.size : Int) + (v.size : Int) := by
  rw [show (Rp.mk u 0 0 false false).ti4 = _ from c4]
  show (Rp.mk u 0 0 false false).ti3.p + ((2 : Nat) : Int) + (v.size : Int) = _
  omega
 have s4 : (Rp.mk u 0 0 false false).ti4.s = u := by rw [show (Rp.mk u 0 0 false false).ti4 = _ from c4]; exact s3
 rw [s4] at q2
 have eM : (Rp.mk u 0 0 false false).tiM { zeroM with f0 := 4 } = { zeroM with f0 := 4,f17 := x,f18 := y,f19 := t,f16 := v } := by
  unfold Rp.tiM
  rw [hx,hy,ht,hv]
 rw [eM]
 have w := ((((Wk.w0.num (n := 4) (by decide) (by decide) b1.1 b1.2).num (n := 4) (by decide) (by decide) b2.1 b2.2).vec (n := 1) (by decide) (by decide) b3.2.2 b3.1 b3.2.1).vec (n := 2) (by decide) (by decide) b4.2.2 b4.1 b4.2.1).vec (n := 2) (v := ⟨#[]⟩) (lo := 0) (hi := 0) (by decide) (by decide) (by decide) (by decide) (by decide)
 refine ⟨rfl,(by show ({ zeroM with f0 := 4 } : Mv).zero = true; decide +kernel),?_,?_⟩
 ·rw [bodyW_4 rfl]
  exact w.1
 ·rw [bodyW_4 rfl]
  refine Nat.le_trans (Nat.le_of_eq w.size) ?_
  simp only [List.length_append,List.length_nil,beL_length,bytesOf_length]
  show 0 + 4 + 4 + (1 + t.size) + (2 + v.size) + (2 + 0) ≤ u.size
  omega
theorem rw11 {u : ByteArray} {o : Mv} {R : Rp} (h : bodyP ⟨u,0,0,false,false⟩ { zeroM with f0 := 11 } = (o,R)) (hc : R.c = 0) : o.f0 = 11 ∧ Wr2 o u.size := by
 rw [bodyP_11] at h
 obtain ⟨rfl,rfl⟩ := Prod.mk.inj h
 have hc' : (rAll oneCer ((Rp.mk u 0 0 false false).ceR.inR 3).s.size ((Rp.mk u 0 0 false false).ceR.inR 3)).2.c = 0 := hc
 obtain ⟨a,b,c,d,e⟩ := rfC.back _ ((Rp.mk u 0 0 false false).ceR.inR 3) (by show (0 : Int) ≤ _; omega) hc'
 obtain ⟨a2,b2,c2,d2⟩ := in_back a
 have hi := vec_back (R := (Rp.mk u 0 0 false false).ceR) (n := 3) (lo := 0) (hi := 16777216) a
 obtain ⟨a3,b3⟩ := allowed_zero (show allowed ((Rp.mk u 0 0 false false).vecR 1 0 255).c _ = 0 from a2)
 obtain ⟨a4,b4,c4,d4⟩ := vec_back a3
 have p1 : 1 ≤ (Rp.mk u 0 0 false false).ceR.p := by
  show 1 ≤ ((Rp.mk u 0 0 false false).vecR 1 0 255).p
  rw [c4]
  show (1 : Int) ≤ 0 + ((1 : Nat) : Int) + _
  omega
 have s1 : (Rp.mk u 0 0 false false).ceR.s = u := by
  show ((Rp.mk u 0 0 false false).vecR 1 0 255).s = u
  rw [c4]
 rw [s1] at d2
 have hV : (rAll oneCer ((Rp.mk u 0 0 false false).ceR.inR 3).s.size ((Rp.mk u 0 0 false false).ceR.inR 3)).1 = (Rp.mk u 0 0 false false).ceV := rfl
 rw [hV] at b c
 obtain ⟨l,hl⟩ : ∃ l,(Rp.mk u 0 0 false false).ceV = l := ⟨_,rfl⟩
 rw [hl] at b c ⊢
 have c' : (0 : Int) + ((l.flatMap enC).length : Int) ≤ _ := c
 have hsz : (l.flatMap enC).length ≤ ((Rp.mk u 0 0 false false).ceR.inR 3).s.size := by omega
 have hs3 : (((Rp.mk u 0 0 false false).ceR.inR 3).s.size : Int) < 256 ^ 3 := hi.2.1.2.2
 have w := (Wk.w0.vec (n := 1) (v := ⟨#[]⟩) (lo := 0) (hi := 0) (by decide) (by decide) (by decide) (by decide) (by decide)).within (n := 3) (wfC.fw b) (by decide) (by decide) (by omega)
 refine ⟨rfl,(by show ({ zeroM with f0 := 11 } : Mv).zero = true; decide +kernel),?_,?_⟩
 ·rw [bodyW_11 rfl]
  exact w.1
 ·rw [bodyW_11 rfl]
  refine Nat.le_trans (Nat.le_of_eq w.size) ?_
  simp only [List.length_append,List.length_nil,beL_length,bytesOf_length]
  show 0 + (1 + 0) + (3 + (l.flatMap enC).length) ≤ u.size
  omega
end Go.Proofs.Ytlkebjkpmiehcaa.Ms
end
section
namespace Go.Proofs.Ytlkebjkpmiehcaa.Ms
open Go.RowKit Go.Proofs.YtlkebjkpmiehcaaW.PrintWords Go.Proofs.YtlkebjkpmiehcaaW.PrintLast Go.Proofs.YtlkebjkpmiehcaaW.PrintMore Go.Proofs.Ytlkebjkpmiehcaa.X
open Go.Proofs.Ytlkebjkpmiehcaa.Pure (nv numOf vecOf nv_bd From beL beL_length bytesOf_app bytesOf_strOf bytesOf_extract beL_byte bytesOf_inj strOf_size bytes_ok bt_get okE encE encs putL kindsOf dupB)
set_option linter.unusedVariables false
set_option linter.unusedSimpArgs false
structure TK (take : Int → Mv → Rp → Bool × Mv × Rp) : Prop where
 t : ∀ k m B,(take k m B).2.2.t = B.t
 c : ∀ k m B,(take k m B).2.2.c = 0 → B.c = 0
section
variable {take : Int → Mv → Rp → Bool × Mv × Rp} {lastf : Int → Bool → Bool}
theorem exN_t (tk : TK take) (R : Rp) (seen : List Int) (m : Mv) : (exN take lastf R seen m).t = R.exT seen := by
 have e : (exX take R seen m).2.2.t = R.exT seen := tk.t _ _ _
 unfold exN
 split
 ·exact e
 ·exact e
theorem exts_tm (tk : TK take) : ∀ (k : Nat) (seen : List Int) (m : Mv) (R : Rp),R.t = true → (exts take lastf k seen m R).2.2.t = true
 | 0,_,_,_,h => h
 | k + 1,seen,m,R,h => by
  unfold exts
  split
  ·refine exts_tm tk k _ _ _ ?_
   rw [exN_t tk]
   unfold Rp.exT
   rw [h]
   rfl
  ·exact h
theorem exts_back {good : List Int → Mv → Prop} {cost : Mv → Nat} (tk : TK take)
  (step : ∀ (seen : List Int) (m : Mv) (kd : Int) (v : ByteArray),kd ∉ seen → okN 2 kd → v.size ≤ 65535 → good seen m → (take kd m ⟨v,0,0,false,false⟩).1 = true → (take kd m ⟨v,0,0,false,false⟩).2.2.done.c = 0 → good (seen ++ [kd]) (take kd m ⟨v,0,0,false,false⟩).2.1 ∧ cost (take kd m ⟨v,0,0,false,false⟩).2.1 ≤ cost m + 4 + v.size) :
  ∀ (k : Nat) (seen : List Int) (m : Mv) (R : Rp),R.p ≤ R.s.size → good seen m → (exts take lastf k seen m R).2.2.c = 0 → (exts take lastf k seen m R).2.2.t = false → (exts take lastf k seen m R).1 = [] →
   R.c = 0 ∧ (∃ seen',good seen' (exts take lastf k seen m R).2.1) ∧ (cost (exts take lastf k seen m R).2.1 : Int) + R.p ≤ cost m + (exts take lastf k seen m R).2.2.p ∧ (exts take lastf k seen m R).2.2.p ≤ R.s.size
 | 0,seen,m,R,hp,hg,hc,ht,ho => ⟨hc,⟨seen,hg⟩,Int.le_refl _,hp⟩
 | k + 1,seen,m,R,hp,hg,hc,ht,ho => by
  by_cases hm : R.more = true
  ·have e : exts take lastf (k + 1) seen m R = (exO take lastf R seen m ++ (exts take lastf k (seen ++ [R.exK]) (exX take R seen m).2.1 (exN take lastf R seen m)).1,(exts take lastf k (seen ++ [R.exK]) (exX take R seen m).2.1 (exN take lastf R seen m)).2) := by
    conv => lhs; unfold exts
    rw [if_pos hm]
   rw [e] at hc ht ho ⊢
   dsimp only at hc ht ho ⊢
   obtain ⟨ho1,ho2⟩ := List.append_eq_nil_iff.1 ho
   have hNt : (exN take lastf R seen m).t = false := by
    cases h : (exN take lastf R seen m).t with
    | false => rfl
    | true => rw [exts_tm tk _ _ _ _ h] at ht; cases ht
   have hNc : (exN take lastf R seen m).c = 0 := by
    by_cases h : (exN take lastf R seen m).c = 0
    ·exact h
    ·rw [exts_stop _ _ _ _ _ _ h] at hc
     exact absurd hc h
   cases hx : (exX take R seen m).1 with
   | false =>
    exfalso
    have hN : exN take lastf R seen m = exQ take lastf R seen m := by
     unfold exN
     rw [hx,if_neg (by decide)]
    unfold exO at ho1
    rw [hx,if_neg (by decide),← hN,hNc,if_pos rfl] at ho1
    cases ho1
   | true =>
    have hN : exN take lastf R seen m = (exQ take lastf R seen m).back (exX take R seen m).2.2.done := by
     unfold exN
     rw [hx,if_pos rfl]
    have hdc : (exX take R seen m).2.2.done.c = 0 := by
     rw [hN] at hNc
     exact hNc
    rw [exN_t tk] at hNt
    have hT : R.t = false ∧ R.exK ∉ seen := by
     have h := hNt
     unfold Rp.exT at h
     rw [or_f,decide_eq_false_iff_not] at h
     exact h
    have hXc := (done_zero hdc).1
    have hIc : (R.exI seen).c = 0 := tk.c _ _ _ hXc
    obtain ⟨a,b,c,d⟩ := in_back (R := R.exB) (n := 2) hIc
    have hv := vec_back (R := R.exB) (n := 2) (lo := 0) (hi := 16777216) hIc
    obtain ⟨a2,b2,c2,d2⟩ := num_back (R := R.exA) (n := 2) a
    obtain ⟨a3,b3⟩ := allowed_zero (show allowed R.c (!R.l) = 0 from a2)
    obtain ⟨v,hvv⟩ : ∃ v,(R.exB.inR 2).s = v := ⟨_,rfl⟩
    have hI : R.exI seen = ⟨v,0,0,false,false⟩ := by
     unfold Rp.exI
     rw [b,hNt,hvv]
    have hX : exX take R seen m = take R.exK m ⟨v,0,0,false,false⟩ := by
     unfold exX
     rw [hI]
    rw [hX] at hx hdc
    have hvs : v.size ≤ 65535 := by
     have h1 : ((R.exB.inR 2).s.size : Int) < 256 ^ 2 := hv.2.1.2.2
     rw [hvv] at h1
     omega
    obtain ⟨g1,g2⟩ := step seen m R.exK v hT.2 b2 hvs hg hx hdc
    have hBp : R.exB.p = R.p + 2 := by
     show (R.exA.numR 2).p = _
     rw [c2]
     rfl
    have hBs : R.exB.s = R.s := by
     show (R.exA.numR 2).s = _
     rw [c2]
     rfl
    obtain ⟨np,ns⟩ := exN_p take lastf R seen m
    rw [c,hvv] at np
    rw [hvv,hBs] at d
    have np' : (exN take lastf R seen m).p = R.exB.p + 2 + v.size := np
    rw [hX] at hc ht ho2 ⊢
    obtain ⟨r1,r2,r3,r4⟩ := exts_back tk step k (seen ++ [R.exK]) (take R.exK m ⟨v,0,0,false,false⟩).2.1 (exN take lastf R seen m) (by rw [np',ns]; omega) g1 hc ht ho2
    rw [ns] at r4
    exact ⟨a3,r2,by omega,r4⟩
  ·have e : exts take lastf (k + 1) seen m R = ([],m,R) := by
    unfold exts
    rw [if_neg hm]
   rw [e] at hc ht ho ⊢
   exact ⟨hc,⟨seen,hg⟩,Int.le_refl _,hp⟩
end
theorem exts_non (lastf : Int → Bool → Bool) : ∀ (k : Nat) (seen : List Int) (m : Mv) (R : Rp),(exts nonT lastf k seen m R).2.1 = m
 | 0,_,_,_ => rfl
 | k + 1,seen,m,R => by
  unfold exts
  split
  ·exact exts_non lastf k _ _ _
  ·rfl
theorem rw8 {u : ByteArray} {o : Mv} {R : Rp} (h : bodyP ⟨u,0,0,false,false⟩ { zeroM with f0 := 8 } = (o,R)) (hc : R.c = 0) (ho : o.f13 = []) : o.f0 = 8 ∧ Wr2 o u.size := by
 rw [bodyP_8] at h
 obtain ⟨e1,e2⟩ := Prod.mk.inj h
 have hm : ((Rp.mk u 0 0 false false).nX { zeroM with f0 := 8 }).2.1 = { zeroM with f0 := 8 } := exts_non _ _ _ _ _
 have ho' : ((Rp.mk u 0 0 false false).nX { zeroM with f0 := 8 }).1 = [] := by rw [← e1] at ho; exact ho
 rw [hm,ho'] at e1
 subst e1
 have hc2 : ((Rp.mk u 0 0 false false).nX { zeroM with f0 := 8 }).2.2.c = 0 := by rw [← e2] at hc; exact hc
 have hin : ((Rp.mk u 0 0 false false).inR 2).c = 0 := by
  have hgen : ∀ (k : Nat) (seen : List Int) (m : Mv) (R : Rp),(exts nonT sameL k seen m R).2.2.c = 0 → R.c = 0 := by
   intro k seen m R h
   by_cases hR : R.c = 0
   ·exact hR
   ·rw [exts_stop _ _ _ _ _ _ hR] at h
    exact h
  exact hgen _ _ _ _ hc2
 obtain ⟨a,b,c,d⟩ := in_back hin
 refine ⟨rfl,(by show ({ zeroM with f0 := 8 } : Mv).zero = true; decide +kernel),?_,?_⟩
 ·rw [bodyW_8 rfl]
  exact wk8.1
 ·rw [bodyW_8 rfl]
  refine Nat.le_trans (Nat.le_of_eq wk8.size) ?_
  show 2 ≤ u.size
  dsimp only at d
  omega
end Go.Proofs.Ytlkebjkpmiehcaa.Ms
end
section
namespace Go.Proofs.Ytlkebjkpmiehcaa.Ms
open Go.RowKit Go.Proofs.YtlkebjkpmiehcaaW.PrintWords Go.Proofs.YtlkebjkpmiehcaaW.PrintLast Go.Proofs.YtlkebjkpmiehcaaW.PrintMore Go.Proofs.Ytlkebjkpmiehcaa.X
open Go.Proofs.Ytlkebjkpmiehcaa.Pure (nv numOf vecOf nv_bd From beL beL_length bytesOf_app bytesOf_strOf bytesOf_extract beL_byte bytesOf_inj strOf_size bytes_ok bt_get okE encE encs putL kindsOf dupB)
set_option linter.unusedVariables false
set_option linter.unusedSimpArgs false
theorem front_back {u : ByteArray} (hc : (Rp.mk u 0 0 false false).h3.c = 0) (M : Mv) : ∃ r t : ByteArray,r.size = 32 ∧ t.size ≤ 32 ∧ (Rp.mk u 0 0 false false).hM M = { M with f1 := r,f2 := t } ∧ (Rp.mk u 0 0 false false).h3 = ⟨u,35 + (t.size : Int),0,false,false⟩ ∧ 35 + (t.size : Int) ≤ u.size := by
 obtain ⟨a,b,c,d⟩ := vec_back (R := (Rp.mk u 0 0 false false).h2) hc
 have hb : (Rp.mk u 0 0 false false).h1.bytC 32 = 0 := a
 obtain ⟨a2,b2⟩ := needed_zero (show needed (Rp.mk u 0 0 false false).h1.c (decide ((32 : Int) ≤ ((Rp.mk u 0 0 false false).h1.s.size : Int) - (Rp.mk u 0 0 false false).h1.p)) = 0 from hb)
 have b2' := of_decide_eq_true b2
 obtain ⟨a3,b3⟩ := allowed_zero (show allowed ((Rp.mk u 0 0 false false).numR 2).c ((Rp.mk u 0 0 false false).numV 2 == 771) = 0 from a2)
 obtain ⟨a4,b4,c4,d4⟩ := num_back a3
 have e1 : (Rp.mk u 0 0 false false).h1 = ⟨u,2,0,false,false⟩ := by
  unfold Rp.h1 Rp.verR Rp.allow
  rw [b3,c4]
  rfl
 rw [e1] at b2' hb
 dsimp only at b2'
 have e2 : (Rp.mk u 0 0 false false).h2 = ⟨u,34,0,false,false⟩ := by
  unfold Rp.h2
  rw [e1]
  unfold Rp.bytR
  rw [hb,sel_pos rfl]
  rfl
 have hr : ((Rp.mk u 0 0 false false).h1.bytV 32).size = 32 := by
  rw [e1]
  unfold Rp.bytV
  rw [hb,sel_pos rfl]
  show (u.extract (2 : Int).toNat ((2 : Int) + 32).toNat).size = 32
  rw [ByteArray.size_extract]
  have h1 : (2 : Int).toNat = 2 := rfl
  have h2 : ((2 : Int) + 32).toNat = 34 := rfl
  rw [h1,h2]
  omega
 rw [e2] at b c d
 obtain ⟨t,ht⟩ : ∃ t,(Rp.mk u 34 0 false false).vecV 1 0 32 = t := ⟨_,rfl⟩
 rw [ht] at b c d
 dsimp only at d
 refine ⟨(Rp.mk u 0 0 false false).h1.bytV 32,t,hr,by omega,?_,?_,by omega⟩
 ·unfold Rp.hM
  rw [e2,ht]
 ·unfold Rp.h3
  rw [e2,c]
  dsimp only
  congr 1
theorem tk_srv : TK srv := by
 constructor
 ·intro k m B
  unfold srv
  repeat' split
  all_goals rfl
 ·intro k m B hc
  unfold srv at hc
  repeat' split at hc
  ·exact (num_back hc).1
  ·exact (num_back hc).1
  ·exact (sha_back hc).1
  ·exact hc
  ·exact (num_back hc).1
  ·exact hc
def shMv (r t : ByteArray) (su : Int) (f5 f6 : List Int) (f9 : List S66) (f12 : Int) : Mv := { zeroM with f0 := 2,f1 := r,f2 := t,f3 := [su],f5 := f5,f6 := f6,f9 := f9,f12 := f12 }
structure GS (r t : ByteArray) (su : Int) (rb : Bool) (seen : List Int) (f5 f6 : List Int) (f9 : List S66) (f12 : Int) : Prop where
 n5 : 43 ∉ seen → f5 = []
 n6 : 51 ∉ seen → f6 = []
 n9 : 51 ∉ seen → f9 = []
 n12 : 41 ∉ seen → f12 = 0
 l5 : f5.length ≤ 1
 o5 : ∀ x ∈ f5,okN 2 x
 l6 : f6.length ≤ 1
 o6 : ∀ x ∈ f6,okN 2 x
 l9 : f9.length ≤ 1
 o9 : ∀ x ∈ f9,okS x
 lo : 0 ≤ f12
 hi : f12 ≤ 65536
 r9 : rb = true → f9 = []
 r12 : rb = true → f12 = 0
 r6 : rb = false → f6 = []
def goodS (r t : ByteArray) (su : Int) (rb : Bool) (seen : List Int) (m : Mv) : Prop := m.retry = rb ∧ ∃ f5 f6 f9 f12,m = shMv r t su f5 f6 f9 f12 ∧ GS r t su rb seen f5 f6 f9 f12
def costS (m : Mv) : Nat := 6 * m.f5.length + 6 * m.f6.length + (m.f9.map fun x => 8 + x.f1.size).sum + (if m.f12 = 0 then 0 else 6)
theorem not_app {k kd : Int} {seen : List Int} (h : k ∉ seen ++ [kd]) : k ∉ seen ∧ k ≠ kd := by
 refine ⟨fun g => h (List.mem_append_left _ g),fun g => h (List.mem_append_right _ ?_)⟩
 rw [g]
 exact List.mem_singleton.2 rfl
theorem stepS (r t : ByteArray) (su : Int) (rb : Bool) (seen : List Int) (m : Mv) (kd : Int) (v : ByteArray) (hs : kd ∉ seen) (hk : okN 2 kd) (hv : v.size ≤ 65535) (hg : goodS r t su rb seen m) (h1 : (srv kd m ⟨v,0,0,false,false⟩).1 = true) (hd : (srv kd m ⟨v,0,0,false,false⟩).2.2.done.c = 0) :
  goodS r t su rb (seen ++ [kd]) (srv kd m ⟨v,0,0,false,false⟩).2.1 ∧ costS (srv kd m ⟨v,0,0,false,false⟩).2.1 ≤ costS m + 4 + v.size := by
 obtain ⟨hr,f5,f6,f9,f12,rfl,g⟩ := hg
 obtain ⟨hc,hp⟩ := done_zero hd
 unfold srv at h1 hc hp ⊢
 by_cases c1 : kd = 43
 ·subst c1
  rw [if_pos rfl] at hc hp ⊢
  obtain ⟨a,b,c,d⟩ := num_back hc
  rw [c] at hp
  obtain rfl := g.n5 hs
  refine ⟨⟨hr,[_],f6,f9,f12,rfl,⟨fun h => absurd rfl (not_app h).2,fun h => g.n6 (not_app h).1,fun h => g.n9 (not_app h).1,fun h => g.n12 (not_app h).1,Nat.le_refl _,?_,g.l6,g.o6,g.l9,g.o9,g.lo,g.hi,g.r9,g.r12,g.r6⟩⟩,?_⟩
  ·intro x hx
   rw [List.mem_singleton] at hx
   rw [hx]
   exact b
  ·show 6 * 1 + 6 * f6.length + (f9.map fun x => 8 + x.f1.size).sum + (if f12 = 0 then 0 else 6) ≤ 6 * 0 + 6 * f6.length + (f9.map fun x => 8 + x.f1.size).sum + (if f12 = 0 then 0 else 6) + 4 + v.size
   dsimp only at hp
   omega
 ·rw [if_neg c1] at h1 hc hp ⊢
  by_cases c2 : kd = 51
  ·subst c2
   rw [if_pos rfl] at h1 hc hp ⊢
   obtain rfl := g.n6 hs
   obtain rfl := g.n9 hs
   cases hrb : rb with
   | true =>
    rw [hrb] at hr g
    rw [if_pos hr] at hc hp ⊢
    obtain ⟨a,b,c,d⟩ := num_back hc
    rw [c] at hp
    refine ⟨⟨hr,f5,[_],[],f12,rfl,⟨fun h => g.n5 (not_app h).1,fun h => absurd rfl (not_app h).2,fun h => rfl,fun h => g.n12 (not_app h).1,g.l5,g.o5,Nat.le_refl _,?_,g.l9,g.o9,g.lo,g.hi,g.r9,g.r12,fun h => by cases h⟩⟩,?_⟩
    ·intro x hx
     rw [List.mem_singleton] at hx
     rw [hx]
     exact b
    ·show 6 * f5.length + 6 * 1 + 0 + (if f12 = 0 then 0 else 6) ≤ 6 * f5.length + 6 * 0 + 0 + (if f12 = 0 then 0 else 6) + 4 + v.size
     dsimp only at hp
     omega
   | false =>
    rw [hrb] at hr g
    rw [if_neg (by rw [hr]; decide)] at hc hp ⊢
    obtain ⟨a,b,c,d⟩ := sha_back hc
    rw [c] at hp
    refine ⟨⟨hr,f5,[],[_],f12,rfl,⟨fun h => g.n5 (not_app h).1,fun h => rfl,fun h => absurd rfl (not_app h).2,fun h => g.n12 (not_app h).1,g.l5,g.o5,g.l6,g.o6,Nat.le_refl _,?_,g.lo,g.hi,(fun h => by cases h),(fun h => by cases h),fun h => rfl⟩⟩,?_⟩
    ·intro x hx
     rw [List.mem_singleton] at hx
     rw [hx]
     exact b
    ·show 6 * f5.length + 6 * 0 + ((8 + (Rp.mk v 0 0 false false).shaV.f1.size) + 0) + (if f12 = 0 then 0 else 6) ≤ 6 * f5.length + 6 * 0 + 0 + (if f12 = 0 then 0 else 6) + 4 + v.size
     rw [enS_length] at hp
     dsimp only at hp
     omega
  ·rw [if_neg c2] at h1 hc hp ⊢
   by_cases c3 : kd = 41
   ·subst c3
    rw [if_pos rfl] at h1 hc hp ⊢
    cases hrb : rb with
    | true =>
     rw [hrb] at hr
     rw [if_pos hr] at h1
     cases h1
    | false =>
     rw [hrb] at hr g
     rw [if_neg (by rw [hr]; decide)] at hc hp ⊢
     obtain ⟨a,b,c,d⟩ := num_back hc
     rw [c] at hp
     obtain rfl := g.n12 hs
     have b1 := b.1
     have b2 := b.2
     refine ⟨⟨hr,f5,f6,f9,_,rfl,⟨fun h => g.n5 (not_app h).1,fun h => g.n6 (not_app h).1,fun h => g.n9 (not_app h).1,fun h => absurd rfl (not_app h).2,g.l5,g.o5,g.l6,g.o6,g.l9,g.o9,by omega,by omega,g.r9,(fun h => by cases h),g.r6⟩⟩,?_⟩
     show 6 * f5.length + 6 * f6.length + (f9.map fun x => 8 + x.f1.size).sum + (if _ = 0 then 0 else 6) ≤ 6 * f5.length + 6 * f6.length + (f9.map fun x => 8 + x.f1.size).sum + 0 + 4 + v.size
     dsimp only at hp
     split <;> omega
   ·rw [if_neg c3] at h1
    cases h1
theorem kindsOf_app (a b : List E.S41) : kindsOf (a ++ b) = kindsOf a ++ kindsOf b := List.map_append
theorem kindsOf_xo (b : Bool) (k : Int) (W : Wp) : kindsOf (xo (b,k,W)) = if b = true then [k] else [] := by
 cases b <;> rfl
theorem enX_mem {x : E.S41} : ∀ {xs : List E.S41},x ∈ xs → 4 + x.f1.size ≤ (xs.flatMap enX).length
 | y :: ys,h => by
  rw [List.flatMap_cons,List.length_append]
  rcases List.mem_cons.1 h with rfl | h
  ·rw [enX_length]; omega
  ·have := enX_mem h; omega
theorem xo_len_num (l : List Int) (k : Int) (hl : l.length ≤ 1) (ho : ∀ x ∈ l,okN 2 x) : (xo (decide (0 < l.length),k,W0.num (rd l 0) 2)).flatMap enX = [] ∧ l = [] ∨ ((xo (decide (0 < l.length),k,W0.num (rd l 0) 2)).flatMap enX).length = 6 ∧ l.length = 1 ∧ (W0.num (rd l 0) 2).b = false := by
 rcases len_one hl with rfl | ⟨a,rfl⟩
 ·exact .inl ⟨rfl,rfl⟩
 ·right
  have h := ho a List.mem_cons_self
  have w := Wk.w0.num (n := 2) (by decide) (by decide) h.1 h.2
  refine ⟨?_,rfl,w.1⟩
  rw [xo_yes (show decide (0 < [a].length) = true from rfl),List.flatMap_cons,List.flatMap_nil,List.append_nil,enX_length]
  show 4 + (W0.num a 2).s.size = 6
  have := w.size
  rw [List.nil_append,beL_length] at this
  exact congrArg (4 + ·) this
theorem xo_len_sha (l : List S66) (k : Int) (hl : l.length ≤ 1) (ho : ∀ x ∈ l,okS x) : ((xo (decide (0 < l.length),k,wS W0 (rd_T66 l 0))).flatMap enX).length = (l.map fun x => 8 + x.f1.size).sum ∧ (decide (0 < l.length) = true → (wS W0 (rd_T66 l 0)).b = false) := by
 rcases len_one hl with rfl | ⟨a,rfl⟩
 ·exact ⟨rfl,fun h => absurd h (by decide)⟩
 ·have h := ho a List.mem_cons_self
  have w := wfS.put W0 [] a Wk.w0 h
  refine ⟨?_,fun _ => w.1⟩
  rw [xo_yes (show decide (0 < [a].length) = true from rfl),List.flatMap_cons,List.flatMap_nil,List.append_nil,enX_length]
  show 4 + (wS W0 a).s.size = (8 + a.f1.size) + 0
  rw [w.size,List.nil_append,enS_length]
  omega
theorem xo_len_psk (x : Int) (h0 : 0 ≤ x) (h1 : x ≤ 65536) : ((xo (x != 0,41,W0.num (wrap64 (x - 1)) 2)).flatMap enX).length = (if x = 0 then 0 else 6) ∧ ((x != 0) = true → (W0.num (wrap64 (x - 1)) 2).b = false) := by
 by_cases h : x = 0
 ·subst h
  exact ⟨rfl,fun h => absurd h (by decide)⟩
 ·have hw : wrap64 (x - 1) = x - 1 := by unfold wrap64; omega
  have w := Wk.w0.num (x := x - 1) (n := 2) (by decide) (by decide) (by omega) (by omega)
  rw [hw,if_neg h]
  refine ⟨?_,fun _ => w.1⟩
  rw [xo_yes (by simpa using h),List.flatMap_cons,List.flatMap_nil,List.append_nil,enX_length]
  show 4 + (W0.num (x - 1) 2).s.size = 6
  have := w.size
  rw [List.nil_append,beL_length] at this
  exact congrArg (4 + ·) this
theorem okE_of {xs : List E.S41} (hk : ∀ x ∈ xs,0 ≤ x.f0 ∧ x.f0 ≤ 65535) (hl : (xs.flatMap enX).length ≤ 65535) : ∀ x ∈ xs,okE x := fun x hx => ⟨(hk x hx).1,(hk x hx).2,by have := enX_mem hx; omega⟩
set_option maxHeartbeats 1000000 in
theorem rw2 {u : ByteArray} {o : Mv} {R : Rp} (h : bodyP ⟨u,0,0,false,false⟩ { zeroM with f0 := 2 } = (o,R)) (hc : R.c = 0) (ht : R.t = false) (ho : o.f13 = []) (hu : u.size ≤ 65532) : o.f0 = 2 ∧ Wr2 o u.size ∧ 0 ≤ o.f12 ∧ o.f12 ≤ 65536 := by
 have h' : ((Rp.mk u 0 0 false false).shM { zeroM with f0 := 2 },(Rp.mk u 0 0 false false).shR { zeroM with f0 := 2 }) = (o,R) := h
 obtain ⟨e1,e2⟩ := Prod.mk.inj h'
 obtain ⟨X,hX0⟩ : ∃ X,(Rp.mk u 0 0 false false).sX { zeroM with f0 := 2 } = X := ⟨_,rfl⟩
 have eR : (Rp.mk u 0 0 false false).shR { zeroM with f0 := 2 } = ((Rp.mk u 0 0 false false).s6.outR 2).back X.2.2 := by
  unfold Rp.shR
  rw [hX0]
 have eM : (Rp.mk u 0 0 false false).shM { zeroM with f0 := 2 } = { X.2.1 with f13 := X.1 } := by
  unfold Rp.shM
  rw [hX0]
 rw [eR] at e2
 rw [eM] at e1
 have hX : X.2.2.c = 0 := by rw [← e2] at hc; exact hc
 have hXt : X.2.2.t = false := by rw [← e2] at ht; exact ht
 have hXo : X.1 = [] := by rw [← e1] at ho; exact ho
 have e3 : o = { X.2.1 with f13 := [] } := by
  rw [← e1,hXo]
 have hgen : ∀ (k : Nat) (seen : List Int) (m : Mv) (R : Rp),(exts srv sameL k seen m R).2.2.c = 0 → R.c = 0 := by
  intro k seen m R h
  by_cases hR : R.c = 0
  ·exact hR
  ·rw [exts_stop _ _ _ _ _ _ hR] at h
   exact h
 have hX2 := hX
 rw [← hX0] at hX2
 unfold Rp.sX at hX2
 have hin : ((Rp.mk u 0 0 false false).s6.inR 2).c = 0 := hgen _ _ _ _ hX2
 obtain ⟨a,b,c,d⟩ := in_back hin
 have hv := vec_back (R := (Rp.mk u 0 0 false false).s6) (n := 2) (lo := 0) (hi := 16777216) hin
 obtain ⟨a2,b2⟩ := allowed_zero (show allowed (Rp.mk u 0 0 false false).s5.c ((Rp.mk u 0 0 false false).s4.numV 1 == 0) = 0 from a)
 obtain ⟨a3,b3,c3,d3⟩ := num_back (R := (Rp.mk u 0 0 false false).s4) a2
 obtain ⟨a4,b4,c4,d4⟩ := num_back (R := (Rp.mk u 0 0 false false).h3) a3
 obtain ⟨r,t,hr,htz,g1,g2,g3⟩ := front_back a4 { zeroM with f0 := 2 }
 obtain ⟨su,hsu⟩ : ∃ su,(Rp.mk u 0 0 false false).h3.numV 2 = su := ⟨_,rfl⟩
 rw [hsu] at b4
 have hM : (Rp.mk u 0 0 false false).sM { zeroM with f0 := 2 } = shMv r t su [] [] [] 0 := by
  unfold Rp.sM
  rw [g1,hsu]
  rfl
 have p6 : (Rp.mk u 0 0 false false).s6.p = 38 + (t.size : Int) := by
  show ((Rp.mk u 0 0 false false).s4.numR 1).p = _
  rw [c3]
  show ((Rp.mk u 0 0 false false).h3.numR 2).p + 1 = _
  rw [c4,g2]
  show 35 + (t.size : Int) + 2 + 1 = _
  omega
 have s6 : (Rp.mk u 0 0 false false).s6.s = u := by
  show ((Rp.mk u 0 0 false false).s4.numR 1).s = _
  rw [c3]
  show ((Rp.mk u 0 0 false false).h3.numR 2).s = _
  rw [c4,g2]
 obtain ⟨E,hE⟩ : ∃ E,((Rp.mk u 0 0 false false).s6.inR 2).s = E := ⟨_,rfl⟩
 rw [hE,p6,s6] at d
 have hE2 : (E.size : Int) < 256 ^ 2 := by rw [← hE]; exact hv.2.1.2.2
 obtain ⟨rb,hrb⟩ : ∃ rb,(shMv r t su [] [] [] 0).retry = rb := ⟨_,rfl⟩
 have bk := exts_back (take := srv) (lastf := sameL) (good := goodS r t su rb) (cost := costS) tk_srv (stepS r t su rb) E.size [] ((Rp.mk u 0 0 false false).sM { zeroM with f0 := 2 }) ((Rp.mk u 0 0 false false).s6.inR 2) (by show (0 : Int) ≤ _; omega) (by
  rw [hM]
  exact ⟨hrb,[],[],[],0,rfl,⟨fun _ => rfl,fun _ => rfl,fun _ => rfl,fun _ => rfl,Nat.zero_le _,(fun x h => by cases h),Nat.zero_le _,(fun x h => by cases h),Nat.zero_le _,(fun x h => by cases h),Int.le_refl _,by decide,fun _ => rfl,fun _ => rfl,fun _ => rfl⟩⟩)
 have eX : exts srv sameL E.size [] ((Rp.mk u 0 0 false false).sM { zeroM with f0 := 2 }) ((Rp.mk u 0 0 false false).s6.inR 2) = X := by
  rw [← hX0]
  unfold Rp.sX
  rw [hE]
 rw [eX] at bk
 obtain ⟨_,⟨seen,hgood⟩,k1,k2⟩ := bk hX hXt hXo
 obtain ⟨hret,f5,f6,f9,f12,hm,g⟩ := hgood
 rw [hm] at e3 k1 hret
 have e4 : o = shMv r t su f5 f6 f9 f12 := e3
 subst e4
 rw [hE] at k2
 rw [hM] at k1
 have k1' : ((6 * f5.length + 6 * f6.length + (f9.map fun x => 8 + x.f1.size).sum + (if f12 = 0 then 0 else 6) : Nat) : Int) + 0 ≤ ((6 * 0 + 6 * 0 + 0 + 0 : Nat) : Int) + X.2.2.p := k1
 have hcost : 6 * f5.length + 6 * f6.length + (f9.map fun x => 8 + x.f1.size).sum + (if f12 = 0 then 0 else 6) ≤ E.size := by omega
 have q5 := xo_len_num f5 43 g.l5 g.o5
 have q6 := xo_len_num f6 51 g.l6 g.o6
 obtain ⟨q9,w9⟩ := xo_len_sha f9 51 g.l9 g.o9
 obtain ⟨q12,w12⟩ := xo_len_psk f12 g.lo g.hi
 obtain ⟨L,hL⟩ : ∃ L,shL (shMv r t su f5 f6 f9 f12) = L := ⟨_,rfl⟩
 have hxs : xsOf L = xo (decide (0 < f5.length),43,W0.num (rd f5 0) 2) ++ (xo (decide (0 < f6.length),51,W0.num (rd f6 0) 2) ++ (xo (decide (0 < f9.length),51,wS W0 (rd_T66 f9 0)) ++ xo (f12 != 0,41,W0.num (wrap64 (f12 - 1)) 2))) := by
  rw [← hL]
  unfold shL
  rw [xsOf_cons,xsOf_cons,xsOf_cons,xsOf_cons,xsOf_nil,List.append_nil]
  rfl
 have hlen : ((xsOf L).flatMap enX).length = 6 * f5.length + 6 * f6.length + (f9.map fun x => 8 + x.f1.size).sum + (if f12 = 0 then 0 else 6) := by
  rw [hxs,List.flatMap_append,List.flatMap_append,List.flatMap_append,List.length_append,List.length_append,List.length_append,q9,q12]
  have l5 : ((xo (decide (0 < f5.length),43,W0.num (rd f5 0) 2)).flatMap enX).length = 6 * f5.length := by
   rcases q5 with ⟨x1,x2⟩ | ⟨x1,x2,_⟩
   ·rw [x1,x2]; rfl
   ·rw [x1,x2]
  have l6 : ((xo (decide (0 < f6.length),51,W0.num (rd f6 0) 2)).flatMap enX).length = 6 * f6.length := by
   rcases q6 with ⟨x1,x2⟩ | ⟨x1,x2,_⟩
   ·rw [x1,x2]; rfl
   ·rw [x1,x2]
  rw [l5,l6]
  omega
 have hflags : ∀ e ∈ L,e.1 = true → e.2.2.b = false := by
  rw [← hL]
  intro e he hf
  have he' : e = (decide (0 < f5.length),43,W0.num (rd f5 0) 2) ∨ e = (decide (0 < f6.length),51,W0.num (rd f6 0) 2) ∨ e = (decide (0 < f9.length),51,wS W0 (rd_T66 f9 0)) ∨ e = (f12 != 0,41,W0.num (wrap64 (f12 - 1)) 2) := by
   have : e ∈ [(decide (0 < f5.length),(43 : Int),W0.num (rd f5 0) 2),(decide (0 < f6.length),51,W0.num (rd f6 0) 2),(decide (0 < f9.length),51,wS W0 (rd_T66 f9 0)),(f12 != 0,41,W0.num (wrap64 (f12 - 1)) 2)] := he
   simpa using this
  rcases he' with rfl | rfl | rfl | rfl
  ·rcases q5 with ⟨_,x2⟩ | ⟨_,_,x3⟩
   ·rw [x2] at hf; exact absurd hf (by decide)
   ·exact x3
  ·rcases q6 with ⟨_,x2⟩ | ⟨_,_,x3⟩
   ·rw [x2] at hf; exact absurd hf (by decide)
   ·exact x3
  ·exact w9 hf
  ·exact w12 hf
 have hdup : dupB (kindsOf (xsOf L)) = false := by
  have h69 : (decide (0 < f6.length) && decide (0 < f9.length)) = false := by
   cases rb with
   | true => rw [g.r9 rfl]; simp
   | false => rw [g.r6 rfl]; simp
  rw [hxs,kindsOf_app,kindsOf_app,kindsOf_app,kindsOf_xo,kindsOf_xo,kindsOf_xo,kindsOf_xo]
  revert h69
  generalize decide (0 < f5.length) = b1
  generalize decide (0 < f6.length) = b2
  generalize decide (0 < f9.length) = b3
  generalize (f12 != 0) = b4
  revert b1 b2 b3 b4
  decide
 have hkinds : ∀ x ∈ xsOf L,0 ≤ x.f0 ∧ x.f0 ≤ 65535 := by
  rw [hxs]
  intro x hx
  rcases List.mem_append.1 hx with h | hx
  ·rw [xo_kind x h]; decide
  rcases List.mem_append.1 hx with h | hx
  ·rw [xo_kind x h]; decide
  rcases List.mem_append.1 hx with h | hx
  ·rw [xo_kind x h]; decide
  ·rw [xo_kind x hx]; decide
 have o1 : shOk1 (shMv r t su f5 f6 f9 f12) = true := by
  show ((([su] : List Int).length : Int) == 1 && decide ((f5.length : Int) ≤ 1)) = true
  have := g.l5
  rw [decide_eq_true (by omega)]
  rfl
 have hret0 : (shMv r t su f5 f6 f9 f12).retry = rb := hret
 have o2 : shOk2 (shMv r t su f5 f6 f9 f12) = true := by
  unfold shOk2
  rw [hret0]
  show ((rb && decide ((f6.length : Int) ≤ 1) && ((f9.length : Int) == 0) && (f12 == 0)) || (!rb && ((f6.length : Int) == 0) && decide ((f9.length : Int) ≤ 1))) = true
  have l6 := g.l6
  have l9 := g.l9
  cases rb with
  | true =>
   rw [g.r9 rfl,g.r12 rfl,decide_eq_true (by omega)]
   rfl
  | false =>
   rw [g.r6 rfl,decide_eq_true (show (f9.length : Int) ≤ 1 by omega)]
   simp
 have wW : Wk (shW W0 (shMv r t su f5 f6 f9 f12)) (beL 2 771 ++ (bytesOf r ++ (beL 1 t.size ++ bytesOf t))) := ((front_wk hr htz).need o1).need o2
 have wT : Wk (shT W0 (shMv r t su f5 f6 f9 f12)) (((beL 2 771 ++ (bytesOf r ++ (beL 1 t.size ++ bytesOf t))) ++ beL 2 su) ++ beL 1 0) := (wW.num (x := su) (n := 2) (by decide) (by decide) b4.1 b4.2).num (x := 0) (n := 1) (by decide) (by decide) (by decide) (by decide)
 have hEs : (encs (xsOf L)).size = ((xsOf L).flatMap enX).length := by rw [← encs_bytes,bytesOf_length]
 have hE65 : ((xsOf L).flatMap enX).length ≤ 65535 := by omega
 have hi := (ends_iff (shT W0 (shMv r t su f5 f6 f9 f12)) L).2 ⟨wT.1,hflags,okE_of hkinds hE65,hdup,by omega⟩
 have eW : bodyW (shMv r t su f5 f6 f9 f12) = (xAll (shT W0 (shMv r t su f5 f6 f9 f12)) L).1.ends (xAll (shT W0 (shMv r t su f5 f6 f9 f12)) L).2 := by
  unfold bodyW
  rw [if_neg (by show ¬ (2 : Int) = 1; decide),if_pos (by rfl)]
  unfold shP
  rw [if_neg (by rw [wW.1]; decide),hL]
 refine ⟨rfl,⟨(by show ({ zeroM with f0 := 2 } : Mv).zero = true; decide +kernel),?_,?_⟩,g.lo,g.hi⟩
 ·rw [eW]
  exact hi
 ·rw [eW]
  have hb := ends_bytes hi
  have hsz := congrArg List.length hb
  rw [bytesOf_length,wT.2] at hsz
  simp only [List.length_append,beL_length,bytesOf_length] at hsz
  omega
theorem rAll_t {α : Type} {one : Rp → α × Rp} (h : ∀ R,(one R).2.t = R.t) : ∀ (k : Nat) (R : Rp),(rAll one k R).2.t = R.t
 | 0,R => rfl
 | k + 1,R => by
  unfold rAll
  split
  ·exact (rAll_t h k _).trans (h R)
  ·rfl
theorem lstR_t {α : Type} {one : Rp → α × Rp} (h : ∀ R,(one R).2.t = R.t) (R : Rp) (n : Nat) : (lstR one R n).t = R.t := rAll_t h _ _
theorem psk_t (R : Rp) : R.pskR.t = R.t := by
 have h1 : R.psk1.t = R.t := lstR_t (one := oneIde) (fun _ => rfl) R 2
 have h2 : R.psk2.t = R.psk1.t := rAll_t (one := oneBin) (fun _ => rfl) _ _
 exact h2.trans h1
theorem nam_back {B : Rp} (hc : B.namR.c = 0) : B.c = 0 ∧ 1 ≤ B.namV.size ∧ B.namV.size ≤ 64 ∧ B.namR.p = B.p + 5 + B.namV.size := by
 obtain ⟨a,b⟩ := done_zero (show ((B.nam1.vecR 2 1 64).done).c = 0 from hc)
 obtain ⟨a1,b1,c1,d1⟩ := vec_back (R := B.nam1) a
 obtain ⟨a2,b2⟩ := needed_zero (show needed ((B.inR 2).numR 1).c ((B.inR 2).numV 1 == 0) = 0 from a1)
 obtain ⟨a3,b3,c3,d3⟩ := num_back (R := B.inR 2) a2
 obtain ⟨a4,b4,c4,d4⟩ := in_back a3
 have hV : B.namV = B.nam1.vecV 2 1 64 := rfl
 have hp1 : B.nam1.p = 1 := by
  show ((B.inR 2).numR 1).p = 1
  rw [c3,b4]
  rfl
 have hs1 : B.nam1.s = (B.inR 2).s := by
  show ((B.inR 2).numR 1).s = _
  rw [c3]
 have hp : B.namR.p = B.p + 2 + (B.inR 2).s.size := by
  show (B.outR 2).p = _
  rw [c4]
  rfl
 rw [c1] at b
 have b' : B.nam1.p + 2 + ((B.nam1.vecV 2 1 64).size : Int) = B.nam1.s.size := b
 rw [hs1,hp1] at b'
 rw [hV]
 exact ⟨a4,by omega,by omega,by omega⟩
theorem psk_back {B : Rp} (hc : B.pskR.c = 0) (hp0 : B.p = 0) : B.c = 0 ∧ B.pskI ≠ [] ∧ (∀ x ∈ B.pskI,okI x) ∧ (∀ x ∈ B.pskB,okB x) ∧ B.pskB.length = B.pskI.length ∧ ((B.pskI.flatMap enI).length : Int) < 256 ^ 2 ∧ ((B.pskB.flatMap enB).length : Int) < 256 ^ 2 ∧ 4 + ((B.pskI.flatMap enI).length : Int) + ((B.pskB.flatMap enB).length : Int) ≤ B.s.size := by
 obtain ⟨a,b⟩ := allowed_zero (show allowed (B.psk2.need (B.psk2.p == (B.psk2.s.size : Int))).c ((B.pskB.length : Int) == (B.pskI.length : Int)) = 0 from hc)
 obtain ⟨a2,b2⟩ := needed_zero (show needed B.psk2.c (B.psk2.p == (B.psk2.s.size : Int)) = 0 from a)
 have a2' : (rAll oneBin (B.psk1.inR 2).s.size (B.psk1.inR 2)).2.c = 0 := a2
 obtain ⟨a3,b3,c3,d3,e3⟩ := rfB.back _ (B.psk1.inR 2) (by show (0 : Int) ≤ _; omega) a2'
 obtain ⟨a4,b4,c4,d4⟩ := in_back a3
 have hv := vec_back (R := B.psk1) (n := 2) (lo := 0) (hi := 16777216) a3
 obtain ⟨a5,b5,c5,d5,e5,f5,g5⟩ := rfI.lst_back (R := B) (n := 2) a4
 have hB : (rAll oneBin (B.psk1.inR 2).s.size (B.psk1.inR 2)).1 = B.pskB := rfl
 rw [hB] at b3 c3
 have hI : lstV oneIde B 2 = B.pskI := rfl
 rw [hI] at b5 c5 d5 g5
 have h1 : (lstR oneIde B 2) = B.psk1 := rfl
 rw [h1] at d5 e5 f5
 rw [f5] at d4
 have c3' : (0 : Int) + ((B.pskB.flatMap enB).length : Int) ≤ _ := c3
 have hv' : ((B.psk1.inR 2).s.size : Int) < 256 ^ 2 := hv.2.1.2.2
 refine ⟨a5,b5,c5,b3,?_,g5,by omega,by omega⟩
 have := (beq_iff_eq.1 b)
 omega
theorem tk_cli : TK cli := by
 constructor
 ·intro k m B
  unfold cli
  repeat' split
  ·rfl
  ·exact lstR_t (one := oneNum 2) (fun _ => rfl) B 2
  ·exact lstR_t (one := oneNum 2) (fun _ => rfl) B 2
  ·exact lstR_t (one := oneNum 2) (fun _ => rfl) B 1
  ·exact lstR_t (one := oneNum 1) (fun _ => rfl) B 1
  ·exact lstR_t (one := oneSha) (fun _ => rfl) B 2
  ·exact psk_t B
  ·rfl
 ·intro k m B hc
  unfold cli at hc
  repeat' split at hc
  ·exact (nam_back hc).1
  ·exact ((rfN 2 (by decide)).lst_back hc).1
  ·exact ((rfN 2 (by decide)).lst_back hc).1
  ·exact ((rfN 2 (by decide)).lst_back hc).1
  ·exact ((rfN 1 (by decide)).lst_back hc).1
  ·exact (rfS.lst_back hc).1
  ·obtain ⟨a,b⟩ := allowed_zero (show allowed (B.psk2.need (B.psk2.p == (B.psk2.s.size : Int))).c ((B.pskB.length : Int) == (B.pskI.length : Int)) = 0 from hc)
   obtain ⟨a2,b2⟩ := needed_zero (show needed B.psk2.c (B.psk2.p == (B.psk2.s.size : Int)) = 0 from a)
   have a2' : (rAll oneBin (B.psk1.inR 2).s.size (B.psk1.inR 2)).2.c = 0 := a2
   have a3 := (rfB.back _ (B.psk1.inR 2) (by show (0 : Int) ≤ _; omega) a2').1
   exact (rfI.lst_back (R := B) (n := 2) (in_back a3).1).1
  ·exact hc
def chMv (r t : ByteArray) (f3 : List Int) (f4 : ByteArray) (f5 f6 f7 f8 : List Int) (f9 : List S66) (f10 : List S111) (f11 : List ByteArray) : Mv := { zeroM with f0 := 1,f1 := r,f2 := t,f3 := f3,f4 := f4,f5 := f5,f6 := f6,f7 := f7,f8 := f8,f9 := f9,f10 := f10,f11 := f11 }
def lc {α : Type} (n : Nat) (enc : α → List Int) (l : List α) : Nat := if l.length = 0 then 0 else 4 + n + (l.flatMap enc).length
def okL {α : Type} (n : Nat) (ok : α → Prop) (enc : α → List Int) (l : List α) : Prop := (∀ x ∈ l,ok x) ∧ ((l.flatMap enc).length : Int) < 256 ^ n
theorem okL_nil {α : Type} (n : Nat) (ok : α → Prop) (enc : α → List Int) (h : 0 < n) : okL n ok enc [] := ⟨(fun x h => by cases h),by
 show (0 : Int) < 256 ^ n
 exact Int.pow_pos (by decide)⟩
structure GC (seen : List Int) (f4 : ByteArray) (f5 f6 f7 f8 : List Int) (f9 : List S66) (f10 : List S111) (f11 : List ByteArray) : Prop where
 n4 : 0 ∉ seen → f4 = ⟨#[]⟩
 n5 : 43 ∉ seen → f5 = []
 n6 : 10 ∉ seen → f6 = []
 n7 : 13 ∉ seen → f7 = []
 n8 : 45 ∉ seen → f8 = []
 n9 : 51 ∉ seen → f9 = []
 n10 : 41 ∉ seen → f10 = [] ∧ f11 = []
 o4 : f4.size ≤ 64
 o5 : okL 1 (okN 2) (beL 2) f5
 o6 : okL 2 (okN 2) (beL 2) f6
 o7 : okL 2 (okN 2) (beL 2) f7
 o8 : okL 1 (okN 1) (beL 1) f8
 o9 : okL 2 okS enS f9
 o10 : okL 2 okI enI f10
 o11 : okL 2 okB enB f11
 len : f11.length = f10.length
def goodC (r t : ByteArray) (f3 : List Int) (seen : List Int) (m : Mv) : Prop := ∃ f4 f5 f6 f7 f8 f9 f10 f11,m = chMv r t f3 f4 f5 f6 f7 f8 f9 f10 f11 ∧ GC seen f4 f5 f6 f7 f8 f9 f10 f11
def costC (m : Mv) : Nat := (if m.f4.size = 0 then 0 else 9 + m.f4.size) + lc 2 (beL 2) m.f6 + lc 2 (beL 2) m.f7 + lc 1 (beL 2) m.f5 + lc 1 (beL 1) m.f8 + lc 2 enS m.f9 + (if m.f10.length = 0 then 0 else 8 + (m.f10.flatMap enI).length + (m.f11.flatMap enB).length)
theorem lc_le {α : Type} (n : Nat) (enc : α → List Int) (l : List α) : lc n enc l ≤ 4 + n + (l.flatMap enc).length := by
 unfold lc
 split <;> omega
theorem one_lst {α : Type} {one : Rp → α × Rp} {ok : α → Prop} {enc : α → List Int} (h : RdL one ok enc) {v : ByteArray} {n : Nat} (hc : (lstR one ⟨v,0,0,false,false⟩ n).c = 0) : okL n ok enc (lstV one ⟨v,0,0,false,false⟩ n) ∧ lc n enc (lstV one ⟨v,0,0,false,false⟩ n) ≤ 4 + v.size := by
 obtain ⟨a,b,c,d,e,f,g⟩ := h.lst_back hc
 refine ⟨⟨c,g⟩,Nat.le_trans (lc_le _ _ _) ?_⟩
 dsimp only at d e
 omega
theorem stepC (r t : ByteArray) (f3 : List Int) (seen : List Int) (m : Mv) (kd : Int) (v : ByteArray) (hs : kd ∉ seen) (hk : okN 2 kd) (hv : v.size ≤ 65535) (hg : goodC r t f3 seen m) (h1 : (cli kd m ⟨v,0,0,false,false⟩).1 = true) (hd : (cli kd m ⟨v,0,0,false,false⟩).2.2.done.c = 0) :
  goodC r t f3 (seen ++ [kd]) (cli kd m ⟨v,0,0,false,false⟩).2.1 ∧ costC (cli kd m ⟨v,0,0,false,false⟩).2.1 ≤ costC m + 4 + v.size := by
 obtain ⟨f4,f5,f6,f7,f8,f9,f10,f11,rfl,g⟩ := hg
 obtain ⟨hc,hp⟩ := done_zero hd
 have n4 : ∀ kd,0 ∉ seen ++ [kd] → f4 = ⟨#[]⟩ := fun kd h => g.n4 (not_app h).1
 have n5 : ∀ kd,43 ∉ seen ++ [kd] → f5 = [] := fun kd h => g.n5 (not_app h).1
 have n6 : ∀ kd,10 ∉ seen ++ [kd] → f6 = [] := fun kd h => g.n6 (not_app h).1
 have n7 : ∀ kd,13 ∉ seen ++ [kd] → f7 = [] := fun kd h => g.n7 (not_app h).1
 have n8 : ∀ kd,45 ∉ seen ++ [kd] → f8 = [] := fun kd h => g.n8 (not_app h).1
 have n9 : ∀ kd,51 ∉ seen ++ [kd] → f9 = [] := fun kd h => g.n9 (not_app h).1
 have n10 : ∀ kd,41 ∉ seen ++ [kd] → f10 = [] ∧ f11 = [] := fun kd h => g.n10 (not_app h).1
 unfold cli at h1 hc hp ⊢
 by_cases c0 : kd = 0
 ·subst c0
  rw [if_pos rfl] at hc hp ⊢
  obtain rfl := g.n4 hs
  obtain ⟨a,b,c,d⟩ := nam_back hc
  obtain ⟨x,hx⟩ : ∃ x,(Rp.mk v 0 0 false false).namV = x := ⟨_,rfl⟩
  rw [hx] at b c d ⊢
  have hps : (Rp.mk v 0 0 false false).namR.s = v := by
   show ((Rp.mk v 0 0 false false).outR 2).s = v
   rfl
  have hp' : (Rp.mk v 0 0 false false).namR.p = ((Rp.mk v 0 0 false false).namR.s.size : Int) := hp
  rw [hps,d] at hp'
  refine ⟨⟨x,f5,f6,f7,f8,f9,f10,f11,rfl,⟨fun h => absurd rfl (not_app h).2,n5 0,n6 0,n7 0,n8 0,n9 0,n10 0,by omega,g.o5,g.o6,g.o7,g.o8,g.o9,g.o10,g.o11,g.len⟩⟩,?_⟩
  show (if x.size = 0 then 0 else 9 + x.size) + lc 2 (beL 2) f6 + lc 2 (beL 2) f7 + lc 1 (beL 2) f5 + lc 1 (beL 1) f8 + lc 2 enS f9 + (if f10.length = 0 then 0 else 8 + (f10.flatMap enI).length + (f11.flatMap enB).length) ≤ 0 + lc 2 (beL 2) f6 + lc 2 (beL 2) f7 + lc 1 (beL 2) f5 + lc 1 (beL 1) f8 + lc 2 enS f9 + (if f10.length = 0 then 0 else 8 + (f10.flatMap enI).length + (f11.flatMap enB).length) + 4 + v.size
  dsimp only at hp'
  rw [if_neg (show ¬ x.size = 0 by omega)]
  omega
 rw [if_neg c0] at h1 hc hp ⊢
 by_cases c1 : kd = 10
 ·subst c1
  rw [if_pos rfl] at hc hp ⊢
  obtain rfl := g.n6 hs
  obtain ⟨a,b⟩ := one_lst (rfN 2 (by decide)) hc
  refine ⟨⟨f4,f5,_,f7,f8,f9,f10,f11,rfl,⟨n4 10,n5 10,fun h => absurd rfl (not_app h).2,n7 10,n8 10,n9 10,n10 10,g.o4,g.o5,a,g.o7,g.o8,g.o9,g.o10,g.o11,g.len⟩⟩,?_⟩
  show (if f4.size = 0 then 0 else 9 + f4.size) + lc 2 (beL 2) (lstV (oneNum 2) ⟨v,0,0,false,false⟩ 2) + lc 2 (beL 2) f7 + lc 1 (beL 2) f5 + lc 1 (beL 1) f8 + lc 2 enS f9 + (if f10.length = 0 then 0 else 8 + (f10.flatMap enI).length + (f11.flatMap enB).length) ≤ (if f4.size = 0 then 0 else 9 + f4.size) + 0 + lc 2 (beL 2) f7 + lc 1 (beL 2) f5 + lc 1 (beL 1) f8 + lc 2 enS f9 + (if f10.length = 0 then 0 else 8 + (f10.flatMap enI).length + (f11.flatMap enB).length) + 4 + v.size
  omega
 rw [if_neg c1] at h1 hc hp ⊢
 by_cases c2 : kd = 13
 ·subst c2
  rw [if_pos rfl] at hc hp ⊢
  obtain rfl := g.n7 hs
  obtain ⟨a,b⟩ := one_lst (rfN 2 (by decide)) hc
  refine ⟨⟨f4,f5,f6,_,f8,f9,f10,f11,rfl,⟨n4 13,n5 13,n6 13,fun h => absurd rfl (not_app h).2,n8 13,n9 13,n10 13,g.o4,g.o5,g.o6,a,g.o8,g.o9,g.o10,g.o11,g.len⟩⟩,?_⟩
  show (if f4.size = 0 then 0 else 9 + f4.size) + lc 2 (beL 2) f6 + lc 2 (beL 2) (lstV (oneNum 2) ⟨v,0,0,false,false⟩ 2) + lc 1 (beL 2) f5 + lc 1 (beL 1) f8 + lc 2 enS f9 + (if f10.length = 0 then 0 else 8 + (f10.flatMap enI).length + (f11.flatMap enB).length) ≤ (if f4.size = 0 then 0 else 9 + f4.size) + lc 2 (beL 2) f6 + 0 + lc 1 (beL 2) f5 + lc 1 (beL 1) f8 + lc 2 enS f9 + (if f10.length = 0 then 0 else 8 + (f10.flatMap enI).length + (f11.flatMap enB).length) + 4 + v.size
  omega
 rw [if_neg c2] at h1 hc hp ⊢
 by_cases c3 : kd = 43
 ·subst c3
  rw [if_pos rfl] at hc hp ⊢
  obtain rfl := g.n5 hs
  obtain ⟨a,b⟩ := one_lst (rfN 2 (by decide)) hc
  refine ⟨⟨f4,_,f6,f7,f8,f9,f10,f11,rfl,⟨n4 43,fun h => absurd rfl (not_app h).2,n6 43,n7 43,n8 43,n9 43,n10 43,g.o4,a,g.o6,g.o7,g.o8,g.o9,g.o10,g.o11,g.len⟩⟩,?_⟩
  show (if f4.size = 0 then 0 else 9 + f4.size) + lc 2 (beL 2) f6 + lc 2 (beL 2) f7 + lc 1 (beL 2) (lstV (oneNum 2) ⟨v,0,0,false,false⟩ 1) + lc 1 (beL 1) f8 + lc 2 enS f9 + (if f10.length = 0 then 0 else 8 + (f10.flatMap enI).length + (f11.flatMap enB).length) ≤ (if f4.size = 0 then 0 else 9 + f4.size) + lc 2 (beL 2) f6 + lc 2 (beL 2) f7 + 0 + lc 1 (beL 1) f8 + lc 2 enS f9 + (if f10.length = 0 then 0 else 8 + (f10.flatMap enI).length + (f11.flatMap enB).length) + 4 + v.size
  omega
 rw [if_neg c3] at h1 hc hp ⊢
 by_cases c4 : kd = 45
 ·subst c4
  rw [if_pos rfl] at hc hp ⊢
  obtain rfl := g.n8 hs
  obtain ⟨a,b⟩ := one_lst (rfN 1 (by decide)) hc
  refine ⟨⟨f4,f5,f6,f7,_,f9,f10,f11,rfl,⟨n4 45,n5 45,n6 45,n7 45,fun h => absurd rfl (not_app h).2,n9 45,n10 45,g.o4,g.o5,g.o6,g.o7,a,g.o9,g.o10,g.o11,g.len⟩⟩,?_⟩
  show (if f4.size = 0 then 0 else 9 + f4.size) + lc 2 (beL 2) f6 + lc 2 (beL 2) f7 + lc 1 (beL 2) f5 + lc 1 (beL 1) (lstV (oneNum 1) ⟨v,0,0,false,false⟩ 1) + lc 2 enS f9 + (if f10.length = 0 then 0 else 8 + (f10.flatMap enI).length + (f11.flatMap enB).length) ≤ (if f4.size = 0 then 0 else 9 + f4.size) + lc 2 (beL 2) f6 + lc 2 (beL 2) f7 + lc 1 (beL 2) f5 + 0 + lc 2 enS f9 + (if f10.length = 0 then 0 else 8 + (f10.flatMap enI).length + (f11.flatMap enB).length) + 4 + v.size
  omega
 rw [if_neg c4] at h1 hc hp ⊢
 by_cases c5 : kd = 51
 ·subst c5
  rw [if_pos rfl] at hc hp ⊢
  obtain rfl := g.n9 hs
  obtain ⟨a,b⟩ := one_lst rfS hc
  refine ⟨⟨f4,f5,f6,f7,f8,_,f10,f11,rfl,⟨n4 51,n5 51,n6 51,n7 51,n8 51,fun h => absurd rfl (not_app h).2,n10 51,g.o4,g.o5,g.o6,g.o7,g.o8,a,g.o10,g.o11,g.len⟩⟩,?_⟩
  show (if f4.size = 0 then 0 else 9 + f4.size) + lc 2 (beL 2) f6 + lc 2 (beL 2) f7 + lc 1 (beL 2) f5 + lc 1 (beL 1) f8 + lc 2 enS (lstV oneSha ⟨v,0,0,false,false⟩ 2) + (if f10.length = 0 then 0 else 8 + (f10.flatMap enI).length + (f11.flatMap enB).length) ≤ (if f4.size = 0 then 0 else 9 + f4.size) + lc 2 (beL 2) f6 + lc 2 (beL 2) f7 + lc 1 (beL 2) f5 + lc 1 (beL 1) f8 + 0 + (if f10.length = 0 then 0 else 8 + (f10.flatMap enI).length + (f11.flatMap enB).length) + 4 + v.size
  omega
 rw [if_neg c5] at h1 hc hp ⊢
 by_cases c6 : kd = 41
 ·subst c6
  rw [if_pos rfl] at hc hp ⊢
  obtain ⟨rfl,rfl⟩ := g.n10 hs
  obtain ⟨a,b,c,d,e,f,h,i⟩ := psk_back hc rfl
  refine ⟨⟨f4,f5,f6,f7,f8,f9,_,_,rfl,⟨n4 41,n5 41,n6 41,n7 41,n8 41,n9 41,fun h => absurd rfl (not_app h).2,g.o4,g.o5,g.o6,g.o7,g.o8,g.o9,⟨c,f⟩,⟨d,h⟩,e⟩⟩,?_⟩
  obtain ⟨x,hx⟩ : ∃ x,(Rp.mk v 0 0 false false).pskI = x := ⟨_,rfl⟩
  obtain ⟨y,hy⟩ : ∃ y,(Rp.mk v 0 0 false false).pskB = y := ⟨_,rfl⟩
  rw [hx,hy] at i ⊢
  show (if f4.size = 0 then 0 else 9 + f4.size) + lc 2 (beL 2) f6 + lc 2 (beL 2) f7 + lc 1 (beL 2) f5 + lc 1 (beL 1) f8 + lc 2 enS f9 + (if x.length = 0 then 0 else 8 + (x.flatMap enI).length + (y.flatMap enB).length) ≤ (if f4.size = 0 then 0 else 9 + f4.size) + lc 2 (beL 2) f6 + lc 2 (beL 2) f7 + lc 1 (beL 2) f5 + lc 1 (beL 1) f8 + lc 2 enS f9 + 0 + 4 + v.size
  dsimp only at i
  have hq : (if x.length = 0 then 0 else 8 + (x.flatMap enI).length + (y.flatMap enB).length) ≤ 8 + (x.flatMap enI).length + (y.flatMap enB).length := by split <;> omega
  omega
 ·rw [if_neg c6] at h1
  cases h1
theorem xo_len_lst {α : Type} {f : Wp → α → Wp} {ok : α → Prop} {enc : α → List Int} (wf : WF f ok enc) {n : Nat} (h0 : 1 ≤ n) (h3 : n ≤ 3) {l : List α} (h : okL n ok enc l) (k : Int) : ((xo (decide (0 < l.length),k,W0.within (fw f l) n)).flatMap enX).length = lc n enc l ∧ (decide (0 < l.length) = true → (W0.within (fw f l) n).b = false) := by
 have w := Wk.w0.within (wf.fw h.1) h0 h3 h.2
 refine ⟨?_,fun _ => w.1⟩
 unfold lc
 by_cases hl : l.length = 0
 ·rw [if_pos hl,xo_no (decide_eq_false (by omega))]
  rfl
 ·rw [if_neg hl,xo_yes (decide_eq_true (by omega)),List.flatMap_cons,List.flatMap_nil,List.append_nil,enX_length]
  show 4 + (W0.within (fw f l) n).s.size = _
  rw [w.size,List.nil_append,List.length_append,beL_length]
  omega
theorem xo_len_nam {t : ByteArray} (h : t.size ≤ 64) : ((xo (!t.toList.isEmpty,0,W0.within ((W0.num 0 1).vec t 2 1 64) 2)).flatMap enX).length = (if t.size = 0 then 0 else 9 + t.size) ∧ ((!t.toList.isEmpty) = true → (W0.within ((W0.num 0 1).vec t 2 1 64) 2).b = false) := by
 by_cases hz : t.size = 0
 ·obtain rfl := size_nil hz
  exact ⟨by rw [xo_no (by decide +kernel)]; rfl,fun h => absurd h (by decide +kernel)⟩
 ·have w1 := (Wk.w0.num (x := 0) (n := 1) (by decide) (by decide) (by decide) (by decide)).vec (v := t) (n := 2) (lo := 1) (hi := 64) (by decide) (by decide) (by omega) (by omega) (by omega)
  have w := Wk.w0.within w1 (n := 2) (by decide) (by decide) (by simp only [List.length_append,List.length_nil,beL_length,bytesOf_length]; omega)
  refine ⟨?_,fun _ => w.1⟩
  have he : (!t.toList.isEmpty) = true := by
   cases h1 : t.toList.isEmpty with
   | false => rfl
   | true =>
    rw [ByteArray.toList_eq,List.isEmpty_iff] at h1
    exact absurd (by simpa using congrArg List.length h1) hz
  rw [if_neg hz,xo_yes he,List.flatMap_cons,List.flatMap_nil,List.append_nil,enX_length]
  show 4 + (W0.within ((W0.num 0 1).vec t 2 1 64) 2).s.size = _
  have hs : (W0.within ((W0.num 0 1).vec t 2 1 64) 2).s.size = _ := w.size
  rw [hs]
  simp only [List.length_append,List.length_nil,beL_length,bytesOf_length]
  omega
theorem xo_len_psc {l : List S111} {b : List ByteArray} (h : okL 2 okI enI l) (hb : okL 2 okB enB b) : ((xo (decide (0 < l.length),41,(W0.within (fw wI l) 2).within (fw wB b) 2)).flatMap enX).length = (if l.length = 0 then 0 else 8 + (l.flatMap enI).length + (b.flatMap enB).length) ∧ (decide (0 < l.length) = true → ((W0.within (fw wI l) 2).within (fw wB b) 2).b = false) := by
 have w := (Wk.w0.within (wfI.fw h.1) (n := 2) (by decide) (by decide) h.2).within (wfB.fw hb.1) (n := 2) (by decide) (by decide) hb.2
 refine ⟨?_,fun _ => w.1⟩
 by_cases hl : l.length = 0
 ·rw [if_pos hl,xo_no (decide_eq_false (by omega))]
  rfl
 ·rw [if_neg hl,xo_yes (decide_eq_true (by omega)),List.flatMap_cons,List.flatMap_nil,List.append_nil,enX_length]
  show 4 + ((W0.within (fw wI l) 2).within (fw wB b) 2).s.size = _
  have hs : ((W0.within (fw wI l) 2).within (fw wB b) 2).s.size = _ := w.size
  rw [hs]
  simp only [List.length_append,List.length_nil,beL_length]
  omega
set_option maxHeartbeats 1000000 in
theorem rw1 {u : ByteArray} {o : Mv} {R : Rp} (h : bodyP ⟨u,0,0,false,false⟩ { zeroM with f0 := 1 } = (o,R)) (hc : R.c = 0) (ht : R.t = false) (ho : o.f13 = []) (hu : u.size ≤ 65532) : o.f0 = 1 ∧ Wr2 o u.size := by
 have h' : ((Rp.mk u 0 0 false false).chM { zeroM with f0 := 1 },(Rp.mk u 0 0 false false).chR { zeroM with f0 := 1 }) = (o,R) := h
 obtain ⟨e1,e2⟩ := Prod.mk.inj h'
 obtain ⟨X,hX0⟩ : ∃ X,(Rp.mk u 0 0 false false).cX { zeroM with f0 := 1 } = X := ⟨_,rfl⟩
 have eR : (Rp.mk u 0 0 false false).chR { zeroM with f0 := 1 } = ((Rp.mk u 0 0 false false).c6.outR 2).back X.2.2 := by
  unfold Rp.chR
  rw [hX0]
 have eM : (Rp.mk u 0 0 false false).chM { zeroM with f0 := 1 } = { X.2.1 with f13 := X.1 } := by
  unfold Rp.chM
  rw [hX0]
 rw [eR] at e2
 rw [eM] at e1
 have hX : X.2.2.c = 0 := by rw [← e2] at hc; exact hc
 have hXt : X.2.2.t = false := by rw [← e2] at ht; exact ht
 have hXo : X.1 = [] := by rw [← e1] at ho; exact ho
 have e3 : o = { X.2.1 with f13 := [] } := by
  rw [← e1,hXo]
 have hgen : ∀ (k : Nat) (seen : List Int) (m : Mv) (R : Rp),(exts cli pskL k seen m R).2.2.c = 0 → R.c = 0 := by
  intro k seen m R h
  by_cases hR : R.c = 0
  ·exact hR
  ·rw [exts_stop _ _ _ _ _ _ hR] at h
   exact h
 have hX2 := hX
 rw [← hX0] at hX2
 unfold Rp.cX at hX2
 have hin : ((Rp.mk u 0 0 false false).c6.inR 2).c = 0 := hgen _ _ _ _ hX2
 obtain ⟨a,b,c,d⟩ := in_back hin
 have hv := vec_back (R := (Rp.mk u 0 0 false false).c6) (n := 2) (lo := 0) (hi := 16777216) hin
 obtain ⟨a2,b2⟩ := allowed_zero (show allowed (Rp.mk u 0 0 false false).c5.c (((Rp.mk u 0 0 false false).c4.vecV 1 0 255).toList == ([0] : List UInt8)) = 0 from a)
 obtain ⟨a3,b3,c3,d3⟩ := vec_back (R := (Rp.mk u 0 0 false false).c4) a2
 obtain ⟨a4,b4,c4,d4,f4,g4,k4⟩ := (rfN 2 (by decide)).lst_back (R := (Rp.mk u 0 0 false false).h3) (n := 2) a3
 obtain ⟨r,t,hr,htz,g1,g2,g3⟩ := front_back a4 { zeroM with f0 := 1 }
 have hz1 : ((Rp.mk u 0 0 false false).c4.vecV 1 0 255).size = 1 := by
  rw [ByteArray.toList_eq,beq_iff_eq] at b2
  simpa using congrArg List.length b2
 have h4 : lstR (oneNum 2) (Rp.mk u 0 0 false false).h3 2 = (Rp.mk u 0 0 false false).c4 := rfl
 rw [h4] at d4 f4 g4
 obtain ⟨f3,hf3⟩ : ∃ f3,lstV (oneNum 2) (Rp.mk u 0 0 false false).h3 2 = f3 := ⟨_,rfl⟩
 rw [hf3] at b4 c4 d4 k4
 have hM : (Rp.mk u 0 0 false false).cM { zeroM with f0 := 1 } = chMv r t f3 ⟨#[]⟩ [] [] [] [] [] [] [] := by
  unfold Rp.cM
  rw [g1,hf3]
  rfl
 rw [g2] at d4 g4
 dsimp only at d4 g4
 have p6 : (Rp.mk u 0 0 false false).c6.p = (Rp.mk u 0 0 false false).c4.p + 2 := by
  show ((Rp.mk u 0 0 false false).c4.vecR 1 0 255).p = _
  rw [c3,hz1]
  show (Rp.mk u 0 0 false false).c4.p + 1 + 1 = _
  omega
 have s6 : (Rp.mk u 0 0 false false).c6.s = u := by
  show ((Rp.mk u 0 0 false false).c4.vecR 1 0 255).s = _
  rw [c3]
  exact g4
 obtain ⟨E,hE⟩ : ∃ E,((Rp.mk u 0 0 false false).c6.inR 2).s = E := ⟨_,rfl⟩
 rw [hE,p6,s6] at d
 have hE2 : (E.size : Int) < 256 ^ 2 := by rw [← hE]; exact hv.2.1.2.2
 have bk := exts_back (take := cli) (lastf := pskL) (good := goodC r t f3) (cost := costC) tk_cli (stepC r t f3) E.size [] ((Rp.mk u 0 0 false false).cM { zeroM with f0 := 1 }) ((Rp.mk u 0 0 false false).c6.inR 2) (by show (0 : Int) ≤ _; omega) (by
  rw [hM]
  exact ⟨⟨#[]⟩,[],[],[],[],[],[],[],rfl,⟨fun _ => rfl,fun _ => rfl,fun _ => rfl,fun _ => rfl,fun _ => rfl,fun _ => rfl,fun _ => ⟨rfl,rfl⟩,by decide,okL_nil _ _ _ (by decide),okL_nil _ _ _ (by decide),okL_nil _ _ _ (by decide),okL_nil _ _ _ (by decide),okL_nil _ _ _ (by decide),okL_nil _ _ _ (by decide),okL_nil _ _ _ (by decide),rfl⟩⟩)
 have eX : exts cli pskL E.size [] ((Rp.mk u 0 0 false false).cM { zeroM with f0 := 1 }) ((Rp.mk u 0 0 false false).c6.inR 2) = X := by
  rw [← hX0]
  unfold Rp.cX
  rw [hE]
 rw [eX] at bk
 obtain ⟨_,⟨seen,hgood⟩,k1,k2⟩ := bk hX hXt hXo
 obtain ⟨x4,x5,x6,x7,x8,x9,x10,x11,hm,g⟩ := hgood
 rw [hm] at e3 k1
 have e4 : o = chMv r t f3 x4 x5 x6 x7 x8 x9 x10 x11 := e3
 subst e4
 rw [hE] at k2
 rw [hM] at k1
 obtain ⟨q0,w0⟩ := xo_len_nam g.o4
 obtain ⟨q1,w1⟩ := xo_len_lst (wfN 2 (by decide) (by decide)) (n := 2) (by decide) (by decide) g.o6 10
 obtain ⟨q2,w2⟩ := xo_len_lst (wfN 2 (by decide) (by decide)) (n := 2) (by decide) (by decide) g.o7 13
 obtain ⟨q3,w3⟩ := xo_len_lst (wfN 2 (by decide) (by decide)) (n := 1) (by decide) (by decide) g.o5 43
 obtain ⟨q4,w4⟩ := xo_len_lst (wfN 1 (by decide) (by decide)) (n := 1) (by decide) (by decide) g.o8 45
 obtain ⟨q5,w5⟩ := xo_len_lst wfS (n := 2) (by decide) (by decide) g.o9 51
 obtain ⟨q6,w6⟩ := xo_len_psc g.o10 g.o11
 obtain ⟨L,hL⟩ : ∃ L,chL (chMv r t f3 x4 x5 x6 x7 x8 x9 x10 x11) = L := ⟨_,rfl⟩
 have hLL : L = [(!x4.toList.isEmpty,0,W0.within ((W0.num 0 1).vec x4 2 1 64) 2),(decide (0 < x6.length),10,W0.within (fw (wN 2) x6) 2),(decide (0 < x7.length),13,W0.within (fw (wN 2) x7) 2),(decide (0 < x5.length),43,W0.within (fw (wN 2) x5) 1),(decide (0 < x8.length),45,W0.within (fw (wN 1) x8) 1),(decide (0 < x9.length),51,W0.within (fw wS x9) 2),(decide (0 < x10.length),41,(W0.within (fw wI x10) 2).within (fw wB x11) 2)] := by
  rw [← hL]
  rfl
 have hxs : xsOf L = xo (!x4.toList.isEmpty,0,W0.within ((W0.num 0 1).vec x4 2 1 64) 2) ++ (xo (decide (0 < x6.length),10,W0.within (fw (wN 2) x6) 2) ++ (xo (decide (0 < x7.length),13,W0.within (fw (wN 2) x7) 2) ++ (xo (decide (0 < x5.length),43,W0.within (fw (wN 2) x5) 1) ++ (xo (decide (0 < x8.length),45,W0.within (fw (wN 1) x8) 1) ++ (xo (decide (0 < x9.length),51,W0.within (fw wS x9) 2) ++ xo (decide (0 < x10.length),41,(W0.within (fw wI x10) 2).within (fw wB x11) 2)))))) := by
  rw [hLL,xsOf_cons,xsOf_cons,xsOf_cons,xsOf_cons,xsOf_cons,xsOf_cons,xsOf_cons,xsOf_nil,List.append_nil]
 have hlen : ((xsOf L).flatMap enX).length = costC (chMv r t f3 x4 x5 x6 x7 x8 x9 x10 x11) := by
  rw [hxs,List.flatMap_append,List.flatMap_append,List.flatMap_append,List.flatMap_append,List.flatMap_append,List.flatMap_append,List.length_append,List.length_append,List.length_append,List.length_append,List.length_append,List.length_append]
  have q1' : ((xo (decide (0 < x6.length),10,W0.within (fw (wN 2) x6) 2)).flatMap enX).length = _ := q1
  have q2' : ((xo (decide (0 < x7.length),13,W0.within (fw (wN 2) x7) 2)).flatMap enX).length = _ := q2
  have q3' : ((xo (decide (0 < x5.length),43,W0.within (fw (wN 2) x5) 1)).flatMap enX).length = _ := q3
  have q4' : ((xo (decide (0 < x8.length),45,W0.within (fw (wN 1) x8) 1)).flatMap enX).length = _ := q4
  have q5' : ((xo (decide (0 < x9.length),51,W0.within (fw wS x9) 2)).flatMap enX).length = _ := q5
  rw [q0,q1',q2',q3',q4',q5',q6]
  show _ = (if x4.size = 0 then 0 else 9 + x4.size) + lc 2 (beL 2) x6 + lc 2 (beL 2) x7 + lc 1 (beL 2) x5 + lc 1 (beL 1) x8 + lc 2 enS x9 + (if x10.length = 0 then 0 else 8 + (x10.flatMap enI).length + (x11.flatMap enB).length)
  omega
 have hc0 : costC (chMv r t f3 ⟨#[]⟩ [] [] [] [] [] [] []) = 0 := rfl
 rw [hc0] at k1
 have k1' : (costC (chMv r t f3 x4 x5 x6 x7 x8 x9 x10 x11) : Int) + 0 ≤ ((0 : Nat) : Int) + X.2.2.p := k1
 have hcost : ((xsOf L).flatMap enX).length ≤ E.size := by rw [hlen]; omega
 have hflags : ∀ e ∈ L,e.1 = true → e.2.2.b = false := by
  rw [hLL]
  intro e he hf
  simp only [List.mem_cons,List.not_mem_nil,or_false] at he
  rcases he with rfl | rfl | rfl | rfl | rfl | rfl | rfl
  ·exact w0 hf
  ·exact w1 hf
  ·exact w2 hf
  ·exact w3 hf
  ·exact w4 hf
  ·exact w5 hf
  ·exact w6 hf
 have hdup : dupB (kindsOf (xsOf L)) = false := by
  rw [hxs,kindsOf_app,kindsOf_app,kindsOf_app,kindsOf_app,kindsOf_app,kindsOf_app,kindsOf_xo,kindsOf_xo,kindsOf_xo,kindsOf_xo,kindsOf_xo,kindsOf_xo,kindsOf_xo]
  generalize (!x4.toList.isEmpty) = b0
  generalize decide (0 < x6.length) = b1
  generalize decide (0 < x7.length) = b2
  generalize decide (0 < x5.length) = b3
  generalize decide (0 < x8.length) = b4
  generalize decide (0 < x9.length) = b5
  generalize decide (0 < x10.length) = b6
  cases b0 <;> cases b1 <;> cases b2 <;> cases b3 <;> cases b4 <;> cases b5 <;> cases b6 <;> rfl
 have hkinds : ∀ x ∈ xsOf L,0 ≤ x.f0 ∧ x.f0 ≤ 65535 := by
  rw [hxs]
  intro x hx
  rcases List.mem_append.1 hx with h | hx
  ·rw [xo_kind x h]; decide
  rcases List.mem_append.1 hx with h | hx
  ·rw [xo_kind x h]; decide
  rcases List.mem_append.1 hx with h | hx
  ·rw [xo_kind x h]; decide
  rcases List.mem_append.1 hx with h | hx
  ·rw [xo_kind x h]; decide
  rcases List.mem_append.1 hx with h | hx
  ·rw [xo_kind x h]; decide
  rcases List.mem_append.1 hx with h | hx
  ·rw [xo_kind x h]; decide
  ·rw [xo_kind x hx]; decide
 have o1 : chOk (chMv r t f3 x4 x5 x6 x7 x8 x9 x10 x11) = true := by
  show (decide (0 < f3.length) && ((x11.length : Int) == (x10.length : Int))) = true
  rw [nil_of b4,g.len,beq_self_eq_true]
  rfl
 have wT : Wk (chT W0 (chMv r t f3 x4 x5 x6 x7 x8 x9 x10 x11)) (((beL 2 771 ++ (bytesOf r ++ (beL 1 t.size ++ bytesOf t))) ++ (beL 2 (f3.flatMap (beL 2)).length ++ f3.flatMap (beL 2))) ++ (beL 1 (⟨#[0]⟩ : ByteArray).size ++ bytesOf (⟨#[0]⟩ : ByteArray))) :=
  (((front_wk hr htz).need o1).within ((wfN 2 (by decide) (by decide)).fw c4) (n := 2) (by decide) (by decide) k4).vec (v := ⟨#[0]⟩) (n := 1) (lo := 1) (hi := 1) (by decide) (by decide) (by decide) (by decide) (by decide)
 have hEs : (encs (xsOf L)).size = ((xsOf L).flatMap enX).length := by rw [← encs_bytes,bytesOf_length]
 have hE65 : ((xsOf L).flatMap enX).length ≤ 65535 := by omega
 have hi := (ends_iff (chT W0 (chMv r t f3 x4 x5 x6 x7 x8 x9 x10 x11)) L).2 ⟨wT.1,hflags,okE_of hkinds hE65,hdup,by omega⟩
 have eW : bodyW (chMv r t f3 x4 x5 x6 x7 x8 x9 x10 x11) = (xAll (chT W0 (chMv r t f3 x4 x5 x6 x7 x8 x9 x10 x11)) L).1.ends (xAll (chT W0 (chMv r t f3 x4 x5 x6 x7 x8 x9 x10 x11)) L).2 := by
  unfold bodyW
  rw [if_pos (by rfl)]
  unfold chP
  rw [hL]
 refine ⟨rfl,(by show ({ zeroM with f0 := 1 } : Mv).zero = true; decide +kernel),?_,?_⟩
 ·rw [eW]
  exact hi
 ·rw [eW]
  have hb := ends_bytes hi
  have hsz := congrArg List.length hb
  rw [bytesOf_length,wT.2] at hsz
  simp only [List.length_append,beL_length,bytesOf_length] at hsz
  have hz0 : (⟨#[0]⟩ : ByteArray).size = 1 := rfl
  omega
theorem f12_zero {o : Mv} (h2 : o.f0 ≠ 2) (hz : o.unused.zero = true) : o.f12 = 0 := by
 unfold Mv.unused at hz
 rw [if_neg h2] at hz
 have hx : ∀ x : Mv,x.zero = true → x.f12 = 0 := by
  intro x hx
  rw [zero_eq hx]
  rfl
 split at hz
 ·(have h := hx _ hz; exact h)
 ·split at hz
  ·(have h := hx _ hz; exact h)
  ·split at hz
   ·(have h := hx _ hz; exact h)
   ·split at hz
    ·(have h := hx _ hz; exact h)
    ·split at hz
     ·(have h := hx _ hz; exact h)
     ·split at hz
      ·(have h := hx _ hz; exact h)
      ·(have h := hx _ hz; exact h)
theorem get_put_back {s : ByteArray} (h : (getM s).2 = 0) (ho : (getM s).1.f13 = []) : (putM (getM s).1).2 = 0 ∧ (putM (getM s).1).1.size ≤ s.size ∧ (-9223372036854775808 ≤ (getM s).1.f12 ∧ (getM s).1.f12 ≤ 9223372036854775807) := by
 obtain ⟨u,k,R,hk,hz,hu,hb,hc,ht⟩ := get_zero h
 obtain ⟨o,hoo⟩ : ∃ o,(getM s).1 = o := ⟨_,rfl⟩
 rw [hoo] at hb ho ⊢
 have key : o.f0 = k ∧ Wr2 o u.size ∧ (-9223372036854775808 ≤ o.f12 ∧ o.f12 ≤ 9223372036854775807) := by
  have f12 : o.f0 = k ∧ Wr2 o u.size → k ≠ 2 → o.f0 = k ∧ Wr2 o u.size ∧ (-9223372036854775808 ≤ o.f12 ∧ o.f12 ≤ 9223372036854775807) := by
   intro h h2
   have := f12_zero (o := o) (by rw [h.1]; exact h2) h.2.1
   exact ⟨h.1,h.2,by omega,by omega⟩
  rcases knownB_of hk with e | e | e | e | e | e | e | e <;> subst e
  ·exact f12 (rw1 hb hc ht ho hu) (by decide)
  ·obtain ⟨a,b,c,d⟩ := rw2 hb hc ht ho hu
   exact ⟨a,b,by omega,by omega⟩
  ·exact f12 (rw4 hb hc) (by decide)
  ·exact f12 (rw8 hb hc ho) (by decide)
  ·exact f12 (rw11 hb hc) (by decide)
  ·exact f12 (rw15 hb hc) (by decide)
  ·exact f12 (rw20 hb hc) (by decide)
  ·exact f12 (rw24 hb hc) (by decide)
 obtain ⟨k0,⟨w1,w2,w3⟩,k2⟩ := key
 have e : putM o = (framed o.f0 (bodyW o).s,0) := by
  unfold putM
  rw [if_neg (by rw [k0,hk]; decide),if_neg]
  rw [not_or,not_or]
  exact ⟨by rw [w2]; decide,by rw [w1]; decide,by omega⟩
 rw [e]
 refine ⟨rfl,?_,k2⟩
 show (framed o.f0 (bodyW o).s).size ≤ s.size
 rw [framed_eq,framedV_size]
 omega
end Go.Proofs.Ytlkebjkpmiehcaa.Ms
end
section
namespace Go.Proofs.Ytlkebjkpmiehcaa.Ms
open Go.RowKit Go.Proofs.YtlkebjkpmiehcaaW.PrintWords Go.Proofs.YtlkebjkpmiehcaaW.PrintLast Go.Proofs.YtlkebjkpmiehcaaW.PrintMore Go.Proofs.Ytlkebjkpmiehcaa.X Go.Proofs.Ytlkebjkpmiehcaa.Iv
set_option linter.unusedVariables false
set_option linter.unusedSimpArgs false
open Go.Proofs.Ytlkebjkpmiehcaa.Pure (beL beL_length bytesOf_app okE encE encs putL kindsOf dupB)
set_option maxRecDepth 100000 in
set_option maxHeartbeats 8000000 in
theorem put_not (m : Mv) (h : Hd) (w : World) (hk : msg_known.f m.f0 = some false) :
  Calls Try.prog 23 #[.agg (cells m h)] w fun ex w' => ex = .returned (.tuple #[.string ⟨#[]⟩,.int .i64 1701]) ∧ Below w.heap.size w w' := by
 have HK := Aq.mk hk
 clear hk
 go_enter Try.func23,Try.ntmps23
 go_wp2_with (first
  | ((with_reducible refine gate_dst (N := 1) rfl ?_); refine box49 rfl rfl rfl ?_; intro gm e1 w1 h1 b1; have HM := Aq.mk h1; have HB := Aq.mk b1; clear h1 b1 e1)
  | ((with_reducible refine gate_dst (N := 6) rfl ?_); refine ld (v := .int .i64 m.f0) rfl rfl rfl HM.out Try.underlying3 rfl rfl ?_)
  | (go_at_call 43; (with_reducible refine (msg_known.calls m.f0 false _ HK.out).mono ?_); rintro e2 w2 ⟨rfl,d2⟩; have HB2 := Aq.mk (below_step HB.out d2.below); clear d2))
 go_ret2
 exact ⟨rfl,HB2.out⟩
theorem unused_le (m : Mv) : m.unused.texts ≤ m.texts ∧ m.unused.lists ≤ m.lists := by
 unfold Mv.unused
 repeat' split
 all_goals
  unfold Mv.texts Mv.lists
  constructor <;> simp <;> omega
structure SB (n : Nat) (m : Mv) : Prop where
 s1 : m.f1.size ≤ n
 s2 : m.f2.size ≤ n
 l3 : m.f3.length ≤ n
 s4 : m.f4.size ≤ n
 l5 : m.f5.length ≤ n
 l6 : m.f6.length ≤ n
 l7 : m.f7.length ≤ n
 l8 : m.f8.length ≤ n
 l9 : m.f9.length ≤ n
 e9 : ∀ a,a ∈ m.f9 → a.f1.size ≤ n
 l10 : m.f10.length ≤ n
 e10 : ∀ a,a ∈ m.f10 → a.f0.size ≤ n
 l11 : m.f11.length ≤ n
 e11 : ∀ a,a ∈ m.f11 → a.size ≤ n
 l13 : m.f13.length ≤ n
 l14 : m.f14.length ≤ n
 e14 : ∀ a,a ∈ m.f14 → a.size ≤ n
 s16 : m.f16.size ≤ n
 s19 : m.f19.size ≤ n
theorem SB.mb {n : Nat} {m : Mv} (h : SB n m) (hn : n ≤ 2097152) : MB m := by
 have h1 := h.s1; have h2 := h.s2; have h3 := h.l3; have h4 := h.s4; have h5 := h.l5; have h6 := h.l6; have h7 := h.l7; have h8 := h.l8; have h9 := h.l9; have h10 := h.l10; have h11 := h.l11; have h14 := h.l14; have h16 := h.s16; have h19 := h.s19
 exact ⟨by omega,by omega,by omega,by omega,by omega,by omega,by omega,by omega,by omega,fun a ha => Nat.le_trans (h.e9 a ha) hn,by omega,fun a ha => Nat.le_trans (h.e10 a ha) hn,by omega,fun a ha => Nat.le_trans (h.e11 a ha) hn,by omega,fun a ha => Nat.le_trans (h.e14 a ha) hn,by omega,by omega⟩
theorem SB.ml {n : Nat} {m : Mv} (h : SB n m) (hn : n ≤ 2097152) : ML m := by
 have h3 := h.l3; have h5 := h.l5; have h6 := h.l6; have h7 := h.l7; have h8 := h.l8; have h9 := h.l9; have h10 := h.l10; have h11 := h.l11; have h13 := h.l13; have h14 := h.l14
 exact ⟨by omega,by omega,by omega,by omega,by omega,by omega,by omega,by omega,by omega,by omega⟩
theorem put_any {n : Nat} (m : Mv) (hd : Hd) (w : World) (hr : Reads w m hd) (hm : SB n m) (hn : n ≤ 2097152) :
  Calls Try.prog 23 #[.agg (cells m hd)] w fun ex w' => ex = .returned (.tuple #[.string (putM m).1,.int .i64 (putM m).2]) ∧ Below w.heap.size w w' := by
 cases hk : knownB m.f0 with
 | false =>
  have e : putM m = (⟨#[]⟩,1701) := by
   unfold putM
   rw [if_pos hk]
  rw [e]
  exact put_not m hd w (by rw [known_f,hk])
 | true =>
  have hu := unused_le m
  have ht : m.texts ≤ 9223372036854775807 := by
   have h1 := hm.s1; have h2 := hm.s2; have h4 := hm.s4; have h16 := hm.s16; have h19 := hm.s19
   unfold Mv.texts
   omega
  have hl : m.lists ≤ 9223372036854775807 := by
   have h3 := hm.l3; have h5 := hm.l5; have h6 := hm.l6; have h7 := hm.l7; have h8 := hm.l8; have h9 := hm.l9; have h10 := hm.l10; have h11 := hm.l11; have h13 := hm.l13; have h14 := hm.l14
   unfold Mv.lists
   omega
  exact put_c m hd w hr (hm.mb hn) hk (Nat.le_trans hu.1 ht) (Nat.le_trans hu.2 hl)
theorem lst_short {α : Type} {f : Wp → α → Wp} {ok : α → Prop} {enc : α → List Int} {one : Rp → α × Rp} (wf : WF f ok enc) (rf : RdL one ok enc) {W : Wp} {n : Nat} (h0 : 1 ≤ n) (h1 : n ≤ 2) {l : List α} (hb : decide (0 < l.length) = true → (W.within (fw f l) n).b = false) : (∀ x ∈ l,ok x) ∧ l.length ≤ 65536 := by
 by_cases h : l = []
 ·subst h
  exact ⟨(fun x h => by cases h),Nat.zero_le _⟩
 ·obtain ⟨_,a1,a2⟩ := (within_f_iff h0 (by omega)).1 (hb (nil_of h))
  have a := (wf.fw_iff l).1 a1
  have wk := wf.fw a
  have := rf.lens l a
  rw [wk.size] at a2
  have hp : (256 : Int) ^ n ≤ 65536 := by
   have : n = 1 ∨ n = 2 := by omega
   rcases this with rfl | rfl <;> decide
  exact ⟨a,by omega⟩
theorem sb_small {m m0 : Mv} (h : m = m0) (hs : SB 65536 m0) : SB 65536 m := h ▸ hs
theorem sb8 {m : Mv} (hk : m.f0 = 8) (hz : m.unused.zero = true) : SB 65536 m := by
 have hm : m.unused = m := by
  unfold Mv.unused
  rw [if_neg (by omega),if_neg (by omega),if_neg (by omega),if_neg (by omega),if_neg (by omega),if_neg (by omega),if_neg (by omega)]
 rw [hm] at hz
 rw [zero_eq hz]
 constructor <;> first | exact Nat.zero_le _ | (intro a h; cases h)
theorem sb24 {m : Mv} (hk : m.f0 = 24) (hz : m.unused.zero = true) : SB 65536 m := by
 have hm : m.unused = { m with f20 := 0 } := by
  unfold Mv.unused
  rw [if_neg (by omega),if_neg (by omega),if_neg (by omega),if_neg (by omega),if_neg (by omega),if_neg (by omega),if_pos hk]
 rw [hm] at hz
 have hme := congrArg (fun x : Mv => { x with f20 := m.f20 }) (zero_eq hz)
 dsimp only at hme
 have hme' : m = { zeroM with f0 := m.f0,f20 := m.f20 } := by
  obtain ⟨⟩ := m
  exact hme
 refine sb_small hme' ?_
 constructor <;> first | exact Nat.zero_le _ | (intro a h; cases h)
theorem sb15 {m : Mv} (hk : m.f0 = 15) (hz : m.unused.zero = true) (hb : (bodyW m).b = false) : SB 65536 m := by
 rw [bodyW_15 hk] at hb
 have i2 : ((W0.num m.f15 2).vec m.f16 2 0 65536).b = false ↔ _ := vec_f_iff (n := 2) (by decide) (by decide)
 have hb2 := i2.1 hb
 have hm : m.unused = { m with f15 := 0,f16 := ByteArray.empty } := by
  unfold Mv.unused
  rw [if_neg (by omega),if_neg (by omega),if_neg (by omega),if_neg (by omega),if_neg (by omega),if_pos hk]
 rw [hm] at hz
 have hme := congrArg (fun x : Mv => { x with f15 := m.f15,f16 := m.f16 }) (zero_eq hz)
 dsimp only at hme
 have hme' : m = { zeroM with f0 := m.f0,f15 := m.f15,f16 := m.f16 } := by
  obtain ⟨⟩ := m
  exact hme
 refine sb_small hme' ?_
 constructor <;> first | exact Nat.zero_le _ | (intro a h; cases h) | (show m.f16.size ≤ 65536; omega)
theorem sb20 {m : Mv} (hk : m.f0 = 20) (hz : m.unused.zero = true) (hb : (bodyW m).b = false) : SB 65536 m := by
 rw [bodyW_20 hk] at hb
 have hb' : (W0.need (fin32 (m.f16.size : Int))).b = false := hb
 rw [need_f_iff] at hb'
 have hf := hb'.2
 unfold fin32 at hf
 rw [Bool.or_eq_true,beq_iff_eq,beq_iff_eq] at hf
 have hm : m.unused = { m with f16 := ByteArray.empty } := by
  unfold Mv.unused
  rw [if_neg (by omega),if_neg (by omega),if_neg (by omega),if_neg (by omega),if_pos hk]
 rw [hm] at hz
 have hme := congrArg (fun x : Mv => { x with f16 := m.f16 }) (zero_eq hz)
 dsimp only at hme
 have hme' : m = { zeroM with f0 := m.f0,f16 := m.f16 } := by
  obtain ⟨⟩ := m
  exact hme
 refine sb_small hme' ?_
 constructor <;> first | exact Nat.zero_le _ | (intro a h; cases h) | (show m.f16.size ≤ 65536; omega)
theorem sb4 {m : Mv} (hk : m.f0 = 4) (hz : m.unused.zero = true) (hb : (bodyW m).b = false) : SB 65536 m := by
 rw [bodyW_4 hk] at hb
 have i5 : (((((W0.num m.f17 4).num m.f18 4).vec m.f19 1 0 255).vec m.f16 2 1 65536).vec ⟨#[]⟩ 2 0 0).b = false ↔ _ := vec_f_iff (n := 2) (by decide) (by decide)
 have i4 : ((((W0.num m.f17 4).num m.f18 4).vec m.f19 1 0 255).vec m.f16 2 1 65536).b = false ↔ _ := vec_f_iff (n := 2) (by decide) (by decide)
 have i3 : (((W0.num m.f17 4).num m.f18 4).vec m.f19 1 0 255).b = false ↔ _ := vec_f_iff (n := 1) (by decide) (by decide)
 rw [i5,i4,i3] at hb
 obtain ⟨⟨⟨_,c1,c2,c3⟩,d1,d2,d3⟩,_⟩ := hb
 have hm : m.unused = { m with f17 := 0,f18 := 0,f19 := ByteArray.empty,f16 := ByteArray.empty } := by
  unfold Mv.unused
  rw [if_neg (by omega),if_neg (by omega),if_neg (by omega),if_pos hk]
 rw [hm] at hz
 have hme := congrArg (fun x : Mv => { x with f17 := m.f17,f18 := m.f18,f19 := m.f19,f16 := m.f16 }) (zero_eq hz)
 dsimp only at hme
 have hme' : m = { zeroM with f0 := m.f0,f17 := m.f17,f18 := m.f18,f19 := m.f19,f16 := m.f16 } := by
  obtain ⟨⟩ := m
  exact hme
 refine sb_small hme' ?_
 constructor <;> first | exact Nat.zero_le _ | (intro a h; cases h) | (show m.f16.size ≤ 65536; omega) | (show m.f19.size ≤ 65536; omega)
theorem sb11 {m : Mv} (hk : m.f0 = 11) (hz : m.unused.zero = true) (hb : (bodyW m).b = false) (hs : (bodyW m).s.size ≤ 65532) : SB 65536 m := by
 rw [bodyW_11 hk] at hb hs
 have i2 : ((W0.vec ⟨#[]⟩ 1 0 0).within (fw wC m.f14) 3).b = false ↔ _ := within_f_iff (n := 3) (by decide) (by decide)
 rw [i2,wfC.fw_iff] at hb
 obtain ⟨_,a1,a2⟩ := hb
 have wc := wfC.fw a1
 rw [wc.size] at a2
 have w := (Wk.w0.vec (n := 1) (v := ⟨#[]⟩) (lo := 0) (hi := 0) (by decide) (by decide) (by decide) (by decide) (by decide)).within (n := 3) (u := m.f14.flatMap enC) wc (by decide) (by decide) a2
 have hz2 : ((W0.vec ⟨#[]⟩ 1 0 0).within (fw wC m.f14) 3).s.size = _ := w.size
 rw [hz2] at hs
 simp only [List.length_append] at hs
 have hl := rfC.lens m.f14 a1
 have hmem : ∀ (l : List ByteArray) (a : ByteArray),a ∈ l → a.size ≤ (l.flatMap enC).length := by
  intro l
  induction l with
  | nil => intro a h; cases h
  | cons x r ih =>
   intro a h
   rw [List.flatMap_cons,List.length_append,enC_length]
   rcases List.mem_cons.1 h with rfl | h
   ·omega
   ·have := ih a h; omega
 have hm : m.unused = { m with f14 := [] } := by
  unfold Mv.unused
  rw [if_neg (by omega),if_neg (by omega),if_pos hk]
 rw [hm] at hz
 have hme := congrArg (fun x : Mv => { x with f14 := m.f14 }) (zero_eq hz)
 dsimp only at hme
 have hme' : m = { zeroM with f0 := m.f0,f14 := m.f14 } := by
  obtain ⟨⟩ := m
  exact hme
 refine sb_small hme' ?_
 have h14 : m.f14.length ≤ 65536 := by omega
 have he14 : ∀ a,a ∈ m.f14 → a.size ≤ 65536 := fun a ha => by have := hmem m.f14 a ha; omega
 constructor <;> first | exact Nat.zero_le _ | (intro a h; cases h; done) | exact h14 | exact he14
theorem sb2 {m : Mv} (hk : m.f0 = 2) (hz : m.unused.zero = true) (hb : (bodyW m).b = false) : SB 65536 m := by
 have eW : bodyW m = shP W0 m := by
  unfold bodyW
  rw [if_neg (by omega),if_pos hk]
 rw [eW] at hb
 have hsw : (shW W0 m).b = false := by
  unfold shP at hb
  cases h : (shW W0 m).b with
  | false => rfl
  | true => rw [if_pos h,h] at hb; cases hb
 have eP : shP W0 m = (xAll (shT W0 m) (shL m)).1.ends (xAll (shT W0 m) (shL m)).2 := by
  unfold shP
  rw [if_neg (by rw [hsw]; decide)]
 rw [eP] at hb
 have hsw' := hsw
 unfold shW at hsw'
 rw [need_f_iff,need_f_iff,front_iff] at hsw'
 obtain ⟨⟨⟨z1,z2⟩,o1⟩,o2⟩ := hsw'
 obtain ⟨hT,hL,hok,hdup,hsz⟩ := (ends_iff (shT W0 m) (shL m)).1 hb
 unfold shOk1 at o1
 rw [Bool.and_eq_true,beq_iff_eq,decide_eq_true_iff] at o1
 have h69 : m.f6.length ≤ 1 ∧ m.f9.length ≤ 1 := by
  unfold shOk2 at o2
  rw [Bool.or_eq_true,Bool.and_eq_true,Bool.and_eq_true,Bool.and_eq_true,Bool.and_eq_true,Bool.and_eq_true,beq_iff_eq,beq_iff_eq,beq_iff_eq,decide_eq_true_iff,decide_eq_true_iff,Bool.not_eq_true'] at o2
  rcases o2 with ⟨⟨⟨p1,p2⟩,p3⟩,p4⟩ | ⟨⟨p1,p2⟩,p3⟩ <;> omega
 have h9 : ∀ a,a ∈ m.f9 → a.f1.size ≤ 65536 := by
  intro a ha
  rcases len_one h69.2 with h | ⟨x,h⟩
  ·rw [h] at ha; cases ha
  ·have hw := hL (decide (0 < m.f9.length),51,wS W0 (rd_T66 m.f9 0)) (List.mem_cons_of_mem _ (List.mem_cons_of_mem _ List.mem_cons_self)) (by rw [h]; rfl)
   rw [h] at hw ha
   have ho := ((wfS.iff W0 x).1 hw).2
   rw [List.mem_singleton] at ha
   rw [ha]
   have := ho.2.2
   omega
 have hm : m.unused = { m with f12 := 0,f1 := ByteArray.empty,f2 := ByteArray.empty,f3 := [],f5 := [],f6 := [],f9 := [] } := by
  unfold Mv.unused
  rw [if_neg (by omega),if_pos hk]
 rw [hm] at hz
 have hme := congrArg (fun x : Mv => { x with f12 := m.f12,f1 := m.f1,f2 := m.f2,f3 := m.f3,f5 := m.f5,f6 := m.f6,f9 := m.f9 }) (zero_eq hz)
 dsimp only at hme
 have hme' : m = { zeroM with f0 := m.f0,f12 := m.f12,f1 := m.f1,f2 := m.f2,f3 := m.f3,f5 := m.f5,f6 := m.f6,f9 := m.f9 } := by
  obtain ⟨⟩ := m
  exact hme
 refine sb_small hme' ?_
 constructor <;> first | exact Nat.zero_le _ | (intro a h; cases h; done) | (show m.f1.size ≤ 65536; omega) | (show m.f2.size ≤ 65536; omega) | (show m.f3.length ≤ 65536; omega) | (show m.f5.length ≤ 65536; omega) | (show m.f6.length ≤ 65536; omega) | (show m.f9.length ≤ 65536; omega) | exact h9
theorem sb1 {m : Mv} (hk : m.f0 = 1) (hz : m.unused.zero = true) (hb : (bodyW m).b = false) : SB 65536 m := by
 have eW : bodyW m = chP W0 m := by
  unfold bodyW
  rw [if_pos hk]
 have eP : chP W0 m = (xAll (chT W0 m) (chL m)).1.ends (xAll (chT W0 m) (chL m)).2 := rfl
 rw [eW,eP] at hb
 obtain ⟨hT,hL,hok,hdup,hsz⟩ := (ends_iff (chT W0 m) (chL m)).1 hb
 have i1 : ((((W0.hello m.f1 m.f2).need (chOk m)).within (fw (wN 2) m.f3) 2).vec ⟨#[0]⟩ 1 1 1).b = false ↔ _ := vec_f_iff (n := 1) (by decide) (by decide)
 have hT' : ((((W0.hello m.f1 m.f2).need (chOk m)).within (fw (wN 2) m.f3) 2).vec ⟨#[0]⟩ 1 1 1).b = false := hT
 rw [i1] at hT'
 have h2 : (((W0.hello m.f1 m.f2).need (chOk m)).within (fw (wN 2) m.f3) ((2 : Nat) : Int)).b = false := hT'.1
 have i3 := ((within_f_iff (n := 2) (by decide) (by decide)).1 h2).1
 rw [need_f_iff,front_iff] at i3
 obtain ⟨⟨z1,z2⟩,o1⟩ := i3
 unfold chOk at o1
 rw [Bool.and_eq_true,beq_iff_eq,decide_eq_true_iff] at o1
 have hL' : ∀ (i : Nat) (e : Bool × Int × Wp),(chL m)[i]? = some e → e.1 = true → e.2.2.b = false := fun i e h => hL e (List.mem_of_getElem? h)
 have l3 := (lst_short (wfN 2 (by decide) (by decide)) (rfN 2 (by decide)) (n := 2) (by decide) (by decide) (l := m.f3) (fun _ => h2)).2
 have l6 := (lst_short (wfN 2 (by decide) (by decide)) (rfN 2 (by decide)) (W := W0) (n := 2) (by decide) (by decide) (l := m.f6) (hL' 1 _ rfl)).2
 have l7 := (lst_short (wfN 2 (by decide) (by decide)) (rfN 2 (by decide)) (W := W0) (n := 2) (by decide) (by decide) (l := m.f7) (hL' 2 _ rfl)).2
 have l5 := (lst_short (wfN 2 (by decide) (by decide)) (rfN 2 (by decide)) (W := W0) (n := 1) (by decide) (by decide) (l := m.f5) (hL' 3 _ rfl)).2
 have l8 := (lst_short (wfN 1 (by decide) (by decide)) (rfN 1 (by decide)) (W := W0) (n := 1) (by decide) (by decide) (l := m.f8) (hL' 4 _ rfl)).2
 have q9 := lst_short wfS rfS (W := W0) (n := 2) (by decide) (by decide) (l := m.f9) (hL' 5 _ rfl)
 have h41 := hL' 6 _ rfl
 have q10 := lst_short wfI rfI (W := W0) (n := 2) (by decide) (by decide) (l := m.f10) (fun h => ((within_f_iff (n := 2) (by decide) (by decide)).1 (h41 h)).1)
 have hlen : m.f11.length = m.f10.length := by omega
 have q11 := lst_short wfB rfB (W := W0.within (fw wI m.f10) 2) (n := 2) (by decide) (by decide) (l := m.f11) (fun h => h41 (by rw [← hlen]; exact h))
 have l9 := q9.2
 have l10 := q10.2
 have l11 := q11.2
 have e9 : ∀ a,a ∈ m.f9 → a.f1.size ≤ 65536 := fun a ha => by have := (q9.1 a ha).2.2; omega
 have e10 : ∀ a,a ∈ m.f10 → a.f0.size ≤ 65536 := fun a ha => by have := (q10.1 a ha).1.2; omega
 have e11 : ∀ a,a ∈ m.f11 → a.size ≤ 65536 := fun a ha => by have := (q11.1 a ha).2; omega
 have s4 : m.f4.size ≤ 65536 := by
  have h0 := hL' 0 _ rfl
  by_cases hz4 : m.f4.size = 0
  ·omega
  ·have he : (!m.f4.toList.isEmpty) = true := by
    cases h1 : m.f4.toList.isEmpty with
    | false => rfl
    | true =>
     rw [ByteArray.toList_eq,List.isEmpty_iff] at h1
     exact absurd (by simpa using congrArg List.length h1) hz4
   have hw := h0 he
   have j1 : (W0.within ((W0.num 0 1).vec m.f4 2 1 64) 2).b = false ↔ _ := within_f_iff (n := 2) (by decide) (by decide)
   have j2 : ((W0.num 0 1).vec m.f4 2 1 64).b = false ↔ _ := vec_f_iff (n := 2) (by decide) (by decide)
   have hx := (j2.1 (j1.1 hw).2.1).2.2.2
   omega
 have hm : m.unused = { m with f4 := ByteArray.empty,f7 := [],f8 := [],f10 := [],f11 := [],f1 := ByteArray.empty,f2 := ByteArray.empty,f3 := [],f5 := [],f6 := [],f9 := [] } := by
  unfold Mv.unused
  rw [if_pos hk]
 rw [hm] at hz
 have hme := congrArg (fun x : Mv => { x with f4 := m.f4,f7 := m.f7,f8 := m.f8,f10 := m.f10,f11 := m.f11,f1 := m.f1,f2 := m.f2,f3 := m.f3,f5 := m.f5,f6 := m.f6,f9 := m.f9 }) (zero_eq hz)
 dsimp only at hme
 have hme' : m = { zeroM with f0 := m.f0,f4 := m.f4,f7 := m.f7,f8 := m.f8,f10 := m.f10,f11 := m.f11,f1 := m.f1,f2 := m.f2,f3 := m.f3,f5 := m.f5,f6 := m.f6,f9 := m.f9 } := by
  obtain ⟨⟩ := m
  exact hme
 refine sb_small hme' ?_
 constructor <;> first | exact Nat.zero_le _ | (intro a h; cases h; done) | exact l3 | exact l5 | exact l6 | exact l7 | exact l8 | exact l9 | exact l10 | exact l11 | exact e9 | exact e10 | exact e11 | exact s4 | (show m.f1.size ≤ 65536; omega) | (show m.f2.size ≤ 65536; omega)
theorem sb_all {m : Mv} (h : (putM m).2 = 0) : SB 65536 m := by
 obtain ⟨hk,hb,hz,hs,_⟩ := putM_zero h
 rcases knownB_of hk with e | e | e | e | e | e | e | e
 ·exact sb1 e hz hb
 ·exact sb2 e hz hb
 ·exact sb4 e hz hb
 ·exact sb8 e hz
 ·exact sb11 e hz hb hs
 ·exact sb15 e hz hb
 ·exact sb20 e hz hb
 ·exact sb24 e hz
end Go.Proofs.Ytlkebjkpmiehcaa.Ms
end
section
namespace Go.Proofs.Ytlkebjkpmiehcaa.Ms
open Go.RowKit Go.Proofs.YtlkebjkpmiehcaaW.PrintWords Go.Proofs.YtlkebjkpmiehcaaW.PrintLast Go.Proofs.YtlkebjkpmiehcaaW.PrintMore Go.Proofs.Ytlkebjkpmiehcaa.X Go.Proofs.Ytlkebjkpmiehcaa.Iv
set_option linter.unusedVariables false
set_option linter.unusedSimpArgs false
theorem back_cut {m : Mv} (hp : (putM m).2 = 0) {J : Nat} (h1 : 1 ≤ J) (h2 : J < (putM m).1.size) : (getM ((putM m).1.extract 0 J)).2 = 1700 := by
 obtain ⟨a,b,c,d,e⟩ := putM_zero hp
 rw [e] at h2 ⊢
 have := get_cut (k := m.f0) (u := (bodyW m).s) a d h1 h2
 rw [this]
theorem back_more {m : Mv} (hp : (putM m).2 = 0) : (getM ((putM m).1 ++ ⟨#[0]⟩)).2 = 1700 := by
 obtain ⟨a,b,c,d,e⟩ := putM_zero hp
 rw [e]
 have := get_more (k := m.f0) (u := (bodyW m).s) a d
 rw [this]
theorem back_size {m : Mv} (hp : (putM m).2 = 0) : 4 ≤ (putM m).1.size ∧ (putM m).1.size ≤ 65536 := by
 obtain ⟨a,b,c,d,e⟩ := putM_zero hp
 rw [e]
 show 4 ≤ (framedV m.f0 (bodyW m).s).size ∧ (framedV m.f0 (bodyW m).s).size ≤ 65536
 rw [framedV_size]
 omega
theorem get_q (s : ByteArray) (o : Mv) (q : Int) (w : World) (hs : s.size ≤ 140737488351232) (he : getM s = (o,q)) :
  Calls Try.prog 24 #[.string s] w fun ex w' => ∃ h,ex = .returned (.tuple #[.agg (cells o h),.int .i64 q]) ∧ Reads w' o h ∧ Below w.heap.size w w' := by
 have h := get_c s w hs
 rw [he] at h
 exact h
theorem SB.up {n k : Nat} {m : Mv} (h : SB n m) (hn : n ≤ k) : SB k m := ⟨Nat.le_trans h.s1 hn,Nat.le_trans h.s2 hn,Nat.le_trans h.l3 hn,Nat.le_trans h.s4 hn,Nat.le_trans h.l5 hn,Nat.le_trans h.l6 hn,Nat.le_trans h.l7 hn,Nat.le_trans h.l8 hn,Nat.le_trans h.l9 hn,fun a ha => Nat.le_trans (h.e9 a ha) hn,Nat.le_trans h.l10 hn,fun a ha => Nat.le_trans (h.e10 a ha) hn,Nat.le_trans h.l11 hn,fun a ha => Nat.le_trans (h.e11 a ha) hn,Nat.le_trans h.l13 hn,Nat.le_trans h.l14 hn,fun a ha => Nat.le_trans (h.e14 a ha) hn,Nat.le_trans h.s16 hn,Nat.le_trans h.s19 hn⟩
theorem s_ways (s : ByteArray) : (∃ q,getM s = (zeroM,q) ∧ q ≠ 0) ∨ (∃ o,getM s = (o,0) ∧ 0 < o.f13.length) ∨ (∃ o U,getM s = (o,0) ∧ o.f13.length = 0 ∧ (putM o).1 = U ∧ (putM o).2 = 0 ∧ U.size ≤ s.size ∧ U.size ≤ 65536 ∧ getM U = (o,0) ∧ SB 2097152 o) := by
 by_cases hq : (getM s).2 = 0
 ·by_cases h13 : (getM s).1.f13 = []
  ·obtain ⟨a,b,c⟩ := get_put_back hq h13
   exact .inr (.inr ⟨(getM s).1,_,Prod.ext rfl hq,by rw [h13]; rfl,rfl,a,b,(back_size a).2,put_get_back a c,(sb_all a).up (by decide)⟩)
  ·refine .inr (.inl ⟨(getM s).1,Prod.ext rfl hq,?_⟩)
   exact List.length_pos_iff.2 h13
 ·exact .inl ⟨(getM s).2,Prod.ext (get_fault hq) rfl,hq⟩
set_option maxRecDepth 100000 in
set_option maxHeartbeats 8000000 in
theorem back_c (m : Mv) (hm : Hd) (s : ByteArray) (cut : Int) (w : World) (hr : Reads w m hm) (sb : SB 2097152 m) (h12 : -9223372036854775808 ≤ m.f12 ∧ m.f12 ≤ 9223372036854775807) (hs : s.size ≤ 2097152) : Calls Try.prog 6 #[.agg (cells m hm),.string s,.int .i64 cut] w fun ex w' => ex = .returned (.bool true) ∧ Below w.heap.size w w' := by
 have LS := Aq.mk (show s.size ≤ 140737488351232 from by omega)
 have HB := Aq.mk (Below.refl w.heap.size w)
 have HR := Aq.mk hr
 have SBM := Aq.mk sb
 obtain ⟨T,hT⟩ : ∃ T,(putM m).1 = T := ⟨_,rfl⟩
 by_cases hp : (putM m).2 = 0
 case' pos =>
  have LT := Aq.mk (show T.size ≤ 140737488351232 from by rw [← hT]; have := (back_size hp).2; omega)
  have GT := Aq.mk (show getM T = (m,0) from by rw [← hT]; exact put_get_back hp h12)
  have hz := back_size hp
  rw [hT] at hz
  obtain ⟨d,hd⟩ : ∃ d : Int,(T.size : Int) - 1 = d := ⟨_,rfl⟩
  obtain ⟨c,hc⟩ : ∃ c,IntKind.u64.wrap cut = c := ⟨_,rfl⟩
  have hc0 : 0 ≤ c := by rw [← hc,Go.IntKind.wrap_u64]; exact Int.emod_nonneg _ (by decide)
  have hd1 : IntKind.i64.wrap d = d := IntWalk.i64_in _ (by omega)
  have hd2 : IntKind.u64.wrap d = d := by rw [Go.IntKind.wrap_u64]; exact Int.emod_eq_of_lt (by omega) (by omega)
  have hd3 : (d = 0) = False := eq_false (by omega)
  obtain ⟨j,hj⟩ : ∃ j,c.tmod d = j := ⟨_,rfl⟩
  have hj0 : 0 ≤ j := by rw [← hj,Int.tmod_eq_emod_of_nonneg hc0]; exact Int.emod_nonneg _ (by omega)
  have hj1 : j < d := by rw [← hj,Int.tmod_eq_emod_of_nonneg hc0]; exact Int.emod_lt_of_pos _ (by omega)
  have hj2 : wrap64 j = j := by unfold wrap64; omega
  obtain ⟨J,hJ⟩ : ∃ J : Nat,(J : Int) = 1 + j := ⟨(1 + j).toNat,by omega⟩
  have hj4 : wrap64 (1 + j) = (J : Int) := by rw [hJ]; unfold wrap64; omega
  have hj5 : ((J : Int) ≤ (T.size : Int)) = True := eq_true (by omega)
  have hj7 : (J ≤ T.size) = True := eq_true (by omega)
  have hj6 : (0 ≤ (J : Int)) = True := eq_true (by omega)
  have hj8 : ((J : Int) < 0) = False := eq_false (by omega)
  obtain ⟨TC,hTC⟩ : ∃ TC,T.extract 0 J = TC := ⟨_,rfl⟩
  have LTC := Aq.mk (show TC.size ≤ 140737488351232 from by rw [← hTC,ByteArray.size_extract]; omega)
  have GTC := Aq.mk (show (getM TC).2 = 1700 from by rw [← hTC,← hT]; exact back_cut hp (by omega) (by rw [hT]; omega))
  obtain ⟨TM,hTM⟩ : ∃ TM,T ++ ⟨#[0]⟩ = TM := ⟨_,rfl⟩
  have HTM := Aq.mk hTM
  have HTZ := Aq.mk (show T.size + (⟨#[0]⟩ : ByteArray).size ≤ 9223372036854775807 from by show T.size + 1 ≤ _; omega)
  have LTM := Aq.mk (show TM.size ≤ 140737488351232 from by rw [← hTM,ByteArray.size_append]; show T.size + 1 ≤ _; omega)
  have GTM := Aq.mk (show (getM TM).2 = 1700 from by rw [← hTM,← hT]; exact back_more hp)
  have MLM := Aq.mk (sb.ml (Nat.le_refl _))
  have HP := Aq.mk hp
  have HT := Aq.mk hT
  clear hr sb hp hT hz hc0 hj0 hj1 hJ hTM h12
  go_enter Try.func6,Try.ntmps6
  go_wp2_with (first
   | ((with_reducible refine gate_dst (N := 3) rfl ?_); refine box49 rfl rfl rfl ?_; intro g3 e1 w1 h1 b1; have HX3 := Aq.mk h1; have n1_ := Aq.mk (Reads.below HR.out b1); clear HR; have HR := n1_; clear n1_; have n0_ := Aq.mk (below_step HB.out b1); clear HB; have HB := n0_; clear n0_ h1 b1 e1)
   | (go_at_call 22; (with_reducible refine (awake_c _).mono ?_); rintro e_ w_ ⟨rfl,b_⟩; have n0_ := Aq.mk (below_step HB.out b_); clear HB; have HB := n0_; clear n0_; have n1_ := Aq.mk ((b_.block g3 (blk_lt HX3.out)).trans HX3.out); clear HX3; have HX3 := n1_; clear n1_; have n1_ := Aq.mk (Reads.below HR.out b_); clear HR; have HR := n1_; clear n1_; clear b_)
   | ((with_reducible refine gate_dst (N := 24) rfl ?_); (try (refine gate_guard (by rfl) ?_; dsimp only)); refine wpList_load_row rfl 49 _ rfl g3 rfl 49 _ (0,0) _ HX3.out Try.underlying49 rfl sz49 ?_)
   | ((with_reducible refine gate_callee (f := 23) rfl ?_); (try (refine gate_guard (by rfl) ?_; dsimp only)); refine goesL_ (some 25) rfl rfl Try.func23 (by kernel_rfl) rfl #[.agg (cells m hm)] rfl (by (try simp only [List.map_toArray,List.map_cons,List.map_nil]); first | done | rfl) ?_; (with_reducible refine (put_any m hm _ HR.out SBM.out (Nat.le_refl _)).mono ?_); rintro e_ w_ ⟨rfl,b_⟩; refine ⟨_,rfl,?_⟩; rw [HT.out,HP.out]; have n0_ := Aq.mk (below_step HB.out b_); clear HB; have HB := n0_; clear n0_; have n1_ := Aq.mk ((b_.block g3 (blk_lt HX3.out)).trans HX3.out); clear HX3; have HX3 := n1_; clear n1_; have n1_ := Aq.mk (Reads.below HR.out b_); clear HR; have HR := n1_; clear n1_; clear b_)
   | (go_at_call 18; (with_reducible refine (halberdlaw0_Num.calls _ _ _ (num_f _)).mono ?_); rintro ex_ wx_ ⟨rfl,d_⟩; have n0_ := Aq.mk (below_step HB.out d_.below); clear HB; have HB := n0_; clear n0_; have n1_ := Aq.mk ((d_.below.block g3 (blk_lt HX3.out)).trans HX3.out); clear HX3; have HX3 := n1_; clear n1_; have n1_ := Aq.mk (Reads.below HR.out d_.below); clear HR; have HR := n1_; clear n1_; clear d_)
   | ((with_reducible refine gate_callee (f := 24) rfl ?_); (with_reducible refine gate_dst (N := 33) rfl ?_); refine stopHere ?_))
  refine ⟨?_,trivial⟩
  go_wp2_with (first
   | ((with_reducible refine gate_callee (f := 24) rfl ?_); (try (refine gate_guard (by rfl) ?_; dsimp only)); refine goesL_ (some 33) rfl rfl Try.func24 (by kernel_rfl) rfl #[.string T] rfl (by (try simp only [List.map_toArray,List.map_cons,List.map_nil]); first | done | rfl) ?_; (with_reducible refine (get_m T m _ LT.out GT.out).mono ?_); rintro e_ w_ ⟨h9,rfl,r_,b_⟩; refine ⟨_,rfl,?_⟩; have n0_ := Aq.mk (below_step HB.out b_); clear HB; have HB := n0_; clear n0_; have n1_ := Aq.mk ((b_.block g3 (blk_lt HX3.out)).trans HX3.out); clear HX3; have HX3 := n1_; clear n1_; have n1_ := Aq.mk (Reads.below HR.out b_); clear HR; have HR := n1_; clear n1_; have HR9 := Aq.mk r_; clear b_ r_)
   | ((with_reducible refine gate_dst (N := 9) rfl ?_); refine alloc49' rfl rfl ?_; intro g9 eg w_ h2 b2; have HZ8 := Aq.mk h2; have HE8 := Aq.mk (show w.heap.size ≤ g9 from by have := HB.out.size; omega); have HE9 := Aq.mk (Nat.le_of_eq eg.symm); have HBG := Aq.mk b2; have n0_ := Aq.mk (below_step HB.out b2); clear HB; have HB := n0_; clear n0_; clear h2 b2 eg)
   | ((with_reducible refine gate_store (p := 9) rfl ?_); refine stRowN (cs := cells m h9) sz49 rfl rfl rfl rfl HZ8.out rfl rfl (cells_one _ _) ?_; intro w_ h3 b3 k3; have HX9 := Aq.mk h3; have n0_ := Aq.mk (HB.out.trans (b3 _ HE8.out)); clear HB; have HB := n0_; clear n0_; have n1_ := Aq.mk (((HBG.out.trans (b3 _ HE9.out)).block g3 (blk_lt HX3.out)).trans HX3.out); clear HX3; have HX3 := n1_; clear n1_; have n1_ := Aq.mk (Reads.below HR.out (HBG.out.trans (b3 _ HE9.out))); clear HR; have HR := n1_; clear n1_; have n1_ := Aq.mk (Reads.below HR9.out (HBG.out.trans (b3 _ HE9.out))); clear HR9; have HR9 := n1_; clear n1_; clear h3 b3 k3 HZ8 HE8 HE9 HBG)
   | ((with_reducible refine gate_callee (f := 24) rfl ?_); (with_reducible refine gate_dst (N := 48) rfl ?_); refine stopHere ?_))
  refine ⟨?_,trivial⟩
  go_wp2_with (first
   | ((with_reducible refine gate_callee (f := 24) rfl ?_); (try (refine gate_guard (by rfl) ?_; dsimp only)); refine goesL_ (some 48) rfl rfl Try.func24 (by kernel_rfl) rfl #[.string TC] rfl (by (try simp only [List.map_toArray,List.map_cons,List.map_nil]); first | done | rfl) ?_; (with_reducible refine (get_e TC 1700 _ LTC.out GTC.out).mono ?_); rintro e_ w_ ⟨m_,h_,rfl,b_⟩; refine ⟨_,rfl,?_⟩; have n0_ := Aq.mk (below_step HB.out b_); clear HB; have HB := n0_; clear n0_; have n1_ := Aq.mk ((b_.block g3 (blk_lt HX3.out)).trans HX3.out); clear HX3; have HX3 := n1_; clear n1_; have n1_ := Aq.mk (Reads.below HR.out b_); clear HR; have HR := n1_; clear n1_; have n1_ := Aq.mk ((b_.block g9 (blk_lt HX9.out)).trans HX9.out); clear HX9; have HX9 := n1_; clear n1_; have n1_ := Aq.mk (Reads.below HR9.out b_); clear HR9; have HR9 := n1_; clear n1_; have HCM := h_; clear b_)
   | ((with_reducible refine gate_dst (N := 11) rfl ?_); refine alloc49' rfl rfl ?_; intro g11 eg w_ h2 b2; have HZ8 := Aq.mk h2; have HE8 := Aq.mk (show w.heap.size ≤ g11 from by have := HB.out.size; omega); have HE9 := Aq.mk (Nat.le_of_eq eg.symm); have HBG := Aq.mk b2; have n0_ := Aq.mk (below_step HB.out b2); clear HB; have HB := n0_; clear n0_; clear h2 b2 eg)
   | ((with_reducible refine gate_store (p := 11) rfl ?_); refine stRowN (cs := cells m_ h_) sz49 rfl rfl rfl rfl HZ8.out rfl rfl (cells_one _ _) ?_; intro w_ h3 b3 k3; have n0_ := Aq.mk (HB.out.trans (b3 _ HE8.out)); clear HB; have HB := n0_; clear n0_; have n1_ := Aq.mk (((HBG.out.trans (b3 _ HE9.out)).block g3 (blk_lt HX3.out)).trans HX3.out); clear HX3; have HX3 := n1_; clear n1_; have n1_ := Aq.mk (Reads.below HR.out (HBG.out.trans (b3 _ HE9.out))); clear HR; have HR := n1_; clear n1_; have n1_ := Aq.mk (((HBG.out.trans (b3 _ HE9.out)).block g9 (blk_lt HX9.out)).trans HX9.out); clear HX9; have HX9 := n1_; clear n1_; have n1_ := Aq.mk (Reads.below HR9.out (HBG.out.trans (b3 _ HE9.out))); clear HR9; have HR9 := n1_; clear n1_; clear h3 b3 k3 HZ8 HE8 HE9 HBG)
   | ((with_reducible refine gate_dst (N := 53) rfl ?_); refine stopHere ?_))
  refine ⟨?_,trivial⟩
  go_wp2_with (first
   | ((with_reducible refine gate_dst (N := 53) rfl ?_); refine catV T ⟨#[0]⟩ TM HTM.out HTZ.out rfl rfl rfl rfl ?_)
   | ((with_reducible refine gate_callee (f := 24) rfl ?_); (try (refine gate_guard (by rfl) ?_; dsimp only)); refine goesL_ (some 54) rfl rfl Try.func24 (by kernel_rfl) rfl #[.string TM] rfl (by (try simp only [List.map_toArray,List.map_cons,List.map_nil]); first | done | rfl) ?_; (with_reducible refine (get_e TM 1700 _ LTM.out GTM.out).mono ?_); rintro e_ w_ ⟨m2_,h2_,rfl,b_⟩; refine ⟨_,rfl,?_⟩; have n0_ := Aq.mk (below_step HB.out b_); clear HB; have HB := n0_; clear n0_; have n1_ := Aq.mk ((b_.block g3 (blk_lt HX3.out)).trans HX3.out); clear HX3; have HX3 := n1_; clear n1_; have n1_ := Aq.mk (Reads.below HR.out b_); clear HR; have HR := n1_; clear n1_; have n1_ := Aq.mk ((b_.block g9 (blk_lt HX9.out)).trans HX9.out); clear HX9; have HX9 := n1_; clear n1_; have n1_ := Aq.mk (Reads.below HR9.out b_); clear HR9; have HR9 := n1_; clear n1_; clear b_)
   | ((with_reducible refine gate_dst (N := 13) rfl ?_); refine alloc49' rfl rfl ?_; intro g13 eg w_ h2 b2; have HZ8 := Aq.mk h2; have HE8 := Aq.mk (show w.heap.size ≤ g13 from by have := HB.out.size; omega); have HE9 := Aq.mk (Nat.le_of_eq eg.symm); have HBG := Aq.mk b2; have n0_ := Aq.mk (below_step HB.out b2); clear HB; have HB := n0_; clear n0_; clear h2 b2 eg)
   | ((with_reducible refine gate_store (p := 13) rfl ?_); refine stRowN (cs := cells m2_ h2_) sz49 rfl rfl rfl rfl HZ8.out rfl rfl (cells_one _ _) ?_; intro w_ h3 b3 k3; have n0_ := Aq.mk (HB.out.trans (b3 _ HE8.out)); clear HB; have HB := n0_; clear n0_; have n1_ := Aq.mk (((HBG.out.trans (b3 _ HE9.out)).block g3 (blk_lt HX3.out)).trans HX3.out); clear HX3; have HX3 := n1_; clear n1_; have n1_ := Aq.mk (Reads.below HR.out (HBG.out.trans (b3 _ HE9.out))); clear HR; have HR := n1_; clear n1_; have n1_ := Aq.mk (((HBG.out.trans (b3 _ HE9.out)).block g9 (blk_lt HX9.out)).trans HX9.out); clear HX9; have HX9 := n1_; clear n1_; have n1_ := Aq.mk (Reads.below HR9.out (HBG.out.trans (b3 _ HE9.out))); clear HR9; have HR9 := n1_; clear n1_; clear h3 b3 k3 HZ8 HE8 HE9 HBG)
   | (go_at_call 18; (with_reducible refine (halberdlaw0_Num.calls _ _ _ (num_f _)).mono ?_); rintro ex_ wx_ ⟨rfl,d_⟩; have n0_ := Aq.mk (below_step HB.out d_.below); clear HB; have HB := n0_; clear n0_; have n1_ := Aq.mk ((d_.below.block g3 (blk_lt HX3.out)).trans HX3.out); clear HX3; have HX3 := n1_; clear n1_; have n1_ := Aq.mk (Reads.below HR.out d_.below); clear HR; have HR := n1_; clear n1_; have n1_ := Aq.mk ((d_.below.block g9 (blk_lt HX9.out)).trans HX9.out); clear HX9; have HX9 := n1_; clear n1_; have n1_ := Aq.mk (Reads.below HR9.out d_.below); clear HR9; have HR9 := n1_; clear n1_; clear d_)
   | ((with_reducible refine gate_dst (N := 61) rfl ?_); (try (refine gate_guard (by rfl) ?_; dsimp only)); refine wpList_load_row rfl 49 _ rfl g9 rfl 49 _ (0,0) _ HX9.out Try.underlying49 rfl sz49 ?_)
   | ((with_reducible refine gate_dst (N := 62) rfl ?_); (try (refine gate_guard (by rfl) ?_; dsimp only)); refine wpList_load_row rfl 49 _ rfl g3 rfl 49 _ (0,0) _ HX3.out Try.underlying49 rfl sz49 ?_)
   | ((with_reducible refine gate_callee (f := 25) rfl ?_); (try (refine gate_guard (by rfl) ?_; dsimp only)); refine goesL_ (some 63) rfl rfl Try.func25 (by kernel_rfl) rfl #[.agg (cells m h9),.agg (cells m hm)] rfl (by (try simp only [List.map_toArray,List.map_cons,List.map_nil]); first | done | rfl) ?_; (with_reducible refine (same_c m h9 hm _ HR9.out HR.out MLM.out).mono ?_); rintro e_ w_ ⟨rfl,b_⟩; refine ⟨_,rfl,?_⟩; have n0_ := Aq.mk (below_step HB.out b_); clear HB; have HB := n0_; clear n0_; have n1_ := Aq.mk ((b_.block g3 (blk_lt HX3.out)).trans HX3.out); clear HX3; have HX3 := n1_; clear n1_; have n1_ := Aq.mk (Reads.below HR.out b_); clear HR; have HR := n1_; clear n1_; have n1_ := Aq.mk ((b_.block g9 (blk_lt HX9.out)).trans HX9.out); clear HX9; have HX9 := n1_; clear n1_; have n1_ := Aq.mk (Reads.below HR9.out b_); clear HR9; have HR9 := n1_; clear n1_; clear b_)
   | ((with_reducible refine gate_callee (f := 24) rfl ?_); (with_reducible refine gate_dst (N := 78) rfl ?_); refine stopHere ?_))
  refine ⟨?_,trivial⟩
 case' neg =>
  obtain ⟨P,hP⟩ : ∃ P,(putM m).2 = P := ⟨_,rfl⟩
  have hp0 : (P = 0) = False := eq_false (by rw [← hP]; exact hp)
  have hp1 : (P == (0 : Int)) = false := beq_eq_false_iff_ne.mpr (by rw [← hP]; exact hp)
  have HP := Aq.mk hP
  have HT := Aq.mk hT
  clear hr sb hP hT hp
  go_enter Try.func6,Try.ntmps6
  go_wp2_with (first
   | ((with_reducible refine gate_dst (N := 3) rfl ?_); refine box49 rfl rfl rfl ?_; intro g3 e1 w1 h1 b1; have HX3 := Aq.mk h1; have n1_ := Aq.mk (Reads.below HR.out b1); clear HR; have HR := n1_; clear n1_; have n0_ := Aq.mk (below_step HB.out b1); clear HB; have HB := n0_; clear n0_ h1 b1 e1)
   | (go_at_call 22; (with_reducible refine (awake_c _).mono ?_); rintro e_ w_ ⟨rfl,b_⟩; have n0_ := Aq.mk (below_step HB.out b_); clear HB; have HB := n0_; clear n0_; have n1_ := Aq.mk ((b_.block g3 (blk_lt HX3.out)).trans HX3.out); clear HX3; have HX3 := n1_; clear n1_; have n1_ := Aq.mk (Reads.below HR.out b_); clear HR; have HR := n1_; clear n1_; clear b_)
   | ((with_reducible refine gate_dst (N := 24) rfl ?_); (try (refine gate_guard (by rfl) ?_; dsimp only)); refine wpList_load_row rfl 49 _ rfl g3 rfl 49 _ (0,0) _ HX3.out Try.underlying49 rfl sz49 ?_)
   | ((with_reducible refine gate_callee (f := 23) rfl ?_); (try (refine gate_guard (by rfl) ?_; dsimp only)); refine goesL_ (some 25) rfl rfl Try.func23 (by kernel_rfl) rfl #[.agg (cells m hm)] rfl (by (try simp only [List.map_toArray,List.map_cons,List.map_nil]); first | done | rfl) ?_; (with_reducible refine (put_any m hm _ HR.out SBM.out (Nat.le_refl _)).mono ?_); rintro e_ w_ ⟨rfl,b_⟩; refine ⟨_,rfl,?_⟩; rw [HT.out,HP.out]; have n0_ := Aq.mk (below_step HB.out b_); clear HB; have HB := n0_; clear n0_; have n1_ := Aq.mk ((b_.block g3 (blk_lt HX3.out)).trans HX3.out); clear HX3; have HX3 := n1_; clear n1_; have n1_ := Aq.mk (Reads.below HR.out b_); clear HR; have HR := n1_; clear n1_; clear b_)
   | (go_at_call 18; (with_reducible refine (halberdlaw0_Num.calls _ _ _ (num_f _)).mono ?_); rintro ex_ wx_ ⟨rfl,d_⟩; have n0_ := Aq.mk (below_step HB.out d_.below); clear HB; have HB := n0_; clear n0_; have n1_ := Aq.mk ((d_.below.block g3 (blk_lt HX3.out)).trans HX3.out); clear HX3; have HX3 := n1_; clear n1_; have n1_ := Aq.mk (Reads.below HR.out d_.below); clear HR; have HR := n1_; clear n1_; clear d_)
   | ((with_reducible refine gate_callee (f := 24) rfl ?_); (with_reducible refine gate_dst (N := 78) rfl ?_); refine stopHere ?_))
  refine ⟨?_,trivial⟩
 all_goals rcases s_ways s with ⟨q,hge,hq⟩ | ⟨o,hgo,hn⟩ | ⟨o,U,hgg,hn,hu1,hu2,hu3,hu4,hgu,sbo⟩
 all_goals first
 | (
   have HGE := Aq.mk hge
   have hq0 : (q = 0) = False := eq_false hq
   have hq1 : (q == (0 : Int)) = false := beq_eq_false_iff_ne.mpr hq
   have hq2 : (q != (0 : Int)) = true := bne_iff_ne.mpr hq
   clear hge hq
   go_wp2_with (first
    | ((with_reducible refine gate_callee (f := 24) rfl ?_); (try (refine gate_guard (by rfl) ?_; dsimp only)); refine goesL_ (some 78) rfl rfl Try.func24 (by kernel_rfl) rfl #[.string s] rfl (by (try simp only [List.map_toArray,List.map_cons,List.map_nil]); first | done | rfl) ?_; (with_reducible refine (get_q s zeroM q _ LS.out HGE.out).mono ?_); rintro e_ w_ ⟨h15,rfl,r_,b_⟩; refine ⟨_,rfl,?_⟩; have n0_ := Aq.mk (below_step HB.out b_); clear HB; have HB := n0_; clear n0_; have HR15 := Aq.mk r_; clear b_ r_)
    | ((with_reducible refine gate_dst (N := 15) rfl ?_); refine alloc49' rfl rfl ?_; intro g15 eg w_ h2 b2; have HZ8 := Aq.mk h2; have HE8 := Aq.mk (show w.heap.size ≤ g15 from by have := HB.out.size; omega); have HE9 := Aq.mk (Nat.le_of_eq eg.symm); have HBG := Aq.mk b2; have n0_ := Aq.mk (below_step HB.out b2); clear HB; have HB := n0_; clear n0_; clear h2 b2 eg)
    | ((with_reducible refine gate_store (p := 15) rfl ?_); refine stRowN (cs := cells zeroM h15) sz49 rfl rfl rfl rfl HZ8.out rfl rfl (cells_one _ _) ?_; intro w_ h3 b3 k3; have HX15 := Aq.mk h3; have n0_ := Aq.mk (HB.out.trans (b3 _ HE8.out)); clear HB; have HB := n0_; clear n0_; have n1_ := Aq.mk (Reads.below HR15.out (HBG.out.trans (b3 _ HE9.out))); clear HR15; have HR15 := n1_; clear n1_; clear h3 b3 k3 HZ8 HE8 HE9 HBG)
    | (go_at_call 18; (with_reducible refine (halberdlaw0_Num.calls _ _ _ (num_f _)).mono ?_); rintro ex_ wx_ ⟨rfl,d_⟩; have n0_ := Aq.mk (below_step HB.out d_.below); clear HB; have HB := n0_; clear n0_; have n1_ := Aq.mk ((d_.below.block g15 (blk_lt HX15.out)).trans HX15.out); clear HX15; have HX15 := n1_; clear n1_; have n1_ := Aq.mk (Reads.below HR15.out d_.below); clear HR15; have HR15 := n1_; clear n1_; clear d_)
    | ((with_reducible refine gate_dst (N := 95) rfl ?_); (try (refine gate_guard (by rfl) ?_; dsimp only)); refine ld (v := .int .i64 0) rfl rfl rfl HX15.out Try.underlying3 rfl rfl ?_))
   go_ret
   exact ⟨by first | rfl | simp,HB.out⟩)
 | (
   have HGO := Aq.mk hgo
   have hn1 : (0 < o.f13.length) = True := eq_true hn
   have hn2 : ((0 : Int) < (o.f13.length : Int)) = True := eq_true (by omega)
   clear hgo hn
   go_wp2_with (first
    | ((with_reducible refine gate_callee (f := 24) rfl ?_); (try (refine gate_guard (by rfl) ?_; dsimp only)); refine goesL_ (some 78) rfl rfl Try.func24 (by kernel_rfl) rfl #[.string s] rfl (by (try simp only [List.map_toArray,List.map_cons,List.map_nil]); first | done | rfl) ?_; (with_reducible refine (get_q s o 0 _ LS.out HGO.out).mono ?_); rintro e_ w_ ⟨h15,rfl,r_,b_⟩; refine ⟨_,rfl,?_⟩; have n0_ := Aq.mk (below_step HB.out b_); clear HB; have HB := n0_; clear n0_; have HR15 := Aq.mk r_; clear b_ r_)
    | ((with_reducible refine gate_dst (N := 15) rfl ?_); refine alloc49' rfl rfl ?_; intro g15 eg w_ h2 b2; have HZ8 := Aq.mk h2; have HE8 := Aq.mk (show w.heap.size ≤ g15 from by have := HB.out.size; omega); have HE9 := Aq.mk (Nat.le_of_eq eg.symm); have HBG := Aq.mk b2; have n0_ := Aq.mk (below_step HB.out b2); clear HB; have HB := n0_; clear n0_; clear h2 b2 eg)
    | ((with_reducible refine gate_store (p := 15) rfl ?_); refine stRowN (cs := cells o h15) sz49 rfl rfl rfl rfl HZ8.out rfl rfl (cells_one _ _) ?_; intro w_ h3 b3 k3; have HX15 := Aq.mk h3; have n0_ := Aq.mk (HB.out.trans (b3 _ HE8.out)); clear HB; have HB := n0_; clear n0_; have n1_ := Aq.mk (Reads.below HR15.out (HBG.out.trans (b3 _ HE9.out))); clear HR15; have HR15 := n1_; clear n1_; clear h3 b3 k3 HZ8 HE8 HE9 HBG)
    | (go_at_call 18; (with_reducible refine (halberdlaw0_Num.calls _ _ _ (num_f _)).mono ?_); rintro ex_ wx_ ⟨rfl,d_⟩; have n0_ := Aq.mk (below_step HB.out d_.below); clear HB; have HB := n0_; clear n0_; have n1_ := Aq.mk ((d_.below.block g15 (blk_lt HX15.out)).trans HX15.out); clear HX15; have HX15 := n1_; clear n1_; have n1_ := Aq.mk (Reads.below HR15.out d_.below); clear HR15; have HR15 := n1_; clear n1_; clear d_)
    | ((with_reducible refine gate_dst (N := 86) rfl ?_); (try (refine gate_guard (by rfl) ?_; dsimp only)); refine ld (v := .slice h15.A13 o.f13.length h15.c13) rfl rfl rfl HX15.out Try.underlying44 rfl rfl ?_))
   go_ret
   exact ⟨by first | rfl | simp,HB.out⟩)
 | (
   have HGG := Aq.mk hgg
   have HU1 := Aq.mk hu1
   have HU2 := Aq.mk hu2
   have LU := Aq.mk (show U.size ≤ 140737488351232 from by omega)
   have GU := Aq.mk hgu
   have SBO := Aq.mk sbo
   have MLO := Aq.mk (sbo.ml (Nat.le_refl _))
   have hu5 : ((U.size : Int) ≤ (s.size : Int)) = True := eq_true (by omega)
   have hu6 : (U.size ≤ s.size) = True := eq_true hu3
   clear hgg hu1 hu2 hu3 hu4 hgu sbo
   go_wp2_with (first
    | ((with_reducible refine gate_callee (f := 18) rfl ?_); (with_reducible refine gate_dst (N := 109) rfl ?_); refine stopHere ?_)
    | ((with_reducible refine gate_callee (f := 24) rfl ?_); (try (refine gate_guard (by rfl) ?_; dsimp only)); refine goesL_ (some 78) rfl rfl Try.func24 (by kernel_rfl) rfl #[.string s] rfl (by (try simp only [List.map_toArray,List.map_cons,List.map_nil]); first | done | rfl) ?_; (with_reducible refine (get_q s o 0 _ LS.out HGG.out).mono ?_); rintro e_ w_ ⟨h15,rfl,r_,b_⟩; refine ⟨_,rfl,?_⟩; have n0_ := Aq.mk (below_step HB.out b_); clear HB; have HB := n0_; clear n0_; have HR15 := Aq.mk r_; clear b_ r_)
    | ((with_reducible refine gate_dst (N := 15) rfl ?_); refine alloc49' rfl rfl ?_; intro g15 eg w_ h2 b2; have HZ8 := Aq.mk h2; have HE8 := Aq.mk (show w.heap.size ≤ g15 from by have := HB.out.size; omega); have HE9 := Aq.mk (Nat.le_of_eq eg.symm); have HBG := Aq.mk b2; have n0_ := Aq.mk (below_step HB.out b2); clear HB; have HB := n0_; clear n0_; clear h2 b2 eg)
    | ((with_reducible refine gate_store (p := 15) rfl ?_); refine stRowN (cs := cells o h15) sz49 rfl rfl rfl rfl HZ8.out rfl rfl (cells_one _ _) ?_; intro w_ h3 b3 k3; have HX15 := Aq.mk h3; have n0_ := Aq.mk (HB.out.trans (b3 _ HE8.out)); clear HB; have HB := n0_; clear n0_; have n1_ := Aq.mk (Reads.below HR15.out (HBG.out.trans (b3 _ HE9.out))); clear HR15; have HR15 := n1_; clear n1_; clear h3 b3 k3 HZ8 HE8 HE9 HBG)
    | (go_at_call 18; (with_reducible refine (halberdlaw0_Num.calls _ _ _ (num_f _)).mono ?_); rintro ex_ wx_ ⟨rfl,d_⟩; have n0_ := Aq.mk (below_step HB.out d_.below); clear HB; have HB := n0_; clear n0_; have n1_ := Aq.mk ((d_.below.block g15 (blk_lt HX15.out)).trans HX15.out); clear HX15; have HX15 := n1_; clear n1_; have n1_ := Aq.mk (Reads.below HR15.out d_.below); clear HR15; have HR15 := n1_; clear n1_; clear d_)
    | ((with_reducible refine gate_dst (N := 86) rfl ?_); (try (refine gate_guard (by rfl) ?_; dsimp only)); refine ld (v := .slice h15.A13 o.f13.length h15.c13) rfl rfl rfl HX15.out Try.underlying44 rfl rfl ?_)
    | ((with_reducible refine gate_dst (N := 99) rfl ?_); (try (refine gate_guard (by rfl) ?_; dsimp only)); refine wpList_load_row rfl 49 _ rfl g15 rfl 49 _ (0,0) _ HX15.out Try.underlying49 rfl sz49 ?_)
    | ((with_reducible refine gate_callee (f := 23) rfl ?_); (try (refine gate_guard (by rfl) ?_; dsimp only)); refine goesL_ (some 100) rfl rfl Try.func23 (by kernel_rfl) rfl #[.agg (cells o h15)] rfl (by (try simp only [List.map_toArray,List.map_cons,List.map_nil]); first | done | rfl) ?_; (with_reducible refine (put_any o h15 _ HR15.out SBO.out (Nat.le_refl _)).mono ?_); rintro e_ w_ ⟨rfl,b_⟩; refine ⟨_,rfl,?_⟩; rw [HU1.out,HU2.out]; have n0_ := Aq.mk (below_step HB.out b_); clear HB; have HB := n0_; clear n0_; have n1_ := Aq.mk ((b_.block g15 (blk_lt HX15.out)).trans HX15.out); clear HX15; have HX15 := n1_; clear n1_; have n1_ := Aq.mk (Reads.below HR15.out b_); clear HR15; have HR15 := n1_; clear n1_; clear b_)
    | ((with_reducible refine gate_callee (f := 24) rfl ?_); (try (refine gate_guard (by rfl) ?_; dsimp only)); refine goesL_ (some 105) rfl rfl Try.func24 (by kernel_rfl) rfl #[.string U] rfl (by (try simp only [List.map_toArray,List.map_cons,List.map_nil]); first | done | rfl) ?_; (with_reducible refine (get_m U o _ LU.out GU.out).mono ?_); rintro e_ w_ ⟨h19,rfl,r_,b_⟩; refine ⟨_,rfl,?_⟩; have n0_ := Aq.mk (below_step HB.out b_); clear HB; have HB := n0_; clear n0_; have n1_ := Aq.mk ((b_.block g15 (blk_lt HX15.out)).trans HX15.out); clear HX15; have HX15 := n1_; clear n1_; have n1_ := Aq.mk (Reads.below HR15.out b_); clear HR15; have HR15 := n1_; clear n1_; have HR19 := Aq.mk r_; clear b_ r_)
    | ((with_reducible refine gate_dst (N := 19) rfl ?_); refine alloc49' rfl rfl ?_; intro g19 eg w_ h2 b2; have HZ8 := Aq.mk h2; have HE8 := Aq.mk (show w.heap.size ≤ g19 from by have := HB.out.size; omega); have HE9 := Aq.mk (Nat.le_of_eq eg.symm); have HBG := Aq.mk b2; have n0_ := Aq.mk (below_step HB.out b2); clear HB; have HB := n0_; clear n0_; clear h2 b2 eg)
    | ((with_reducible refine gate_store (p := 19) rfl ?_); refine stRowN (cs := cells o h19) sz49 rfl rfl rfl rfl HZ8.out rfl rfl (cells_one _ _) ?_; intro w_ h3 b3 k3; have HX19 := Aq.mk h3; have n0_ := Aq.mk (HB.out.trans (b3 _ HE8.out)); clear HB; have HB := n0_; clear n0_; have n1_ := Aq.mk (((HBG.out.trans (b3 _ HE9.out)).block g15 (blk_lt HX15.out)).trans HX15.out); clear HX15; have HX15 := n1_; clear n1_; have n1_ := Aq.mk (Reads.below HR15.out (HBG.out.trans (b3 _ HE9.out))); clear HR15; have HR15 := n1_; clear n1_; have n1_ := Aq.mk (Reads.below HR19.out (HBG.out.trans (b3 _ HE9.out))); clear HR19; have HR19 := n1_; clear n1_; clear h3 b3 k3 HZ8 HE8 HE9 HBG))
   refine ⟨?_,trivial⟩
   go_wp2_with (first
    | (go_at_call 18; (with_reducible refine (halberdlaw0_Num.calls _ _ _ (num_f _)).mono ?_); rintro ex_ wx_ ⟨rfl,d_⟩; have n0_ := Aq.mk (below_step HB.out d_.below); clear HB; have HB := n0_; clear n0_; have n1_ := Aq.mk ((d_.below.block g15 (blk_lt HX15.out)).trans HX15.out); clear HX15; have HX15 := n1_; clear n1_; have n1_ := Aq.mk (Reads.below HR15.out d_.below); clear HR15; have HR15 := n1_; clear n1_; have n1_ := Aq.mk ((d_.below.block g19 (blk_lt HX19.out)).trans HX19.out); clear HX19; have HX19 := n1_; clear n1_; have n1_ := Aq.mk (Reads.below HR19.out d_.below); clear HR19; have HR19 := n1_; clear n1_; clear d_)
    | ((with_reducible refine gate_dst (N := 124) rfl ?_); (try (refine gate_guard (by rfl) ?_; dsimp only)); refine wpList_load_row rfl 49 _ rfl g19 rfl 49 _ (0,0) _ HX19.out Try.underlying49 rfl sz49 ?_)
    | ((with_reducible refine gate_dst (N := 125) rfl ?_); (try (refine gate_guard (by rfl) ?_; dsimp only)); refine wpList_load_row rfl 49 _ rfl g15 rfl 49 _ (0,0) _ HX15.out Try.underlying49 rfl sz49 ?_)
    | ((with_reducible refine gate_callee (f := 25) rfl ?_); (try (refine gate_guard (by rfl) ?_; dsimp only)); refine goesL_ (some 126) rfl rfl Try.func25 (by kernel_rfl) rfl #[.agg (cells o h19),.agg (cells o h15)] rfl (by (try simp only [List.map_toArray,List.map_cons,List.map_nil]); first | done | rfl) ?_; (with_reducible refine (same_c o h19 h15 _ HR19.out HR15.out MLO.out).mono ?_); rintro e_ w_ ⟨rfl,b_⟩; refine ⟨_,rfl,?_⟩; have n0_ := Aq.mk (below_step HB.out b_); clear HB; have HB := n0_; clear n0_; have n1_ := Aq.mk ((b_.block g15 (blk_lt HX15.out)).trans HX15.out); clear HX15; have HX15 := n1_; clear n1_; have n1_ := Aq.mk (Reads.below HR15.out b_); clear HR15; have HR15 := n1_; clear n1_; have n1_ := Aq.mk ((b_.block g19 (blk_lt HX19.out)).trans HX19.out); clear HX19; have HX19 := n1_; clear n1_; have n1_ := Aq.mk (Reads.below HR19.out b_); clear HR19; have HR19 := n1_; clear n1_; clear b_))
   go_ret
   exact ⟨by first | rfl | simp,HB.out⟩)
end Go.Proofs.Ytlkebjkpmiehcaa.Ms
end
section
namespace Go.Proofs.Ytlkebjkpmiehcaa.opens
open Go.ChangeShapes Go.WideShapes Go.Deep Go.RowKit Go.Proofs.Ytlkebjkpmiehcaa.E Go.Proofs.YtlkebjkpmiehcaaW.PrintWords
set_option linter.unusedVariables false
section
variable {H : Type} {enc : TypeId × Value → H} {P : Program} {w : World} {base : Nat} {spare : Nat → Bool} {held : Bool}
theorem open_slice_fields {t e : TypeId} {fs : Array Field} {fuel : Nat} {cs : List Value} {x : DataW H × List MemPlace} (ht : P.underlying t = some (.slice e)) (he : P.underlying e = some (.struct fs))
  (hone : oneCellFields P fs = true) (hC : P.cellsOf e = fs.size) (h : DataW.trod enc P w base spare held fuel t cs = some x) :
  (cs = [.slice none 0 0] ∧ x = (.nil,[])) ∨
  ∃ (a : Addr) (len cap m : Nat) (D : Nat → DataW H) (Pl : Nat → List MemPlace),cs = [.slice (some a) len cap] ∧ base ≤ a.block ∧ len ≤ cap ∧ cap ≤ maxLen ∧ m = (if spare a.block then cap else len) ∧
   x = (.slice ((List.range len).map D) ((List.range (m - len)).map fun j => D (len + j)),MemPlace.row a (m * fs.size) ++ (List.range m).flatMap Pl) ∧
   ∀ i,i < m → ∃ (ys : List (DataW H × List MemPlace)) (n : Nat),D i = .agg (ys.map (·.1)) ∧ Pl i = ys.flatMap (·.2) ∧ ys.length = fs.size ∧
    ∀ (j : Nat) (f : Field),fs[j]? = some f → ∃ (v : Value) (y : DataW H × List MemPlace),w.cell? (a.add (i * fs.size + j)) = some v ∧ ys[j]? = some y ∧ DataW.trod enc P w base spare held n f.type [v] = some y := by
 rcases open_slice ht h with h0 | ⟨a,len,cap,m,n,D,Pl,hcs,hb,hl,hm,hmm,hx,hi⟩
 ·exact .inl h0
 ·refine .inr ⟨a,len,cap,m,D,Pl,hcs,hb,hl,hm,hmm,by rw [hC] at hx; exact hx,fun i him => ?_⟩
  obtain ⟨cs',hc,ht'⟩ := hi i him
  rw [hC] at hc
  obtain ⟨ys,n',hn',hy,hlen,hyl,hf⟩ := DataW.trod_struct he ht'
  obtain ⟨_,hcl,hat⟩ := World.cells?_some hc
  simp only [Prod.mk.injEq] at hy
  refine ⟨ys,n',hy.1,hy.2,hyl,fun j f hj => ?_⟩
  obtain ⟨ho,hk⟩ := hone_of hone j f hj
  have hjl : j < fs.size := (Array.getElem?_eq_some_iff.1 hj).1
  have hcell := hat j hjl
  have hv : cs'[j]? = some (cs'[j]'(by omega)) := List.getElem?_eq_getElem (by omega)
  have h1 := hf j f hj
  rw [ho,hk] at h1
  have hone' : (cs'.drop j).take 1 = [cs'[j]'(by omega)] := by
   rw [List.drop_eq_getElem_cons (by omega)]
   rfl
  rw [hone'] at h1
  have hys : ys[j]? = some (ys[j]'(by omega)) := List.getElem?_eq_getElem (by omega)
  refine ⟨_,_,?_,hys,h1.trans hys⟩
  rw [← Go.Deep.add_add,hcell,hv]
end
theorem one_le {H : Type} (d : DataW H) : 1 ≤ Rows.uptoBulk d := by
 cases d with
 | lit l => cases l <;> simp [Rows.uptoBulk]
 | nil => simp [Rows.uptoBulk]
 | ptr d => simp [Rows.uptoBulk]
 | slice elems spare => simp [Rows.uptoBulk]
 | agg parts => simp [Rows.uptoBulk]
 | iface t d => simp [Rows.uptoBulk]
 | map entries => simp [Rows.uptoBulk]
 | held h => simp [Rows.uptoBulk]
theorem bulk_append {H : Type} (l r : List (DataW H)) : Rows.uptoBulkAll (l ++ r) = Rows.uptoBulkAll l + Rows.uptoBulkAll r := by
 induction l with
 | nil => simp [Rows.uptoBulkAll]
 | cons x l ih => simp only [List.cons_append,Rows.uptoBulkAll,ih]; omega
theorem bulk_cons {H : Type} (d : DataW H) (r : List (DataW H)) : Rows.uptoBulkAll (d :: r) = Rows.uptoBulk d + Rows.uptoBulkAll r := by simp only [Rows.uptoBulkAll]
theorem bulk_string {H : Type} (s : ByteArray) : Rows.uptoBulk (DataW.lit (H := H) (.string s.data.toList)) = s.size + 1 := by
 simp only [Rows.uptoBulk]
 rw [Array.length_toList]
 rfl
theorem bound {H : Type} {l : List (DataW H)} (hk : Rows.uptoSmall H l = true) : Rows.uptoBulkAll l ≤ 1048576 := of_decide_eq_true hk
end Go.Proofs.Ytlkebjkpmiehcaa.opens
end
section
namespace Go.Proofs.Ytlkebjkpmiehcaa.Ms
open Go.ChangeShapes Go.WideShapes Go.Deep Go.RowKit Go.Proofs.Ytlkebjkpmiehcaa.X Go.Proofs.YtlkebjkpmiehcaaW.PrintWords
set_option linter.unusedVariables false
set_option linter.unusedSimpArgs false
section
variable {H : Type} {enc : TypeId × Value → H} {W : World} {spare : Nat → Bool} {held : Bool}
theorem bulk_lits (l : List Int) : Rows.uptoBulkAll (lits (H := H) .i64 l) = l.length := by
 induction l with
 | nil => rfl
 | cons a r ih =>
  have e : lits (H := H) .i64 (a :: r) = .lit (.int .i64 a) :: lits .i64 r := rfl
  rw [e,opens.bulk_cons,ih,List.length_cons]
  show 1 + r.length = _
  omega
theorem bulk_strs (l : List ByteArray) : l.length ≤ Rows.uptoBulkAll (strs (H := H) l) ∧ ∀ s ∈ l,s.size ≤ Rows.uptoBulkAll (strs (H := H) l) := by
 induction l with
 | nil => exact ⟨Nat.le_refl _,fun s h => by cases h⟩
 | cons a r ih =>
  have e : strs (H := H) (a :: r) = .lit (.string a.data.toList) :: strs r := rfl
  rw [e,opens.bulk_cons,opens.bulk_string,List.length_cons]
  refine ⟨by have := ih.1; omega,fun s h => ?_⟩
  rcases List.mem_cons.1 h with rfl | h
  ·omega
  ·have := ih.2 s h
   omega
theorem bulk_mem {ds : List (DataW H)} {d : DataW H} (h : d ∈ ds) : Rows.uptoBulk d ≤ Rows.uptoBulkAll ds := by
 induction ds with
 | nil => cases h
 | cons a r ih =>
  rw [opens.bulk_cons]
  rcases List.mem_cons.1 h with rfl | h
  ·omega
  ·have := ih h
   omega
theorem bulk_length (ds : List (DataW H)) : ds.length ≤ Rows.uptoBulkAll ds := by
 induction ds with
 | nil => exact Nat.le_refl _
 | cons a r ih =>
  rw [opens.bulk_cons,List.length_cons]
  have := opens.one_le a
  omega
theorem open_nums {fuel : Nat} {a : Option Addr} {len cap : Nat} {x : DataW H × List MemPlace} (h : DataW.trod enc Try.prog W 0 spare held fuel 44 [.slice a len cap] = some x) :
  ∃ l : List Int,len = l.length ∧ len ≤ cap ∧ Kd.C (Kd.int .i64) W a len l ∧ l.length ≤ Rows.uptoBulk x.1 := by
 rcases open_ints Try.underlying44 Try.underlying3 (by kernel_rfl) h with ⟨hcs,rfl⟩ | ⟨ad,len',cap',ss,hcs,_,hl,hm,hz,hx,hcell,_⟩
 ·simp at hcs
  obtain ⟨rfl,rfl,rfl⟩ := hcs
  exact ⟨[],rfl,Nat.le_refl _,⟨rfl,by omega,fun h => by omega⟩,Nat.zero_le _⟩
 ·simp at hcs
  obtain ⟨rfl,rfl,rfl⟩ := hcs
  have hle : len ≤ ss.length := by rw [hz]; split <;> omega
  have hlen : len = (ss.take len).length := by rw [List.length_take]; omega
  refine ⟨ss.take len,hlen,hl,?_,?_⟩
  ·refine ⟨hlen.symm,by unfold maxLen at hm; omega,fun _ => ⟨ad,rfl,fun j p hp => ?_⟩⟩
   have hj : j < len := by
    rcases Nat.lt_or_ge j len with h | h
    ·exact h
    ·rw [List.getElem?_take,if_neg (by omega)] at hp
     cases hp
   rw [List.getElem?_take,if_pos hj] at hp
   refine ⟨[.int .i64 p],rfl,rfl,?_⟩
   intro i u hu
   match i,hu with
   | 0,hu =>
    simp at hu
    subst hu
    have := hcell j (by omega)
    rw [List.getD_eq_getElem?_getD,hp] at this
    show W.cell? (ad.add (j * 1 + 0)) = _
    rw [Nat.mul_one,Nat.add_zero]
    exact this
   | i + 1,hu => simp at hu
  ·rw [hx]
   simp only [Rows.uptoBulk]
   have := bulk_lits (H := H) (ss.take len)
   omega
theorem open_texts {fuel : Nat} {a : Option Addr} {len cap : Nat} {x : DataW H × List MemPlace} (h : DataW.trod enc Try.prog W 0 spare held fuel 47 [.slice a len cap] = some x) :
  ∃ l : List ByteArray,len = l.length ∧ len ≤ cap ∧ Kd.C Kd.string W a len l ∧ l.length ≤ Rows.uptoBulk x.1 ∧ ∀ s ∈ l,s.size ≤ Rows.uptoBulk x.1 := by
 rcases open_strings Try.underlying47 Try.underlying9 (by kernel_rfl) h with ⟨hcs,rfl⟩ | ⟨ad,len',cap',ss,hcs,_,hl,hm,hz,hx,hcell,_⟩
 ·simp at hcs
  obtain ⟨rfl,rfl,rfl⟩ := hcs
  exact ⟨[],rfl,Nat.le_refl _,⟨rfl,by omega,fun h => by omega⟩,Nat.zero_le _,fun s h => by cases h⟩
 ·simp at hcs
  obtain ⟨rfl,rfl,rfl⟩ := hcs
  have hle : len ≤ ss.length := by rw [hz]; split <;> omega
  have hlen : len = (ss.take len).length := by rw [List.length_take]; omega
  refine ⟨ss.take len,hlen,hl,?_,?_,?_⟩
  ·refine ⟨hlen.symm,by unfold maxLen at hm; omega,fun _ => ⟨ad,rfl,fun j p hp => ?_⟩⟩
   have hj : j < len := by
    rcases Nat.lt_or_ge j len with h | h
    ·exact h
    ·rw [List.getElem?_take,if_neg (by omega)] at hp
     cases hp
   rw [List.getElem?_take,if_pos hj] at hp
   refine ⟨[.string p],rfl,rfl,?_⟩
   intro i u hu
   match i,hu with
   | 0,hu =>
    simp at hu
    subst hu
    have := hcell j (by omega)
    rw [List.getD_eq_getElem?_getD,hp] at this
    show W.cell? (ad.add (j * 1 + 0)) = _
    rw [Nat.mul_one,Nat.add_zero]
    exact this
   | i + 1,hu => simp at hu
  ·rw [hx]
   simp only [Rows.uptoBulk]
   have := (bulk_strs (H := H) (ss.take len)).1
   omega
  ·intro s hs
   rw [hx]
   simp only [Rows.uptoBulk]
   have := (bulk_strs (H := H) (ss.take len)).2 s hs
   omega
theorem open_shares {fuel : Nat} {a : Option Addr} {len cap : Nat} {x : DataW H × List MemPlace} (h : DataW.trod enc Try.prog W 0 spare held fuel 45 [.slice a len cap] = some x) :
  ∃ l : List S66,len = l.length ∧ len ≤ cap ∧ Kd.C k66 W a len l ∧ l.length ≤ Rows.uptoBulk x.1 ∧ ∀ y ∈ l,y.f1.size ≤ Rows.uptoBulk x.1 := by
 rcases opens.open_slice_fields Try.underlying45 Try.underlying66 (by kernel_rfl) (by kernel_rfl) h with ⟨hcs,rfl⟩ | ⟨ad,len',cap',m,D,Pl,hcs,_,hl,hm,hmm,hx,hf⟩
 ·simp at hcs
  obtain ⟨rfl,rfl,rfl⟩ := hcs
  exact ⟨[],rfl,Nat.le_refl _,⟨rfl,by omega,fun h => by omega⟩,Nat.zero_le _,fun y h => by cases h⟩
 ·simp at hcs
  obtain ⟨rfl,rfl,rfl⟩ := hcs
  have hlm : len ≤ m := by rw [hmm]; split <;> omega
  have each : ∀ i : Nat,∃ y : S66,i < len → W.cell? (ad.add (i * 2 + 0)) = some (.int .i64 y.f0) ∧ W.cell? (ad.add (i * 2 + 1)) = some (.string y.f1) ∧ y.f1.size ≤ Rows.uptoBulk (D i) := by
   intro i
   by_cases hi : i < len
   ·obtain ⟨ys,n,hD,_,hyl,hj⟩ := hf i (by omega)
    obtain ⟨v0,y0,c0,e0,t0⟩ := hj 0 _ rfl
    obtain ⟨v1,y1,c1,e1,t1⟩ := hj 1 _ rfl
    obtain ⟨k,hv0,rfl,hw⟩ := DataW.trod_int Try.underlying3 t0
    obtain ⟨s,hv1,rfl,hs⟩ := DataW.trod_string Try.underlying9 t1
    simp only [List.cons.injEq,and_true] at hv0 hv1
    subst hv0 hv1
    refine ⟨⟨k,s⟩,fun _ => ⟨c0,c1,?_⟩⟩
    rw [hD]
    match ys,hyl with
    | [z0,z1],_ =>
     simp at e0 e1
     subst e0 e1
     simp only [List.map_cons,List.map_nil,Rows.uptoBulk,Rows.uptoBulkAll]
     have : s.data.toList.length = s.size := by rw [Array.length_toList]; rfl
     simp only [this]
     omega
   ·exact ⟨z66,fun h => absurd h hi⟩
  obtain ⟨f,hf2⟩ := Classical.axiomOfChoice each
  refine ⟨(List.range len).map f,by simp,hl,⟨by simp,by unfold maxLen at hm; omega,fun _ => ⟨ad,rfl,fun j p hp => ?_⟩⟩,?_,?_⟩
  ·obtain ⟨hj,rfl⟩ : j < len ∧ f j = p := by
    rw [List.getElem?_map] at hp
    by_cases hj : j < len
    ·rw [List.getElem?_range hj] at hp
     exact ⟨hj,by simpa using hp⟩
    ·rw [List.getElem?_eq_none (by simp; omega)] at hp
     simp at hp
   obtain ⟨c0,c1,_⟩ := hf2 j hj
   refine ⟨[.int .i64 (f j).f0,.string (f j).f1],rfl,k66_mk W (f j),?_⟩
   intro i u hu
   match i,hu with
   | 0,hu => simp at hu; subst hu; exact c0
   | 1,hu => simp at hu; subst hu; exact c1
   | i + 2,hu => simp at hu
  ·rw [hx]
   simp only [Rows.uptoBulk]
   have := bulk_length ((List.range len).map D)
   simp only [List.length_map,List.length_range] at this ⊢
   omega
  ·intro y hy
   obtain ⟨i,hi,rfl⟩ := List.mem_map.mp hy
   have h1 := (hf2 i (by simpa using hi)).2.2
   have h2 := bulk_mem (H := H) (List.mem_map_of_mem (f := D) hi)
   rw [hx]
   simp only [Rows.uptoBulk]
   omega
theorem open_idents {fuel : Nat} {a : Option Addr} {len cap : Nat} {x : DataW H × List MemPlace} (h : DataW.trod enc Try.prog W 0 spare held fuel 46 [.slice a len cap] = some x) :
  ∃ l : List S111,len = l.length ∧ len ≤ cap ∧ Kd.C k111 W a len l ∧ l.length ≤ Rows.uptoBulk x.1 ∧ ∀ y ∈ l,y.f0.size ≤ Rows.uptoBulk x.1 := by
 rcases opens.open_slice_fields Try.underlying46 Try.underlying111 (by kernel_rfl) (by kernel_rfl) h with ⟨hcs,rfl⟩ | ⟨ad,len',cap',m,D,Pl,hcs,_,hl,hm,hmm,hx,hf⟩
 ·simp at hcs
  obtain ⟨rfl,rfl,rfl⟩ := hcs
  exact ⟨[],rfl,Nat.le_refl _,⟨rfl,by omega,fun h => by omega⟩,Nat.zero_le _,fun y h => by cases h⟩
 ·simp at hcs
  obtain ⟨rfl,rfl,rfl⟩ := hcs
  have hlm : len ≤ m := by rw [hmm]; split <;> omega
  have each : ∀ i : Nat,∃ y : S111,i < len → W.cell? (ad.add (i * 2 + 0)) = some (.string y.f0) ∧ W.cell? (ad.add (i * 2 + 1)) = some (.int .i64 y.f1) ∧ y.f0.size ≤ Rows.uptoBulk (D i) := by
   intro i
   by_cases hi : i < len
   ·obtain ⟨ys,n,hD,_,hyl,hj⟩ := hf i (by omega)
    obtain ⟨v0,y0,c0,e0,t0⟩ := hj 0 _ rfl
    obtain ⟨v1,y1,c1,e1,t1⟩ := hj 1 _ rfl
    obtain ⟨s,hv0,rfl,hs⟩ := DataW.trod_string Try.underlying9 t0
    obtain ⟨k,hv1,rfl,hw⟩ := DataW.trod_int Try.underlying3 t1
    simp only [List.cons.injEq,and_true] at hv0 hv1
    subst hv0 hv1
    refine ⟨⟨s,k⟩,fun _ => ⟨c0,c1,?_⟩⟩
    rw [hD]
    match ys,hyl with
    | [z0,z1],_ =>
     simp at e0 e1
     subst e0 e1
     simp only [List.map_cons,List.map_nil,Rows.uptoBulk,Rows.uptoBulkAll]
     have : s.data.toList.length = s.size := by rw [Array.length_toList]; rfl
     simp only [this]
     omega
   ·exact ⟨z111,fun h => absurd h hi⟩
  obtain ⟨f,hf2⟩ := Classical.axiomOfChoice each
  refine ⟨(List.range len).map f,by simp,hl,⟨by simp,by unfold maxLen at hm; omega,fun _ => ⟨ad,rfl,fun j p hp => ?_⟩⟩,?_,?_⟩
  ·obtain ⟨hj,rfl⟩ : j < len ∧ f j = p := by
    rw [List.getElem?_map] at hp
    by_cases hj : j < len
    ·rw [List.getElem?_range hj] at hp
     exact ⟨hj,by simpa using hp⟩
    ·rw [List.getElem?_eq_none (by simp; omega)] at hp
     simp at hp
   obtain ⟨c0,c1,_⟩ := hf2 j hj
   refine ⟨[.string (f j).f0,.int .i64 (f j).f1],rfl,k111_mk W (f j),?_⟩
   intro i u hu
   match i,hu with
   | 0,hu => simp at hu; subst hu; exact c0
   | 1,hu => simp at hu; subst hu; exact c1
   | i + 2,hu => simp at hu
  ·rw [hx]
   simp only [Rows.uptoBulk]
   have := bulk_length ((List.range len).map D)
   simp only [List.length_map,List.length_range] at this ⊢
   omega
  ·intro y hy
   obtain ⟨i,hi,rfl⟩ := List.mem_map.mp hy
   have h1 := (hf2 i (by simpa using hi)).2.2
   have h2 := bulk_mem (H := H) (List.mem_map_of_mem (f := D) hi)
   rw [hx]
   simp only [Rows.uptoBulk]
   omega
theorem one_field {cs : List Value} {fuel : Nat} {x : DataW H × List MemPlace} (h : DataW.trod enc Try.prog W 0 spare held fuel 49 cs = some x) :
  cs.length = 21 ∧ ∃ (ys : List (DataW H × List MemPlace)) (n : Nat),x.1 = .agg (ys.map (·.1)) ∧ ys.length = 21 ∧ ∀ (j : Nat) (f : Field) (fs : Array Field),Try.prog.underlying 49 = some (.struct fs) → fs[j]? = some f → ∃ (v : Value) (y : DataW H × List MemPlace),cs[j]? = some v ∧ ys[j]? = some y ∧ DataW.trod enc Try.prog W 0 spare held n f.type [v] = some y := by
 have hall : ∀ fs,Try.prog.underlying 49 = some (.struct fs) → oneCellFields Try.prog fs = true ∧ fs.size = 21 := by
  intro fs h
  rw [Try.underlying49] at h
  injection h with h
  injection h with h
  subst h
  exact ⟨by kernel_rfl,rfl⟩
 obtain ⟨fs0,hfs0⟩ : ∃ fs,Try.prog.underlying 49 = some (.struct fs) := ⟨_,Try.underlying49⟩
 obtain ⟨ys,n',hn',hy,hlen,hyl,hf⟩ := DataW.trod_struct hfs0 h
 have hone := hone_of (hall fs0 hfs0).1
 have hz := (hall fs0 hfs0).2
 have h21 : cs.length = 21 := by rw [hlen]; kernel_rfl
 refine ⟨h21,ys,n',by rw [hy],by omega,fun j f fs hfs hj => ?_⟩
 rw [hfs0] at hfs
 injection hfs with hfs
 injection hfs with hfs
 subst hfs
 obtain ⟨ho,hk⟩ := hone j f hj
 have hjl := (Array.getElem?_eq_some_iff.1 hj).1
 have hjl2 : j < 21 := by omega
 have h1 := hf j f hj
 rw [ho,hk] at h1
 have hone' : (cs.drop j).take 1 = [cs[j]'(by omega)] := by
  rw [List.drop_eq_getElem_cons (by omega)]
  rfl
 rw [hone'] at h1
 have hys : ys[j]? = some (ys[j]'(by omega)) := List.getElem?_eq_getElem (by omega)
 exact ⟨_,_,List.getElem?_eq_getElem (by omega),hys,h1.trans hys⟩
theorem slice_of {t e : TypeId} {fuel : Nat} {v : Value} {x : DataW H × List MemPlace} (ht : Try.prog.underlying t = some (.slice e)) (h : DataW.trod enc Try.prog W 0 spare held fuel t [v] = some x) : ∃ a len cap,v = .slice a len cap := by
 rcases DataW.trod_slice ht h with ⟨h0,_⟩ | ⟨a,len,cap,elems,rest,n,_,h0,_⟩
 ·exact ⟨none,0,0,by simpa using h0⟩
 ·exact ⟨some a,len,cap,by simpa using h0⟩
theorem wf_in {n : Int} (h : (Lit.int .i64 n).wf = true) : -9223372036854775808 ≤ n ∧ n ≤ 9223372036854775807 := by
 have := h
 simp [Lit.wf] at this
 have h1 : IntKind.i64.min = -9223372036854775808 := by decide
 have h2 : IntKind.i64.max = 9223372036854775807 := by decide
 omega
theorem open_msg {cs : List Value} {fuel : Nat} {x : DataW H × List MemPlace} (h : DataW.trod enc Try.prog W 0 spare held fuel 49 cs = some x) :
  ∃ (m : Mv) (hd : Hd),cs = (cells m hd).toList ∧ Reads W m hd ∧ SB (Rows.uptoBulk x.1) m ∧ (-9223372036854775808 ≤ m.f12 ∧ m.f12 ≤ 9223372036854775807) := by
 obtain ⟨hl,ys,n,hx,hyl,hj⟩ := one_field h
 have hy : ∀ (j : Nat) (y : DataW H × List MemPlace),ys[j]? = some y → Rows.uptoBulk y.1 ≤ Rows.uptoBulk x.1 := by
  intro j y h
  rw [hx]
  simp only [Rows.uptoBulk]
  have := bulk_mem (List.mem_map_of_mem (f := (·.1)) (List.mem_of_getElem? h))
  omega
 obtain ⟨v0,y0,c0,e0,t0⟩ := hj 0 _ _ Try.underlying49 rfl
 obtain ⟨n0,g0,_,w0⟩ := DataW.trod_int Try.underlying3 t0
 simp only [List.cons.injEq,and_true] at g0
 subst g0
 obtain ⟨v1,y1,c1,e1,t1⟩ := hj 1 _ _ Try.underlying49 rfl
 obtain ⟨s1,g1,d1,_⟩ := DataW.trod_string Try.underlying9 t1
 simp only [List.cons.injEq,and_true] at g1
 subst g1
 have b1 := hy 1 _ e1
 rw [d1,opens.bulk_string] at b1
 obtain ⟨v2,y2,c2,e2,t2⟩ := hj 2 _ _ Try.underlying49 rfl
 obtain ⟨s2,g2,d2,_⟩ := DataW.trod_string Try.underlying9 t2
 simp only [List.cons.injEq,and_true] at g2
 subst g2
 have b2 := hy 2 _ e2
 rw [d2,opens.bulk_string] at b2
 obtain ⟨v3,y3,c3,e3,t3⟩ := hj 3 _ _ Try.underlying49 rfl
 obtain ⟨A3,len3,cap3,rfl⟩ := slice_of Try.underlying44 t3
 obtain ⟨l3,rfl,lc3,C3,z3⟩ := open_nums t3
 have b3 := hy 3 _ e3
 obtain ⟨v4,y4,c4,e4,t4⟩ := hj 4 _ _ Try.underlying49 rfl
 obtain ⟨s4,g4,d4,_⟩ := DataW.trod_string Try.underlying9 t4
 simp only [List.cons.injEq,and_true] at g4
 subst g4
 have b4 := hy 4 _ e4
 rw [d4,opens.bulk_string] at b4
 obtain ⟨v5,y5,c5,e5,t5⟩ := hj 5 _ _ Try.underlying49 rfl
 obtain ⟨A5,len5,cap5,rfl⟩ := slice_of Try.underlying44 t5
 obtain ⟨l5,rfl,lc5,C5,z5⟩ := open_nums t5
 have b5 := hy 5 _ e5
 obtain ⟨v6,y6,c6,e6,t6⟩ := hj 6 _ _ Try.underlying49 rfl
 obtain ⟨A6,len6,cap6,rfl⟩ := slice_of Try.underlying44 t6
 obtain ⟨l6,rfl,lc6,C6,z6⟩ := open_nums t6
 have b6 := hy 6 _ e6
 obtain ⟨v7,y7,c7,e7,t7⟩ := hj 7 _ _ Try.underlying49 rfl
 obtain ⟨A7,len7,cap7,rfl⟩ := slice_of Try.underlying44 t7
 obtain ⟨l7,rfl,lc7,C7,z7⟩ := open_nums t7
 have b7 := hy 7 _ e7
 obtain ⟨v8,y8,c8,e8,t8⟩ := hj 8 _ _ Try.underlying49 rfl
 obtain ⟨A8,len8,cap8,rfl⟩ := slice_of Try.underlying44 t8
 obtain ⟨l8,rfl,lc8,C8,z8⟩ := open_nums t8
 have b8 := hy 8 _ e8
 obtain ⟨v9,y9,c9,e9,t9⟩ := hj 9 _ _ Try.underlying49 rfl
 obtain ⟨A9,len9,cap9,rfl⟩ := slice_of Try.underlying45 t9
 obtain ⟨l9,rfl,lc9,C9,z9,q9⟩ := open_shares t9
 have b9 := hy 9 _ e9
 obtain ⟨v10,y10,c10,e10,t10⟩ := hj 10 _ _ Try.underlying49 rfl
 obtain ⟨A10,len10,cap10,rfl⟩ := slice_of Try.underlying46 t10
 obtain ⟨l10,rfl,lc10,C10,z10,q10⟩ := open_idents t10
 have b10 := hy 10 _ e10
 obtain ⟨v11,y11,c11,e11,t11⟩ := hj 11 _ _ Try.underlying49 rfl
 obtain ⟨A11,len11,cap11,rfl⟩ := slice_of Try.underlying47 t11
 obtain ⟨l11,rfl,lc11,C11,z11,q11⟩ := open_texts t11
 have b11 := hy 11 _ e11
 obtain ⟨v12,y12,c12,e12,t12⟩ := hj 12 _ _ Try.underlying49 rfl
 obtain ⟨n12,g12,_,w12⟩ := DataW.trod_int Try.underlying3 t12
 simp only [List.cons.injEq,and_true] at g12
 subst g12
 obtain ⟨v13,y13,c13,e13,t13⟩ := hj 13 _ _ Try.underlying49 rfl
 obtain ⟨A13,len13,cap13,rfl⟩ := slice_of Try.underlying44 t13
 obtain ⟨l13,rfl,lc13,C13,z13⟩ := open_nums t13
 have b13 := hy 13 _ e13
 obtain ⟨v14,y14,c14,e14,t14⟩ := hj 14 _ _ Try.underlying49 rfl
 obtain ⟨A14,len14,cap14,rfl⟩ := slice_of Try.underlying47 t14
 obtain ⟨l14,rfl,lc14,C14,z14,q14⟩ := open_texts t14
 have b14 := hy 14 _ e14
 obtain ⟨v15,y15,c15,e15,t15⟩ := hj 15 _ _ Try.underlying49 rfl
 obtain ⟨n15,g15,_,w15⟩ := DataW.trod_int Try.underlying3 t15
 simp only [List.cons.injEq,and_true] at g15
 subst g15
 obtain ⟨v16,y16,c16,e16,t16⟩ := hj 16 _ _ Try.underlying49 rfl
 obtain ⟨s16,g16,d16,_⟩ := DataW.trod_string Try.underlying9 t16
 simp only [List.cons.injEq,and_true] at g16
 subst g16
 have b16 := hy 16 _ e16
 rw [d16,opens.bulk_string] at b16
 obtain ⟨v17,y17,c17,e17,t17⟩ := hj 17 _ _ Try.underlying49 rfl
 obtain ⟨n17,g17,_,w17⟩ := DataW.trod_int Try.underlying3 t17
 simp only [List.cons.injEq,and_true] at g17
 subst g17
 obtain ⟨v18,y18,c18,e18,t18⟩ := hj 18 _ _ Try.underlying49 rfl
 obtain ⟨n18,g18,_,w18⟩ := DataW.trod_int Try.underlying3 t18
 simp only [List.cons.injEq,and_true] at g18
 subst g18
 obtain ⟨v19,y19,c19,e19,t19⟩ := hj 19 _ _ Try.underlying49 rfl
 obtain ⟨s19,g19,d19,_⟩ := DataW.trod_string Try.underlying9 t19
 simp only [List.cons.injEq,and_true] at g19
 subst g19
 have b19 := hy 19 _ e19
 rw [d19,opens.bulk_string] at b19
 obtain ⟨v20,y20,c20,e20,t20⟩ := hj 20 _ _ Try.underlying49 rfl
 obtain ⟨n20,g20,_,w20⟩ := DataW.trod_int Try.underlying3 t20
 simp only [List.cons.injEq,and_true] at g20
 subst g20
 refine ⟨⟨n0,s1,s2,l3,s4,l5,l6,l7,l8,l9,l10,l11,n12,l13,l14,n15,s16,n17,n18,s19,n20⟩,⟨A3,cap3,A5,cap5,A6,cap6,A7,cap7,A8,cap8,A9,cap9,A10,cap10,A11,cap11,A13,cap13,A14,cap14⟩,?_,⟨C3,lc3,C5,lc5,C6,lc6,C7,lc7,C8,lc8,C9,lc9,C10,lc10,C11,lc11,C13,lc13,C14,lc14⟩,?_,wf_in w12⟩
 ·apply List.ext_getElem?
  intro j
  by_cases hj : j < 21
  ·match j,hj with
   | 0,_ => exact c0
   | 1,_ => exact c1
   | 2,_ => exact c2
   | 3,_ => exact c3
   | 4,_ => exact c4
   | 5,_ => exact c5
   | 6,_ => exact c6
   | 7,_ => exact c7
   | 8,_ => exact c8
   | 9,_ => exact c9
   | 10,_ => exact c10
   | 11,_ => exact c11
   | 12,_ => exact c12
   | 13,_ => exact c13
   | 14,_ => exact c14
   | 15,_ => exact c15
   | 16,_ => exact c16
   | 17,_ => exact c17
   | 18,_ => exact c18
   | 19,_ => exact c19
   | 20,_ => exact c20
   | j + 21,hj => exact absurd hj (by omega)
  ·rw [List.getElem?_eq_none (by omega),List.getElem?_eq_none (by rw [Array.length_toList]; show 21 ≤ j; omega)]
 ·exact ⟨(by show s1.size ≤ _; omega),(by show s2.size ≤ _; omega),Nat.le_trans z3 b3,(by show s4.size ≤ _; omega),Nat.le_trans z5 b5,Nat.le_trans z6 b6,Nat.le_trans z7 b7,Nat.le_trans z8 b8,Nat.le_trans z9 b9,fun a ha => Nat.le_trans (q9 a ha) b9,Nat.le_trans z10 b10,fun a ha => Nat.le_trans (q10 a ha) b10,Nat.le_trans z11 b11,fun a ha => Nat.le_trans (q11 a ha) b11,Nat.le_trans z13 b13,Nat.le_trans z14 b14,fun a ha => Nat.le_trans (q14 a ha) b14,(by show s16.size ≤ _; omega),(by show s19.size ≤ _; omega)⟩
end
end Go.Proofs.Ytlkebjkpmiehcaa.Ms
end
