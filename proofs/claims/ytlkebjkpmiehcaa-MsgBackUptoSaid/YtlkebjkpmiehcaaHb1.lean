/- Words, contracts and lemmas that the claim needs, in the order in which they build. Conditions: each lemma's own. -/
import Derived.KernelRfl
import Derived.Maps.OwnOps
import Derived.Maps.Views
import Derived.Below
import Derived.Deep.Draws
import Derived.Deep.AppendLies
import Derived.Maps.AppendAt
import Derived.OwnWalk
import Derived.Laws.BytesArg
import Derived.Laws.MakeOwn
import Derived.Laws.OwnMore
import Derived.Deep.OwnRows
import Derived.Tactics
import Derived.Lib.ConvBytes
import Derived.Laws.Slices
import Derived.WalkKit
import Derived.RowKit3
import Derived.Deep.LoopGhost
import Derived.Deep.QuietTactic
import Derived.BigQuiet
import Derived.WideLaws
import Derived.Deep.DeepCutAuto
import Derived.Deep.CutBlock
import Derived.Deep.RegionHeld3
import Derived.Laws.Rows
import Derived.Lib.AppendStr
import Derived.ArgAppend
import Derived.Laws.IdiomCopy
import Derived.OrdersHeld
import Derived.Laws.BitsLemmas
import Derived.RowKit
import Derived.Laws.Tables
import Derived.Test.YtlkebjkpmiehcaaProg
import Derived.Test.YtlkebjkpmiehcaaHb0
section
namespace Go.Proofs.YtlkebjkpmiehcaaW.PrintWords
open Go.RowKit Go.Maps
set_option linter.unusedVariables false
def Sd (xs : List Int) : DataW Unit := xs.foldl (fun D x => D.put (.int .i64 x) (.lit (.bool true))) (.map [])
theorem Sd_snoc (xs : List Int) (x : Int) : Sd (xs ++ [x]) = (Sd xs).put (.int .i64 x) (.lit (.bool true)) := by simp [Sd]
theorem Sd_fold (x : Int) (z : DataW Unit) : ∀ (xs : List Int) (D : DataW Unit),IsMap D → (xs.foldl (fun D x => D.put (.int .i64 x) (.lit (.bool true))) D).atKey (.int .i64 x) z = if x ∈ xs then .lit (.bool true) else D.atKey (.int .i64 x) z
 | [],D,_ => by simp
 | y :: xs,D,hD => by
  rw [List.foldl_cons,Sd_fold x z xs _ (hD.put _ _)]
  by_cases h : x ∈ xs
  ·rw [if_pos h,if_pos (List.mem_cons_of_mem _ h)]
  ·rw [if_neg h]
   by_cases hy : x = y
   ·subst hy
    rw [if_pos List.mem_cons_self]
    exact atKey_put_same hD (by simp [WideAt.IsKeyLit]) _ _
   ·rw [if_neg (by simp [hy,h])]
    exact atKey_put_other (fun e => hy (by injection e)) _ _
theorem Sd_at (x : Int) (xs : List Int) : (Sd xs).atKey (.int .i64 x) (.lit (.bool false)) = .lit (.bool (decide (x ∈ xs))) := by
 unfold Sd
 rw [Sd_fold x _ xs (.map []) ⟨_,rfl⟩]
 by_cases h : x ∈ xs
 ·rw [if_pos h,decide_eq_true h]
 ·rw [if_neg h,decide_eq_false h]
  rfl
theorem plainElem_bool_inv {P : Program} {e : TypeId} (he : P.underlying e = some .bool) {v : Value} {z : DataW Unit × List MemPlace} (h : plainElem P e v = some z) : ∃ b,v = .bool b ∧ z = (.lit (.bool b),[]) := by
 unfold plainElem at h
 rw [he] at h
 cases v <;> simp at h
 exact ⟨_,rfl,h.symm⟩
theorem lit_bool {a b : Bool} (h : (DataW.lit (.bool a) : DataW Unit) = .lit (.bool b)) : a = b := by
 injection h with h2
 injection h2
def MapTurn (W w1 : World) : Prop := ∃ g es c,W.heap[g]? = some (.map es c) ∧ W.grownBy w1 (some g)
namespace Kd
def Y (_ : Kd Int) (e : TypeId) (w : World) (base : Nat) (ok : Nat → Prop) (v : Value) (xs : List Int) : Prop := ∃ g,v = .map (some g) ∧ ok g ∧ base ≤ g ∧ w.ownsMap Go.Proofs.Try.prog e (plainElem (H := Unit) Go.Proofs.Try.prog 4) g xs.length (Sd xs)
section
variable {d : Kd Int} {e : TypeId} {w w1 : World} {base : Nat} {ok ok' : Nat → Prop} {v : Value} {xs : List Int}
theorem Y_step (h : Y d e w base ok v xs) (hm : ∀ k,ok k → k < w.heap.size → w1.heap[k]? = w.heap[k]?) : Y d e w1 base ok v xs := by
 obtain ⟨g,rfl,ho,hb,hw⟩ := h
 have hl := hw.lt
 obtain ⟨es,c,hh,r⟩ := hw
 exact ⟨g,rfl,ho,hb,es,c,(hm g ho hl).trans hh,r⟩
theorem Y_below (h : Y d e w base ok v xs) (hb : Below w.heap.size w w1) : Y d e w1 base ok v xs := Y_step h (fun k _ hk => hb.block k hk)
theorem Y_alloc (h : Y d e w base ok v xs) (o : Obj) : Y d e (w.alloc o) base ok v xs := Y_below h (below_alloc (Below.refl _ _) o)
theorem Y_drew (h : Y d e w base ok v xs) : Y d e w.drew base ok v xs := Y_below h (below_drew (Below.refl _ _))
theorem Y_drewN (h : Y d e w base ok v xs) (m : Nat) : Y d e (w.drewN m) base ok v xs := Y_below h (pw_below_drewN (Below.refl _ _) m)
theorem Y_far (h : Y d e w base ok v xs) {p : Addr} (hok : ∀ k,ok k → k ≠ p.block) (u : Value) : Y d e (w.setCell p u) base ok v xs := Y_step h (fun k ho _ => Below.heap_setCell w p u k (hok k ho))
theorem Y_mono (h : Y d e w base ok v xs) (hok : ∀ k,ok k → ok' k) : Y d e w base ok' v xs := by
 obtain ⟨g,rfl,ho,r⟩ := h
 exact ⟨g,rfl,hok g ho,r⟩
theorem Y_lower {base' : Nat} (h : Y d e w base ok v xs) (hb : base' ≤ base) : Y d e w base' ok v xs := by
 obtain ⟨g,rfl,ho,hb2,r⟩ := h
 exact ⟨g,rfl,ho,Nat.le_trans hb hb2,r⟩
theorem Y_types (h : Y d e w base ok v xs) {g t : Nat} {cells : Array Value} (hb : w.heap[g]? = some (.cells cells t (0,0))) (ht : ∀ q,q ∈ e :: d.E → q ≠ t) : Y d e w base (fun k => ok k ∧ k ≠ g) v xs := by
 obtain ⟨g',rfl,ho,hbs,hw⟩ := h
 have hw2 := hw
 obtain ⟨es,c,hh,r⟩ := hw
 refine ⟨g',rfl,⟨ho,fun e' => ?_⟩,hbs,hw2⟩
 subst e'
 rw [hh] at hb
 cases hb
theorem Y_over' {u : Value} {W : World} {b e' : Nat} (h : Y d e W b ok v xs) (hty : ∀ k,u.ownBlock = some k → ∃ cells,W.heap[k]? = some (.cells cells e' (0,0))) (_ht : ∀ q,q ∈ e :: d.E → q ≠ e') (hg : W.grownBy w1 u.ownBlock) : Y d e w1 b ok v xs := by
 obtain ⟨g',rfl,ho,hbs,hw⟩ := h
 refine ⟨g',rfl,ho,hbs,hw.kept hg (fun e2 => ?_)⟩
 obtain ⟨cells,hc⟩ := hty g' e2.symm
 obtain ⟨es,c,hh,r⟩ := hw
 rw [hh] at hc
 cases hc
end
theorem R_map {α : Type} {d : Kd α} {e : Nat} {w w1 : World} {base : Nat} {ok : Nat → Prop} {v : Value} {xs : List α} (h : d.R e w base ok v xs) (hm : MapTurn w w1) : d.R e w1 base ok v xs := by
 obtain ⟨g,es,c,hh,hg⟩ := hm
 refine R_mono (R_grown (R_bound h) hg (fun k hk e1 => ?_)) (fun _ hk => hk.1)
 obtain ⟨_,_,_,q,_,cells,hc⟩ := hk
 injection e1 with e1
 subst e1
 rw [hh] at hc
 cases hc
section
variable {P : Program} {ops : Array Oper} {rest : List Oper} {o : Oper} {a : Act} {Q : Exit → Act → World → Prop}
theorem zeroB (w : World) : (zeroValue 4).run Go.Proofs.Try.prog w = .ok (.bool false) w := by kernel_rfl
theorem Y_make (d : Kd Int) {W : World} (e : Nat) (hgd : o.guard = none) {N : Tmp} (hd : o.dst = some N) (t : TypeId) (ho : o.op = .makeMap t none) {ok : Nat → Prop} (hok : ok W.heap.size)
  (h : ∀ v1 w1,Kd.Y d e w1 W.heap.size ok v1 [] → Below W.heap.size W w1 → wpList Go.Proofs.Try.prog ops Q rest (a.put o.dst v1) w1) : wpList Go.Proofs.Try.prog ops Q (o :: rest) a W := by
 have hmm := @run_makeMap Go.Proofs.Try.prog
 refine wpList_plain hgd fun K hK => ?_
 unfold Oper.wp
 simp [execOp,ho,hmm,Result.andThen]
 exact hK _ _ (h _ _ ⟨_,rfl,hok,Nat.le_refl _,World.ownsMap_made _ _ _ _⟩ (below_alloc (Below.refl _ _) _))
theorem Y_look (d : Kd Int) {W : World} (e : Nat) (hgd : o.guard = none) (t : TypeId) (m x : Operand) (ho : o.op = .lookup t m x false) (ht : Go.Proofs.Try.prog.underlying t = some (.map e 4)) (he : Go.Proofs.Try.prog.underlying e = some (.int .i64)) (hb : Go.Proofs.Try.prog.underlying 4 = some .bool)
  (hz : (zeroValue 4).run Go.Proofs.Try.prog W = .ok (.bool false) W) {v : Value} {k : Int} {base : Nat} {ok : Nat → Prop} {xs : List Int} (hm : a.eval m = v) (hx : a.eval x = .int .i64 k) (hk : (Lit.int .i64 k).wf = true)
  (HO : Kd.Y d e W base ok v xs) (h : ∀ w1,Below W.heap.size W w1 → wpList Go.Proofs.Try.prog ops Q rest (a.put o.dst (.bool (decide (k ∈ xs)))) w1) : wpList Go.Proofs.Try.prog ops Q (o :: rest) a W := by
 obtain ⟨g,rfl,_,_,hw⟩ := HO
 obtain ⟨u,ps,hrun,hu⟩ := hw.lookup (int_keyed he) ht hz (plainElem_bool hb false) (keyOf_int_mk he hk)
 obtain ⟨b,rfl,hzz⟩ := plainElem_bool_inv hb hu
 rw [Sd_at] at hzz
 have hbb : decide (k ∈ xs) = b := lit_bool (congrArg Prod.fst hzz)
 refine wpList_plain hgd fun K' hK' => ?_
 unfold Oper.wp
 simp [execOp,ho,hm,hx,hrun,Result.andThen]
 rw [← hbb]
 exact hK' _ _ (h _ (Below.refl _ _))
theorem Y_put (d : Kd Int) {w0 W : World} (base e : Nat) (hgd : o.guard = none) (t : TypeId) (m x y : Operand) (ho : o.op = .mapUpdate t m x y) (ht : Go.Proofs.Try.prog.underlying t = some (.map e 4)) (he : Go.Proofs.Try.prog.underlying e = some (.int .i64)) (hb : Go.Proofs.Try.prog.underlying 4 = some .bool)
  (v : Value) (xs : List Int) (k : Int) {ok : Nat → Prop} (hm : a.eval m = v) (hx : a.eval x = .int .i64 k) (hy : a.eval y = .bool true) (hk : (Lit.int .i64 k).wf = true) (hl : xs.length < maxLen)
  (HO : Kd.Y d e W base ok v xs) (HB : Below base w0 W) (hbase : base ≤ W.heap.size)
  (h : ∀ w1,Kd.Y d e w1 base ok v (xs ++ [k]) → Below base w0 w1 → MapTurn W w1 → wpList Go.Proofs.Try.prog ops Q rest (a.put o.dst undef) w1) : wpList Go.Proofs.Try.prog ops Q (o :: rest) a W := by
 obtain ⟨g,rfl,hok,hbg,hw⟩ := HO
 obtain ⟨w',hrun,r1,r2⟩ := hw.update (int_keyed he) ht hl (val := .bool true) (keyOf_int_mk he hk) (plainElem_bool hb true)
 have hw2 := hw
 obtain ⟨es,c,hh,_⟩ := hw2
 refine wpList_plain hgd fun K' hK' => ?_
 unfold Oper.wp
 simp [execOp,ho,hm,hx,hy,hrun,Result.andThen]
 refine hK' _ _ (h _ ⟨g,rfl,hok,hbg,?_⟩ (HB.grown r2 hbase (fun k hk => by injection hk with e1; omega)) ⟨g,es,c,hh,r2⟩)
 rw [Sd_snoc,List.length_append]
 exact r1
end
end Kd
theorem blk_map {w w1 : World} {g : Nat} {o : Obj} (h : w.heap[g]? = some o) (hm : MapTurn w w1) (hne : ∀ es c,o ≠ .map es c := by (intro _ _ h_; cases h_)) : w1.heap[g]? = some o := by
 obtain ⟨b,es,c,hh,hg⟩ := hm
 have hlt : g < w.heap.size := (Array.getElem?_eq_some_iff.1 h).1
 refine (hg.block g hlt (fun e => ?_)).trans h
 injection e with e
 subst e
 rw [hh] at h
 injection h with h
 exact hne _ _ h.symm
end Go.Proofs.YtlkebjkpmiehcaaW.PrintWords
end
section
namespace Go.Proofs.Ytlkebjkpmiehcaa.E
open Go.RowKit Go.Proofs.YtlkebjkpmiehcaaW.PrintWords Go.Proofs.YtlkebjkpmiehcaaW.PrintLast Go.Proofs.YtlkebjkpmiehcaaW.PrintMore
attribute [local go_sem] max2_int min2_int max_two min_two max_three min_three max_four min_four   
set_option linter.unusedVariables false
set_option linter.unusedSimpArgs false
def errW : Option Int → Value
 | none => .nilIface
 | some c => .iface 0 (.int .i64 c)
theorem errW_none : errW none = .nilIface := rfl
theorem errW_some (c : Int) : errW (some c) = .iface 0 (.int .i64 c) := rfl
theorem info5 : (Try.prog.info? 5).map (fun i => (i.zero,i.size,i.bytes)) = some (some (.int .u8 0),1,1) := by kernel_rfl
theorem info41 : (Try.prog.info? 41).map (fun i => (i.zero,i.size,i.bytes)) = some (some (.agg #[(.int .i64 0),(.string ⟨#[]⟩)]),2,24) := by kernel_rfl
structure S41 where
 f0 : Int
 f1 : ByteArray
def z41 : S41 := ⟨(0 : Int),(⟨#[]⟩ : ByteArray)⟩
def k41 : Kd S41 := Kd.iso (Kd.pair (Kd.int .i64) Kd.string) (fun x : S41 => (x.f0,x.f1))
theorem k41_open {w : World} {x : S41} {cs : List Value} (h : k41.K w x cs) : cs = [.int .i64 x.f0,.string x.f1] := by
 obtain ⟨_,_,rfl,rfl,rfl⟩ := h
 exact rfl
theorem k41_mkM (w : World) (base : Nat) (ok : Nat → Prop) (x : S41)  : k41.M w base ok x [.int .i64 x.f0,.string x.f1] := ⟨[.int .i64 x.f0],[.string x.f1],rfl,rfl,rfl⟩
def rd_T41 (xs : List S41) (i : Int) : S41 := xs.getD i.toNat z41
theorem at_T41 {w : World} {A : Option Addr} {n : Nat} {xs : List S41} (h : Kd.C k41 w A n xs) (i : Int) (h0 : 0 ≤ i) (h1 : i < n) : ∃ ad ,A = some ad ∧ w.cell? (ad.add (i.toNat * 2)) = some (.int .i64 (rd_T41 xs i).f0) ∧ w.cell? ⟨(ad.add (i.toNat * 2)).block,(ad.add (i.toNat * 2)).off + 1,none⟩ = some (.string (rd_T41 xs i).f1) := by
 obtain ⟨ad,c,e,_,hK,hc0⟩ := Kd.C_get h z41 i h0 h1
 have hc : ∀ j u,c[j]? = some u → w.cell? (ad.add (i.toNat * 2 + j)) = some u := hc0
 obtain rfl := k41_open hK
 exact ⟨ad,e,hc 0 _ rfl,by rw [← add_field _ _ 1 (by omega)]; exact hc 1 _ rfl⟩
mutual
def wire_number.j0 : Nat → ByteArray → Int → Int → Bool → Option (Int × Int × Int)
 | 0,_,_,_,_ => none
 | k + 1,x0,x1,x2,x26 => if x26 = true then (some (0,0,100)) else (wire_number.l0 k x0 x1 x2 0 x2 0)
def wire_number.l0 : Nat → ByteArray → Int → Int → Int → Int → Int → Option (Int × Int × Int)
 | 0,_,_,_,_,_,_ => none
 | k + 1,x0,x1,x2,x9,x27,x28 => if x28 < x27 then (if 0 ≤ (wrap64 (x1 + x28)) then (if (wrap64 (x1 + x28)) < (x0.size : Int) then (wire_number.l0 k x0 x1 x2 (Go.bits .or .i64 (wrap64 (x9 * 256)) (wrap64 (bt x0 (wrap64 (x1 + x28))))) x27 (wrap64 (x28 + 1))) else (none)) else (none)) else (some (x9,wrap64 (x1 + x2),0))
end
def wire_number.f (k : Nat) (a0 : ByteArray) (a1 : Int) (a2 : Int) : Option (Int × Int × Int) := if a1 < 0 then (wire_number.j0 k a0 a1 a2 true) else (if a1 > (a0.size : Int) then (wire_number.j0 k a0 a1 a2 true) else (wire_number.j0 k a0 a1 a2 (decide ((wrap64 ((a0.size : Int) - a1)) < a2))))
theorem wire_number.mono_l : ∀ k,(∀ y0 y1 y2 y3,LeO (wire_number.j0 k y0 y1 y2 y3) (wire_number.j0 (k + 1) y0 y1 y2 y3)) ∧ (∀ y0 y1 y2 y3 y4 y5,LeO (wire_number.l0 k y0 y1 y2 y3 y4 y5) (wire_number.l0 (k + 1) y0 y1 y2 y3 y4 y5))
 | 0 => ⟨fun _ _ _ _ r h => by simp [wire_number.j0] at h,fun _ _ _ _ _ _ r h => by simp [wire_number.l0] at h⟩
 | k + 1 => by
  obtain ⟨ih0,ih1⟩ := wire_number.mono_l k
  refine ⟨?_,?_⟩
  ·intro y0 y1 y2 y3
   unfold wire_number.j0
   repeat' first
   | (with_reducible exact ih0 _ _ _ _)
   | (with_reducible exact ih1 _ _ _ _ _ _)
   | (with_reducible exact LeO.refl _)
   | (with_reducible exact LeO.none _)
   | (with_reducible refine LeO.ite ?_ ?_)
   | (with_reducible refine LeO.bind ?_ (fun _ => ?_))
   | exact ih0 _ _ _ _
   | exact ih1 _ _ _ _ _ _
   | exact LeO.none _
   | refine LeO.ite ?_ ?_
   | refine LeO.bind ?_ (fun _ => ?_)
  ·intro y0 y1 y2 y3 y4 y5
   unfold wire_number.l0
   repeat' first
   | (with_reducible exact ih0 _ _ _ _)
   | (with_reducible exact ih1 _ _ _ _ _ _)
   | (with_reducible exact LeO.refl _)
   | (with_reducible exact LeO.none _)
   | (with_reducible refine LeO.ite ?_ ?_)
   | (with_reducible refine LeO.bind ?_ (fun _ => ?_))
   | exact ih0 _ _ _ _
   | exact ih1 _ _ _ _ _ _
   | exact LeO.none _
   | refine LeO.ite ?_ ?_
   | refine LeO.bind ?_ (fun _ => ?_)
theorem wire_number.mono : ∀ a0 a1 a2 k,LeO (wire_number.f k a0 a1 a2) (wire_number.f (k + 1) a0 a1 a2) := by
 intro a0 a1 a2 k
 obtain ⟨ih0,ih1⟩ := wire_number.mono_l k
 unfold wire_number.f
 repeat' first
   | (with_reducible exact ih0 _ _ _ _)
   | (with_reducible exact ih1 _ _ _ _ _ _)
   | (with_reducible exact LeO.refl _)
   | (with_reducible exact LeO.none _)
   | (with_reducible refine LeO.ite ?_ ?_)
   | (with_reducible refine LeO.bind ?_ (fun _ => ?_))
   | exact ih0 _ _ _ _
   | exact ih1 _ _ _ _ _ _
   | exact LeO.none _
   | refine LeO.ite ?_ ?_
   | refine LeO.bind ?_ (fun _ => ?_)
set_option maxHeartbeats 8000000 in
set_option maxRecDepth 100000 in
theorem wire_number.calls (k : Nat) (a0 : ByteArray) (a1 : Int) (a2 : Int) (r1 : Int) (r2 : Int) (r3 : Int) (w : World) (h : wire_number.f k a0 a1 a2 = some (r1,r2,r3)) :
  Calls Try.prog 54 #[.string a0,.int .i64 a1,.int .i64 a2] w fun e w' => e = .returned (.tuple #[.int .i64 r1,.int .i64 r2,.int .i64 r3]) ∧ Drawn0 w w' := by
 have H : (if a1 < 0 then (wire_number.j0 k a0 a1 a2 true) else (if a1 > (a0.size : Int) then (wire_number.j0 k a0 a1 a2 true) else (wire_number.j0 k a0 a1 a2 (decide ((wrap64 ((a0.size : Int) - a1)) < a2))))) = some (r1,r2,r3) := h
 clear h
 have HC4 := Aq.mk H
 clear H
 go_enter Try.func54,Try.ntmps54
 go_upto_region 1 with (fail)
 go_cut [26] (fun v26 wc => ∃ (kq : Nat) (x26_3 : Bool),v26 = .bool x26_3 ∧ Aq (wire_number.j0 kq a0 a1 a2 x26_3 = some (r1,r2,r3)) ∧ Aq (kq ≤ k) ∧ Drawn0 w wc)
 case first =>
  have H := HC4.out
  clear HC4
  by_cases c5 : a1 < 0
  ·rw [if_pos c5] at H
   have c5b0 : decide (a1 < 0) = true := decide_eq_true c5
   clear c5
   (first | rw [c5b0] | (simp only [i64_w,i32_w]; rw [c5b0]) | skip)
   have H' := Aq.mk H
   clear H
   go_wp2
   go_meet
   case rel => exact ⟨_,(true),(by first | rfl | (simp; done) | (simp [*]; done)),H',⟨by first | omega | exact Nat.le_refl _⟩,by repeat (first | exact Drawn0.refl _ | apply Drawn0.step)⟩
  ·rw [if_neg c5] at H
   have c5b0 : decide (a1 < 0) = false := decide_eq_false c5
   clear c5
   (first | rw [c5b0] | (simp only [i64_w,i32_w]; rw [c5b0]) | skip)
   by_cases c6 : a1 > (a0.size : Int)
   ·rw [if_pos c6] at H
    have c6b0 : decide ((a0.size : Int) < a1) = true := decide_eq_true c6
    clear c6
    have H' := Aq.mk H
    clear H
    go_wp2
    go_meet
    case rel => exact ⟨_,(true),(by first | rfl | (simp; done) | (simp [*]; done)),H',⟨by first | omega | exact Nat.le_refl _⟩,by repeat (first | exact Drawn0.refl _ | apply Drawn0.step)⟩
   ·rw [if_neg c6] at H
    have c6b0 : decide ((a0.size : Int) < a1) = false := decide_eq_false c6
    clear c6
    have H' := Aq.mk H
    clear H
    go_wp2
    go_meet
    case rel => exact ⟨_,(decide ((wrap64 ((a0.size : Int) - a1)) < a2)),(by first | rfl | (simp; done) | (simp [*]; done)),H',⟨by first | omega | exact Nat.le_refl _⟩,by repeat (first | exact Drawn0.refl _ | apply Drawn0.step)⟩
 case rest =>
  clear HC4
  try clear p2
  try clear c5
  try clear c5b0
  try clear c6
  try clear c6b0
  try clear p6
  obtain ⟨kq,x26_3,rfl,HA,HJ3,⟨mc3,rfl⟩⟩ := hcut
  cases kq with
  | zero => exact absurd HA.out (by simp [wire_number.j0])
  | succ kj3 =>
   have H := HA.out
   clear HA
   simp only [wire_number.j0] at H
   by_cases c7 : x26_3 = true
   ·subst c7
    have H1 : (some (0,0,100)) = some (r1,r2,r3) := by rw [if_pos rfl] at H; exact H
    clear H
    have H := H1
    clear H1
    simp only [Option.some.injEq,Prod.mk.injEq] at H
    obtain ⟨rfl,rfl,rfl⟩ := H
    go_wp2
    go_ret3
    exact ⟨by first | rfl | (simp; done) | (simp [*]; done),by repeat (first | exact Drawn0.refl _ | apply Drawn0.step)⟩
   ·replace c7 := Bool.eq_false_iff.mpr c7
    subst c7
    have H1 : (wire_number.l0 kj3 a0 a1 a2 0 a2 0) = some (r1,r2,r3) := by rw [if_neg (show ¬ (false = true) by decide)] at H; exact H
    clear H
    have H := H1
    clear H1
    have H' := Aq.mk H
    clear H
    go_wp2
    go_loopg [9,28] kj3 (fun kq v9 v28 w' => ∃ (x9_2 : Int) (x28_2 : Int),v9 = .int .i64 x9_2 ∧ v28 = .int .i64 x28_2 ∧ Aq (wire_number.l0 kq a0 a1 a2 x9_2 a2 x28_2 = some (r1,r2,r3)) ∧ Aq (kq ≤ kj3) ∧ Drawn0 w w')
    case atStart => exact ⟨(0),(0),(by first | rfl | (simp; done) | (simp [*]; done)),(by first | rfl | (simp; done) | (simp [*]; done)),H',⟨Nat.le_refl _⟩,by repeat (first | exact Drawn0.refl _ | apply Drawn0.step)⟩
    case round =>
     clear H'
     try clear p2
     try clear c3
     try clear c5
     try clear c5b0
     try clear c6
     try clear c6b0
     try clear p6
     try clear c7
     try clear p2
     try clear p6
     obtain ⟨x9_2,x28_2,rfl,rfl,HA,HK2,⟨m2,rfl⟩⟩ := hrel
     cases gk with
     | zero => exact absurd HA.out (by simp [wire_number.l0])
     | succ k2 =>
      have H := HA.out
      clear HA
      simp only [wire_number.l0] at H
      by_cases c8 : x28_2 < a2
      ·rw [if_pos c8] at H
       have c8b0 : decide (x28_2 < a2) = true := decide_eq_true c8
       clear c8
       obtain ⟨ji9,hji9⟩ : ∃ j_ : Int,(wrap64 (a1 + x28_2)) = j_ := ⟨_,rfl⟩
       replace H : (if 0 ≤ (ji9) then (if (ji9) < (a0.size : Int) then (wire_number.l0 k2 a0 a1 a2 (Go.bits .or .i64 (wrap64 (x9_2 * 256)) (wrap64 (bt a0 (ji9)))) a2 (wrap64 (x28_2 + 1))) else (none)) else (none)) = some (r1,r2,r3) := by first | (rw [hji9] at H; exact H) | (simp only [hji9] at H ⊢; exact H)
       have hji9w : (IntKind.i64.wrap (a1 + x28_2)) = ji9 := (i64_w _).trans hji9
       by_cases c10 : 0 ≤ (ji9)
       ·rw [if_pos c10] at H
        have c10b0 : decide (0 ≤ (ji9)) = true := decide_eq_true c10
        clear c10
        by_cases c11 : (ji9) < (a0.size : Int)
        ·rw [if_pos c11] at H
         have c11b0 : decide ((ji9) < (a0.size : Int)) = true := decide_eq_true c11
         clear c11
         have H' := Aq.mk H
         clear H
         have p12 : 0 ≤ ((ji9) : Int) := of_decide_eq_true (by first | (with_reducible assumption) | assumption)
         have q12 : (ji9) < (a0.size : Int) := of_decide_eq_true (by first | (with_reducible assumption) | assumption)
         have hx12 := bt_at a0 (ji9)
         replace p12 := eq_true p12
         replace q12 := eq_true q12
         go_wp2
         go_roundg k2
         case measure => have := HJ3.out; have := HK2.out; omega
         case rel => exact ⟨(Go.bits .or .i64 (wrap64 (x9_2 * 256)) (wrap64 (bt a0 (ji9)))),(wrap64 (x28_2 + 1)),(by first | rfl | (simp; done) | (simp only [← hji9] <;> (first | rfl | simp)) | (simp [*]; done)),(by first | rfl | (simp; done) | (simp [*]; done)),H',⟨by have := HJ3.out; have := HK2.out; omega⟩,by repeat (first | exact Drawn0.refl _ | apply Drawn0.step)⟩
        ·rw [if_neg c11] at H
         exact absurd H (by simp)
       ·rw [if_neg c10] at H
        exact absurd H (by simp)
      ·rw [if_neg c8] at H
       have c8b0 : decide (x28_2 < a2) = false := decide_eq_false c8
       clear c8
       simp only [Option.some.injEq,Prod.mk.injEq] at H
       obtain ⟨rfl,rfl,rfl⟩ := H
       go_wp2
       go_ret3
       exact ⟨by first | rfl | (simp; done) | (simp [*]; done),by repeat (first | exact Drawn0.refl _ | apply Drawn0.step)⟩
def wire_U16.f (k : Nat) (a0 : ByteArray) (a1 : Int) : Option (Int × Int × Int) := (wire_number.f k a0 a1 2).bind fun bt101 => (some (bt101.1,bt101.2.1,bt101.2.2))
theorem wire_U16.mono : ∀ a0 a1 k,LeO (wire_U16.f k a0 a1) (wire_U16.f (k + 1) a0 a1) := by
 intro a0 a1 k
 unfold wire_U16.f
 repeat' first
   | (with_reducible exact wire_number.mono _ _ _ _)
   | (with_reducible exact LeO.refl _)
   | (with_reducible exact LeO.none _)
   | (with_reducible refine LeO.ite ?_ ?_)
   | (with_reducible refine LeO.bind ?_ (fun _ => ?_))
   | exact wire_number.mono _ _ _ _
   | exact LeO.none _
   | refine LeO.ite ?_ ?_
   | refine LeO.bind ?_ (fun _ => ?_)
set_option maxHeartbeats 8000000 in
set_option maxRecDepth 100000 in
theorem wire_U16.calls (k : Nat) (a0 : ByteArray) (a1 : Int) (r1 : Int) (r2 : Int) (r3 : Int) (w : World) (h : wire_U16.f k a0 a1 = some (r1,r2,r3)) :
  Calls Try.prog 33 #[.string a0,.int .i64 a1] w fun e w' => e = .returned (.tuple #[.int .i64 r1,.int .i64 r2,.int .i64 r3]) ∧ Drawn0 w w' := by
 have H : ((wire_number.f k a0 a1 2).bind fun bt101 => (some (bt101.1,bt101.2.1,bt101.2.2))) = some (r1,r2,r3) := h
 clear h
 replace H := Option.bind_eq_some_iff.mp H
 obtain ⟨⟨t101,t102,t103⟩,A30,H⟩ := H
 replace H : (some (t101,t102,t103)) = some (r1,r2,r3) := H
 have A3 := Aq.mk A30
 clear A30
 simp only [Option.some.injEq,Prod.mk.injEq] at H
 obtain ⟨rfl,rfl,rfl⟩ := H
 go_enter Try.func33,Try.ntmps33
 go_wp2_with (first | ((with_reducible refine gate_callee (f := 54) rfl ?_); refine goesL_ (some 9) rfl rfl Try.func54 (by kernel_rfl) rfl #[.string a0,.int .i64 a1,.int .i64 2] rfl (by (try simp only [List.map_toArray,List.map_cons,List.map_nil]); first | done | rfl | (simp only [List.length_drop,List.length_take]; rfl)) ?_; (with_reducible refine (wire_number.calls k a0 a1 2 t101 t102 t103 _ A3.out).mono ?_); rintro e w' ⟨rfl,⟨nd,rfl⟩⟩; refine ⟨_,rfl,?_⟩))
 go_ret3
 exact ⟨by first | rfl | (simp; done) | (simp [*]; done),by repeat (first | exact Drawn0.refl _ | apply Drawn0.step)⟩
def wire_Vec.j0 : Nat → ByteArray → Int → Int → Bool → Option (ByteArray × Int × Int)
 | 0,_,_,_,_ => none
 | k + 1,x0,x1,x2,x16 => if x16 = true then (some ((⟨#[]⟩ : ByteArray),0,101)) else ((wire_number.f k x0 x1 x2).bind fun bt104 => (if bt104.2.2 = 0 then (if bt104.1 > (wrap64 ((x0.size : Int) - bt104.2.1)) then (some ((⟨#[]⟩ : ByteArray),0,100)) else (if 0 ≤ bt104.2.1 then (if bt104.2.1 ≤ (wrap64 (bt104.2.1 + bt104.1)) then (if (wrap64 (bt104.2.1 + bt104.1)) ≤ (x0.size : Int) then (some (x0.extract (bt104.2.1 : Int).toNat ((wrap64 (bt104.2.1 + bt104.1)) : Int).toNat,wrap64 (bt104.2.1 + bt104.1),0)) else (none)) else (none)) else (none))) else (some ((⟨#[]⟩ : ByteArray),0,100))))
def wire_Vec.f (k : Nat) (a0 : ByteArray) (a1 : Int) (a2 : Int) : Option (ByteArray × Int × Int) := if a2 < 1 then (wire_Vec.j0 k a0 a1 a2 true) else (wire_Vec.j0 k a0 a1 a2 (decide (a2 > 3)))
theorem wire_Vec.mono_l : ∀ k,(∀ y0 y1 y2 y3,LeO (wire_Vec.j0 k y0 y1 y2 y3) (wire_Vec.j0 (k + 1) y0 y1 y2 y3))
 | 0 => fun _ _ _ _ r h => by simp [wire_Vec.j0] at h
 | k + 1 => by
  have ih0 := wire_Vec.mono_l k
  ·intro y0 y1 y2 y3
   unfold wire_Vec.j0
   repeat' first
   | (with_reducible exact ih0 _ _ _ _)
   | (with_reducible exact wire_number.mono _ _ _ _)
   | (with_reducible exact LeO.refl _)
   | (with_reducible exact LeO.none _)
   | (with_reducible refine LeO.ite ?_ ?_)
   | (with_reducible refine LeO.bind ?_ (fun _ => ?_))
   | exact ih0 _ _ _ _
   | exact wire_number.mono _ _ _ _
   | exact LeO.none _
   | refine LeO.ite ?_ ?_
   | refine LeO.bind ?_ (fun _ => ?_)
theorem wire_Vec.mono : ∀ a0 a1 a2 k,LeO (wire_Vec.f k a0 a1 a2) (wire_Vec.f (k + 1) a0 a1 a2) := by
 intro a0 a1 a2 k
 have ih0 := wire_Vec.mono_l k
 unfold wire_Vec.f
 repeat' first
   | (with_reducible exact ih0 _ _ _ _)
   | (with_reducible exact wire_number.mono _ _ _ _)
   | (with_reducible exact LeO.refl _)
   | (with_reducible exact LeO.none _)
   | (with_reducible refine LeO.ite ?_ ?_)
   | (with_reducible refine LeO.bind ?_ (fun _ => ?_))
   | exact ih0 _ _ _ _
   | exact wire_number.mono _ _ _ _
   | exact LeO.none _
   | refine LeO.ite ?_ ?_
   | refine LeO.bind ?_ (fun _ => ?_)
set_option maxHeartbeats 8000000 in
set_option maxRecDepth 100000 in
theorem wire_Vec.calls (k : Nat) (a0 : ByteArray) (a1 : Int) (a2 : Int) (r1 : ByteArray) (r2 : Int) (r3 : Int) (w : World) (h : wire_Vec.f k a0 a1 a2 = some (r1,r2,r3)) :
  Calls Try.prog 34 #[.string a0,.int .i64 a1,.int .i64 a2] w fun e w' => e = .returned (.tuple #[.string r1,.int .i64 r2,.int .i64 r3]) ∧ Drawn0 w w' := by
 have H : (if a2 < 1 then (wire_Vec.j0 k a0 a1 a2 true) else (wire_Vec.j0 k a0 a1 a2 (decide (a2 > 3)))) = some (r1,r2,r3) := h
 clear h
 have HC4 := Aq.mk H
 clear H
 go_enter Try.func34,Try.ntmps34
 go_upto_region 1 with (fail)
 go_cut [16] (fun v16 wc => ∃ (kq : Nat) (x16_3 : Bool),v16 = .bool x16_3 ∧ Aq (wire_Vec.j0 kq a0 a1 a2 x16_3 = some (r1,r2,r3)) ∧ Aq (kq ≤ k) ∧ Drawn0 w wc)
 case first =>
  have H := HC4.out
  clear HC4
  by_cases c5 : a2 < 1
  ·rw [if_pos c5] at H
   have c5b0 : decide (a2 < 1) = true := decide_eq_true c5
   clear c5
   (first | rw [c5b0] | (simp only [i64_w,i32_w]; rw [c5b0]) | skip)
   have H' := Aq.mk H
   clear H
   go_wp2
   go_meet
   case rel => exact ⟨_,(true),(by first | rfl | (simp; done) | (simp [*]; done)),H',⟨by first | omega | exact Nat.le_refl _⟩,by repeat (first | exact Drawn0.refl _ | apply Drawn0.step)⟩
  ·rw [if_neg c5] at H
   have c5b0 : decide (a2 < 1) = false := decide_eq_false c5
   clear c5
   (first | rw [c5b0] | (simp only [i64_w,i32_w]; rw [c5b0]) | skip)
   have H' := Aq.mk H
   clear H
   go_wp2
   go_meet
   case rel => exact ⟨_,(decide (a2 > 3)),(by first | rfl | (simp; done) | (simp [*]; done)),H',⟨by first | omega | exact Nat.le_refl _⟩,by repeat (first | exact Drawn0.refl _ | apply Drawn0.step)⟩
 case rest =>
  clear HC4
  try clear p2
  try clear c3
  try clear c5
  try clear c5b0
  obtain ⟨kq,x16_3,rfl,HA,HJ3,⟨mc3,rfl⟩⟩ := hcut
  cases kq with
  | zero => exact absurd HA.out (by simp [wire_Vec.j0])
  | succ kj3 =>
   have H := HA.out
   clear HA
   simp only [wire_Vec.j0] at H
   by_cases c6 : x16_3 = true
   ·subst c6
    have H1 : (some ((⟨#[]⟩ : ByteArray),0,101)) = some (r1,r2,r3) := by rw [if_pos rfl] at H; exact H
    clear H
    have H := H1
    clear H1
    simp only [Option.some.injEq,Prod.mk.injEq] at H
    obtain ⟨rfl,rfl,rfl⟩ := H
    go_wp2
    go_ret3
    exact ⟨by first | rfl | (simp; done) | (simp [*]; done),by repeat (first | exact Drawn0.refl _ | apply Drawn0.step)⟩
   ·replace c6 := Bool.eq_false_iff.mpr c6
    subst c6
    have H1 : ((wire_number.f kj3 a0 a1 a2).bind fun bt104 => (if bt104.2.2 = 0 then (if bt104.1 > (wrap64 ((a0.size : Int) - bt104.2.1)) then (some ((⟨#[]⟩ : ByteArray),0,100)) else (if 0 ≤ bt104.2.1 then (if bt104.2.1 ≤ (wrap64 (bt104.2.1 + bt104.1)) then (if (wrap64 (bt104.2.1 + bt104.1)) ≤ (a0.size : Int) then (some (a0.extract (bt104.2.1 : Int).toNat ((wrap64 (bt104.2.1 + bt104.1)) : Int).toNat,wrap64 (bt104.2.1 + bt104.1),0)) else (none)) else (none)) else (none))) else (some ((⟨#[]⟩ : ByteArray),0,100)))) = some (r1,r2,r3) := by rw [if_neg (show ¬ (false = true) by decide)] at H; exact H
    clear H
    have H := H1
    clear H1
    replace H := Option.bind_eq_some_iff.mp H
    obtain ⟨⟨t104,t105,t106⟩,A70,H⟩ := H
    replace H : (if t106 = 0 then (if t104 > (wrap64 ((a0.size : Int) - t105)) then (some ((⟨#[]⟩ : ByteArray),0,100)) else (if 0 ≤ t105 then (if t105 ≤ (wrap64 (t105 + t104)) then (if (wrap64 (t105 + t104)) ≤ (a0.size : Int) then (some (a0.extract (t105 : Int).toNat ((wrap64 (t105 + t104)) : Int).toNat,wrap64 (t105 + t104),0)) else (none)) else (none)) else (none))) else (some ((⟨#[]⟩ : ByteArray),0,100))) = some (r1,r2,r3) := H
    have A7 := Aq.mk A70
    clear A70
    by_cases c8 : t106 = 0
    ·rw [if_pos c8] at H
     have c8b0 : (t106 == 0) = true := beq_iff_eq.mpr c8
     have c8b1 : (t106 != 0) = false := bne_eq_false_iff_eq.mpr c8
     clear c8
     by_cases c9 : t104 > (wrap64 ((a0.size : Int) - t105))
     ·rw [if_pos c9] at H
      have c9b0 : decide ((wrap64 ((a0.size : Int) - t105)) < t104) = true := decide_eq_true c9
      clear c9
      simp only [Option.some.injEq,Prod.mk.injEq] at H
      obtain ⟨rfl,rfl,rfl⟩ := H
      go_wp2_with (first | ((with_reducible refine gate_callee (f := 54) rfl ?_); refine goesL_ (some 21) rfl rfl Try.func54 (by kernel_rfl) rfl #[.string a0,.int .i64 a1,.int .i64 a2] rfl (by (try simp only [List.map_toArray,List.map_cons,List.map_nil]); first | done | rfl | (simp only [List.length_drop,List.length_take]; rfl)) ?_; (with_reducible refine (wire_number.calls kj3 a0 a1 a2 t104 t105 t106 _ A7.out).mono ?_); rintro e w' ⟨rfl,⟨nd,rfl⟩⟩; refine ⟨_,rfl,?_⟩))
      go_ret3
      exact ⟨by first | rfl | (simp; done) | (simp [*]; done),by repeat (first | exact Drawn0.refl _ | apply Drawn0.step)⟩
     ·rw [if_neg c9] at H
      have c9b0 : decide ((wrap64 ((a0.size : Int) - t105)) < t104) = false := decide_eq_false c9
      clear c9
      by_cases c10 : 0 ≤ t105
      ·rw [if_pos c10] at H
       have c10b0 := eq_true c10
       have c10b1 : decide (0 ≤ t105) = true := decide_eq_true c10
       clear c10
       by_cases c11 : t105 ≤ (wrap64 (t105 + t104))
       ·rw [if_pos c11] at H
        have c11b0 := eq_true c11
        have c11b1 : decide (t105 ≤ (wrap64 (t105 + t104))) = true := decide_eq_true c11
        by_cases c12 : (wrap64 (t105 + t104)) ≤ (a0.size : Int)
        ·rw [if_pos c12] at H
         have c12b0 := eq_true c12
         have c12b1 : decide ((wrap64 (t105 + t104)) ≤ (a0.size : Int)) = true := decide_eq_true c12
         simp only [Option.some.injEq,Prod.mk.injEq] at H
         obtain ⟨rfl,rfl,rfl⟩ := H
         go_wp2_with (first | ((with_reducible refine gate_callee (f := 54) rfl ?_); refine goesL_ (some 21) rfl rfl Try.func54 (by kernel_rfl) rfl #[.string a0,.int .i64 a1,.int .i64 a2] rfl (by (try simp only [List.map_toArray,List.map_cons,List.map_nil]); first | done | rfl | (simp only [List.length_drop,List.length_take]; rfl)) ?_; (with_reducible refine (wire_number.calls kj3 a0 a1 a2 t104 t105 t106 _ A7.out).mono ?_); rintro e w' ⟨rfl,⟨nd,rfl⟩⟩; refine ⟨_,rfl,?_⟩))
         go_ret3
         exact ⟨by first | rfl | (simp; done) | (simp [*]; done),by repeat (first | exact Drawn0.refl _ | apply Drawn0.step)⟩
        ·rw [if_neg c12] at H
         exact absurd H (by simp)
       ·rw [if_neg c11] at H
        exact absurd H (by simp)
      ·rw [if_neg c10] at H
       exact absurd H (by simp)
    ·rw [if_neg c8] at H
     have c8b0 : (t106 == 0) = false := beq_eq_false_iff_ne.mpr c8
     have c8b1 : (t106 != 0) = true := bne_iff_ne.mpr c8
     simp only [Option.some.injEq,Prod.mk.injEq] at H
     obtain ⟨rfl,rfl,rfl⟩ := H
     go_wp2_with (first | ((with_reducible refine gate_callee (f := 54) rfl ?_); refine goesL_ (some 21) rfl rfl Try.func54 (by kernel_rfl) rfl #[.string a0,.int .i64 a1,.int .i64 a2] rfl (by (try simp only [List.map_toArray,List.map_cons,List.map_nil]); first | done | rfl | (simp only [List.length_drop,List.length_take]; rfl)) ?_; (with_reducible refine (wire_number.calls kj3 a0 a1 a2 t104 t105 t106 _ A7.out).mono ?_); rintro e w' ⟨rfl,⟨nd,rfl⟩⟩; refine ⟨_,rfl,?_⟩))
     go_ret3
     exact ⟨by first | rfl | (simp; done) | (simp [*]; done),by repeat (first | exact Drawn0.refl _ | apply Drawn0.step)⟩
def ext_Get.l0 : Nat → ByteArray → List (S41) → List Int → Bool → Int → Option ((List (S41)) × Int)
 | 0,_,_,_,_,_ => none
 | k + 1,x0,x4,x5,x6,x7 => if x7 < (x0.size : Int) then ((wire_U16.f k x0 x7).bind fun bt110 => (if bt110.2.2 = 0 then ((wire_Vec.f k x0 bt110.2.1 2).bind fun bt113 => (if bt113.2.2 = 0 then (if x6 = true then (if (Lit.int .i64 bt110.1).wf = true then (if x5.length < 140737488355328 then (if x4.length < 5864062014805 then (ext_Get.l0 k x0 (x4 ++ [(⟨bt110.1,bt113.1⟩ : S41)]) (x5 ++ [bt110.1]) true bt113.2.1) else (none)) else (none)) else (none)) else (if (Lit.int .i64 bt110.1).wf = true then (if x5.length < 140737488355328 then (if x4.length < 5864062014805 then (ext_Get.l0 k x0 (x4 ++ [(⟨bt110.1,bt113.1⟩ : S41)]) (x5 ++ [bt110.1]) (decide (bt110.1 ∈ x5)) bt113.2.1) else (none)) else (none)) else (none))) else (some (([] : List (S41)),1600)))) else (some (([] : List (S41)),1600)))) else (if x6 = true then (some (([] : List (S41)),1601)) else (some (x4,0)))
def ext_Get.f (k : Nat) (a0 : ByteArray) : Option ((List (S41)) × Int) := ext_Get.l0 k a0 ([] : List (S41)) (([] : List Int)) false 0
theorem ext_Get.mono_l : ∀ k,(∀ y0 y1 y2 y3 y4,LeO (ext_Get.l0 k y0 y1 y2 y3 y4) (ext_Get.l0 (k + 1) y0 y1 y2 y3 y4))
 | 0 => fun _ _ _ _ _ r h => by simp [ext_Get.l0] at h
 | k + 1 => by
  have ih0 := ext_Get.mono_l k
  ·intro y0 y1 y2 y3 y4
   unfold ext_Get.l0
   repeat' first
   | (with_reducible exact ih0 _ _ _ _ _)
   | (with_reducible exact wire_U16.mono _ _ _)
   | (with_reducible exact wire_Vec.mono _ _ _ _)
   | (with_reducible exact LeO.refl _)
   | (with_reducible exact LeO.none _)
   | (with_reducible refine LeO.ite ?_ ?_)
   | (with_reducible refine LeO.bind ?_ (fun _ => ?_))
   | exact ih0 _ _ _ _ _
   | exact wire_U16.mono _ _ _
   | exact wire_Vec.mono _ _ _ _
   | exact LeO.none _
   | refine LeO.ite ?_ ?_
   | refine LeO.bind ?_ (fun _ => ?_)
theorem ext_Get.mono : ∀ a0 k,LeO (ext_Get.f k a0) (ext_Get.f (k + 1) a0) := by
 intro a0 k
 have ih0 := ext_Get.mono_l k
 unfold ext_Get.f
 repeat' first
   | (with_reducible exact ih0 _ _ _ _ _)
   | (with_reducible exact wire_U16.mono _ _ _)
   | (with_reducible exact wire_Vec.mono _ _ _ _)
   | (with_reducible exact LeO.refl _)
   | (with_reducible exact LeO.none _)
   | (with_reducible refine LeO.ite ?_ ?_)
   | (with_reducible refine LeO.bind ?_ (fun _ => ?_))
   | exact ih0 _ _ _ _ _
   | exact wire_U16.mono _ _ _
   | exact wire_Vec.mono _ _ _ _
   | exact LeO.none _
   | refine LeO.ite ?_ ?_
   | refine LeO.bind ?_ (fun _ => ?_)
set_option maxHeartbeats 8000000 in
set_option maxRecDepth 100000 in
theorem ext_Get.calls (k : Nat) (a0 : ByteArray) (r1 : List (S41)) (r2 : Int) (w : World) (h : ext_Get.f k a0 = some (r1,r2)) :
  Calls Try.prog 12 #[.string a0] w fun e w' => ∃ v0_ : Value,e = .returned (.tuple #[v0_,.int .i64 r2]) ∧ Kd.R k41 41 w' w.heap.size (fun _ => True) v0_ r1 ∧ Below w.heap.size w w' := by
 have hu41 := Try.underlying41
 have HB := Aq.mk (Below.refl w.heap.size w)
 have H : (ext_Get.l0 k a0 ([] : List (S41)) (([] : List Int)) false 0) = some (r1,r2) := h
 clear h
 obtain ⟨y107,hy107⟩ : ∃ y_ : List Int,y_ = (([] : List Int)) := ⟨_,rfl⟩
 replace H : (ext_Get.l0 k a0 ([] : List (S41)) y107 false 0) = some (r1,r2) := by first | (rw [hy107]; with_reducible exact H) | (have H2_ := (Option.bind_some _ _).symm.trans H; rw [hy107]; with_reducible exact H2_) | (have H2_ := (Option.bind_some _ _).symm.trans H; with_reducible exact H2_) | with_reducible exact H | (rw [hy107]; exact H) | exact H
 have Ny107 := Aq.mk hy107
 clear hy107
 have H' := Aq.mk H
 clear H
 go_enter Try.func12,Try.ntmps12
 go_wp2_with (first | ((with_reducible refine gate_dst (N := 12) rfl ?_); refine Kd.Y_make (Kd.int .i64) 3 rfl (N := 12) rfl 68 rfl (ok := fun _ => True) trivial ?_; intro v108 w2 ho3 hb; rw [← Ny107.out] at ho3; have n0_ := Aq.mk (Kd.Y_lower ho3 (below_size (by repeat (first | (with_reducible first | exact HB.out | apply below_alloc | apply pw_below_drewN | apply below_drew1) | exact HB.out)))); have n1_ := Aq.mk (below_step (by repeat (first | (with_reducible first | exact HB.out | apply below_alloc | apply pw_below_drewN | apply below_drew1) | exact HB.out)) hb); clear HB; have HO109 := n0_; have HB := n1_; clear n0_ n1_; clear hb ho3))
 go_loopg [4,6,7] k (fun kq v4 v6 v7 w' => ∃ (x4_1 : List (S41)) (x5_1 : List Int) (x6_1 : Bool) (x7_1 : Int),v6 = .bool x6_1 ∧ v7 = .int .i64 x7_1 ∧ Aq (ext_Get.l0 kq a0 x4_1 x5_1 x6_1 x7_1 = some (r1,r2)) ∧ Aq (kq ≤ k) ∧ Aq (Kd.R k41 41 w' w.heap.size (fun _ => True) v4 x4_1) ∧ Aq (Kd.Y (Kd.int .i64) 3 w' w.heap.size (fun _ => True) v108 x5_1) ∧ Aq (Below w.heap.size w w'))
 case atStart => exact ⟨(([] : List (S41))),(y107),(false),(0),(by first | rfl | (simp; done) | (simp [*]; done)),(by first | rfl | (simp; done) | (simp [*]; done)),H',⟨Nat.le_refl _⟩,⟨by first | exact Kd.R_nil _ _ _ _ _ | exact Kd.N_nil _ _ _ _ _ | exact Kd.V_nil _ _ _ _ _ | exact Kd.Q_nil _ _ _ _ _ | exact Kd.S_nil _ _ _ _ _⟩,⟨by (with_reducible repeat (first | apply Kd.Y_alloc | apply Kd.Y_drewN | apply Kd.Y_drew)); exact HO109.out⟩,⟨by repeat (first | (with_reducible first | exact HB.out | apply below_alloc | apply pw_below_drewN | apply below_drew1) | exact HB.out)⟩⟩
 case round =>
  clear H'
  try clear c1
  try clear p2
  obtain ⟨x4_1,x5_1,x6_1,x7_1,rfl,rfl,HA,HK1,HO_4,HO_5,HB⟩ := hrel
  cases gk with
  | zero => exact absurd HA.out (by simp [ext_Get.l0])
  | succ k1 =>
   have H := HA.out
   clear HA
   simp only [ext_Get.l0] at H
   by_cases c4 : x7_1 < (a0.size : Int)
   ·rw [if_pos c4] at H
    have c4b0 : decide (x7_1 < (a0.size : Int)) = true := decide_eq_true c4
    clear c4
    replace H := Option.bind_eq_some_iff.mp H
    obtain ⟨⟨t110,t111,t112⟩,A50,H⟩ := H
    replace H : (if t112 = 0 then ((wire_Vec.f k1 a0 t111 2).bind fun bt113 => (if bt113.2.2 = 0 then (if x6_1 = true then (if (Lit.int .i64 t110).wf = true then (if x5_1.length < 140737488355328 then (if x4_1.length < 5864062014805 then (ext_Get.l0 k1 a0 (x4_1 ++ [(⟨t110,bt113.1⟩ : S41)]) (x5_1 ++ [t110]) true bt113.2.1) else (none)) else (none)) else (none)) else (if (Lit.int .i64 t110).wf = true then (if x5_1.length < 140737488355328 then (if x4_1.length < 5864062014805 then (ext_Get.l0 k1 a0 (x4_1 ++ [(⟨t110,bt113.1⟩ : S41)]) (x5_1 ++ [t110]) (decide (t110 ∈ x5_1)) bt113.2.1) else (none)) else (none)) else (none))) else (some (([] : List (S41)),1600)))) else (some (([] : List (S41)),1600))) = some (r1,r2) := H
    have A5 := Aq.mk A50
    clear A50
    by_cases c6 : t112 = 0
    ·rw [if_pos c6] at H
     have c6b0 : (t112 == 0) = true := beq_iff_eq.mpr c6
     have c6b1 : (t112 != 0) = false := bne_eq_false_iff_eq.mpr c6
     clear c6
     replace H := Option.bind_eq_some_iff.mp H
     obtain ⟨⟨t113,t114,t115⟩,A70,H⟩ := H
     replace H : (if t115 = 0 then (if x6_1 = true then (if (Lit.int .i64 t110).wf = true then (if x5_1.length < 140737488355328 then (if x4_1.length < 5864062014805 then (ext_Get.l0 k1 a0 (x4_1 ++ [(⟨t110,t113⟩ : S41)]) (x5_1 ++ [t110]) true t114) else (none)) else (none)) else (none)) else (if (Lit.int .i64 t110).wf = true then (if x5_1.length < 140737488355328 then (if x4_1.length < 5864062014805 then (ext_Get.l0 k1 a0 (x4_1 ++ [(⟨t110,t113⟩ : S41)]) (x5_1 ++ [t110]) (decide (t110 ∈ x5_1)) t114) else (none)) else (none)) else (none))) else (some (([] : List (S41)),1600))) = some (r1,r2) := H
     have A7 := Aq.mk A70
     clear A70
     by_cases c8 : t115 = 0
     ·rw [if_pos c8] at H
      have c8b0 : (t115 == 0) = true := beq_iff_eq.mpr c8
      have c8b1 : (t115 != 0) = false := bne_eq_false_iff_eq.mpr c8
      clear c8
      by_cases c9 : x6_1 = true
      ·subst c9
       have H1 : (if (Lit.int .i64 t110).wf = true then (if x5_1.length < 140737488355328 then (if x4_1.length < 5864062014805 then (ext_Get.l0 k1 a0 (x4_1 ++ [(⟨t110,t113⟩ : S41)]) (x5_1 ++ [t110]) true t114) else (none)) else (none)) else (none)) = some (r1,r2) := by rw [if_pos rfl] at H; exact H
       clear H
       have H := H1
       clear H1
       by_cases c10 : (Lit.int .i64 t110).wf = true
       ·rw [if_pos c10] at H
        have LMc10 := Aq.mk c10
        clear c10
        by_cases c11 : x5_1.length < 140737488355328
        ·rw [if_pos c11] at H
         have LMc11 := Aq.mk c11
         clear c11
         obtain ⟨y116,hy116⟩ : ∃ y_ : List Int,y_ = (x5_1 ++ [t110]) := ⟨_,rfl⟩
         replace H : (if x4_1.length < 5864062014805 then (ext_Get.l0 k1 a0 (x4_1 ++ [(⟨t110,t113⟩ : S41)]) y116 true t114) else (none)) = some (r1,r2) := by first | (rw [hy116]; with_reducible exact H) | (have H2_ := (Option.bind_some _ _).symm.trans H; rw [hy116]; with_reducible exact H2_) | (have H2_ := (Option.bind_some _ _).symm.trans H; with_reducible exact H2_) | with_reducible exact H | (rw [hy116]; exact H) | exact H
         have Ny116 := Aq.mk hy116
         clear hy116
         by_cases c12 : x4_1.length < 5864062014805
         ·rw [if_pos c12] at H
          have LMc12 := Aq.mk c12
          clear c12
          obtain ⟨y119,hy119⟩ : ∃ y_ : List (S41),y_ = (x4_1 ++ [(⟨t110,t113⟩ : S41)]) := ⟨_,rfl⟩
          replace H : (ext_Get.l0 k1 a0 y119 y116 true t114) = some (r1,r2) := by first | (rw [hy119]; with_reducible exact H) | (have H2_ := (Option.bind_some _ _).symm.trans H; rw [hy119]; with_reducible exact H2_) | (have H2_ := (Option.bind_some _ _).symm.trans H; with_reducible exact H2_) | with_reducible exact H | (rw [hy119]; exact H) | exact H
          have Ny119 := Aq.mk hy119
          clear hy119
          have H' := Aq.mk H
          clear H
          go_wp2_with (first | ((with_reducible refine gate_callee (f := 33) rfl ?_); refine goesL_ (some 20) rfl rfl Try.func33 (by kernel_rfl) rfl #[.string a0,.int .i64 x7_1] rfl (by (try simp only [List.map_toArray,List.map_cons,List.map_nil]); first | done | rfl | (simp only [List.length_drop,List.length_take]; rfl)) ?_; (with_reducible refine (wire_U16.calls k1 a0 x7_1 t110 t111 t112 _ A5.out).mono ?_); rintro e w' ⟨rfl,⟨nd,rfl⟩⟩; refine ⟨_,rfl,?_⟩) | ((with_reducible refine gate_callee (f := 34) rfl ?_); refine goesL_ (some 29) rfl rfl Try.func34 (by kernel_rfl) rfl #[.string a0,.int .i64 t111,.int .i64 2] rfl (by (try simp only [List.map_toArray,List.map_cons,List.map_nil]); first | done | rfl | (simp only [List.length_drop,List.length_take]; rfl)) ?_; (with_reducible refine (wire_Vec.calls k1 a0 t111 2 t113 t114 t115 _ A7.out).mono ?_); rintro e w' ⟨rfl,⟨nd,rfl⟩⟩; refine ⟨_,rfl,?_⟩) | (at_mapUpdate; refine Kd.Y_put (Kd.int .i64) (w0 := w) w.heap.size 3 rfl 68 _ _ _ rfl Try.underlying68 Try.underlying3 Try.underlying4 v108 x5_1 t110 (ok := fun _ => True) rfl rfl rfl LMc10.out (by have := LMc11.out; simp only [maxLen]; omega) ?aO ?aB ?aS ?_; (case aO => exact (by (with_reducible repeat (first | apply Kd.Y_alloc | apply Kd.Y_drewN | apply Kd.Y_drew)); exact HO_5.out)); (case aB => exact (by repeat (first | (with_reducible first | exact HB.out | apply below_alloc | apply pw_below_drewN | apply below_drew1) | exact HB.out))); (case aS => exact (below_size (by repeat (first | (with_reducible first | exact HB.out | apply below_alloc | apply pw_below_drewN | apply below_drew1) | exact HB.out)))); intro w13 ho hb hmt; rw [← Ny116.out] at ho; have n0_ := Aq.mk (Kd.R_map (by (with_reducible repeat (first | apply Kd.R_alloc | apply Kd.R_drewN | apply Kd.R_drew)); exact HO_4.out) hmt); have n1_ := Aq.mk (hb); have n2_ := Aq.mk (ho); clear HO_4; clear HB; clear HO_5; have HO_4 := n0_; have HB := n1_; have HO118 := n2_; clear n0_ n1_ n2_; clear ho hb hmt) | ((with_reducible refine gate_builtin (b := .append) (xs := #[.tmp 43,.tmp 47]) rfl ?_); at_builtin; refine Kd.R_append k41 (w0 := w) w.heap.size rfl (.tmp 43) (.tmp 47) 22 41 (.agg #[(.int .i64 0),(.string ⟨#[]⟩)]) 24 rfl Try.underlying22 info41 rfl (by decide) (by omega) u4 x4_1 (⟨t110,t113⟩ : S41) [.int .i64 t110,.string t113] (fun _ => True) (fun _ => False) rfl rfl ?aP (fun _ hk => hk.elim) ?aF ?aO ?aB ?aS ?aL ?_; (case aP => exact k41_mkM _ _ _ (⟨t110,t113⟩ : S41)); (case aB => exact (by repeat (first | (with_reducible first | exact HB.out | apply below_alloc | apply pw_below_drewN | apply below_drew1) | exact HB.out))); (case aF => exact (fun _ _ => trivial)); (case aO => exact (by (with_reducible repeat (first | apply Kd.R_alloc | apply Kd.R_drewN | apply Kd.R_drew)); exact HO_4.out)); (case aS => exact (below_size (by repeat (first | (with_reducible first | exact HB.out | apply below_alloc | apply pw_below_drewN | apply below_drew1) | exact HB.out)))); (case aL => have := LMc12.out; omega); intro v120 w14 ho hb hg hat; rw [← Ny119.out] at ho; have n0_ := Aq.mk (Kd.Y_over' (by (with_reducible repeat (first | apply Kd.Y_alloc | apply Kd.Y_drewN | apply Kd.Y_drew)); exact HO118.out) (Kd.R_typed (by (with_reducible repeat (first | apply Kd.R_alloc | apply Kd.R_drewN | apply Kd.R_drew)); exact HO_4.out)) (by decide) hg); have n1_ := Aq.mk (hb); have n2_ := Aq.mk (ho); clear HO118; clear HB; clear HO_4; have HO118 := n0_; have HB := n1_; have HO121 := n2_; clear n0_ n1_ n2_; clear ho hb hg hat))
          go_roundg k1
          case measure => have := HK1.out; omega
          case rel => exact ⟨(y119),(y116),(true),(t114),(by first | rfl | (simp; done) | (simp [*]; done)),(by first | rfl | (simp; done) | (simp [*]; done)),H',⟨by have := HK1.out; omega⟩,⟨by (with_reducible repeat (first | apply Kd.R_alloc | apply Kd.R_drewN | apply Kd.R_drew)); exact HO121.out⟩,⟨by (with_reducible repeat (first | apply Kd.Y_alloc | apply Kd.Y_drewN | apply Kd.Y_drew)); exact HO118.out⟩,⟨by repeat (first | (with_reducible first | exact HB.out | apply below_alloc | apply pw_below_drewN | apply below_drew1) | exact HB.out)⟩⟩
         ·rw [if_neg c12] at H
          exact absurd H (by simp)
        ·rw [if_neg c11] at H
         exact absurd H (by simp)
       ·rw [if_neg c10] at H
        exact absurd H (by simp)
      ·replace c9 := Bool.eq_false_iff.mpr c9
       subst c9
       have H1 : (if (Lit.int .i64 t110).wf = true then (if x5_1.length < 140737488355328 then (if x4_1.length < 5864062014805 then (ext_Get.l0 k1 a0 (x4_1 ++ [(⟨t110,t113⟩ : S41)]) (x5_1 ++ [t110]) (decide (t110 ∈ x5_1)) t114) else (none)) else (none)) else (none)) = some (r1,r2) := by rw [if_neg (show ¬ (false = true) by decide)] at H; exact H
       clear H
       have H := H1
       clear H1
       by_cases c15 : (Lit.int .i64 t110).wf = true
       ·rw [if_pos c15] at H
        have LMc15 := Aq.mk c15
        clear c15
        by_cases c16 : x5_1.length < 140737488355328
        ·rw [if_pos c16] at H
         have LMc16 := Aq.mk c16
         clear c16
         obtain ⟨y122,hy122⟩ : ∃ y_ : List Int,y_ = (x5_1 ++ [t110]) := ⟨_,rfl⟩
         replace H : (if x4_1.length < 5864062014805 then (ext_Get.l0 k1 a0 (x4_1 ++ [(⟨t110,t113⟩ : S41)]) y122 (decide (t110 ∈ x5_1)) t114) else (none)) = some (r1,r2) := by first | (rw [hy122]; with_reducible exact H) | (have H2_ := (Option.bind_some _ _).symm.trans H; rw [hy122]; with_reducible exact H2_) | (have H2_ := (Option.bind_some _ _).symm.trans H; with_reducible exact H2_) | with_reducible exact H | (rw [hy122]; exact H) | exact H
         have Ny122 := Aq.mk hy122
         clear hy122
         by_cases c17 : x4_1.length < 5864062014805
         ·rw [if_pos c17] at H
          have LMc17 := Aq.mk c17
          clear c17
          obtain ⟨y125,hy125⟩ : ∃ y_ : List (S41),y_ = (x4_1 ++ [(⟨t110,t113⟩ : S41)]) := ⟨_,rfl⟩
          replace H : (ext_Get.l0 k1 a0 y125 y122 (decide (t110 ∈ x5_1)) t114) = some (r1,r2) := by first | (rw [hy125]; with_reducible exact H) | (have H2_ := (Option.bind_some _ _).symm.trans H; rw [hy125]; with_reducible exact H2_) | (have H2_ := (Option.bind_some _ _).symm.trans H; with_reducible exact H2_) | with_reducible exact H | (rw [hy125]; exact H) | exact H
          have Ny125 := Aq.mk hy125
          clear hy125
          have H' := Aq.mk H
          clear H
          go_wp2_with (first | ((with_reducible refine gate_callee (f := 33) rfl ?_); refine goesL_ (some 20) rfl rfl Try.func33 (by kernel_rfl) rfl #[.string a0,.int .i64 x7_1] rfl (by (try simp only [List.map_toArray,List.map_cons,List.map_nil]); first | done | rfl | (simp only [List.length_drop,List.length_take]; rfl)) ?_; (with_reducible refine (wire_U16.calls k1 a0 x7_1 t110 t111 t112 _ A5.out).mono ?_); rintro e w' ⟨rfl,⟨nd,rfl⟩⟩; refine ⟨_,rfl,?_⟩) | ((with_reducible refine gate_callee (f := 34) rfl ?_); refine goesL_ (some 29) rfl rfl Try.func34 (by kernel_rfl) rfl #[.string a0,.int .i64 t111,.int .i64 2] rfl (by (try simp only [List.map_toArray,List.map_cons,List.map_nil]); first | done | rfl | (simp only [List.length_drop,List.length_take]; rfl)) ?_; (with_reducible refine (wire_Vec.calls k1 a0 t111 2 t113 t114 t115 _ A7.out).mono ?_); rintro e w' ⟨rfl,⟨nd,rfl⟩⟩; refine ⟨_,rfl,?_⟩) | (at_lookup; (try (refine gate_guard (by rfl) ?_; dsimp only)); refine Kd.Y_look (Kd.int .i64) (ok := fun _ => True) (base := w.heap.size) (xs := x5_1) 3 rfl 68 _ _ rfl Try.underlying68 Try.underlying3 Try.underlying4 (Kd.zeroB _) (v := v108) (k := t110) rfl rfl LMc15.out ?aO ?_; (case aO => exact (by (with_reducible repeat (first | apply Kd.Y_alloc | apply Kd.Y_drewN | apply Kd.Y_drew)); exact HO_5.out)); intro w18 hb; have n0_ := Aq.mk (Kd.R_below (by (with_reducible repeat (first | apply Kd.R_alloc | apply Kd.R_drewN | apply Kd.R_drew)); exact HO_4.out) hb); have n1_ := Aq.mk (Kd.Y_below (by (with_reducible repeat (first | apply Kd.Y_alloc | apply Kd.Y_drewN | apply Kd.Y_drew)); exact HO_5.out) hb); have n2_ := Aq.mk (below_step (by repeat (first | (with_reducible first | exact HB.out | apply below_alloc | apply pw_below_drewN | apply below_drew1) | exact HB.out)) hb); clear HO_4; clear HO_5; clear HB; have HO_4 := n0_; have HO_5 := n1_; have HB := n2_; clear n0_ n1_ n2_; clear hb) | (at_mapUpdate; refine Kd.Y_put (Kd.int .i64) (w0 := w) w.heap.size 3 rfl 68 _ _ _ rfl Try.underlying68 Try.underlying3 Try.underlying4 v108 x5_1 t110 (ok := fun _ => True) rfl rfl rfl LMc15.out (by have := LMc16.out; simp only [maxLen]; omega) ?aO ?aB ?aS ?_; (case aO => exact (by (with_reducible repeat (first | apply Kd.Y_alloc | apply Kd.Y_drewN | apply Kd.Y_drew)); exact HO_5.out)); (case aB => exact (by repeat (first | (with_reducible first | exact HB.out | apply below_alloc | apply pw_below_drewN | apply below_drew1) | exact HB.out))); (case aS => exact (below_size (by repeat (first | (with_reducible first | exact HB.out | apply below_alloc | apply pw_below_drewN | apply below_drew1) | exact HB.out)))); intro w19 ho hb hmt; rw [← Ny122.out] at ho; have n0_ := Aq.mk (Kd.R_map (by (with_reducible repeat (first | apply Kd.R_alloc | apply Kd.R_drewN | apply Kd.R_drew)); exact HO_4.out) hmt); have n1_ := Aq.mk (hb); have n2_ := Aq.mk (ho); clear HO_4; clear HB; clear HO_5; have HO_4 := n0_; have HB := n1_; have HO124 := n2_; clear n0_ n1_ n2_; clear ho hb hmt) | ((with_reducible refine gate_builtin (b := .append) (xs := #[.tmp 43,.tmp 47]) rfl ?_); at_builtin; refine Kd.R_append k41 (w0 := w) w.heap.size rfl (.tmp 43) (.tmp 47) 22 41 (.agg #[(.int .i64 0),(.string ⟨#[]⟩)]) 24 rfl Try.underlying22 info41 rfl (by decide) (by omega) u4 x4_1 (⟨t110,t113⟩ : S41) [.int .i64 t110,.string t113] (fun _ => True) (fun _ => False) rfl rfl ?aP (fun _ hk => hk.elim) ?aF ?aO ?aB ?aS ?aL ?_; (case aP => exact k41_mkM _ _ _ (⟨t110,t113⟩ : S41)); (case aB => exact (by repeat (first | (with_reducible first | exact HB.out | apply below_alloc | apply pw_below_drewN | apply below_drew1) | exact HB.out))); (case aF => exact (fun _ _ => trivial)); (case aO => exact (by (with_reducible repeat (first | apply Kd.R_alloc | apply Kd.R_drewN | apply Kd.R_drew)); exact HO_4.out)); (case aS => exact (below_size (by repeat (first | (with_reducible first | exact HB.out | apply below_alloc | apply pw_below_drewN | apply below_drew1) | exact HB.out)))); (case aL => have := LMc17.out; omega); intro v126 w20 ho hb hg hat; rw [← Ny125.out] at ho; have n0_ := Aq.mk (Kd.Y_over' (by (with_reducible repeat (first | apply Kd.Y_alloc | apply Kd.Y_drewN | apply Kd.Y_drew)); exact HO124.out) (Kd.R_typed (by (with_reducible repeat (first | apply Kd.R_alloc | apply Kd.R_drewN | apply Kd.R_drew)); exact HO_4.out)) (by decide) hg); have n1_ := Aq.mk (hb); have n2_ := Aq.mk (ho); clear HO124; clear HB; clear HO_4; have HO124 := n0_; have HB := n1_; have HO127 := n2_; clear n0_ n1_ n2_; clear ho hb hg hat))
          go_roundg k1
          case measure => have := HK1.out; omega
          case rel => exact ⟨(y125),(y122),(decide (t110 ∈ x5_1)),(t114),(by first | rfl | (simp; done) | (simp [*]; done)),(by first | rfl | (simp; done) | (simp [*]; done)),H',⟨by have := HK1.out; omega⟩,⟨by (with_reducible repeat (first | apply Kd.R_alloc | apply Kd.R_drewN | apply Kd.R_drew)); exact HO127.out⟩,⟨by (with_reducible repeat (first | apply Kd.Y_alloc | apply Kd.Y_drewN | apply Kd.Y_drew)); exact HO124.out⟩,⟨by repeat (first | (with_reducible first | exact HB.out | apply below_alloc | apply pw_below_drewN | apply below_drew1) | exact HB.out)⟩⟩
         ·rw [if_neg c17] at H
          exact absurd H (by simp)
        ·rw [if_neg c16] at H
         exact absurd H (by simp)
       ·rw [if_neg c15] at H
        exact absurd H (by simp)
     ·rw [if_neg c8] at H
      have c8b0 : (t115 == 0) = false := beq_eq_false_iff_ne.mpr c8
      have c8b1 : (t115 != 0) = true := bne_iff_ne.mpr c8
      simp only [Option.some.injEq,Prod.mk.injEq] at H
      obtain ⟨rfl,rfl⟩ := H
      go_wp2_with (first | ((with_reducible refine gate_callee (f := 33) rfl ?_); refine goesL_ (some 20) rfl rfl Try.func33 (by kernel_rfl) rfl #[.string a0,.int .i64 x7_1] rfl (by (try simp only [List.map_toArray,List.map_cons,List.map_nil]); first | done | rfl | (simp only [List.length_drop,List.length_take]; rfl)) ?_; (with_reducible refine (wire_U16.calls k1 a0 x7_1 t110 t111 t112 _ A5.out).mono ?_); rintro e w' ⟨rfl,⟨nd,rfl⟩⟩; refine ⟨_,rfl,?_⟩) | ((with_reducible refine gate_callee (f := 34) rfl ?_); refine goesL_ (some 29) rfl rfl Try.func34 (by kernel_rfl) rfl #[.string a0,.int .i64 t111,.int .i64 2] rfl (by (try simp only [List.map_toArray,List.map_cons,List.map_nil]); first | done | rfl | (simp only [List.length_drop,List.length_take]; rfl)) ?_; (with_reducible refine (wire_Vec.calls k1 a0 t111 2 t113 t114 t115 _ A7.out).mono ?_); rintro e w' ⟨rfl,⟨nd,rfl⟩⟩; refine ⟨_,rfl,?_⟩))
      go_ret2
      exact ⟨_,by first | rfl | (simp [errW_none,errW_some] <;> rfl) | (simp [*,errW_none,errW_some] <;> rfl),by first | exact Kd.R_nil _ _ _ _ _ | exact Kd.N_nil _ _ _ _ _ | exact Kd.V_nil _ _ _ _ _ | exact Kd.Q_nil _ _ _ _ _ | exact Kd.S_nil _ _ _ _ _,by repeat (first | (with_reducible first | exact HB.out | apply below_alloc | apply pw_below_drewN | apply below_drew1) | exact HB.out)⟩
    ·rw [if_neg c6] at H
     have c6b0 : (t112 == 0) = false := beq_eq_false_iff_ne.mpr c6
     have c6b1 : (t112 != 0) = true := bne_iff_ne.mpr c6
     simp only [Option.some.injEq,Prod.mk.injEq] at H
     obtain ⟨rfl,rfl⟩ := H
     go_wp2_with (first | ((with_reducible refine gate_callee (f := 33) rfl ?_); refine goesL_ (some 20) rfl rfl Try.func33 (by kernel_rfl) rfl #[.string a0,.int .i64 x7_1] rfl (by (try simp only [List.map_toArray,List.map_cons,List.map_nil]); first | done | rfl | (simp only [List.length_drop,List.length_take]; rfl)) ?_; (with_reducible refine (wire_U16.calls k1 a0 x7_1 t110 t111 t112 _ A5.out).mono ?_); rintro e w' ⟨rfl,⟨nd,rfl⟩⟩; refine ⟨_,rfl,?_⟩))
     go_ret2
     exact ⟨_,by first | rfl | (simp [errW_none,errW_some] <;> rfl) | (simp [*,errW_none,errW_some] <;> rfl),by first | exact Kd.R_nil _ _ _ _ _ | exact Kd.N_nil _ _ _ _ _ | exact Kd.V_nil _ _ _ _ _ | exact Kd.Q_nil _ _ _ _ _ | exact Kd.S_nil _ _ _ _ _,by repeat (first | (with_reducible first | exact HB.out | apply below_alloc | apply pw_below_drewN | apply below_drew1) | exact HB.out)⟩
   ·rw [if_neg c4] at H
    have c4b0 : decide (x7_1 < (a0.size : Int)) = false := decide_eq_false c4
    clear c4
    by_cases c21 : x6_1 = true
    ·subst c21
     have H1 : (some (([] : List (S41)),1601)) = some (r1,r2) := by rw [if_pos rfl] at H; exact H
     clear H
     have H := H1
     clear H1
     simp only [Option.some.injEq,Prod.mk.injEq] at H
     obtain ⟨rfl,rfl⟩ := H
     go_wp2
     go_ret2
     exact ⟨_,by first | rfl | (simp [errW_none,errW_some] <;> rfl) | (simp [*,errW_none,errW_some] <;> rfl),by first | exact Kd.R_nil _ _ _ _ _ | exact Kd.N_nil _ _ _ _ _ | exact Kd.V_nil _ _ _ _ _ | exact Kd.Q_nil _ _ _ _ _ | exact Kd.S_nil _ _ _ _ _,by repeat (first | (with_reducible first | exact HB.out | apply below_alloc | apply pw_below_drewN | apply below_drew1) | exact HB.out)⟩
    ·replace c21 := Bool.eq_false_iff.mpr c21
     subst c21
     have H1 : (some (x4_1,0)) = some (r1,r2) := by rw [if_neg (show ¬ (false = true) by decide)] at H; exact H
     clear H
     have H := H1
     clear H1
     simp only [Option.some.injEq,Prod.mk.injEq] at H
     obtain ⟨rfl,rfl⟩ := H
     go_wp2
     go_ret2
     exact ⟨_,by first | rfl | (simp [errW_none,errW_some] <;> rfl) | (simp [*,errW_none,errW_some] <;> rfl),by (with_reducible repeat (first | apply Kd.R_alloc | apply Kd.R_drewN | apply Kd.R_drew)); exact HO_4.out,by repeat (first | (with_reducible first | exact HB.out | apply below_alloc | apply pw_below_drewN | apply below_drew1) | exact HB.out)⟩
def wire_Bytes.f (a0 : Int) (a1 : Int) : Option (ByteArray) := if a1 = 4 then (if ([] : List Int).length < 140737488355328 then ((some (([] : List Int) ++ [(a0 / 16777216) % 256] : List Int)).bind fun y128 => (if y128.length < 140737488355328 then ((some (y128 ++ [(a0 / 65536) % 256] : List Int)).bind fun y131 => (if y131.length < 140737488355328 then ((some (y131 ++ [(a0 / 256) % 256] : List Int)).bind fun y134 => (if y134.length < 140737488355328 then (some (strOfNums (y134 ++ [(a0) % 256]))) else (none))) else (none))) else (none))) else (none)) else (if a1 = 3 then (if ([] : List Int).length < 140737488355328 then ((some (([] : List Int) ++ [(a0 / 65536) % 256] : List Int)).bind fun y140 => (if y140.length < 140737488355328 then ((some (y140 ++ [(a0 / 256) % 256] : List Int)).bind fun y143 => (if y143.length < 140737488355328 then (some (strOfNums (y143 ++ [(a0) % 256]))) else (none))) else (none))) else (none)) else (if a1 = 2 then (if ([] : List Int).length < 140737488355328 then ((some (([] : List Int) ++ [(a0 / 256) % 256] : List Int)).bind fun y149 => (if y149.length < 140737488355328 then (some (strOfNums (y149 ++ [(a0) % 256]))) else (none))) else (none)) else (if ([] : List Int).length < 140737488355328 then (some (strOfNums (([] : List Int) ++ [(a0) % 256]))) else (none))))
set_option maxHeartbeats 8000000 in
set_option maxRecDepth 100000 in
theorem wire_Bytes.calls (a0 : Int) (a1 : Int) (r : ByteArray) (w : World) (h : wire_Bytes.f a0 a1 = some r) :
  Calls Try.prog 47 #[.int .i64 a0,.int .i64 a1] w fun e w' => e = .returned (.string r) ∧ Below w.heap.size w w' := by
 have HB := Aq.mk (Below.refl w.heap.size w)
 have H : (if a1 = 4 then (if ([] : List Int).length < 140737488355328 then ((some (([] : List Int) ++ [(a0 / 16777216) % 256] : List Int)).bind fun y128 => (if y128.length < 140737488355328 then ((some (y128 ++ [(a0 / 65536) % 256] : List Int)).bind fun y131 => (if y131.length < 140737488355328 then ((some (y131 ++ [(a0 / 256) % 256] : List Int)).bind fun y134 => (if y134.length < 140737488355328 then (some (strOfNums (y134 ++ [(a0) % 256]))) else (none))) else (none))) else (none))) else (none)) else (if a1 = 3 then (if ([] : List Int).length < 140737488355328 then ((some (([] : List Int) ++ [(a0 / 65536) % 256] : List Int)).bind fun y140 => (if y140.length < 140737488355328 then ((some (y140 ++ [(a0 / 256) % 256] : List Int)).bind fun y143 => (if y143.length < 140737488355328 then (some (strOfNums (y143 ++ [(a0) % 256]))) else (none))) else (none))) else (none)) else (if a1 = 2 then (if ([] : List Int).length < 140737488355328 then ((some (([] : List Int) ++ [(a0 / 256) % 256] : List Int)).bind fun y149 => (if y149.length < 140737488355328 then (some (strOfNums (y149 ++ [(a0) % 256]))) else (none))) else (none)) else (if ([] : List Int).length < 140737488355328 then (some (strOfNums (([] : List Int) ++ [(a0) % 256]))) else (none))))) = some r := h
 clear h
 by_cases c3 : a1 = 4
 ·rw [if_pos c3] at H
  have c3b0 : (a1 == 4) = true := beq_iff_eq.mpr c3
  have c3b1 : (a1 != 4) = false := bne_eq_false_iff_eq.mpr c3
  clear c3
  by_cases c4 : ([] : List Int).length < 140737488355328
  ·rw [if_pos c4] at H
   have LMc4 := Aq.mk c4
   clear c4
   obtain ⟨y128,hy128⟩ : ∃ y_ : List Int,y_ = (([] : List Int) ++ [(a0 / 16777216) % 256]) := ⟨_,rfl⟩
   replace H : (if y128.length < 140737488355328 then ((some (y128 ++ [(a0 / 65536) % 256] : List Int)).bind fun y131 => (if y131.length < 140737488355328 then ((some (y131 ++ [(a0 / 256) % 256] : List Int)).bind fun y134 => (if y134.length < 140737488355328 then (some (strOfNums (y134 ++ [(a0) % 256]))) else (none))) else (none))) else (none)) = some r := by first | (rw [hy128]; with_reducible exact H) | (have H2_ := (Option.bind_some _ _).symm.trans H; rw [hy128]; with_reducible exact H2_) | (have H2_ := (Option.bind_some _ _).symm.trans H; with_reducible exact H2_) | with_reducible exact H | (rw [hy128]; exact H) | exact H
   have Ny128 := Aq.mk hy128
   clear hy128
   by_cases c5 : y128.length < 140737488355328
   ·rw [if_pos c5] at H
    have LMc5 := Aq.mk c5
    clear c5
    obtain ⟨y131,hy131⟩ : ∃ y_ : List Int,y_ = (y128 ++ [(a0 / 65536) % 256]) := ⟨_,rfl⟩
    replace H : (if y131.length < 140737488355328 then ((some (y131 ++ [(a0 / 256) % 256] : List Int)).bind fun y134 => (if y134.length < 140737488355328 then (some (strOfNums (y134 ++ [(a0) % 256]))) else (none))) else (none)) = some r := by first | (rw [hy131]; with_reducible exact H) | (have H2_ := (Option.bind_some _ _).symm.trans H; rw [hy131]; with_reducible exact H2_) | (have H2_ := (Option.bind_some _ _).symm.trans H; with_reducible exact H2_) | with_reducible exact H | (rw [hy131]; exact H) | exact H
    have Ny131 := Aq.mk hy131
    clear hy131
    by_cases c6 : y131.length < 140737488355328
    ·rw [if_pos c6] at H
     have LMc6 := Aq.mk c6
     clear c6
     obtain ⟨y134,hy134⟩ : ∃ y_ : List Int,y_ = (y131 ++ [(a0 / 256) % 256]) := ⟨_,rfl⟩
     replace H : (if y134.length < 140737488355328 then (some (strOfNums (y134 ++ [(a0) % 256]))) else (none)) = some r := by first | (rw [hy134]; with_reducible exact H) | (have H2_ := (Option.bind_some _ _).symm.trans H; rw [hy134]; with_reducible exact H2_) | (have H2_ := (Option.bind_some _ _).symm.trans H; with_reducible exact H2_) | with_reducible exact H | (rw [hy134]; exact H) | exact H
     have Ny134 := Aq.mk hy134
     clear hy134
     by_cases c7 : y134.length < 140737488355328
     ·rw [if_pos c7] at H
      have LMc7 := Aq.mk c7
      clear c7
      obtain ⟨y137,hy137⟩ : ∃ y_ : List Int,y_ = (y134 ++ [(a0) % 256]) := ⟨_,rfl⟩
      replace H : (some (strOfNums y137)) = some r := by first | (rw [hy137]; with_reducible exact H) | (have H2_ := (Option.bind_some _ _).symm.trans H; rw [hy137]; with_reducible exact H2_) | (have H2_ := (Option.bind_some _ _).symm.trans H; with_reducible exact H2_) | with_reducible exact H | (rw [hy137]; exact H) | exact H
      have Ny137 := Aq.mk hy137
      clear hy137
      obtain rfl := Option.some.inj H
      go_enter Try.func47,Try.ntmps47
      go_wp2_with (first | ((with_reducible refine gate_builtin (b := .append) (xs := #[.tmp 13,.tmp 17]) rfl ?_); at_builtin; refine Kd.R_append (Kd.int .u8) (w0 := w) w.heap.size rfl (.tmp 13) (.tmp 17) 39 5 (.int .u8 0) 1 rfl Try.underlying39 info5 rfl (by decide) (by omega) (.slice none 0 0) ([] : List Int) ((a0 / 16777216) % 256) [.int .u8 ((a0 / 16777216) % 256)] (fun _ => True) (fun _ => False) rfl rfl ?aP (fun _ hk => hk.elim) ?aF ?aO ?aB ?aS ?aL ?_; (case aP => exact rfl); (case aB => exact (by repeat (first | (with_reducible first | exact HB.out | apply below_alloc | apply pw_below_drewN | apply below_drew1) | exact HB.out))); (case aF => exact (fun _ _ => trivial)); (case aO => exact ((Kd.R_nil _ _ _ _ (fun _ => True)))); (case aS => exact (below_size (by repeat (first | (with_reducible first | exact HB.out | apply below_alloc | apply pw_below_drewN | apply below_drew1) | exact HB.out)))); (case aL => have := LMc4.out; omega); intro v129 w8 ho hb hg hat; rw [← Ny128.out] at ho; have n0_ := Aq.mk (hb); have n1_ := Aq.mk (ho); clear HB; have HB := n0_; have HO130 := n1_; clear n0_ n1_; clear ho hb hg hat) | ((with_reducible refine gate_builtin (b := .append) (xs := #[.tmp 19,.tmp 23]) rfl ?_); at_builtin; refine Kd.R_append (Kd.int .u8) (w0 := w) w.heap.size rfl (.tmp 19) (.tmp 23) 39 5 (.int .u8 0) 1 rfl Try.underlying39 info5 rfl (by decide) (by omega) v129 y128 ((a0 / 65536) % 256) [.int .u8 ((a0 / 65536) % 256)] (fun _ => True) (fun _ => False) rfl rfl ?aP (fun _ hk => hk.elim) ?aF ?aO ?aB ?aS ?aL ?_; (case aP => exact rfl); (case aB => exact (by repeat (first | (with_reducible first | exact HB.out | apply below_alloc | apply pw_below_drewN | apply below_drew1) | exact HB.out))); (case aF => exact (fun _ _ => trivial)); (case aO => exact (by (with_reducible repeat (first | apply Kd.R_alloc | apply Kd.R_drewN | apply Kd.R_drew)); exact HO130.out)); (case aS => exact (below_size (by repeat (first | (with_reducible first | exact HB.out | apply below_alloc | apply pw_below_drewN | apply below_drew1) | exact HB.out)))); (case aL => have := LMc5.out; omega); intro v132 w9 ho hb hg hat; rw [← Ny131.out] at ho; have n0_ := Aq.mk (hb); have n1_ := Aq.mk (ho); clear HB; clear HO130; have HB := n0_; have HO133 := n1_; clear n0_ n1_; clear ho hb hg hat) | ((with_reducible refine gate_builtin (b := .append) (xs := #[.tmp 25,.tmp 29]) rfl ?_); at_builtin; refine Kd.R_append (Kd.int .u8) (w0 := w) w.heap.size rfl (.tmp 25) (.tmp 29) 39 5 (.int .u8 0) 1 rfl Try.underlying39 info5 rfl (by decide) (by omega) v132 y131 ((a0 / 256) % 256) [.int .u8 ((a0 / 256) % 256)] (fun _ => True) (fun _ => False) rfl rfl ?aP (fun _ hk => hk.elim) ?aF ?aO ?aB ?aS ?aL ?_; (case aP => exact rfl); (case aB => exact (by repeat (first | (with_reducible first | exact HB.out | apply below_alloc | apply pw_below_drewN | apply below_drew1) | exact HB.out))); (case aF => exact (fun _ _ => trivial)); (case aO => exact (by (with_reducible repeat (first | apply Kd.R_alloc | apply Kd.R_drewN | apply Kd.R_drew)); exact HO133.out)); (case aS => exact (below_size (by repeat (first | (with_reducible first | exact HB.out | apply below_alloc | apply pw_below_drewN | apply below_drew1) | exact HB.out)))); (case aL => have := LMc6.out; omega); intro v135 w10 ho hb hg hat; rw [← Ny134.out] at ho; have n0_ := Aq.mk (hb); have n1_ := Aq.mk (ho); clear HB; clear HO133; have HB := n0_; have HO136 := n1_; clear n0_ n1_; clear ho hb hg hat) | ((with_reducible refine gate_builtin (b := .append) (xs := #[.tmp 31,.tmp 34]) rfl ?_); at_builtin; refine Kd.R_append (Kd.int .u8) (w0 := w) w.heap.size rfl (.tmp 31) (.tmp 34) 39 5 (.int .u8 0) 1 rfl Try.underlying39 info5 rfl (by decide) (by omega) v135 y134 ((a0) % 256) [.int .u8 ((a0) % 256)] (fun _ => True) (fun _ => False) rfl rfl ?aP (fun _ hk => hk.elim) ?aF ?aO ?aB ?aS ?aL ?_; (case aP => exact rfl); (case aB => exact (by repeat (first | (with_reducible first | exact HB.out | apply below_alloc | apply pw_below_drewN | apply below_drew1) | exact HB.out))); (case aF => exact (fun _ _ => trivial)); (case aO => exact (by (with_reducible repeat (first | apply Kd.R_alloc | apply Kd.R_drewN | apply Kd.R_drew)); exact HO136.out)); (case aS => exact (below_size (by repeat (first | (with_reducible first | exact HB.out | apply below_alloc | apply pw_below_drewN | apply below_drew1) | exact HB.out)))); (case aL => have := LMc7.out; omega); intro v138 w11 ho hb hg hat; rw [← Ny137.out] at ho; have n0_ := Aq.mk (hb); have n1_ := Aq.mk (ho); clear HB; clear HO136; have HB := n0_; have HO139 := n1_; clear n0_ n1_; clear ho hb hg hat; have hcv12 := own_string (P := Try.prog) Try.underlying39 Try.underlying5 Try.underlying9 (Kd.own_of_R HO139.out)))
      go_ret
      exact ⟨by first | rfl | (simp [errW_none,errW_some] <;> rfl) | (simp [*,errW_none,errW_some] <;> rfl),by repeat (first | (with_reducible first | exact HB.out | apply below_alloc | apply pw_below_drewN | apply below_drew1) | exact HB.out)⟩
     ·rw [if_neg c7] at H
      exact absurd H (by simp)
    ·rw [if_neg c6] at H
     exact absurd H (by simp)
   ·rw [if_neg c5] at H
    exact absurd H (by simp)
  ·rw [if_neg c4] at H
   exact absurd H (by simp)
 ·rw [if_neg c3] at H
  have c3b0 : (a1 == 4) = false := beq_eq_false_iff_ne.mpr c3
  have c3b1 : (a1 != 4) = true := bne_iff_ne.mpr c3
  by_cases c13 : a1 = 3
  ·rw [if_pos c13] at H
   have c13b0 : (a1 == 3) = true := beq_iff_eq.mpr c13
   have c13b1 : (a1 != 3) = false := bne_eq_false_iff_eq.mpr c13
   clear c13
   by_cases c14 : ([] : List Int).length < 140737488355328
   ·rw [if_pos c14] at H
    have LMc14 := Aq.mk c14
    clear c14
    obtain ⟨y140,hy140⟩ : ∃ y_ : List Int,y_ = (([] : List Int) ++ [(a0 / 65536) % 256]) := ⟨_,rfl⟩
    replace H : (if y140.length < 140737488355328 then ((some (y140 ++ [(a0 / 256) % 256] : List Int)).bind fun y143 => (if y143.length < 140737488355328 then (some (strOfNums (y143 ++ [(a0) % 256]))) else (none))) else (none)) = some r := by first | (rw [hy140]; with_reducible exact H) | (have H2_ := (Option.bind_some _ _).symm.trans H; rw [hy140]; with_reducible exact H2_) | (have H2_ := (Option.bind_some _ _).symm.trans H; with_reducible exact H2_) | with_reducible exact H | (rw [hy140]; exact H) | exact H
    have Ny140 := Aq.mk hy140
    clear hy140
    by_cases c15 : y140.length < 140737488355328
    ·rw [if_pos c15] at H
     have LMc15 := Aq.mk c15
     clear c15
     obtain ⟨y143,hy143⟩ : ∃ y_ : List Int,y_ = (y140 ++ [(a0 / 256) % 256]) := ⟨_,rfl⟩
     replace H : (if y143.length < 140737488355328 then (some (strOfNums (y143 ++ [(a0) % 256]))) else (none)) = some r := by first | (rw [hy143]; with_reducible exact H) | (have H2_ := (Option.bind_some _ _).symm.trans H; rw [hy143]; with_reducible exact H2_) | (have H2_ := (Option.bind_some _ _).symm.trans H; with_reducible exact H2_) | with_reducible exact H | (rw [hy143]; exact H) | exact H
     have Ny143 := Aq.mk hy143
     clear hy143
     by_cases c16 : y143.length < 140737488355328
     ·rw [if_pos c16] at H
      have LMc16 := Aq.mk c16
      clear c16
      obtain ⟨y146,hy146⟩ : ∃ y_ : List Int,y_ = (y143 ++ [(a0) % 256]) := ⟨_,rfl⟩
      replace H : (some (strOfNums y146)) = some r := by first | (rw [hy146]; with_reducible exact H) | (have H2_ := (Option.bind_some _ _).symm.trans H; rw [hy146]; with_reducible exact H2_) | (have H2_ := (Option.bind_some _ _).symm.trans H; with_reducible exact H2_) | with_reducible exact H | (rw [hy146]; exact H) | exact H
      have Ny146 := Aq.mk hy146
      clear hy146
      obtain rfl := Option.some.inj H
      go_enter Try.func47,Try.ntmps47
      go_wp2_with (first | ((with_reducible refine gate_builtin (b := .append) (xs := #[.tmp 19,.tmp 23]) rfl ?_); at_builtin; refine Kd.R_append (Kd.int .u8) (w0 := w) w.heap.size rfl (.tmp 19) (.tmp 23) 39 5 (.int .u8 0) 1 rfl Try.underlying39 info5 rfl (by decide) (by omega) (.slice none 0 0) ([] : List Int) ((a0 / 65536) % 256) [.int .u8 ((a0 / 65536) % 256)] (fun _ => True) (fun _ => False) rfl rfl ?aP (fun _ hk => hk.elim) ?aF ?aO ?aB ?aS ?aL ?_; (case aP => exact rfl); (case aB => exact (by repeat (first | (with_reducible first | exact HB.out | apply below_alloc | apply pw_below_drewN | apply below_drew1) | exact HB.out))); (case aF => exact (fun _ _ => trivial)); (case aO => exact ((Kd.R_nil _ _ _ _ (fun _ => True)))); (case aS => exact (below_size (by repeat (first | (with_reducible first | exact HB.out | apply below_alloc | apply pw_below_drewN | apply below_drew1) | exact HB.out)))); (case aL => have := LMc14.out; omega); intro v141 w17 ho hb hg hat; rw [← Ny140.out] at ho; have n0_ := Aq.mk (hb); have n1_ := Aq.mk (ho); clear HB; have HB := n0_; have HO142 := n1_; clear n0_ n1_; clear ho hb hg hat) | ((with_reducible refine gate_builtin (b := .append) (xs := #[.tmp 25,.tmp 29]) rfl ?_); at_builtin; refine Kd.R_append (Kd.int .u8) (w0 := w) w.heap.size rfl (.tmp 25) (.tmp 29) 39 5 (.int .u8 0) 1 rfl Try.underlying39 info5 rfl (by decide) (by omega) v141 y140 ((a0 / 256) % 256) [.int .u8 ((a0 / 256) % 256)] (fun _ => True) (fun _ => False) rfl rfl ?aP (fun _ hk => hk.elim) ?aF ?aO ?aB ?aS ?aL ?_; (case aP => exact rfl); (case aB => exact (by repeat (first | (with_reducible first | exact HB.out | apply below_alloc | apply pw_below_drewN | apply below_drew1) | exact HB.out))); (case aF => exact (fun _ _ => trivial)); (case aO => exact (by (with_reducible repeat (first | apply Kd.R_alloc | apply Kd.R_drewN | apply Kd.R_drew)); exact HO142.out)); (case aS => exact (below_size (by repeat (first | (with_reducible first | exact HB.out | apply below_alloc | apply pw_below_drewN | apply below_drew1) | exact HB.out)))); (case aL => have := LMc15.out; omega); intro v144 w18 ho hb hg hat; rw [← Ny143.out] at ho; have n0_ := Aq.mk (hb); have n1_ := Aq.mk (ho); clear HB; clear HO142; have HB := n0_; have HO145 := n1_; clear n0_ n1_; clear ho hb hg hat) | ((with_reducible refine gate_builtin (b := .append) (xs := #[.tmp 31,.tmp 34]) rfl ?_); at_builtin; refine Kd.R_append (Kd.int .u8) (w0 := w) w.heap.size rfl (.tmp 31) (.tmp 34) 39 5 (.int .u8 0) 1 rfl Try.underlying39 info5 rfl (by decide) (by omega) v144 y143 ((a0) % 256) [.int .u8 ((a0) % 256)] (fun _ => True) (fun _ => False) rfl rfl ?aP (fun _ hk => hk.elim) ?aF ?aO ?aB ?aS ?aL ?_; (case aP => exact rfl); (case aB => exact (by repeat (first | (with_reducible first | exact HB.out | apply below_alloc | apply pw_below_drewN | apply below_drew1) | exact HB.out))); (case aF => exact (fun _ _ => trivial)); (case aO => exact (by (with_reducible repeat (first | apply Kd.R_alloc | apply Kd.R_drewN | apply Kd.R_drew)); exact HO145.out)); (case aS => exact (below_size (by repeat (first | (with_reducible first | exact HB.out | apply below_alloc | apply pw_below_drewN | apply below_drew1) | exact HB.out)))); (case aL => have := LMc16.out; omega); intro v147 w19 ho hb hg hat; rw [← Ny146.out] at ho; have n0_ := Aq.mk (hb); have n1_ := Aq.mk (ho); clear HB; clear HO145; have HB := n0_; have HO148 := n1_; clear n0_ n1_; clear ho hb hg hat; have hcv20 := own_string (P := Try.prog) Try.underlying39 Try.underlying5 Try.underlying9 (Kd.own_of_R HO148.out)))
      go_ret
      exact ⟨by first | rfl | (simp [errW_none,errW_some] <;> rfl) | (simp [*,errW_none,errW_some] <;> rfl),by repeat (first | (with_reducible first | exact HB.out | apply below_alloc | apply pw_below_drewN | apply below_drew1) | exact HB.out)⟩
     ·rw [if_neg c16] at H
      exact absurd H (by simp)
    ·rw [if_neg c15] at H
     exact absurd H (by simp)
   ·rw [if_neg c14] at H
    exact absurd H (by simp)
  ·rw [if_neg c13] at H
   have c13b0 : (a1 == 3) = false := beq_eq_false_iff_ne.mpr c13
   have c13b1 : (a1 != 3) = true := bne_iff_ne.mpr c13
   by_cases c21 : a1 = 2
   ·rw [if_pos c21] at H
    have c21b0 : (a1 == 2) = true := beq_iff_eq.mpr c21
    have c21b1 : (a1 != 2) = false := bne_eq_false_iff_eq.mpr c21
    clear c21
    by_cases c22 : ([] : List Int).length < 140737488355328
    ·rw [if_pos c22] at H
     have LMc22 := Aq.mk c22
     clear c22
     obtain ⟨y149,hy149⟩ : ∃ y_ : List Int,y_ = (([] : List Int) ++ [(a0 / 256) % 256]) := ⟨_,rfl⟩
     replace H : (if y149.length < 140737488355328 then (some (strOfNums (y149 ++ [(a0) % 256]))) else (none)) = some r := by first | (rw [hy149]; with_reducible exact H) | (have H2_ := (Option.bind_some _ _).symm.trans H; rw [hy149]; with_reducible exact H2_) | (have H2_ := (Option.bind_some _ _).symm.trans H; with_reducible exact H2_) | with_reducible exact H | (rw [hy149]; exact H) | exact H
     have Ny149 := Aq.mk hy149
     clear hy149
     by_cases c23 : y149.length < 140737488355328
     ·rw [if_pos c23] at H
      have LMc23 := Aq.mk c23
      clear c23
      obtain ⟨y152,hy152⟩ : ∃ y_ : List Int,y_ = (y149 ++ [(a0) % 256]) := ⟨_,rfl⟩
      replace H : (some (strOfNums y152)) = some r := by first | (rw [hy152]; with_reducible exact H) | (have H2_ := (Option.bind_some _ _).symm.trans H; rw [hy152]; with_reducible exact H2_) | (have H2_ := (Option.bind_some _ _).symm.trans H; with_reducible exact H2_) | with_reducible exact H | (rw [hy152]; exact H) | exact H
      have Ny152 := Aq.mk hy152
      clear hy152
      obtain rfl := Option.some.inj H
      go_enter Try.func47,Try.ntmps47
      go_wp2_with (first | ((with_reducible refine gate_builtin (b := .append) (xs := #[.tmp 25,.tmp 29]) rfl ?_); at_builtin; refine Kd.R_append (Kd.int .u8) (w0 := w) w.heap.size rfl (.tmp 25) (.tmp 29) 39 5 (.int .u8 0) 1 rfl Try.underlying39 info5 rfl (by decide) (by omega) (.slice none 0 0) ([] : List Int) ((a0 / 256) % 256) [.int .u8 ((a0 / 256) % 256)] (fun _ => True) (fun _ => False) rfl rfl ?aP (fun _ hk => hk.elim) ?aF ?aO ?aB ?aS ?aL ?_; (case aP => exact rfl); (case aB => exact (by repeat (first | (with_reducible first | exact HB.out | apply below_alloc | apply pw_below_drewN | apply below_drew1) | exact HB.out))); (case aF => exact (fun _ _ => trivial)); (case aO => exact ((Kd.R_nil _ _ _ _ (fun _ => True)))); (case aS => exact (below_size (by repeat (first | (with_reducible first | exact HB.out | apply below_alloc | apply pw_below_drewN | apply below_drew1) | exact HB.out)))); (case aL => have := LMc22.out; omega); intro v150 w24 ho hb hg hat; rw [← Ny149.out] at ho; have n0_ := Aq.mk (hb); have n1_ := Aq.mk (ho); clear HB; have HB := n0_; have HO151 := n1_; clear n0_ n1_; clear ho hb hg hat) | ((with_reducible refine gate_builtin (b := .append) (xs := #[.tmp 31,.tmp 34]) rfl ?_); at_builtin; refine Kd.R_append (Kd.int .u8) (w0 := w) w.heap.size rfl (.tmp 31) (.tmp 34) 39 5 (.int .u8 0) 1 rfl Try.underlying39 info5 rfl (by decide) (by omega) v150 y149 ((a0) % 256) [.int .u8 ((a0) % 256)] (fun _ => True) (fun _ => False) rfl rfl ?aP (fun _ hk => hk.elim) ?aF ?aO ?aB ?aS ?aL ?_; (case aP => exact rfl); (case aB => exact (by repeat (first | (with_reducible first | exact HB.out | apply below_alloc | apply pw_below_drewN | apply below_drew1) | exact HB.out))); (case aF => exact (fun _ _ => trivial)); (case aO => exact (by (with_reducible repeat (first | apply Kd.R_alloc | apply Kd.R_drewN | apply Kd.R_drew)); exact HO151.out)); (case aS => exact (below_size (by repeat (first | (with_reducible first | exact HB.out | apply below_alloc | apply pw_below_drewN | apply below_drew1) | exact HB.out)))); (case aL => have := LMc23.out; omega); intro v153 w25 ho hb hg hat; rw [← Ny152.out] at ho; have n0_ := Aq.mk (hb); have n1_ := Aq.mk (ho); clear HB; clear HO151; have HB := n0_; have HO154 := n1_; clear n0_ n1_; clear ho hb hg hat; have hcv26 := own_string (P := Try.prog) Try.underlying39 Try.underlying5 Try.underlying9 (Kd.own_of_R HO154.out)))
      go_ret
      exact ⟨by first | rfl | (simp [errW_none,errW_some] <;> rfl) | (simp [*,errW_none,errW_some] <;> rfl),by repeat (first | (with_reducible first | exact HB.out | apply below_alloc | apply pw_below_drewN | apply below_drew1) | exact HB.out)⟩
     ·rw [if_neg c23] at H
      exact absurd H (by simp)
    ·rw [if_neg c22] at H
     exact absurd H (by simp)
   ·rw [if_neg c21] at H
    have c21b0 : (a1 == 2) = false := beq_eq_false_iff_ne.mpr c21
    have c21b1 : (a1 != 2) = true := bne_iff_ne.mpr c21
    by_cases c27 : ([] : List Int).length < 140737488355328
    ·rw [if_pos c27] at H
     have LMc27 := Aq.mk c27
     clear c27
     obtain ⟨y155,hy155⟩ : ∃ y_ : List Int,y_ = (([] : List Int) ++ [(a0) % 256]) := ⟨_,rfl⟩
     replace H : (some (strOfNums y155)) = some r := by first | (rw [hy155]; with_reducible exact H) | (have H2_ := (Option.bind_some _ _).symm.trans H; rw [hy155]; with_reducible exact H2_) | (have H2_ := (Option.bind_some _ _).symm.trans H; with_reducible exact H2_) | with_reducible exact H | (rw [hy155]; exact H) | exact H
     have Ny155 := Aq.mk hy155
     clear hy155
     obtain rfl := Option.some.inj H
     go_enter Try.func47,Try.ntmps47
     go_wp2_with (first | ((with_reducible refine gate_builtin (b := .append) (xs := #[.tmp 31,.tmp 34]) rfl ?_); at_builtin; refine Kd.R_append (Kd.int .u8) (w0 := w) w.heap.size rfl (.tmp 31) (.tmp 34) 39 5 (.int .u8 0) 1 rfl Try.underlying39 info5 rfl (by decide) (by omega) (.slice none 0 0) ([] : List Int) ((a0) % 256) [.int .u8 ((a0) % 256)] (fun _ => True) (fun _ => False) rfl rfl ?aP (fun _ hk => hk.elim) ?aF ?aO ?aB ?aS ?aL ?_; (case aP => exact rfl); (case aB => exact (by repeat (first | (with_reducible first | exact HB.out | apply below_alloc | apply pw_below_drewN | apply below_drew1) | exact HB.out))); (case aF => exact (fun _ _ => trivial)); (case aO => exact ((Kd.R_nil _ _ _ _ (fun _ => True)))); (case aS => exact (below_size (by repeat (first | (with_reducible first | exact HB.out | apply below_alloc | apply pw_below_drewN | apply below_drew1) | exact HB.out)))); (case aL => have := LMc27.out; omega); intro v156 w28 ho hb hg hat; rw [← Ny155.out] at ho; have n0_ := Aq.mk (hb); have n1_ := Aq.mk (ho); clear HB; have HB := n0_; have HO157 := n1_; clear n0_ n1_; clear ho hb hg hat; have hcv29 := own_string (P := Try.prog) Try.underlying39 Try.underlying5 Try.underlying9 (Kd.own_of_R HO157.out)))
     go_ret
     exact ⟨by first | rfl | (simp [errW_none,errW_some] <;> rfl) | (simp [*,errW_none,errW_some] <;> rfl),by repeat (first | (with_reducible first | exact HB.out | apply below_alloc | apply pw_below_drewN | apply below_drew1) | exact HB.out)⟩
    ·rw [if_neg c27] at H
     exact absurd H (by simp)
def wire_Put.f (a0 : Int) (a1 : Int) : Option (ByteArray × Int) := if a1 < 1 then (some ((⟨#[]⟩ : ByteArray),101)) else (if a1 > 4 then (some ((⟨#[]⟩ : ByteArray),101)) else (if a0 < 0 then (some ((⟨#[]⟩ : ByteArray),101)) else (if 0 ≤ (wrap64 (8 * a1)) then (if (shr .i64 a0 (wrap64 (8 * a1))) = 0 then ((wire_Bytes.f a0 a1).bind fun t158 => (some (t158,0))) else (some ((⟨#[]⟩ : ByteArray),101))) else (none))))
set_option maxHeartbeats 8000000 in
set_option maxRecDepth 100000 in
theorem wire_Put.calls (a0 : Int) (a1 : Int) (r1 : ByteArray) (r2 : Int) (w : World) (h : wire_Put.f a0 a1 = some (r1,r2)) :
  Calls Try.prog 39 #[.int .i64 a0,.int .i64 a1] w fun e w' => e = .returned (.tuple #[.string r1,.int .i64 r2]) ∧ Below w.heap.size w w' := by
 have HB := Aq.mk (Below.refl w.heap.size w)
 have H : (if a1 < 1 then (some ((⟨#[]⟩ : ByteArray),101)) else (if a1 > 4 then (some ((⟨#[]⟩ : ByteArray),101)) else (if a0 < 0 then (some ((⟨#[]⟩ : ByteArray),101)) else (if 0 ≤ (wrap64 (8 * a1)) then (if (shr .i64 a0 (wrap64 (8 * a1))) = 0 then ((wire_Bytes.f a0 a1).bind fun t158 => (some (t158,0))) else (some ((⟨#[]⟩ : ByteArray),101))) else (none))))) = some (r1,r2) := h
 clear h
 by_cases c3 : a1 < 1
 ·rw [if_pos c3] at H
  have c3b0 : decide (a1 < 1) = true := decide_eq_true c3
  clear c3
  simp only [Option.some.injEq,Prod.mk.injEq] at H
  obtain ⟨rfl,rfl⟩ := H
  go_enter Try.func39,Try.ntmps39
  go_wp2
  go_ret2
  exact ⟨by first | rfl | (simp [errW_none,errW_some] <;> rfl) | (simp [*,errW_none,errW_some] <;> rfl),by repeat (first | (with_reducible first | exact HB.out | apply below_alloc | apply pw_below_drewN | apply below_drew1) | exact HB.out)⟩
 ·rw [if_neg c3] at H
  have c3b0 : decide (a1 < 1) = false := decide_eq_false c3
  clear c3
  by_cases c4 : a1 > 4
  ·rw [if_pos c4] at H
   have c4b0 : decide (4 < a1) = true := decide_eq_true c4
   clear c4
   simp only [Option.some.injEq,Prod.mk.injEq] at H
   obtain ⟨rfl,rfl⟩ := H
   go_enter Try.func39,Try.ntmps39
   go_wp2
   go_ret2
   exact ⟨by first | rfl | (simp [errW_none,errW_some] <;> rfl) | (simp [*,errW_none,errW_some] <;> rfl),by repeat (first | (with_reducible first | exact HB.out | apply below_alloc | apply pw_below_drewN | apply below_drew1) | exact HB.out)⟩
  ·rw [if_neg c4] at H
   have c4b0 : decide (4 < a1) = false := decide_eq_false c4
   clear c4
   by_cases c5 : a0 < 0
   ·rw [if_pos c5] at H
    have c5b0 : decide (a0 < 0) = true := decide_eq_true c5
    clear c5
    simp only [Option.some.injEq,Prod.mk.injEq] at H
    obtain ⟨rfl,rfl⟩ := H
    go_enter Try.func39,Try.ntmps39
    go_wp2
    go_ret2
    exact ⟨by first | rfl | (simp [errW_none,errW_some] <;> rfl) | (simp [*,errW_none,errW_some] <;> rfl),by repeat (first | (with_reducible first | exact HB.out | apply below_alloc | apply pw_below_drewN | apply below_drew1) | exact HB.out)⟩
   ·rw [if_neg c5] at H
    have c5b0 : decide (a0 < 0) = false := decide_eq_false c5
    clear c5
    obtain ⟨ji6,hji6⟩ : ∃ j_ : Int,(wrap64 (8 * a1)) = j_ := ⟨_,rfl⟩
    replace H : (if 0 ≤ (ji6) then (if (shr .i64 a0 (ji6)) = 0 then ((wire_Bytes.f a0 a1).bind fun t158 => (some (t158,0))) else (some ((⟨#[]⟩ : ByteArray),101))) else (none)) = some (r1,r2) := by first | (rw [hji6] at H; exact H) | (simp only [hji6] at H ⊢; exact H)
    have hji6w : (IntKind.i64.wrap (8 * a1)) = ji6 := (i64_w _).trans hji6
    by_cases c7 : 0 ≤ (ji6)
    ·rw [if_pos c7] at H
     have c7b0 := eq_true c7
     have c7b1 : decide (0 ≤ (ji6)) = true := decide_eq_true c7
     clear c7
     obtain ⟨ji8,hji8⟩ : ∃ j_ : Int,(shr .i64 a0 (ji6)) = j_ := ⟨_,rfl⟩
     replace H : (if (ji8) = 0 then ((wire_Bytes.f a0 a1).bind fun t158 => (some (t158,0))) else (some ((⟨#[]⟩ : ByteArray),101))) = some (r1,r2) := by first | (rw [hji8] at H; exact H) | (simp only [hji8] at H ⊢; exact H)
     have hji8_ : (a0 / 2 ^ min (ji6).toNat 64) = ji8 := hji8
     have hji8z : (ji6) ≤ 64 → (a0 / 2 ^ (ji6).toNat) = ji8 := shr_small hji8
     by_cases c9 : (ji8) = 0
     ·rw [if_pos c9] at H
      have c9b0 : ((ji8) == 0) = true := beq_iff_eq.mpr c9
      have c9b1 : ((ji8) != 0) = false := bne_eq_false_iff_eq.mpr c9
      clear c9
      replace H := Option.bind_eq_some_iff.mp H
      obtain ⟨t158,A100,H⟩ := H
      replace H : (some (t158,0)) = some (r1,r2) := H
      have A10 := Aq.mk A100
      clear A100
      simp only [Option.some.injEq,Prod.mk.injEq] at H
      obtain ⟨rfl,rfl⟩ := H
      go_enter Try.func39,Try.ntmps39
      go_wp2_with (first | ((with_reducible refine gate_callee (f := 47) rfl ?_); refine goesL_ (some 25) rfl rfl Try.func47 (by kernel_rfl) rfl #[.int .i64 a0,.int .i64 a1] rfl (by (try simp only [List.map_toArray,List.map_cons,List.map_nil]); first | done | rfl | (simp only [List.length_drop,List.length_take]; rfl)) ?_; (with_reducible refine (wire_Bytes.calls a0 a1 t158 _ A10.out).mono ?_); rintro e w11 ⟨rfl,hb⟩; refine ⟨_,rfl,?_⟩; have n0_ := Aq.mk (below_step (by repeat (first | (with_reducible first | exact HB.out | apply below_alloc | apply pw_below_drewN | apply below_drew1) | exact HB.out)) hb); clear HB; have HB := n0_; clear n0_; (try clear hb); (try clear hb2); (try clear hk); (try clear hi)))
      go_ret2
      exact ⟨by first | rfl | (simp [errW_none,errW_some] <;> rfl) | (simp only [← hji6,← hji8]; first | rfl | (simp [errW_none,errW_some] <;> rfl)) | (simp [*,errW_none,errW_some] <;> rfl),by repeat (first | (with_reducible first | exact HB.out | apply below_alloc | apply pw_below_drewN | apply below_drew1) | exact HB.out)⟩
     ·rw [if_neg c9] at H
      have c9b0 : ((ji8) == 0) = false := beq_eq_false_iff_ne.mpr c9
      have c9b1 : ((ji8) != 0) = true := bne_iff_ne.mpr c9
      simp only [Option.some.injEq,Prod.mk.injEq] at H
      obtain ⟨rfl,rfl⟩ := H
      go_enter Try.func39,Try.ntmps39
      go_wp2
      go_ret2
      exact ⟨by first | rfl | (simp [errW_none,errW_some] <;> rfl) | (simp only [← hji6,← hji8]; first | rfl | (simp [errW_none,errW_some] <;> rfl)) | (simp [*,errW_none,errW_some] <;> rfl),by repeat (first | (with_reducible first | exact HB.out | apply below_alloc | apply pw_below_drewN | apply below_drew1) | exact HB.out)⟩
    ·rw [if_neg c7] at H
     exact absurd H (by simp)
def wire_PutVec.f (a0 : ByteArray) (a1 : Int) : Option (ByteArray × Int) := if a1 < 1 then (some ((⟨#[]⟩ : ByteArray),101)) else (if a1 > 3 then (some ((⟨#[]⟩ : ByteArray),101)) else (if 0 ≤ (wrap64 (8 * a1)) then (if (shr .i64 (a0.size : Int) (wrap64 (8 * a1))) = 0 then ((wire_Bytes.f (a0.size : Int) a1).bind fun t159 => (if t159.size + a0.size ≤ 9223372036854775807 then (some ((t159 ++ a0),0)) else (none))) else (some ((⟨#[]⟩ : ByteArray),101))) else (none)))
set_option maxHeartbeats 8000000 in
set_option maxRecDepth 100000 in
theorem wire_PutVec.calls (a0 : ByteArray) (a1 : Int) (r1 : ByteArray) (r2 : Int) (w : World) (h : wire_PutVec.f a0 a1 = some (r1,r2)) :
  Calls Try.prog 40 #[.string a0,.int .i64 a1] w fun e w' => e = .returned (.tuple #[.string r1,.int .i64 r2]) ∧ Below w.heap.size w w' := by
 have HB := Aq.mk (Below.refl w.heap.size w)
 have H : (if a1 < 1 then (some ((⟨#[]⟩ : ByteArray),101)) else (if a1 > 3 then (some ((⟨#[]⟩ : ByteArray),101)) else (if 0 ≤ (wrap64 (8 * a1)) then (if (shr .i64 (a0.size : Int) (wrap64 (8 * a1))) = 0 then ((wire_Bytes.f (a0.size : Int) a1).bind fun t159 => (if t159.size + a0.size ≤ 9223372036854775807 then (some ((t159 ++ a0),0)) else (none))) else (some ((⟨#[]⟩ : ByteArray),101))) else (none)))) = some (r1,r2) := h
 clear h
 by_cases c3 : a1 < 1
 ·rw [if_pos c3] at H
  have c3b0 : decide (a1 < 1) = true := decide_eq_true c3
  clear c3
  simp only [Option.some.injEq,Prod.mk.injEq] at H
  obtain ⟨rfl,rfl⟩ := H
  go_enter Try.func40,Try.ntmps40
  go_wp2
  go_ret2
  exact ⟨by first | rfl | (simp [errW_none,errW_some] <;> rfl) | (simp [*,errW_none,errW_some] <;> rfl),by repeat (first | (with_reducible first | exact HB.out | apply below_alloc | apply pw_below_drewN | apply below_drew1) | exact HB.out)⟩
 ·rw [if_neg c3] at H
  have c3b0 : decide (a1 < 1) = false := decide_eq_false c3
  clear c3
  by_cases c4 : a1 > 3
  ·rw [if_pos c4] at H
   have c4b0 : decide (3 < a1) = true := decide_eq_true c4
   clear c4
   simp only [Option.some.injEq,Prod.mk.injEq] at H
   obtain ⟨rfl,rfl⟩ := H
   go_enter Try.func40,Try.ntmps40
   go_wp2
   go_ret2
   exact ⟨by first | rfl | (simp [errW_none,errW_some] <;> rfl) | (simp [*,errW_none,errW_some] <;> rfl),by repeat (first | (with_reducible first | exact HB.out | apply below_alloc | apply pw_below_drewN | apply below_drew1) | exact HB.out)⟩
  ·rw [if_neg c4] at H
   have c4b0 : decide (3 < a1) = false := decide_eq_false c4
   clear c4
   obtain ⟨ji5,hji5⟩ : ∃ j_ : Int,(wrap64 (8 * a1)) = j_ := ⟨_,rfl⟩
   replace H : (if 0 ≤ (ji5) then (if (shr .i64 (a0.size : Int) (ji5)) = 0 then ((wire_Bytes.f (a0.size : Int) a1).bind fun t159 => (if t159.size + a0.size ≤ 9223372036854775807 then (some ((t159 ++ a0),0)) else (none))) else (some ((⟨#[]⟩ : ByteArray),101))) else (none)) = some (r1,r2) := by first | (rw [hji5] at H; exact H) | (simp only [hji5] at H ⊢; exact H)
   have hji5w : (IntKind.i64.wrap (8 * a1)) = ji5 := (i64_w _).trans hji5
   by_cases c6 : 0 ≤ (ji5)
   ·rw [if_pos c6] at H
    have c6b0 := eq_true c6
    have c6b1 : decide (0 ≤ (ji5)) = true := decide_eq_true c6
    clear c6
    obtain ⟨ji7,hji7⟩ : ∃ j_ : Int,(shr .i64 (a0.size : Int) (ji5)) = j_ := ⟨_,rfl⟩
    replace H : (if (ji7) = 0 then ((wire_Bytes.f (a0.size : Int) a1).bind fun t159 => (if t159.size + a0.size ≤ 9223372036854775807 then (some ((t159 ++ a0),0)) else (none))) else (some ((⟨#[]⟩ : ByteArray),101))) = some (r1,r2) := by first | (rw [hji7] at H; exact H) | (simp only [hji7] at H ⊢; exact H)
    have hji7_ : ((a0.size : Int) / 2 ^ min (ji5).toNat 64) = ji7 := hji7
    have hji7z : (ji5) ≤ 64 → ((a0.size : Int) / 2 ^ (ji5).toNat) = ji7 := shr_small hji7
    by_cases c8 : (ji7) = 0
    ·rw [if_pos c8] at H
     have c8b0 : ((ji7) == 0) = true := beq_iff_eq.mpr c8
     have c8b1 : ((ji7) != 0) = false := bne_eq_false_iff_eq.mpr c8
     clear c8
     replace H := Option.bind_eq_some_iff.mp H
     obtain ⟨t159,A90,H⟩ := H
     replace H : (if t159.size + a0.size ≤ 9223372036854775807 then (some ((t159 ++ a0),0)) else (none)) = some (r1,r2) := H
     have A9 := Aq.mk A90
     clear A90
     by_cases c10 : t159.size + a0.size ≤ 9223372036854775807
     ·rw [if_pos c10] at H
      have c10b0 := eq_true c10
      have c10b1 : decide (t159.size + a0.size ≤ 9223372036854775807) = true := decide_eq_true c10
      try have c10b2 : (9223372036854775807 < t159.size + a0.size) = False := eq_false (Nat.not_lt.2 c10)
      obtain ⟨ys160,hys160⟩ : ∃ y_ : ByteArray,y_ = (t159 ++ a0) := ⟨_,rfl⟩
      replace H : (some (ys160,0)) = some (r1,r2) := by first | (rw [hys160]; with_reducible exact H) | (have H2_ := (Option.bind_some _ _).symm.trans H; rw [hys160]; with_reducible exact H2_) | (have H2_ := (Option.bind_some _ _).symm.trans H; with_reducible exact H2_) | with_reducible exact H | (rw [hys160]; exact H) | exact H
      have Nys160 := Aq.mk hys160
      clear hys160
      have Sys160 := Nys160.out.symm
      simp only [Option.some.injEq,Prod.mk.injEq] at H
      obtain ⟨rfl,rfl⟩ := H
      go_enter Try.func40,Try.ntmps40
      go_wp2_with (first | ((with_reducible refine gate_callee (f := 47) rfl ?_); refine goesL_ (some 23) rfl rfl Try.func47 (by kernel_rfl) rfl #[.int .i64 (a0.size : Int),.int .i64 a1] rfl (by (try simp only [List.map_toArray,List.map_cons,List.map_nil]); first | done | rfl | (simp only [List.length_drop,List.length_take]; rfl)) ?_; (with_reducible refine (wire_Bytes.calls (a0.size : Int) a1 t159 _ A9.out).mono ?_); rintro e w11 ⟨rfl,hb⟩; refine ⟨_,rfl,?_⟩; have n0_ := Aq.mk (below_step (by repeat (first | (with_reducible first | exact HB.out | apply below_alloc | apply pw_below_drewN | apply below_drew1) | exact HB.out)) hb); clear HB; have HB := n0_; clear n0_; (try clear hb); (try clear hb2); (try clear hk); (try clear hi)))
      go_ret2
      exact ⟨by first | rfl | (simp [errW_none,errW_some] <;> rfl) | (simp only [← hji5,← hji7]; first | rfl | (simp [errW_none,errW_some] <;> rfl)) | (simp [*,errW_none,errW_some] <;> rfl),by repeat (first | (with_reducible first | exact HB.out | apply below_alloc | apply pw_below_drewN | apply below_drew1) | exact HB.out)⟩
     ·rw [if_neg c10] at H
      exact absurd H (by simp)
    ·rw [if_neg c8] at H
     have c8b0 : ((ji7) == 0) = false := beq_eq_false_iff_ne.mpr c8
     have c8b1 : ((ji7) != 0) = true := bne_iff_ne.mpr c8
     simp only [Option.some.injEq,Prod.mk.injEq] at H
     obtain ⟨rfl,rfl⟩ := H
     go_enter Try.func40,Try.ntmps40
     go_wp2
     go_ret2
     exact ⟨by first | rfl | (simp [errW_none,errW_some] <;> rfl) | (simp only [← hji5,← hji7]; first | rfl | (simp [errW_none,errW_some] <;> rfl)) | (simp [*,errW_none,errW_some] <;> rfl),by repeat (first | (with_reducible first | exact HB.out | apply below_alloc | apply pw_below_drewN | apply below_drew1) | exact HB.out)⟩
   ·rw [if_neg c6] at H
    exact absurd H (by simp)
def ext_Put.l0 : Nat → ByteArray → List Int → Bool → List (S41) → Int → Int → Option (ByteArray × Int)
 | 0,_,_,_,_,_,_ => none
 | k + 1,x4,x5,x6,x14,x15,x16 => if x16 < x15 then (if 0 ≤ x16 then (if x16 < (x14.length : Int) then ((wire_Put.f ((rd_T41 x14 x16).f0) 2).bind fun bt166 => ((wire_PutVec.f ((rd_T41 x14 x16).f1) 2).bind fun bt168 => (if bt166.2 = 0 then (if bt168.2 = 0 then (if x6 = true then (if (Lit.int .i64 ((rd_T41 x14 x16).f0)).wf = true then (if x5.length < 140737488355328 then (if bt166.1.size + bt168.1.size ≤ 9223372036854775807 then ((some (bt166.1 ++ bt168.1 : ByteArray)).bind fun ys173 => (if x4.size + ys173.size ≤ 9223372036854775807 then (ext_Put.l0 k (x4 ++ ys173) (x5 ++ [(rd_T41 x14 x16).f0]) true x14 x15 (wrap64 (x16 + 1))) else (none))) else (none)) else (none)) else (none)) else (if (Lit.int .i64 ((rd_T41 x14 x16).f0)).wf = true then (if x5.length < 140737488355328 then (if bt166.1.size + bt168.1.size ≤ 9223372036854775807 then ((some (bt166.1 ++ bt168.1 : ByteArray)).bind fun ys178 => (if x4.size + ys178.size ≤ 9223372036854775807 then (ext_Put.l0 k (x4 ++ ys178) (x5 ++ [(rd_T41 x14 x16).f0]) (decide (((rd_T41 x14 x16).f0) ∈ x5)) x14 x15 (wrap64 (x16 + 1))) else (none))) else (none)) else (none)) else (none))) else (some ((⟨#[]⟩ : ByteArray),1600))) else (some ((⟨#[]⟩ : ByteArray),1600))))) else (none)) else (none)) else (if x6 = true then (some ((⟨#[]⟩ : ByteArray),1601)) else (some (x4,0)))
def ext_Put.f (k : Nat) (l0 : List (S41)) : Option (ByteArray × Int) := ext_Put.l0 k (⟨#[]⟩ : ByteArray) (([] : List Int)) false l0 (l0.length : Int) 0
theorem ext_Put.mono_l : ∀ k,(∀ y0 y1 y2 y3 y4 y5,LeO (ext_Put.l0 k y0 y1 y2 y3 y4 y5) (ext_Put.l0 (k + 1) y0 y1 y2 y3 y4 y5))
 | 0 => fun _ _ _ _ _ _ r h => by simp [ext_Put.l0] at h
 | k + 1 => by
  have ih0 := ext_Put.mono_l k
  ·intro y0 y1 y2 y3 y4 y5
   unfold ext_Put.l0
   repeat' first
   | (with_reducible exact ih0 _ _ _ _ _ _)
   | (with_reducible exact LeO.refl _)
   | (with_reducible exact LeO.none _)
   | (with_reducible refine LeO.ite ?_ ?_)
   | (with_reducible refine LeO.bind ?_ (fun _ => ?_))
   | exact ih0 _ _ _ _ _ _
   | exact LeO.none _
   | refine LeO.ite ?_ ?_
   | refine LeO.bind ?_ (fun _ => ?_)
theorem ext_Put.mono : ∀ a0 k,LeO (ext_Put.f k a0) (ext_Put.f (k + 1) a0) := by
 intro a0 k
 have ih0 := ext_Put.mono_l k
 unfold ext_Put.f
 repeat' first
   | (with_reducible exact ih0 _ _ _ _ _ _)
   | (with_reducible exact LeO.refl _)
   | (with_reducible exact LeO.none _)
   | (with_reducible refine LeO.ite ?_ ?_)
   | (with_reducible refine LeO.bind ?_ (fun _ => ?_))
   | exact ih0 _ _ _ _ _ _
   | exact LeO.none _
   | refine LeO.ite ?_ ?_
   | refine LeO.bind ?_ (fun _ => ?_)
set_option maxHeartbeats 8000000 in
set_option maxRecDepth 100000 in
theorem ext_Put.calls (k : Nat) (A0 : Option Addr) (c0 : Nat) (l0 : List (S41)) (r1 : ByteArray) (r2 : Int) (w : World) (hr0 : Kd.C k41 w A0 l0.length l0) (hc0 : l0.length ≤ c0) (h : ext_Put.f k l0 = some (r1,r2)) :
  Calls Try.prog 15 #[.slice A0 l0.length c0] w fun e w' => e = .returned (.tuple #[.string r1,.int .i64 r2]) ∧ Below w.heap.size w w' := by
 have hu41 := Try.underlying41
 have HR0 := Aq.mk hr0
 have HC0 := Aq.mk hc0
 clear hr0 hc0
 have HB := Aq.mk (Below.refl w.heap.size w)
 have H : (ext_Put.l0 k (⟨#[]⟩ : ByteArray) (([] : List Int)) false l0 (l0.length : Int) 0) = some (r1,r2) := h
 clear h
 obtain ⟨y161,hy161⟩ : ∃ y_ : List Int,y_ = (([] : List Int)) := ⟨_,rfl⟩
 replace H : (ext_Put.l0 k (⟨#[]⟩ : ByteArray) y161 false l0 (l0.length : Int) 0) = some (r1,r2) := by first | (rw [hy161]; with_reducible exact H) | (have H2_ := (Option.bind_some _ _).symm.trans H; rw [hy161]; with_reducible exact H2_) | (have H2_ := (Option.bind_some _ _).symm.trans H; with_reducible exact H2_) | with_reducible exact H | (rw [hy161]; exact H) | exact H
 have Ny161 := Aq.mk hy161
 clear hy161
 have H' := Aq.mk H
 clear H
 go_enter Try.func15,Try.ntmps15
 go_wp2_with (first | ((with_reducible refine gate_dst (N := 13) rfl ?_); refine Kd.Y_make (Kd.int .i64) 3 rfl (N := 13) rfl 68 rfl (ok := fun _ => True) trivial ?_; intro v162 w2 ho3 hb; rw [← Ny161.out] at ho3; have n0_ := Aq.mk (Kd.Y_lower ho3 (below_size (by repeat (first | (with_reducible first | exact HB.out | apply below_alloc | apply pw_below_drewN | apply below_drew1) | exact HB.out)))); have n1_ := Aq.mk (below_step (by repeat (first | (with_reducible first | exact HB.out | apply below_alloc | apply pw_below_drewN | apply below_drew1) | exact HB.out)) hb); clear HB; have HO163 := n0_; have HB := n1_; clear n0_ n1_; clear hb ho3))
 go_loopg [4,6,16] k (fun kq v4 v6 v16 w' => ∃ (x4_1 : ByteArray) (x5_1 : List Int) (x6_1 : Bool) (x16_1 : Int),v4 = .string x4_1 ∧ v6 = .bool x6_1 ∧ v16 = .int .i64 x16_1 ∧ Aq (ext_Put.l0 kq x4_1 x5_1 x6_1 l0 (l0.length : Int) x16_1 = some (r1,r2)) ∧ Aq (kq ≤ k) ∧ Aq (Kd.Y (Kd.int .i64) 3 w' w.heap.size (fun _ => True) v162 x5_1) ∧ Aq (Below w.heap.size w w'))
 case atStart => exact ⟨((⟨#[]⟩ : ByteArray)),(y161),(false),(0),(by first | rfl | (simp; done) | (simp [*]; done)),(by first | rfl | (simp; done) | (simp [*]; done)),(by first | rfl | (simp; done) | (simp [*]; done)),H',⟨Nat.le_refl _⟩,⟨by (with_reducible repeat (first | apply Kd.Y_alloc | apply Kd.Y_drewN | apply Kd.Y_drew)); exact HO163.out⟩,⟨by repeat (first | (with_reducible first | exact HB.out | apply below_alloc | apply pw_below_drewN | apply below_drew1) | exact HB.out)⟩⟩
 case round =>
  clear H'
  try clear c1
  try clear p2
  obtain ⟨x4_1,x5_1,x6_1,x16_1,rfl,rfl,rfl,HA,HK1,HO_5,HB⟩ := hrel
  cases gk with
  | zero => exact absurd HA.out (by simp [ext_Put.l0])
  | succ k1 =>
   have H := HA.out
   clear HA
   simp only [ext_Put.l0] at H
   by_cases c4 : x16_1 < (l0.length : Int)
   ·rw [if_pos c4] at H
    have c4b0 : decide (x16_1 < (l0.length : Int)) = true := decide_eq_true c4
    clear c4
    by_cases c5 : 0 ≤ x16_1
    ·rw [if_pos c5] at H
     have c5b0 : decide (0 ≤ x16_1) = true := decide_eq_true c5
     clear c5
     by_cases c6 : x16_1 < (l0.length : Int)
     ·rw [if_pos c6] at H
      have c6b0 : decide (x16_1 < (l0.length : Int)) = true := decide_eq_true c6
      clear c6
      replace H := Option.bind_eq_some_iff.mp H
      obtain ⟨⟨t166,t167⟩,A70,H⟩ := H
      replace H : ((wire_PutVec.f ((rd_T41 l0 x16_1).f1) 2).bind fun bt168 => (if t167 = 0 then (if bt168.2 = 0 then (if x6_1 = true then (if (Lit.int .i64 ((rd_T41 l0 x16_1).f0)).wf = true then (if x5_1.length < 140737488355328 then (if t166.size + bt168.1.size ≤ 9223372036854775807 then ((some (t166 ++ bt168.1 : ByteArray)).bind fun ys173 => (if x4_1.size + ys173.size ≤ 9223372036854775807 then (ext_Put.l0 k1 (x4_1 ++ ys173) (x5_1 ++ [(rd_T41 l0 x16_1).f0]) true l0 (l0.length : Int) (wrap64 (x16_1 + 1))) else (none))) else (none)) else (none)) else (none)) else (if (Lit.int .i64 ((rd_T41 l0 x16_1).f0)).wf = true then (if x5_1.length < 140737488355328 then (if t166.size + bt168.1.size ≤ 9223372036854775807 then ((some (t166 ++ bt168.1 : ByteArray)).bind fun ys178 => (if x4_1.size + ys178.size ≤ 9223372036854775807 then (ext_Put.l0 k1 (x4_1 ++ ys178) (x5_1 ++ [(rd_T41 l0 x16_1).f0]) (decide (((rd_T41 l0 x16_1).f0) ∈ x5_1)) l0 (l0.length : Int) (wrap64 (x16_1 + 1))) else (none))) else (none)) else (none)) else (none))) else (some ((⟨#[]⟩ : ByteArray),1600))) else (some ((⟨#[]⟩ : ByteArray),1600)))) = some (r1,r2) := H
      have A7 := Aq.mk A70
      clear A70
      replace H := Option.bind_eq_some_iff.mp H
      obtain ⟨⟨t168,t169⟩,A80,H⟩ := H
      replace H : (if t167 = 0 then (if t169 = 0 then (if x6_1 = true then (if (Lit.int .i64 ((rd_T41 l0 x16_1).f0)).wf = true then (if x5_1.length < 140737488355328 then (if t166.size + t168.size ≤ 9223372036854775807 then ((some (t166 ++ t168 : ByteArray)).bind fun ys173 => (if x4_1.size + ys173.size ≤ 9223372036854775807 then (ext_Put.l0 k1 (x4_1 ++ ys173) (x5_1 ++ [(rd_T41 l0 x16_1).f0]) true l0 (l0.length : Int) (wrap64 (x16_1 + 1))) else (none))) else (none)) else (none)) else (none)) else (if (Lit.int .i64 ((rd_T41 l0 x16_1).f0)).wf = true then (if x5_1.length < 140737488355328 then (if t166.size + t168.size ≤ 9223372036854775807 then ((some (t166 ++ t168 : ByteArray)).bind fun ys178 => (if x4_1.size + ys178.size ≤ 9223372036854775807 then (ext_Put.l0 k1 (x4_1 ++ ys178) (x5_1 ++ [(rd_T41 l0 x16_1).f0]) (decide (((rd_T41 l0 x16_1).f0) ∈ x5_1)) l0 (l0.length : Int) (wrap64 (x16_1 + 1))) else (none))) else (none)) else (none)) else (none))) else (some ((⟨#[]⟩ : ByteArray),1600))) else (some ((⟨#[]⟩ : ByteArray),1600))) = some (r1,r2) := H
      have A8 := Aq.mk A80
      clear A80
      by_cases c9 : t167 = 0
      ·rw [if_pos c9] at H
       have c9b0 : (t167 == 0) = true := beq_iff_eq.mpr c9
       have c9b1 : (t167 != 0) = false := bne_eq_false_iff_eq.mpr c9
       clear c9
       by_cases c10 : t169 = 0
       ·rw [if_pos c10] at H
        have c10b0 : (t169 == 0) = true := beq_iff_eq.mpr c10
        have c10b1 : (t169 != 0) = false := bne_eq_false_iff_eq.mpr c10
        clear c10
        by_cases c11 : x6_1 = true
        ·subst c11
         have H1 : (if (Lit.int .i64 ((rd_T41 l0 x16_1).f0)).wf = true then (if x5_1.length < 140737488355328 then (if t166.size + t168.size ≤ 9223372036854775807 then ((some (t166 ++ t168 : ByteArray)).bind fun ys173 => (if x4_1.size + ys173.size ≤ 9223372036854775807 then (ext_Put.l0 k1 (x4_1 ++ ys173) (x5_1 ++ [(rd_T41 l0 x16_1).f0]) true l0 (l0.length : Int) (wrap64 (x16_1 + 1))) else (none))) else (none)) else (none)) else (none)) = some (r1,r2) := by rw [if_pos rfl] at H; exact H
         clear H
         have H := H1
         clear H1
         by_cases c12 : (Lit.int .i64 ((rd_T41 l0 x16_1).f0)).wf = true
         ·rw [if_pos c12] at H
          have LMc12 := Aq.mk c12
          clear c12
          by_cases c13 : x5_1.length < 140737488355328
          ·rw [if_pos c13] at H
           have LMc13 := Aq.mk c13
           clear c13
           obtain ⟨y170,hy170⟩ : ∃ y_ : List Int,y_ = (x5_1 ++ [(rd_T41 l0 x16_1).f0]) := ⟨_,rfl⟩
           replace H : (if t166.size + t168.size ≤ 9223372036854775807 then ((some (t166 ++ t168 : ByteArray)).bind fun ys173 => (if x4_1.size + ys173.size ≤ 9223372036854775807 then (ext_Put.l0 k1 (x4_1 ++ ys173) y170 true l0 (l0.length : Int) (wrap64 (x16_1 + 1))) else (none))) else (none)) = some (r1,r2) := by first | (rw [hy170]; with_reducible exact H) | (have H2_ := (Option.bind_some _ _).symm.trans H; rw [hy170]; with_reducible exact H2_) | (have H2_ := (Option.bind_some _ _).symm.trans H; with_reducible exact H2_) | with_reducible exact H | (rw [hy170]; exact H) | exact H
           have Ny170 := Aq.mk hy170
           clear hy170
           by_cases c14 : t166.size + t168.size ≤ 9223372036854775807
           ·rw [if_pos c14] at H
            have c14b0 := eq_true c14
            have c14b1 : decide (t166.size + t168.size ≤ 9223372036854775807) = true := decide_eq_true c14
            try have c14b2 : (9223372036854775807 < t166.size + t168.size) = False := eq_false (Nat.not_lt.2 c14)
            obtain ⟨ys173,hys173⟩ : ∃ y_ : ByteArray,y_ = (t166 ++ t168) := ⟨_,rfl⟩
            replace H : (if x4_1.size + ys173.size ≤ 9223372036854775807 then (ext_Put.l0 k1 (x4_1 ++ ys173) y170 true l0 (l0.length : Int) (wrap64 (x16_1 + 1))) else (none)) = some (r1,r2) := by first | (rw [hys173]; with_reducible exact H) | (have H2_ := (Option.bind_some _ _).symm.trans H; rw [hys173]; with_reducible exact H2_) | (have H2_ := (Option.bind_some _ _).symm.trans H; with_reducible exact H2_) | with_reducible exact H | (rw [hys173]; exact H) | exact H
            have Nys173 := Aq.mk hys173
            clear hys173
            have Sys173 := Nys173.out.symm
            by_cases c15 : x4_1.size + ys173.size ≤ 9223372036854775807
            ·rw [if_pos c15] at H
             have c15b0 := eq_true c15
             have c15b1 : decide (x4_1.size + ys173.size ≤ 9223372036854775807) = true := decide_eq_true c15
             try have c15b2 : (9223372036854775807 < x4_1.size + ys173.size) = False := eq_false (Nat.not_lt.2 c15)
             obtain ⟨ys174,hys174⟩ : ∃ y_ : ByteArray,y_ = (x4_1 ++ ys173) := ⟨_,rfl⟩
             replace H : (ext_Put.l0 k1 ys174 y170 true l0 (l0.length : Int) (wrap64 (x16_1 + 1))) = some (r1,r2) := by first | (rw [hys174]; with_reducible exact H) | (have H2_ := (Option.bind_some _ _).symm.trans H; rw [hys174]; with_reducible exact H2_) | (have H2_ := (Option.bind_some _ _).symm.trans H; with_reducible exact H2_) | with_reducible exact H | (rw [hys174]; exact H) | exact H
             have Nys174 := Aq.mk hys174
             clear hys174
             have Sys174 := Nys174.out.symm
             have H' := Aq.mk H
             clear H
             have p164 : 0 ≤ (x16_1 : Int) := of_decide_eq_true (by first | (with_reducible assumption) | assumption)
             have q164 : x16_1 < (l0.length : Int) := of_decide_eq_true (by first | (with_reducible assumption) | assumption)
             obtain ⟨ad164,e164,hx164_0,hx164_1⟩ := at_T41 HR0.out x16_1 p164 q164
             cases e164
             replace hx164_0 := (HB.out.cell (World.block_lt_of_cell? w _ hx164_0)).trans hx164_0
             replace hx164_1 := (HB.out.cell (World.block_lt_of_cell? w _ hx164_1)).trans hx164_1
             replace p164 := eq_true p164
             replace q164 := eq_true q164
             go_wp2_with (first | ((with_reducible refine gate_dst (N := 8) rfl ?_); refine box_event ?hg (N := 8) ?hd (cs := #[.int .i64 0,.string (⟨#[]⟩ : ByteArray)]) (t := 41) ?hr ?_; (case hd => rfl); (case hg => rfl); (case hr => first | (go_simp; done) | (go_simp; rfl)); intro gb165 hg w16 hbox hb; have n0_ := Aq.mk (Kd.Y_below (by (with_reducible repeat (first | apply Kd.Y_alloc | apply Kd.Y_drewN | apply Kd.Y_drew)); exact HO_5.out) hb); have n1_ := Aq.mk (below_step (by repeat (first | (with_reducible first | exact HB.out | apply below_alloc | apply pw_below_drewN | apply below_drew1) | exact HB.out)) hb); have n2_ := Aq.mk (hbox); have n3_ := Aq.mk ((by rw [hg]; exact (below_size (by repeat (first | (with_reducible first | exact HB.out | apply below_alloc | apply pw_below_drewN | apply below_drew1) | exact HB.out))) : w.heap.size ≤ gb165)); have n4_ := Aq.mk ((by rw [hg]; exact (below_size (by repeat (first | (with_reducible first | exact HB.out | apply below_alloc | apply pw_below_drewN | apply below_drew1) | exact HB.out))) : w.heap.size ≤ gb165)); clear HO_5; clear HB; have HO_5 := n0_; have HB := n1_; have BK165 := n2_; have GW165 := n3_; have GE165 := n4_; clear n0_ n1_ n2_ n3_ n4_; clear hb hbox hg; have hcz17_0 : w16.cell? ⟨gb165,0,none⟩ = some (.int .i64 0) := (blk_cell BK165.out 0).trans rfl; have hcz17_1 : w16.cell? ⟨gb165,1,none⟩ = some (.string (⟨#[]⟩ : ByteArray)) := (blk_cell BK165.out 1).trans rfl; have hfz17_0 := blk_frozen BK165.out 0; have hfz17_1 := blk_frozen BK165.out 1) | ((with_reducible refine gate_callee (f := 39) rfl ?_); refine goesL_ (some 23) rfl rfl Try.func39 (by kernel_rfl) rfl #[.int .i64 ((rd_T41 l0 x16_1).f0),.int .i64 2] rfl (by (try simp only [List.map_toArray,List.map_cons,List.map_nil]); first | done | rfl | (simp only [List.length_drop,List.length_take]; rfl)) ?_; (with_reducible refine (wire_Put.calls ((rd_T41 l0 x16_1).f0) 2 t166 t167 _ A7.out).mono ?_); rintro e w18 ⟨rfl,hb⟩; refine ⟨_,rfl,?_⟩; have n0_ := Aq.mk (Kd.Y_below (by (with_reducible repeat (first | apply Kd.Y_alloc | apply Kd.Y_drewN | apply Kd.Y_drew)); exact (Kd.Y_mono (Kd.Y_far (p := ⟨gb165,1,none⟩) (Kd.Y_far (p := ⟨gb165,0,none⟩) (Kd.Y_types HO_5.out BK165.out (by decide)) (fun _ hk => hk.2) (.int .i64 ((rd_T41 l0 x16_1).f0))) (fun _ hk => hk.2) (.string ((rd_T41 l0 x16_1).f1))) (fun _ h_ => h_.1))) hb); have n1_ := Aq.mk (blk_below (g := gb165) (o := .cells #[.int .i64 ((rd_T41 l0 x16_1).f0),.string ((rd_T41 l0 x16_1).f1)] 41 (0,0)) (by (with_reducible repeat (first | refine blk_drewN ?_ _ | refine blk_drew ?_ | refine blk_alloc ?_ _)); refine blk_put (cs := #[.int .i64 ((rd_T41 l0 x16_1).f0),.string (⟨#[]⟩ : ByteArray)]) ?_ 1 _ rfl; (with_reducible repeat (first | refine blk_drewN ?_ _ | refine blk_drew ?_ | refine blk_alloc ?_ _)); refine blk_put (cs := #[.int .i64 0,.string (⟨#[]⟩ : ByteArray)]) ?_ 0 _ rfl; (with_reducible repeat (first | refine blk_drewN ?_ _ | refine blk_drew ?_ | refine blk_alloc ?_ _)); exact BK165.out) hb); have n2_ := Aq.mk (below_step (by repeat (first | (with_reducible first | exact HB.out | apply below_alloc | apply pw_below_drewN | apply below_drew1 | refine below_set ?_ GE165.out) | exact HB.out)) hb); clear HO_5; clear BK165; clear HB; have HO_5 := n0_; have BK165 := n1_; have HB := n2_; clear n0_ n1_ n2_; (try clear hb); (try clear hb2); (try clear hk); (try clear hi); have hcz19_0 : w18.cell? ⟨gb165,0,none⟩ = some (.int .i64 ((rd_T41 l0 x16_1).f0)) := (blk_cell BK165.out 0).trans rfl; have hcz19_1 : w18.cell? ⟨gb165,1,none⟩ = some (.string ((rd_T41 l0 x16_1).f1)) := (blk_cell BK165.out 1).trans rfl; have hfz19_0 := blk_frozen BK165.out 0; have hfz19_1 := blk_frozen BK165.out 1) | ((with_reducible refine gate_callee (f := 40) rfl ?_); refine goesL_ (some 29) rfl rfl Try.func40 (by kernel_rfl) rfl #[.string ((rd_T41 l0 x16_1).f1),.int .i64 2] rfl (by (try simp only [List.map_toArray,List.map_cons,List.map_nil]); first | done | rfl | (simp only [List.length_drop,List.length_take]; rfl)) ?_; (with_reducible refine (wire_PutVec.calls ((rd_T41 l0 x16_1).f1) 2 t168 t169 _ A8.out).mono ?_); rintro e w20 ⟨rfl,hb⟩; refine ⟨_,rfl,?_⟩; have n0_ := Aq.mk (Kd.Y_below (by (with_reducible repeat (first | apply Kd.Y_alloc | apply Kd.Y_drewN | apply Kd.Y_drew)); exact HO_5.out) hb); have n1_ := Aq.mk (blk_below (g := gb165) (o := .cells #[.int .i64 ((rd_T41 l0 x16_1).f0),.string ((rd_T41 l0 x16_1).f1)] 41 (0,0)) (by (with_reducible repeat (first | refine blk_drewN ?_ _ | refine blk_drew ?_ | refine blk_alloc ?_ _)); exact BK165.out) hb); have n2_ := Aq.mk (below_step (by repeat (first | (with_reducible first | exact HB.out | apply below_alloc | apply pw_below_drewN | apply below_drew1 | refine below_set ?_ GE165.out) | exact HB.out)) hb); clear HO_5; clear BK165; clear HB; have HO_5 := n0_; have BK165 := n1_; have HB := n2_; clear n0_ n1_ n2_; (try clear hb); (try clear hb2); (try clear hk); (try clear hi); have hcz21_0 : w20.cell? ⟨gb165,0,none⟩ = some (.int .i64 ((rd_T41 l0 x16_1).f0)) := (blk_cell BK165.out 0).trans rfl; have hcz21_1 : w20.cell? ⟨gb165,1,none⟩ = some (.string ((rd_T41 l0 x16_1).f1)) := (blk_cell BK165.out 1).trans rfl; have hfz21_0 := blk_frozen BK165.out 0; have hfz21_1 := blk_frozen BK165.out 1) | (at_mapUpdate; refine Kd.Y_put (Kd.int .i64) (w0 := w) w.heap.size 3 rfl 68 _ _ _ rfl Try.underlying68 Try.underlying3 Try.underlying4 v162 x5_1 ((rd_T41 l0 x16_1).f0) (ok := fun _ => True) rfl rfl rfl LMc12.out (by have := LMc13.out; simp only [maxLen]; omega) ?aO ?aB ?aS ?_; (case aO => exact (by (with_reducible repeat (first | apply Kd.Y_alloc | apply Kd.Y_drewN | apply Kd.Y_drew)); exact HO_5.out)); (case aB => exact (by repeat (first | (with_reducible first | exact HB.out | apply below_alloc | apply pw_below_drewN | apply below_drew1 | refine below_set ?_ GE165.out) | exact HB.out))); (case aS => exact (below_size (by repeat (first | (with_reducible first | exact HB.out | apply below_alloc | apply pw_below_drewN | apply below_drew1 | refine below_set ?_ GE165.out) | exact HB.out)))); intro w22 ho hb hmt; rw [← Ny170.out] at ho; have n0_ := Aq.mk (blk_map (g := gb165) (o := .cells #[.int .i64 ((rd_T41 l0 x16_1).f0),.string ((rd_T41 l0 x16_1).f1)] 41 (0,0)) (by (with_reducible repeat (first | refine blk_drewN ?_ _ | refine blk_drew ?_ | refine blk_alloc ?_ _)); exact BK165.out) hmt); have n1_ := Aq.mk (hb); have n2_ := Aq.mk (ho); clear BK165; clear HB; clear HO_5; have BK165 := n0_; have HB := n1_; have HO172 := n2_; clear n0_ n1_ n2_; clear ho hb hmt))
             go_roundg k1
             case measure => have := HK1.out; omega
             case rel => exact ⟨(ys174),(y170),(true),(wrap64 (x16_1 + 1)),(by first | rfl | (simp; done) | (simp [*]; done)),(by first | rfl | (simp; done) | (simp [*]; done)),(by first | rfl | (simp; done) | (simp [*]; done)),H',⟨by have := HK1.out; omega⟩,⟨by (with_reducible repeat (first | apply Kd.Y_alloc | apply Kd.Y_drewN | apply Kd.Y_drew)); exact HO172.out⟩,⟨by repeat (first | (with_reducible first | exact HB.out | apply below_alloc | apply pw_below_drewN | apply below_drew1 | refine below_set ?_ GE165.out) | exact HB.out)⟩⟩
            ·rw [if_neg c15] at H
             exact absurd H (by simp)
           ·rw [if_neg c14] at H
            exact absurd H (by simp)
          ·rw [if_neg c13] at H
           exact absurd H (by simp)
         ·rw [if_neg c12] at H
          exact absurd H (by simp)
        ·replace c11 := Bool.eq_false_iff.mpr c11
         subst c11
         have H1 : (if (Lit.int .i64 ((rd_T41 l0 x16_1).f0)).wf = true then (if x5_1.length < 140737488355328 then (if t166.size + t168.size ≤ 9223372036854775807 then ((some (t166 ++ t168 : ByteArray)).bind fun ys178 => (if x4_1.size + ys178.size ≤ 9223372036854775807 then (ext_Put.l0 k1 (x4_1 ++ ys178) (x5_1 ++ [(rd_T41 l0 x16_1).f0]) (decide (((rd_T41 l0 x16_1).f0) ∈ x5_1)) l0 (l0.length : Int) (wrap64 (x16_1 + 1))) else (none))) else (none)) else (none)) else (none)) = some (r1,r2) := by rw [if_neg (show ¬ (false = true) by decide)] at H; exact H
         clear H
         have H := H1
         clear H1
         by_cases c23 : (Lit.int .i64 ((rd_T41 l0 x16_1).f0)).wf = true
         ·rw [if_pos c23] at H
          have LMc23 := Aq.mk c23
          clear c23
          by_cases c24 : x5_1.length < 140737488355328
          ·rw [if_pos c24] at H
           have LMc24 := Aq.mk c24
           clear c24
           obtain ⟨y175,hy175⟩ : ∃ y_ : List Int,y_ = (x5_1 ++ [(rd_T41 l0 x16_1).f0]) := ⟨_,rfl⟩
           replace H : (if t166.size + t168.size ≤ 9223372036854775807 then ((some (t166 ++ t168 : ByteArray)).bind fun ys178 => (if x4_1.size + ys178.size ≤ 9223372036854775807 then (ext_Put.l0 k1 (x4_1 ++ ys178) y175 (decide (((rd_T41 l0 x16_1).f0) ∈ x5_1)) l0 (l0.length : Int) (wrap64 (x16_1 + 1))) else (none))) else (none)) = some (r1,r2) := by first | (rw [hy175]; with_reducible exact H) | (have H2_ := (Option.bind_some _ _).symm.trans H; rw [hy175]; with_reducible exact H2_) | (have H2_ := (Option.bind_some _ _).symm.trans H; with_reducible exact H2_) | with_reducible exact H | (rw [hy175]; exact H) | exact H
           have Ny175 := Aq.mk hy175
           clear hy175
           by_cases c25 : t166.size + t168.size ≤ 9223372036854775807
           ·rw [if_pos c25] at H
            have c25b0 := eq_true c25
            have c25b1 : decide (t166.size + t168.size ≤ 9223372036854775807) = true := decide_eq_true c25
            try have c25b2 : (9223372036854775807 < t166.size + t168.size) = False := eq_false (Nat.not_lt.2 c25)
            obtain ⟨ys178,hys178⟩ : ∃ y_ : ByteArray,y_ = (t166 ++ t168) := ⟨_,rfl⟩
            replace H : (if x4_1.size + ys178.size ≤ 9223372036854775807 then (ext_Put.l0 k1 (x4_1 ++ ys178) y175 (decide (((rd_T41 l0 x16_1).f0) ∈ x5_1)) l0 (l0.length : Int) (wrap64 (x16_1 + 1))) else (none)) = some (r1,r2) := by first | (rw [hys178]; with_reducible exact H) | (have H2_ := (Option.bind_some _ _).symm.trans H; rw [hys178]; with_reducible exact H2_) | (have H2_ := (Option.bind_some _ _).symm.trans H; with_reducible exact H2_) | with_reducible exact H | (rw [hys178]; exact H) | exact H
            have Nys178 := Aq.mk hys178
            clear hys178
            have Sys178 := Nys178.out.symm
            by_cases c26 : x4_1.size + ys178.size ≤ 9223372036854775807
            ·rw [if_pos c26] at H
             have c26b0 := eq_true c26
             have c26b1 : decide (x4_1.size + ys178.size ≤ 9223372036854775807) = true := decide_eq_true c26
             try have c26b2 : (9223372036854775807 < x4_1.size + ys178.size) = False := eq_false (Nat.not_lt.2 c26)
             obtain ⟨ys179,hys179⟩ : ∃ y_ : ByteArray,y_ = (x4_1 ++ ys178) := ⟨_,rfl⟩
             replace H : (ext_Put.l0 k1 ys179 y175 (decide (((rd_T41 l0 x16_1).f0) ∈ x5_1)) l0 (l0.length : Int) (wrap64 (x16_1 + 1))) = some (r1,r2) := by first | (rw [hys179]; with_reducible exact H) | (have H2_ := (Option.bind_some _ _).symm.trans H; rw [hys179]; with_reducible exact H2_) | (have H2_ := (Option.bind_some _ _).symm.trans H; with_reducible exact H2_) | with_reducible exact H | (rw [hys179]; exact H) | exact H
             have Nys179 := Aq.mk hys179
             clear hys179
             have Sys179 := Nys179.out.symm
             have H' := Aq.mk H
             clear H
             have p164 : 0 ≤ (x16_1 : Int) := of_decide_eq_true (by first | (with_reducible assumption) | assumption)
             have q164 : x16_1 < (l0.length : Int) := of_decide_eq_true (by first | (with_reducible assumption) | assumption)
             obtain ⟨ad164,e164,hx164_0,hx164_1⟩ := at_T41 HR0.out x16_1 p164 q164
             cases e164
             replace hx164_0 := (HB.out.cell (World.block_lt_of_cell? w _ hx164_0)).trans hx164_0
             replace hx164_1 := (HB.out.cell (World.block_lt_of_cell? w _ hx164_1)).trans hx164_1
             replace p164 := eq_true p164
             replace q164 := eq_true q164
             go_wp2_with (first | ((with_reducible refine gate_dst (N := 8) rfl ?_); refine box_event ?hg (N := 8) ?hd (cs := #[.int .i64 0,.string (⟨#[]⟩ : ByteArray)]) (t := 41) ?hr ?_; (case hd => rfl); (case hg => rfl); (case hr => first | (go_simp; done) | (go_simp; rfl)); intro gb165 hg w27 hbox hb; have n0_ := Aq.mk (Kd.Y_below (by (with_reducible repeat (first | apply Kd.Y_alloc | apply Kd.Y_drewN | apply Kd.Y_drew)); exact HO_5.out) hb); have n1_ := Aq.mk (below_step (by repeat (first | (with_reducible first | exact HB.out | apply below_alloc | apply pw_below_drewN | apply below_drew1) | exact HB.out)) hb); have n2_ := Aq.mk (hbox); have n3_ := Aq.mk ((by rw [hg]; exact (below_size (by repeat (first | (with_reducible first | exact HB.out | apply below_alloc | apply pw_below_drewN | apply below_drew1) | exact HB.out))) : w.heap.size ≤ gb165)); have n4_ := Aq.mk ((by rw [hg]; exact (below_size (by repeat (first | (with_reducible first | exact HB.out | apply below_alloc | apply pw_below_drewN | apply below_drew1) | exact HB.out))) : w.heap.size ≤ gb165)); clear HO_5; clear HB; have HO_5 := n0_; have HB := n1_; have BK165 := n2_; have GW165 := n3_; have GE165 := n4_; clear n0_ n1_ n2_ n3_ n4_; clear hb hbox hg; have hcz28_0 : w27.cell? ⟨gb165,0,none⟩ = some (.int .i64 0) := (blk_cell BK165.out 0).trans rfl; have hcz28_1 : w27.cell? ⟨gb165,1,none⟩ = some (.string (⟨#[]⟩ : ByteArray)) := (blk_cell BK165.out 1).trans rfl; have hfz28_0 := blk_frozen BK165.out 0; have hfz28_1 := blk_frozen BK165.out 1) | ((with_reducible refine gate_callee (f := 39) rfl ?_); refine goesL_ (some 23) rfl rfl Try.func39 (by kernel_rfl) rfl #[.int .i64 ((rd_T41 l0 x16_1).f0),.int .i64 2] rfl (by (try simp only [List.map_toArray,List.map_cons,List.map_nil]); first | done | rfl | (simp only [List.length_drop,List.length_take]; rfl)) ?_; (with_reducible refine (wire_Put.calls ((rd_T41 l0 x16_1).f0) 2 t166 t167 _ A7.out).mono ?_); rintro e w29 ⟨rfl,hb⟩; refine ⟨_,rfl,?_⟩; have n0_ := Aq.mk (Kd.Y_below (by (with_reducible repeat (first | apply Kd.Y_alloc | apply Kd.Y_drewN | apply Kd.Y_drew)); exact (Kd.Y_mono (Kd.Y_far (p := ⟨gb165,1,none⟩) (Kd.Y_far (p := ⟨gb165,0,none⟩) (Kd.Y_types HO_5.out BK165.out (by decide)) (fun _ hk => hk.2) (.int .i64 ((rd_T41 l0 x16_1).f0))) (fun _ hk => hk.2) (.string ((rd_T41 l0 x16_1).f1))) (fun _ h_ => h_.1))) hb); have n1_ := Aq.mk (blk_below (g := gb165) (o := .cells #[.int .i64 ((rd_T41 l0 x16_1).f0),.string ((rd_T41 l0 x16_1).f1)] 41 (0,0)) (by (with_reducible repeat (first | refine blk_drewN ?_ _ | refine blk_drew ?_ | refine blk_alloc ?_ _)); refine blk_put (cs := #[.int .i64 ((rd_T41 l0 x16_1).f0),.string (⟨#[]⟩ : ByteArray)]) ?_ 1 _ rfl; (with_reducible repeat (first | refine blk_drewN ?_ _ | refine blk_drew ?_ | refine blk_alloc ?_ _)); refine blk_put (cs := #[.int .i64 0,.string (⟨#[]⟩ : ByteArray)]) ?_ 0 _ rfl; (with_reducible repeat (first | refine blk_drewN ?_ _ | refine blk_drew ?_ | refine blk_alloc ?_ _)); exact BK165.out) hb); have n2_ := Aq.mk (below_step (by repeat (first | (with_reducible first | exact HB.out | apply below_alloc | apply pw_below_drewN | apply below_drew1 | refine below_set ?_ GE165.out) | exact HB.out)) hb); clear HO_5; clear BK165; clear HB; have HO_5 := n0_; have BK165 := n1_; have HB := n2_; clear n0_ n1_ n2_; (try clear hb); (try clear hb2); (try clear hk); (try clear hi); have hcz30_0 : w29.cell? ⟨gb165,0,none⟩ = some (.int .i64 ((rd_T41 l0 x16_1).f0)) := (blk_cell BK165.out 0).trans rfl; have hcz30_1 : w29.cell? ⟨gb165,1,none⟩ = some (.string ((rd_T41 l0 x16_1).f1)) := (blk_cell BK165.out 1).trans rfl; have hfz30_0 := blk_frozen BK165.out 0; have hfz30_1 := blk_frozen BK165.out 1) | ((with_reducible refine gate_callee (f := 40) rfl ?_); refine goesL_ (some 29) rfl rfl Try.func40 (by kernel_rfl) rfl #[.string ((rd_T41 l0 x16_1).f1),.int .i64 2] rfl (by (try simp only [List.map_toArray,List.map_cons,List.map_nil]); first | done | rfl | (simp only [List.length_drop,List.length_take]; rfl)) ?_; (with_reducible refine (wire_PutVec.calls ((rd_T41 l0 x16_1).f1) 2 t168 t169 _ A8.out).mono ?_); rintro e w31 ⟨rfl,hb⟩; refine ⟨_,rfl,?_⟩; have n0_ := Aq.mk (Kd.Y_below (by (with_reducible repeat (first | apply Kd.Y_alloc | apply Kd.Y_drewN | apply Kd.Y_drew)); exact HO_5.out) hb); have n1_ := Aq.mk (blk_below (g := gb165) (o := .cells #[.int .i64 ((rd_T41 l0 x16_1).f0),.string ((rd_T41 l0 x16_1).f1)] 41 (0,0)) (by (with_reducible repeat (first | refine blk_drewN ?_ _ | refine blk_drew ?_ | refine blk_alloc ?_ _)); exact BK165.out) hb); have n2_ := Aq.mk (below_step (by repeat (first | (with_reducible first | exact HB.out | apply below_alloc | apply pw_below_drewN | apply below_drew1 | refine below_set ?_ GE165.out) | exact HB.out)) hb); clear HO_5; clear BK165; clear HB; have HO_5 := n0_; have BK165 := n1_; have HB := n2_; clear n0_ n1_ n2_; (try clear hb); (try clear hb2); (try clear hk); (try clear hi); have hcz32_0 : w31.cell? ⟨gb165,0,none⟩ = some (.int .i64 ((rd_T41 l0 x16_1).f0)) := (blk_cell BK165.out 0).trans rfl; have hcz32_1 : w31.cell? ⟨gb165,1,none⟩ = some (.string ((rd_T41 l0 x16_1).f1)) := (blk_cell BK165.out 1).trans rfl; have hfz32_0 := blk_frozen BK165.out 0; have hfz32_1 := blk_frozen BK165.out 1) | (at_lookup; (try (refine gate_guard (by rfl) ?_; dsimp only)); refine Kd.Y_look (Kd.int .i64) (ok := fun _ => True) (base := w.heap.size) (xs := x5_1) 3 rfl 68 _ _ rfl Try.underlying68 Try.underlying3 Try.underlying4 (Kd.zeroB _) (v := v162) (k := ((rd_T41 l0 x16_1).f0)) rfl rfl LMc23.out ?aO ?_; (case aO => exact (by (with_reducible repeat (first | apply Kd.Y_alloc | apply Kd.Y_drewN | apply Kd.Y_drew)); exact HO_5.out)); intro w33 hb; have n0_ := Aq.mk (Kd.Y_below (by (with_reducible repeat (first | apply Kd.Y_alloc | apply Kd.Y_drewN | apply Kd.Y_drew)); exact HO_5.out) hb); have n1_ := Aq.mk (blk_below (g := gb165) (o := .cells #[.int .i64 ((rd_T41 l0 x16_1).f0),.string ((rd_T41 l0 x16_1).f1)] 41 (0,0)) (by (with_reducible repeat (first | refine blk_drewN ?_ _ | refine blk_drew ?_ | refine blk_alloc ?_ _)); exact BK165.out) hb); have n2_ := Aq.mk (below_step (by repeat (first | (with_reducible first | exact HB.out | apply below_alloc | apply pw_below_drewN | apply below_drew1 | refine below_set ?_ GE165.out) | exact HB.out)) hb); clear HO_5; clear BK165; clear HB; have HO_5 := n0_; have BK165 := n1_; have HB := n2_; clear n0_ n1_ n2_; clear hb; have hcz34_0 : w33.cell? ⟨gb165,0,none⟩ = some (.int .i64 ((rd_T41 l0 x16_1).f0)) := (blk_cell BK165.out 0).trans rfl; have hcz34_1 : w33.cell? ⟨gb165,1,none⟩ = some (.string ((rd_T41 l0 x16_1).f1)) := (blk_cell BK165.out 1).trans rfl; have hfz34_0 := blk_frozen BK165.out 0; have hfz34_1 := blk_frozen BK165.out 1) | (at_mapUpdate; refine Kd.Y_put (Kd.int .i64) (w0 := w) w.heap.size 3 rfl 68 _ _ _ rfl Try.underlying68 Try.underlying3 Try.underlying4 v162 x5_1 ((rd_T41 l0 x16_1).f0) (ok := fun _ => True) rfl rfl rfl LMc23.out (by have := LMc24.out; simp only [maxLen]; omega) ?aO ?aB ?aS ?_; (case aO => exact (by (with_reducible repeat (first | apply Kd.Y_alloc | apply Kd.Y_drewN | apply Kd.Y_drew)); exact HO_5.out)); (case aB => exact (by repeat (first | (with_reducible first | exact HB.out | apply below_alloc | apply pw_below_drewN | apply below_drew1 | refine below_set ?_ GE165.out) | exact HB.out))); (case aS => exact (below_size (by repeat (first | (with_reducible first | exact HB.out | apply below_alloc | apply pw_below_drewN | apply below_drew1 | refine below_set ?_ GE165.out) | exact HB.out)))); intro w35 ho hb hmt; rw [← Ny175.out] at ho; have n0_ := Aq.mk (blk_map (g := gb165) (o := .cells #[.int .i64 ((rd_T41 l0 x16_1).f0),.string ((rd_T41 l0 x16_1).f1)] 41 (0,0)) (by (with_reducible repeat (first | refine blk_drewN ?_ _ | refine blk_drew ?_ | refine blk_alloc ?_ _)); exact BK165.out) hmt); have n1_ := Aq.mk (hb); have n2_ := Aq.mk (ho); clear BK165; clear HB; clear HO_5; have BK165 := n0_; have HB := n1_; have HO177 := n2_; clear n0_ n1_ n2_; clear ho hb hmt))
             go_roundg k1
             case measure => have := HK1.out; omega
             case rel => exact ⟨(ys179),(y175),(decide (((rd_T41 l0 x16_1).f0) ∈ x5_1)),(wrap64 (x16_1 + 1)),(by first | rfl | (simp; done) | (simp [*]; done)),(by first | rfl | (simp; done) | (simp [*]; done)),(by first | rfl | (simp; done) | (simp [*]; done)),H',⟨by have := HK1.out; omega⟩,⟨by (with_reducible repeat (first | apply Kd.Y_alloc | apply Kd.Y_drewN | apply Kd.Y_drew)); exact HO177.out⟩,⟨by repeat (first | (with_reducible first | exact HB.out | apply below_alloc | apply pw_below_drewN | apply below_drew1 | refine below_set ?_ GE165.out) | exact HB.out)⟩⟩
            ·rw [if_neg c26] at H
             exact absurd H (by simp)
           ·rw [if_neg c25] at H
            exact absurd H (by simp)
          ·rw [if_neg c24] at H
           exact absurd H (by simp)
         ·rw [if_neg c23] at H
          exact absurd H (by simp)
       ·rw [if_neg c10] at H
        have c10b0 : (t169 == 0) = false := beq_eq_false_iff_ne.mpr c10
        have c10b1 : (t169 != 0) = true := bne_iff_ne.mpr c10
        simp only [Option.some.injEq,Prod.mk.injEq] at H
        obtain ⟨rfl,rfl⟩ := H
        have p164 : 0 ≤ (x16_1 : Int) := of_decide_eq_true (by first | (with_reducible assumption) | assumption)
        have q164 : x16_1 < (l0.length : Int) := of_decide_eq_true (by first | (with_reducible assumption) | assumption)
        obtain ⟨ad164,e164,hx164_0,hx164_1⟩ := at_T41 HR0.out x16_1 p164 q164
        cases e164
        replace hx164_0 := (HB.out.cell (World.block_lt_of_cell? w _ hx164_0)).trans hx164_0
        replace hx164_1 := (HB.out.cell (World.block_lt_of_cell? w _ hx164_1)).trans hx164_1
        replace p164 := eq_true p164
        replace q164 := eq_true q164
        go_wp2_with (first | ((with_reducible refine gate_dst (N := 8) rfl ?_); refine box_event ?hg (N := 8) ?hd (cs := #[.int .i64 0,.string (⟨#[]⟩ : ByteArray)]) (t := 41) ?hr ?_; (case hd => rfl); (case hg => rfl); (case hr => first | (go_simp; done) | (go_simp; rfl)); intro gb165 hg w36 hbox hb; have n0_ := Aq.mk (Kd.Y_below (by (with_reducible repeat (first | apply Kd.Y_alloc | apply Kd.Y_drewN | apply Kd.Y_drew)); exact HO_5.out) hb); have n1_ := Aq.mk (below_step (by repeat (first | (with_reducible first | exact HB.out | apply below_alloc | apply pw_below_drewN | apply below_drew1) | exact HB.out)) hb); have n2_ := Aq.mk (hbox); have n3_ := Aq.mk ((by rw [hg]; exact (below_size (by repeat (first | (with_reducible first | exact HB.out | apply below_alloc | apply pw_below_drewN | apply below_drew1) | exact HB.out))) : w.heap.size ≤ gb165)); have n4_ := Aq.mk ((by rw [hg]; exact (below_size (by repeat (first | (with_reducible first | exact HB.out | apply below_alloc | apply pw_below_drewN | apply below_drew1) | exact HB.out))) : w.heap.size ≤ gb165)); clear HO_5; clear HB; have HO_5 := n0_; have HB := n1_; have BK165 := n2_; have GW165 := n3_; have GE165 := n4_; clear n0_ n1_ n2_ n3_ n4_; clear hb hbox hg; have hcz37_0 : w36.cell? ⟨gb165,0,none⟩ = some (.int .i64 0) := (blk_cell BK165.out 0).trans rfl; have hcz37_1 : w36.cell? ⟨gb165,1,none⟩ = some (.string (⟨#[]⟩ : ByteArray)) := (blk_cell BK165.out 1).trans rfl; have hfz37_0 := blk_frozen BK165.out 0; have hfz37_1 := blk_frozen BK165.out 1) | ((with_reducible refine gate_callee (f := 39) rfl ?_); refine goesL_ (some 23) rfl rfl Try.func39 (by kernel_rfl) rfl #[.int .i64 ((rd_T41 l0 x16_1).f0),.int .i64 2] rfl (by (try simp only [List.map_toArray,List.map_cons,List.map_nil]); first | done | rfl | (simp only [List.length_drop,List.length_take]; rfl)) ?_; (with_reducible refine (wire_Put.calls ((rd_T41 l0 x16_1).f0) 2 t166 t167 _ A7.out).mono ?_); rintro e w38 ⟨rfl,hb⟩; refine ⟨_,rfl,?_⟩; have n0_ := Aq.mk (Kd.Y_below (by (with_reducible repeat (first | apply Kd.Y_alloc | apply Kd.Y_drewN | apply Kd.Y_drew)); exact (Kd.Y_mono (Kd.Y_far (p := ⟨gb165,1,none⟩) (Kd.Y_far (p := ⟨gb165,0,none⟩) (Kd.Y_types HO_5.out BK165.out (by decide)) (fun _ hk => hk.2) (.int .i64 ((rd_T41 l0 x16_1).f0))) (fun _ hk => hk.2) (.string ((rd_T41 l0 x16_1).f1))) (fun _ h_ => h_.1))) hb); have n1_ := Aq.mk (blk_below (g := gb165) (o := .cells #[.int .i64 ((rd_T41 l0 x16_1).f0),.string ((rd_T41 l0 x16_1).f1)] 41 (0,0)) (by (with_reducible repeat (first | refine blk_drewN ?_ _ | refine blk_drew ?_ | refine blk_alloc ?_ _)); refine blk_put (cs := #[.int .i64 ((rd_T41 l0 x16_1).f0),.string (⟨#[]⟩ : ByteArray)]) ?_ 1 _ rfl; (with_reducible repeat (first | refine blk_drewN ?_ _ | refine blk_drew ?_ | refine blk_alloc ?_ _)); refine blk_put (cs := #[.int .i64 0,.string (⟨#[]⟩ : ByteArray)]) ?_ 0 _ rfl; (with_reducible repeat (first | refine blk_drewN ?_ _ | refine blk_drew ?_ | refine blk_alloc ?_ _)); exact BK165.out) hb); have n2_ := Aq.mk (below_step (by repeat (first | (with_reducible first | exact HB.out | apply below_alloc | apply pw_below_drewN | apply below_drew1 | refine below_set ?_ GE165.out) | exact HB.out)) hb); clear HO_5; clear BK165; clear HB; have HO_5 := n0_; have BK165 := n1_; have HB := n2_; clear n0_ n1_ n2_; (try clear hb); (try clear hb2); (try clear hk); (try clear hi); have hcz39_0 : w38.cell? ⟨gb165,0,none⟩ = some (.int .i64 ((rd_T41 l0 x16_1).f0)) := (blk_cell BK165.out 0).trans rfl; have hcz39_1 : w38.cell? ⟨gb165,1,none⟩ = some (.string ((rd_T41 l0 x16_1).f1)) := (blk_cell BK165.out 1).trans rfl; have hfz39_0 := blk_frozen BK165.out 0; have hfz39_1 := blk_frozen BK165.out 1) | ((with_reducible refine gate_callee (f := 40) rfl ?_); refine goesL_ (some 29) rfl rfl Try.func40 (by kernel_rfl) rfl #[.string ((rd_T41 l0 x16_1).f1),.int .i64 2] rfl (by (try simp only [List.map_toArray,List.map_cons,List.map_nil]); first | done | rfl | (simp only [List.length_drop,List.length_take]; rfl)) ?_; (with_reducible refine (wire_PutVec.calls ((rd_T41 l0 x16_1).f1) 2 t168 t169 _ A8.out).mono ?_); rintro e w40 ⟨rfl,hb⟩; refine ⟨_,rfl,?_⟩; have n0_ := Aq.mk (Kd.Y_below (by (with_reducible repeat (first | apply Kd.Y_alloc | apply Kd.Y_drewN | apply Kd.Y_drew)); exact HO_5.out) hb); have n1_ := Aq.mk (blk_below (g := gb165) (o := .cells #[.int .i64 ((rd_T41 l0 x16_1).f0),.string ((rd_T41 l0 x16_1).f1)] 41 (0,0)) (by (with_reducible repeat (first | refine blk_drewN ?_ _ | refine blk_drew ?_ | refine blk_alloc ?_ _)); exact BK165.out) hb); have n2_ := Aq.mk (below_step (by repeat (first | (with_reducible first | exact HB.out | apply below_alloc | apply pw_below_drewN | apply below_drew1 | refine below_set ?_ GE165.out) | exact HB.out)) hb); clear HO_5; clear BK165; clear HB; have HO_5 := n0_; have BK165 := n1_; have HB := n2_; clear n0_ n1_ n2_; (try clear hb); (try clear hb2); (try clear hk); (try clear hi)))
        go_ret2
        exact ⟨by first | rfl | (simp [errW_none,errW_some] <;> rfl) | (simp [*,errW_none,errW_some] <;> rfl),by repeat (first | (with_reducible first | exact HB.out | apply below_alloc | apply pw_below_drewN | apply below_drew1 | refine below_set ?_ GE165.out) | exact HB.out)⟩
      ·rw [if_neg c9] at H
       have c9b0 : (t167 == 0) = false := beq_eq_false_iff_ne.mpr c9
       have c9b1 : (t167 != 0) = true := bne_iff_ne.mpr c9
       simp only [Option.some.injEq,Prod.mk.injEq] at H
       obtain ⟨rfl,rfl⟩ := H
       have p164 : 0 ≤ (x16_1 : Int) := of_decide_eq_true (by first | (with_reducible assumption) | assumption)
       have q164 : x16_1 < (l0.length : Int) := of_decide_eq_true (by first | (with_reducible assumption) | assumption)
       obtain ⟨ad164,e164,hx164_0,hx164_1⟩ := at_T41 HR0.out x16_1 p164 q164
       cases e164
       replace hx164_0 := (HB.out.cell (World.block_lt_of_cell? w _ hx164_0)).trans hx164_0
       replace hx164_1 := (HB.out.cell (World.block_lt_of_cell? w _ hx164_1)).trans hx164_1
       replace p164 := eq_true p164
       replace q164 := eq_true q164
       go_wp2_with (first | ((with_reducible refine gate_dst (N := 8) rfl ?_); refine box_event ?hg (N := 8) ?hd (cs := #[.int .i64 0,.string (⟨#[]⟩ : ByteArray)]) (t := 41) ?hr ?_; (case hd => rfl); (case hg => rfl); (case hr => first | (go_simp; done) | (go_simp; rfl)); intro gb165 hg w41 hbox hb; have n0_ := Aq.mk (Kd.Y_below (by (with_reducible repeat (first | apply Kd.Y_alloc | apply Kd.Y_drewN | apply Kd.Y_drew)); exact HO_5.out) hb); have n1_ := Aq.mk (below_step (by repeat (first | (with_reducible first | exact HB.out | apply below_alloc | apply pw_below_drewN | apply below_drew1) | exact HB.out)) hb); have n2_ := Aq.mk (hbox); have n3_ := Aq.mk ((by rw [hg]; exact (below_size (by repeat (first | (with_reducible first | exact HB.out | apply below_alloc | apply pw_below_drewN | apply below_drew1) | exact HB.out))) : w.heap.size ≤ gb165)); have n4_ := Aq.mk ((by rw [hg]; exact (below_size (by repeat (first | (with_reducible first | exact HB.out | apply below_alloc | apply pw_below_drewN | apply below_drew1) | exact HB.out))) : w.heap.size ≤ gb165)); clear HO_5; clear HB; have HO_5 := n0_; have HB := n1_; have BK165 := n2_; have GW165 := n3_; have GE165 := n4_; clear n0_ n1_ n2_ n3_ n4_; clear hb hbox hg; have hcz42_0 : w41.cell? ⟨gb165,0,none⟩ = some (.int .i64 0) := (blk_cell BK165.out 0).trans rfl; have hcz42_1 : w41.cell? ⟨gb165,1,none⟩ = some (.string (⟨#[]⟩ : ByteArray)) := (blk_cell BK165.out 1).trans rfl; have hfz42_0 := blk_frozen BK165.out 0; have hfz42_1 := blk_frozen BK165.out 1) | ((with_reducible refine gate_callee (f := 39) rfl ?_); refine goesL_ (some 23) rfl rfl Try.func39 (by kernel_rfl) rfl #[.int .i64 ((rd_T41 l0 x16_1).f0),.int .i64 2] rfl (by (try simp only [List.map_toArray,List.map_cons,List.map_nil]); first | done | rfl | (simp only [List.length_drop,List.length_take]; rfl)) ?_; (with_reducible refine (wire_Put.calls ((rd_T41 l0 x16_1).f0) 2 t166 t167 _ A7.out).mono ?_); rintro e w43 ⟨rfl,hb⟩; refine ⟨_,rfl,?_⟩; have n0_ := Aq.mk (Kd.Y_below (by (with_reducible repeat (first | apply Kd.Y_alloc | apply Kd.Y_drewN | apply Kd.Y_drew)); exact (Kd.Y_mono (Kd.Y_far (p := ⟨gb165,1,none⟩) (Kd.Y_far (p := ⟨gb165,0,none⟩) (Kd.Y_types HO_5.out BK165.out (by decide)) (fun _ hk => hk.2) (.int .i64 ((rd_T41 l0 x16_1).f0))) (fun _ hk => hk.2) (.string ((rd_T41 l0 x16_1).f1))) (fun _ h_ => h_.1))) hb); have n1_ := Aq.mk (blk_below (g := gb165) (o := .cells #[.int .i64 ((rd_T41 l0 x16_1).f0),.string ((rd_T41 l0 x16_1).f1)] 41 (0,0)) (by (with_reducible repeat (first | refine blk_drewN ?_ _ | refine blk_drew ?_ | refine blk_alloc ?_ _)); refine blk_put (cs := #[.int .i64 ((rd_T41 l0 x16_1).f0),.string (⟨#[]⟩ : ByteArray)]) ?_ 1 _ rfl; (with_reducible repeat (first | refine blk_drewN ?_ _ | refine blk_drew ?_ | refine blk_alloc ?_ _)); refine blk_put (cs := #[.int .i64 0,.string (⟨#[]⟩ : ByteArray)]) ?_ 0 _ rfl; (with_reducible repeat (first | refine blk_drewN ?_ _ | refine blk_drew ?_ | refine blk_alloc ?_ _)); exact BK165.out) hb); have n2_ := Aq.mk (below_step (by repeat (first | (with_reducible first | exact HB.out | apply below_alloc | apply pw_below_drewN | apply below_drew1 | refine below_set ?_ GE165.out) | exact HB.out)) hb); clear HO_5; clear BK165; clear HB; have HO_5 := n0_; have BK165 := n1_; have HB := n2_; clear n0_ n1_ n2_; (try clear hb); (try clear hb2); (try clear hk); (try clear hi); have hcz44_0 : w43.cell? ⟨gb165,0,none⟩ = some (.int .i64 ((rd_T41 l0 x16_1).f0)) := (blk_cell BK165.out 0).trans rfl; have hcz44_1 : w43.cell? ⟨gb165,1,none⟩ = some (.string ((rd_T41 l0 x16_1).f1)) := (blk_cell BK165.out 1).trans rfl; have hfz44_0 := blk_frozen BK165.out 0; have hfz44_1 := blk_frozen BK165.out 1) | ((with_reducible refine gate_callee (f := 40) rfl ?_); refine goesL_ (some 29) rfl rfl Try.func40 (by kernel_rfl) rfl #[.string ((rd_T41 l0 x16_1).f1),.int .i64 2] rfl (by (try simp only [List.map_toArray,List.map_cons,List.map_nil]); first | done | rfl | (simp only [List.length_drop,List.length_take]; rfl)) ?_; (with_reducible refine (wire_PutVec.calls ((rd_T41 l0 x16_1).f1) 2 t168 t169 _ A8.out).mono ?_); rintro e w45 ⟨rfl,hb⟩; refine ⟨_,rfl,?_⟩; have n0_ := Aq.mk (Kd.Y_below (by (with_reducible repeat (first | apply Kd.Y_alloc | apply Kd.Y_drewN | apply Kd.Y_drew)); exact HO_5.out) hb); have n1_ := Aq.mk (blk_below (g := gb165) (o := .cells #[.int .i64 ((rd_T41 l0 x16_1).f0),.string ((rd_T41 l0 x16_1).f1)] 41 (0,0)) (by (with_reducible repeat (first | refine blk_drewN ?_ _ | refine blk_drew ?_ | refine blk_alloc ?_ _)); exact BK165.out) hb); have n2_ := Aq.mk (below_step (by repeat (first | (with_reducible first | exact HB.out | apply below_alloc | apply pw_below_drewN | apply below_drew1 | refine below_set ?_ GE165.out) | exact HB.out)) hb); clear HO_5; clear BK165; clear HB; have HO_5 := n0_; have BK165 := n1_; have HB := n2_; clear n0_ n1_ n2_; (try clear hb); (try clear hb2); (try clear hk); (try clear hi)))
       go_ret2
       exact ⟨by first | rfl | (simp [errW_none,errW_some] <;> rfl) | (simp [*,errW_none,errW_some] <;> rfl),by repeat (first | (with_reducible first | exact HB.out | apply below_alloc | apply pw_below_drewN | apply below_drew1 | refine below_set ?_ GE165.out) | exact HB.out)⟩
     ·rw [if_neg c6] at H
      exact absurd H (by simp)
    ·rw [if_neg c5] at H
     exact absurd H (by simp)
   ·rw [if_neg c4] at H
    have c4b0 : decide (x16_1 < (l0.length : Int)) = false := decide_eq_false c4
    clear c4
    by_cases c46 : x6_1 = true
    ·subst c46
     have H1 : (some ((⟨#[]⟩ : ByteArray),1601)) = some (r1,r2) := by rw [if_pos rfl] at H; exact H
     clear H
     have H := H1
     clear H1
     simp only [Option.some.injEq,Prod.mk.injEq] at H
     obtain ⟨rfl,rfl⟩ := H
     go_wp2
     go_ret2
     exact ⟨by first | rfl | (simp [errW_none,errW_some] <;> rfl) | (simp [*,errW_none,errW_some] <;> rfl),by repeat (first | (with_reducible first | exact HB.out | apply below_alloc | apply pw_below_drewN | apply below_drew1) | exact HB.out)⟩
    ·replace c46 := Bool.eq_false_iff.mpr c46
     subst c46
     have H1 : (some (x4_1,0)) = some (r1,r2) := by rw [if_neg (show ¬ (false = true) by decide)] at H; exact H
     clear H
     have H := H1
     clear H1
     simp only [Option.some.injEq,Prod.mk.injEq] at H
     obtain ⟨rfl,rfl⟩ := H
     go_wp2
     go_ret2
     exact ⟨by first | rfl | (simp [errW_none,errW_some] <;> rfl) | (simp [*,errW_none,errW_some] <;> rfl),by repeat (first | (with_reducible first | exact HB.out | apply below_alloc | apply pw_below_drewN | apply below_drew1) | exact HB.out)⟩
def halberdlaw0_Num.f (a0 : Int) : Option (Int) := some a0
set_option maxHeartbeats 8000000 in
set_option maxRecDepth 100000 in
theorem halberdlaw0_Num.calls (a0 : Int) (r : Int) (w : World) (h : halberdlaw0_Num.f a0 = some r) :
  Calls Try.prog 18 #[.int .i64 a0] w fun e w' => e = .returned (.int .i64 r) ∧ Drawn0 w w' := by
 have H : (some a0) = some r := h
 clear h
 obtain rfl := Option.some.inj H
 go_enter Try.func18,Try.ntmps18
 go_wp2
 go_ret
 exact ⟨by first | rfl | (simp; done) | (simp [*]; done),by repeat (first | exact Drawn0.refl _ | apply Drawn0.step)⟩
end Go.Proofs.Ytlkebjkpmiehcaa.E
end
section
namespace Go.Proofs.Ytlkebjkpmiehcaa.X
open Go.RowKit Go.Proofs.YtlkebjkpmiehcaaW.PrintWords Go.Proofs.YtlkebjkpmiehcaaW.PrintLast Go.Proofs.YtlkebjkpmiehcaaW.PrintMore
attribute [local go_sem] max2_int min2_int max_two min_two max_three min_three max_four min_four   
set_option linter.unusedVariables false
set_option linter.unusedSimpArgs false
def errW : Option Int → Value
 | none => .nilIface
 | some c => .iface 0 (.int .i64 c)
theorem errW_none : errW none = .nilIface := rfl
theorem errW_some (c : Int) : errW (some c) = .iface 0 (.int .i64 c) := rfl
theorem info3 : (Try.prog.info? 3).map (fun i => (i.zero,i.size,i.bytes)) = some (some (.int .i64 0),1,8) := by kernel_rfl
theorem info5 : (Try.prog.info? 5).map (fun i => (i.zero,i.size,i.bytes)) = some (some (.int .u8 0),1,1) := by kernel_rfl
theorem info41 : (Try.prog.info? 41).map (fun i => (i.zero,i.size,i.bytes)) = some (some (.agg #[(.int .i64 0),(.string ⟨#[]⟩)]),2,24) := by kernel_rfl
structure S41 where
 f0 : Int
 f1 : ByteArray
def z41 : S41 := ⟨(0 : Int),(⟨#[]⟩ : ByteArray)⟩
def k41 : Kd S41 := Kd.iso (Kd.pair (Kd.int .i64) Kd.string) (fun x : S41 => (x.f0,x.f1))
theorem k41_open {w : World} {x : S41} {cs : List Value} (h : k41.K w x cs) : cs = [.int .i64 x.f0,.string x.f1] := by
 obtain ⟨_,_,rfl,rfl,rfl⟩ := h
 exact rfl
theorem k41_mkM (w : World) (base : Nat) (ok : Nat → Prop) (x : S41)  : k41.M w base ok x [.int .i64 x.f0,.string x.f1] := ⟨[.int .i64 x.f0],[.string x.f1],rfl,rfl,rfl⟩
def rd_T41 (xs : List S41) (i : Int) : S41 := xs.getD i.toNat z41
theorem at_T41 {w : World} {A : Option Addr} {n : Nat} {xs : List S41} (h : Kd.C k41 w A n xs) (i : Int) (h0 : 0 ≤ i) (h1 : i < n) : ∃ ad ,A = some ad ∧ w.cell? (ad.add (i.toNat * 2)) = some (.int .i64 (rd_T41 xs i).f0) ∧ w.cell? ⟨(ad.add (i.toNat * 2)).block,(ad.add (i.toNat * 2)).off + 1,none⟩ = some (.string (rd_T41 xs i).f1) := by
 obtain ⟨ad,c,e,_,hK,hc0⟩ := Kd.C_get h z41 i h0 h1
 have hc : ∀ j u,c[j]? = some u → w.cell? (ad.add (i.toNat * 2 + j)) = some u := hc0
 obtain rfl := k41_open hK
 exact ⟨ad,e,hc 0 _ rfl,by rw [← add_field _ _ 1 (by omega)]; exact hc 1 _ rfl⟩
structure S66 where
 f0 : Int
 f1 : ByteArray
def z66 : S66 := ⟨(0 : Int),(⟨#[]⟩ : ByteArray)⟩
def k66 : Kd S66 := Kd.iso (Kd.pair (Kd.int .i64) Kd.string) (fun x : S66 => (x.f0,x.f1))
theorem k66_open {w : World} {x : S66} {cs : List Value} (h : k66.K w x cs) : cs = [.int .i64 x.f0,.string x.f1] := by
 obtain ⟨_,_,rfl,rfl,rfl⟩ := h
 exact rfl
theorem k66_mk (w : World) (x : S66)  : k66.K w x [.int .i64 x.f0,.string x.f1] := ⟨[.int .i64 x.f0],[.string x.f1],rfl,rfl,rfl⟩
theorem k66_mkM (w : World) (base : Nat) (ok : Nat → Prop) (x : S66)  : k66.M w base ok x [.int .i64 x.f0,.string x.f1] := ⟨[.int .i64 x.f0],[.string x.f1],rfl,rfl,rfl⟩
def rd_T66 (xs : List S66) (i : Int) : S66 := xs.getD i.toNat z66
theorem at_T66 {w : World} {A : Option Addr} {n : Nat} {xs : List S66} (h : Kd.C k66 w A n xs) (i : Int) (h0 : 0 ≤ i) (h1 : i < n) : ∃ ad ,A = some ad ∧ w.cell? (ad.add (i.toNat * 2)) = some (.int .i64 (rd_T66 xs i).f0) ∧ w.cell? ⟨(ad.add (i.toNat * 2)).block,(ad.add (i.toNat * 2)).off + 1,none⟩ = some (.string (rd_T66 xs i).f1) := by
 obtain ⟨ad,c,e,_,hK,hc0⟩ := Kd.C_get h z66 i h0 h1
 have hc : ∀ j u,c[j]? = some u → w.cell? (ad.add (i.toNat * 2 + j)) = some u := hc0
 obtain rfl := k66_open hK
 exact ⟨ad,e,hc 0 _ rfl,by rw [← add_field _ _ 1 (by omega)]; exact hc 1 _ rfl⟩
structure S111 where
 f0 : ByteArray
 f1 : Int
def z111 : S111 := ⟨(⟨#[]⟩ : ByteArray),(0 : Int)⟩
def k111 : Kd S111 := Kd.iso (Kd.pair Kd.string (Kd.int .i64)) (fun x : S111 => (x.f0,x.f1))
theorem k111_open {w : World} {x : S111} {cs : List Value} (h : k111.K w x cs) : cs = [.string x.f0,.int .i64 x.f1] := by
 obtain ⟨_,_,rfl,rfl,rfl⟩ := h
 exact rfl
theorem k111_mk (w : World) (x : S111)  : k111.K w x [.string x.f0,.int .i64 x.f1] := ⟨[.string x.f0],[.int .i64 x.f1],rfl,rfl,rfl⟩
theorem k111_mkM (w : World) (base : Nat) (ok : Nat → Prop) (x : S111)  : k111.M w base ok x [.string x.f0,.int .i64 x.f1] := ⟨[.string x.f0],[.int .i64 x.f1],rfl,rfl,rfl⟩
def rd_T111 (xs : List S111) (i : Int) : S111 := xs.getD i.toNat z111
theorem at_T111 {w : World} {A : Option Addr} {n : Nat} {xs : List S111} (h : Kd.C k111 w A n xs) (i : Int) (h0 : 0 ≤ i) (h1 : i < n) : ∃ ad ,A = some ad ∧ w.cell? (ad.add (i.toNat * 2)) = some (.string (rd_T111 xs i).f0) ∧ w.cell? ⟨(ad.add (i.toNat * 2)).block,(ad.add (i.toNat * 2)).off + 1,none⟩ = some (.int .i64 (rd_T111 xs i).f1) := by
 obtain ⟨ad,c,e,_,hK,hc0⟩ := Kd.C_get h z111 i h0 h1
 have hc : ∀ j u,c[j]? = some u → w.cell? (ad.add (i.toNat * 2 + j)) = some u := hc0
 obtain rfl := k111_open hK
 exact ⟨ad,e,hc 0 _ rfl,by rw [← add_field _ _ 1 (by omega)]; exact hc 1 _ rfl⟩
def wire_Bytes.f (a0 : Int) (a1 : Int) : Option (ByteArray) := if a1 = 4 then (if ([] : List Int).length < 140737488355328 then ((some (([] : List Int) ++ [(a0 / 16777216) % 256] : List Int)).bind fun y140 => (if y140.length < 140737488355328 then ((some (y140 ++ [(a0 / 65536) % 256] : List Int)).bind fun y143 => (if y143.length < 140737488355328 then ((some (y143 ++ [(a0 / 256) % 256] : List Int)).bind fun y146 => (if y146.length < 140737488355328 then (some (strOfNums (y146 ++ [(a0) % 256]))) else (none))) else (none))) else (none))) else (none)) else (if a1 = 3 then (if ([] : List Int).length < 140737488355328 then ((some (([] : List Int) ++ [(a0 / 65536) % 256] : List Int)).bind fun y152 => (if y152.length < 140737488355328 then ((some (y152 ++ [(a0 / 256) % 256] : List Int)).bind fun y155 => (if y155.length < 140737488355328 then (some (strOfNums (y155 ++ [(a0) % 256]))) else (none))) else (none))) else (none)) else (if a1 = 2 then (if ([] : List Int).length < 140737488355328 then ((some (([] : List Int) ++ [(a0 / 256) % 256] : List Int)).bind fun y161 => (if y161.length < 140737488355328 then (some (strOfNums (y161 ++ [(a0) % 256]))) else (none))) else (none)) else (if ([] : List Int).length < 140737488355328 then (some (strOfNums (([] : List Int) ++ [(a0) % 256]))) else (none))))
set_option maxHeartbeats 8000000 in
set_option maxRecDepth 100000 in
theorem wire_Bytes.calls (a0 : Int) (a1 : Int) (r : ByteArray) (w : World) (h : wire_Bytes.f a0 a1 = some r) :
  Calls Try.prog 47 #[.int .i64 a0,.int .i64 a1] w fun e w' => e = .returned (.string r) ∧ Below w.heap.size w w' := by
 have e_ : wire_Bytes.f = E.wire_Bytes.f := by kernel_rfl
 rw [e_] at h
 exact E.wire_Bytes.calls a0 a1 r w h
def wire_Put.f (a0 : Int) (a1 : Int) : Option (ByteArray × Int) := if a1 < 1 then (some ((⟨#[]⟩ : ByteArray),101)) else (if a1 > 4 then (some ((⟨#[]⟩ : ByteArray),101)) else (if a0 < 0 then (some ((⟨#[]⟩ : ByteArray),101)) else (if 0 ≤ (wrap64 (8 * a1)) then (if (shr .i64 a0 (wrap64 (8 * a1))) = 0 then ((wire_Bytes.f a0 a1).bind fun t170 => (some (t170,0))) else (some ((⟨#[]⟩ : ByteArray),101))) else (none))))
set_option maxHeartbeats 8000000 in
set_option maxRecDepth 100000 in
theorem wire_Put.calls (a0 : Int) (a1 : Int) (r1 : ByteArray) (r2 : Int) (w : World) (h : wire_Put.f a0 a1 = some (r1,r2)) :
  Calls Try.prog 39 #[.int .i64 a0,.int .i64 a1] w fun e w' => e = .returned (.tuple #[.string r1,.int .i64 r2]) ∧ Below w.heap.size w w' := by
 have e_ : wire_Put.f = E.wire_Put.f := by kernel_rfl
 rw [e_] at h
 exact E.wire_Put.calls a0 a1 r1 r2 w h
def wire_PutVec.f (a0 : ByteArray) (a1 : Int) : Option (ByteArray × Int) := if a1 < 1 then (some ((⟨#[]⟩ : ByteArray),101)) else (if a1 > 3 then (some ((⟨#[]⟩ : ByteArray),101)) else (if 0 ≤ (wrap64 (8 * a1)) then (if (shr .i64 (a0.size : Int) (wrap64 (8 * a1))) = 0 then ((wire_Bytes.f (a0.size : Int) a1).bind fun t171 => (if t171.size + a0.size ≤ 9223372036854775807 then (some ((t171 ++ a0),0)) else (none))) else (some ((⟨#[]⟩ : ByteArray),101))) else (none)))
set_option maxHeartbeats 8000000 in
set_option maxRecDepth 100000 in
theorem wire_PutVec.calls (a0 : ByteArray) (a1 : Int) (r1 : ByteArray) (r2 : Int) (w : World) (h : wire_PutVec.f a0 a1 = some (r1,r2)) :
  Calls Try.prog 40 #[.string a0,.int .i64 a1] w fun e w' => e = .returned (.tuple #[.string r1,.int .i64 r2]) ∧ Below w.heap.size w w' := by
 have e_ : wire_PutVec.f = E.wire_PutVec.f := by kernel_rfl
 rw [e_] at h
 exact E.wire_PutVec.calls a0 a1 r1 r2 w h
def msg_known.f (a0 : Int) : Option (Bool) := if a0 = 1 then (some true) else (if a0 = 2 then (some true) else (if a0 = 4 then (some true) else (if a0 = 8 then (some true) else (if a0 = 11 then (some true) else (if a0 = 15 then (some true) else (if a0 = 20 then (some true) else (if a0 = 24 then (some true) else (some false))))))))
set_option maxHeartbeats 8000000 in
set_option maxRecDepth 100000 in
theorem msg_known.calls (a0 : Int) (r : Bool) (w : World) (h : msg_known.f a0 = some r) :
  Calls Try.prog 43 #[.int .i64 a0] w fun e w' => e = .returned (.bool r) ∧ Drawn0 w w' := by
 have H : (if a0 = 1 then (some true) else (if a0 = 2 then (some true) else (if a0 = 4 then (some true) else (if a0 = 8 then (some true) else (if a0 = 11 then (some true) else (if a0 = 15 then (some true) else (if a0 = 20 then (some true) else (if a0 = 24 then (some true) else (some false))))))))) = some r := h
 clear h
 by_cases c2 : a0 = 1
 ·rw [if_pos c2] at H
  have c2b0 : (a0 == 1) = true := beq_iff_eq.mpr c2
  have c2b1 : (a0 != 1) = false := bne_eq_false_iff_eq.mpr c2
  clear c2
  obtain rfl := Option.some.inj H
  go_enter Try.func43,Try.ntmps43
  go_wp2
  go_ret
  exact ⟨by first | rfl | (simp; done) | (simp [*]; done),by repeat (first | exact Drawn0.refl _ | apply Drawn0.step)⟩
 ·rw [if_neg c2] at H
  have c2b0 : (a0 == 1) = false := beq_eq_false_iff_ne.mpr c2
  have c2b1 : (a0 != 1) = true := bne_iff_ne.mpr c2
  by_cases c3 : a0 = 2
  ·rw [if_pos c3] at H
   have c3b0 : (a0 == 2) = true := beq_iff_eq.mpr c3
   have c3b1 : (a0 != 2) = false := bne_eq_false_iff_eq.mpr c3
   clear c3
   obtain rfl := Option.some.inj H
   go_enter Try.func43,Try.ntmps43
   go_wp2
   go_ret
   exact ⟨by first | rfl | (simp; done) | (simp [*]; done),by repeat (first | exact Drawn0.refl _ | apply Drawn0.step)⟩
  ·rw [if_neg c3] at H
   have c3b0 : (a0 == 2) = false := beq_eq_false_iff_ne.mpr c3
   have c3b1 : (a0 != 2) = true := bne_iff_ne.mpr c3
   by_cases c4 : a0 = 4
   ·rw [if_pos c4] at H
    have c4b0 : (a0 == 4) = true := beq_iff_eq.mpr c4
    have c4b1 : (a0 != 4) = false := bne_eq_false_iff_eq.mpr c4
    clear c4
    obtain rfl := Option.some.inj H
    go_enter Try.func43,Try.ntmps43
    go_wp2
    go_ret
    exact ⟨by first | rfl | (simp; done) | (simp [*]; done),by repeat (first | exact Drawn0.refl _ | apply Drawn0.step)⟩
   ·rw [if_neg c4] at H
    have c4b0 : (a0 == 4) = false := beq_eq_false_iff_ne.mpr c4
    have c4b1 : (a0 != 4) = true := bne_iff_ne.mpr c4
    by_cases c5 : a0 = 8
    ·rw [if_pos c5] at H
     have c5b0 : (a0 == 8) = true := beq_iff_eq.mpr c5
     have c5b1 : (a0 != 8) = false := bne_eq_false_iff_eq.mpr c5
     clear c5
     obtain rfl := Option.some.inj H
     go_enter Try.func43,Try.ntmps43
     go_wp2
     go_ret
     exact ⟨by first | rfl | (simp; done) | (simp [*]; done),by repeat (first | exact Drawn0.refl _ | apply Drawn0.step)⟩
    ·rw [if_neg c5] at H
     have c5b0 : (a0 == 8) = false := beq_eq_false_iff_ne.mpr c5
     have c5b1 : (a0 != 8) = true := bne_iff_ne.mpr c5
     by_cases c6 : a0 = 11
     ·rw [if_pos c6] at H
      have c6b0 : (a0 == 11) = true := beq_iff_eq.mpr c6
      have c6b1 : (a0 != 11) = false := bne_eq_false_iff_eq.mpr c6
      clear c6
      obtain rfl := Option.some.inj H
      go_enter Try.func43,Try.ntmps43
      go_wp2
      go_ret
      exact ⟨by first | rfl | (simp; done) | (simp [*]; done),by repeat (first | exact Drawn0.refl _ | apply Drawn0.step)⟩
     ·rw [if_neg c6] at H
      have c6b0 : (a0 == 11) = false := beq_eq_false_iff_ne.mpr c6
      have c6b1 : (a0 != 11) = true := bne_iff_ne.mpr c6
      by_cases c7 : a0 = 15
      ·rw [if_pos c7] at H
       have c7b0 : (a0 == 15) = true := beq_iff_eq.mpr c7
       have c7b1 : (a0 != 15) = false := bne_eq_false_iff_eq.mpr c7
       clear c7
       obtain rfl := Option.some.inj H
       go_enter Try.func43,Try.ntmps43
       go_wp2
       go_ret
       exact ⟨by first | rfl | (simp; done) | (simp [*]; done),by repeat (first | exact Drawn0.refl _ | apply Drawn0.step)⟩
      ·rw [if_neg c7] at H
       have c7b0 : (a0 == 15) = false := beq_eq_false_iff_ne.mpr c7
       have c7b1 : (a0 != 15) = true := bne_iff_ne.mpr c7
       by_cases c8 : a0 = 20
       ·rw [if_pos c8] at H
        have c8b0 : (a0 == 20) = true := beq_iff_eq.mpr c8
        have c8b1 : (a0 != 20) = false := bne_eq_false_iff_eq.mpr c8
        clear c8
        obtain rfl := Option.some.inj H
        go_enter Try.func43,Try.ntmps43
        go_wp2
        go_ret
        exact ⟨by first | rfl | (simp; done) | (simp [*]; done),by repeat (first | exact Drawn0.refl _ | apply Drawn0.step)⟩
       ·rw [if_neg c8] at H
        have c8b0 : (a0 == 20) = false := beq_eq_false_iff_ne.mpr c8
        have c8b1 : (a0 != 20) = true := bne_iff_ne.mpr c8
        by_cases c9 : a0 = 24
        ·rw [if_pos c9] at H
         have c9b0 : (a0 == 24) = true := beq_iff_eq.mpr c9
         have c9b1 : (a0 != 24) = false := bne_eq_false_iff_eq.mpr c9
         clear c9
         obtain rfl := Option.some.inj H
         go_enter Try.func43,Try.ntmps43
         go_wp2
         go_ret
         exact ⟨by first | rfl | (simp; done) | (simp [*]; done),by repeat (first | exact Drawn0.refl _ | apply Drawn0.step)⟩
        ·rw [if_neg c9] at H
         have c9b0 : (a0 == 24) = false := beq_eq_false_iff_ne.mpr c9
         have c9b1 : (a0 != 24) = true := bne_iff_ne.mpr c9
         obtain rfl := Option.some.inj H
         go_enter Try.func43,Try.ntmps43
         go_wp2
         go_ret
         exact ⟨by first | rfl | (simp; done) | (simp [*]; done),by repeat (first | exact Drawn0.refl _ | apply Drawn0.step)⟩
def IsS83 (w0 W : World) (g : Nat) (f0 : List Int) (f1 : Bool) : Prop := ∃ A0 c0,W.heap[g]? = some (.cells #[.slice A0 f0.length c0,.bool f1] 83 (0,0)) ∧ w0.heap.size ≤ g ∧ Kd.C (Kd.int .u8) w0 A0 f0.length f0
theorem IsS83.grown {w0 W : World} {g : Nat} {f0 : List Int} {f1 : Bool} {W1 : World} {row : Option Nat} (h : IsS83 w0 W g f0 f1) (hw : W.grownBy W1 row) (hne : some g ≠ row) : IsS83 w0 W1 g f0 f1 := by
 obtain ⟨A0,c0,hb,hg,hr0⟩ := h
 exact ⟨A0,c0,blk_grown hb hw hne,hg,hr0⟩
theorem IsS83.kept {w0 W : World} {g : Nat} {f0 : List Int} {f1 : Bool} {W1 : World} {S : Nat → Prop} (h : IsS83 w0 W g f0 f1) (hk : Kept W W1 S) (hne : ¬ S g) : IsS83 w0 W1 g f0 f1 := by
 obtain ⟨A0,c0,hb,hg,hr0⟩ := h
 exact ⟨A0,c0,blk_kept hb hk hne,hg,hr0⟩
theorem IsS83.below {w0 W : World} {g : Nat} {f0 : List Int} {f1 : Bool} {W1 : World} (h : IsS83 w0 W g f0 f1) (hw : Below W.heap.size W W1) : IsS83 w0 W1 g f0 f1 := h.grown (grown_of_below hw none) (by simp)
theorem IsS83.alloc {w0 W : World} {g : Nat} {f0 : List Int} {f1 : Bool} (h : IsS83 w0 W g f0 f1) (o : Obj) : IsS83 w0 (W.alloc o) g f0 f1 := h.below (below_alloc (Below.refl _ _) o)
theorem IsS83.drewN {w0 W : World} {g : Nat} {f0 : List Int} {f1 : Bool} (h : IsS83 w0 W g f0 f1) (m : Nat) : IsS83 w0 (W.drewN m) g f0 f1 := h
theorem IsS83.drew {w0 W : World} {g : Nat} {f0 : List Int} {f1 : Bool} (h : IsS83 w0 W g f0 f1) : IsS83 w0 W.drew g f0 f1 := h
theorem IsS83.at_ {w0 W : World} {g : Nat} {f0 : List Int} {f1 : Bool} {w' : World} {m : Nat} (hq : W.drewN m = w') (h : IsS83 w0 W g f0 f1) : IsS83 w0 w' g f0 f1 := by subst hq; exact IsS83.drewN h m
theorem IsS83.apart {w0 W : World} {g : Nat} {f0 : List Int} {f1 : Bool} {α : Type} {d : Kd α} {e : Nat} {base : Nat} {ok : Nat → Prop} {v : Value} {xs : List α} (h : IsS83 w0 W g f0 f1) (ho : d.R e W base ok v xs) (ht : ∀ q,q ∈ e :: d.E → q ≠ 83) : d.R e W base (fun k => ok k ∧ k ≠ g) v xs := by
 obtain ⟨A0,c0,hb,hg,hr0⟩ := h
 exact Kd.R_types ho hb ht
theorem IsS83.own_ne {w0 W : World} {g : Nat} {f0 : List Int} {f1 : Bool} {α : Type} {d : Kd α} {e : Nat} {base : Nat} {ok : Nat → Prop} {v : Value} {xs : List α} (h : IsS83 w0 W g f0 f1) (ho : d.R e W base ok v xs) (ht : e ≠ 83) : some g ≠ v.ownBlock := by
 obtain ⟨A0,c0,hb,hg,hr0⟩ := h
 exact Kd.R_ne ho hb ht
theorem IsS83.lt {w0 W : World} {g : Nat} {f0 : List Int} {f1 : Bool} (h : IsS83 w0 W g f0 f1) : g < W.heap.size := by
 obtain ⟨A0,c0,hb,hg,hr0⟩ := h
 exact blk_lt hb
theorem IsS83.ge {w0 W : World} {g : Nat} {f0 : List Int} {f1 : Bool} (h : IsS83 w0 W g f0 f1) : w0.heap.size ≤ g := by
 obtain ⟨A0,c0,hb,hg,hr0⟩ := h
 exact hg
def msg_Retry.f (a0_0 : Int) (a0_1 : ByteArray) (a0_2 : ByteArray) (l0_3 : List Int) (a0_4 : ByteArray) (l0_5 : List Int) (l0_6 : List Int) (l0_7 : List Int) (l0_8 : List Int) (l0_9 : List (S66)) (l0_10 : List (S111)) (l0_11 : List ByteArray) (a0_12 : Int) (l0_13 : List Int) (l0_14 : List ByteArray) (a0_15 : Int) (a0_16 : ByteArray) (a0_17 : Int) (a0_18 : Int) (a0_19 : ByteArray) (a0_20 : Int) : Option (Bool) := if a0_0 = 2 then (some (a0_1.toList == ([207,33,173,116,229,154,97,17,190,29,140,2,30,101,184,145,194,162,17,22,122,187,140,94,7,158,9,226,200,168,51,156] : List UInt8))) else (some false)
set_option maxHeartbeats 8000000 in
set_option maxRecDepth 100000 in
theorem msg_Retry.calls (a0_0 : Int) (a0_1 : ByteArray) (a0_2 : ByteArray) (A0_3 : Option Addr) (c0_3 : Nat) (l0_3 : List Int) (a0_4 : ByteArray) (A0_5 : Option Addr) (c0_5 : Nat) (l0_5 : List Int) (A0_6 : Option Addr) (c0_6 : Nat) (l0_6 : List Int) (A0_7 : Option Addr) (c0_7 : Nat) (l0_7 : List Int) (A0_8 : Option Addr) (c0_8 : Nat) (l0_8 : List Int) (A0_9 : Option Addr) (c0_9 : Nat) (l0_9 : List (S66)) (A0_10 : Option Addr) (c0_10 : Nat) (l0_10 : List (S111)) (A0_11 : Option Addr) (c0_11 : Nat) (l0_11 : List ByteArray) (a0_12 : Int) (A0_13 : Option Addr) (c0_13 : Nat) (l0_13 : List Int) (A0_14 : Option Addr) (c0_14 : Nat) (l0_14 : List ByteArray) (a0_15 : Int) (a0_16 : ByteArray) (a0_17 : Int) (a0_18 : Int) (a0_19 : ByteArray) (a0_20 : Int) (r : Bool) (w : World) (hr0_3 : Kd.C (Kd.int .i64) w A0_3 l0_3.length l0_3) (hc0_3 : l0_3.length ≤ c0_3) (hr0_5 : Kd.C (Kd.int .i64) w A0_5 l0_5.length l0_5) (hc0_5 : l0_5.length ≤ c0_5) (hr0_6 : Kd.C (Kd.int .i64) w A0_6 l0_6.length l0_6) (hc0_6 : l0_6.length ≤ c0_6) (hr0_7 : Kd.C (Kd.int .i64) w A0_7 l0_7.length l0_7) (hc0_7 : l0_7.length ≤ c0_7) (hr0_8 : Kd.C (Kd.int .i64) w A0_8 l0_8.length l0_8) (hc0_8 : l0_8.length ≤ c0_8) (hr0_9 : Kd.C k66 w A0_9 l0_9.length l0_9) (hc0_9 : l0_9.length ≤ c0_9) (hr0_10 : Kd.C k111 w A0_10 l0_10.length l0_10) (hc0_10 : l0_10.length ≤ c0_10) (hr0_11 : Kd.C Kd.string w A0_11 l0_11.length l0_11) (hc0_11 : l0_11.length ≤ c0_11) (hr0_13 : Kd.C (Kd.int .i64) w A0_13 l0_13.length l0_13) (hc0_13 : l0_13.length ≤ c0_13) (hr0_14 : Kd.C Kd.string w A0_14 l0_14.length l0_14) (hc0_14 : l0_14.length ≤ c0_14) (h : msg_Retry.f a0_0 a0_1 a0_2 l0_3 a0_4 l0_5 l0_6 l0_7 l0_8 l0_9 l0_10 l0_11 a0_12 l0_13 l0_14 a0_15 a0_16 a0_17 a0_18 a0_19 a0_20 = some r) :
  Calls Try.prog 30 #[.agg #[.int .i64 a0_0,.string a0_1,.string a0_2,.slice A0_3 l0_3.length c0_3,.string a0_4,.slice A0_5 l0_5.length c0_5,.slice A0_6 l0_6.length c0_6,.slice A0_7 l0_7.length c0_7,.slice A0_8 l0_8.length c0_8,.slice A0_9 l0_9.length c0_9,.slice A0_10 l0_10.length c0_10,.slice A0_11 l0_11.length c0_11,.int .i64 a0_12,.slice A0_13 l0_13.length c0_13,.slice A0_14 l0_14.length c0_14,.int .i64 a0_15,.string a0_16,.int .i64 a0_17,.int .i64 a0_18,.string a0_19,.int .i64 a0_20]] w fun e w' => e = .returned (.bool r) ∧ Below w.heap.size w w' := by
 have hu49 := Try.underlying49
 have HR0_3 := Aq.mk hr0_3
 have HC0_3 := Aq.mk hc0_3
 clear hr0_3 hc0_3
 have HR0_5 := Aq.mk hr0_5
 have HC0_5 := Aq.mk hc0_5
 clear hr0_5 hc0_5
 have HR0_6 := Aq.mk hr0_6
 have HC0_6 := Aq.mk hc0_6
 clear hr0_6 hc0_6
 have HR0_7 := Aq.mk hr0_7
 have HC0_7 := Aq.mk hc0_7
 clear hr0_7 hc0_7
 have HR0_8 := Aq.mk hr0_8
 have HC0_8 := Aq.mk hc0_8
 clear hr0_8 hc0_8
 have HR0_9 := Aq.mk hr0_9
 have HC0_9 := Aq.mk hc0_9
 clear hr0_9 hc0_9
 have HR0_10 := Aq.mk hr0_10
 have HC0_10 := Aq.mk hc0_10
 clear hr0_10 hc0_10
 have HR0_11 := Aq.mk hr0_11
 have HC0_11 := Aq.mk hc0_11
 clear hr0_11 hc0_11
 have HR0_13 := Aq.mk hr0_13
 have HC0_13 := Aq.mk hc0_13
 clear hr0_13 hc0_13
 have HR0_14 := Aq.mk hr0_14
 have HC0_14 := Aq.mk hc0_14
 clear hr0_14 hc0_14
 have HB := Aq.mk (Below.refl w.heap.size w)
 have H : (if a0_0 = 2 then (some (a0_1.toList == ([207,33,173,116,229,154,97,17,190,29,140,2,30,101,184,145,194,162,17,22,122,187,140,94,7,158,9,226,200,168,51,156] : List UInt8))) else (some false)) = some r := h
 clear h
 by_cases c2 : a0_0 = 2
 ·rw [if_pos c2] at H
  have c2b0 : (a0_0 == 2) = true := beq_iff_eq.mpr c2
  have c2b1 : (a0_0 != 2) = false := bne_eq_false_iff_eq.mpr c2
  clear c2
  obtain rfl := Option.some.inj H
  go_enter Try.func30,Try.ntmps30
  go_wp2_with (first | ((with_reducible refine gate_dst (N := 1) rfl ?_); refine box_event ?hg (N := 1) ?hd (cs := #[.int .i64 a0_0,.string a0_1,.string a0_2,.slice A0_3 l0_3.length c0_3,.string a0_4,.slice A0_5 l0_5.length c0_5,.slice A0_6 l0_6.length c0_6,.slice A0_7 l0_7.length c0_7,.slice A0_8 l0_8.length c0_8,.slice A0_9 l0_9.length c0_9,.slice A0_10 l0_10.length c0_10,.slice A0_11 l0_11.length c0_11,.int .i64 a0_12,.slice A0_13 l0_13.length c0_13,.slice A0_14 l0_14.length c0_14,.int .i64 a0_15,.string a0_16,.int .i64 a0_17,.int .i64 a0_18,.string a0_19,.int .i64 a0_20]) (t := 49) ?hr ?_; (case hd => rfl); (case hg => rfl); (case hr => first | (go_simp; done) | (go_simp; rfl)); intro gb209 hg w3 hbox hb; have n0_ := Aq.mk (below_step (by repeat (first | (with_reducible first | exact HB.out | apply below_alloc | apply pw_below_drewN | apply below_drew1) | exact HB.out)) hb); have n1_ := Aq.mk (hbox); have n2_ := Aq.mk ((by rw [hg]; exact (below_size (by repeat (first | (with_reducible first | exact HB.out | apply below_alloc | apply pw_below_drewN | apply below_drew1) | exact HB.out))) : w.heap.size ≤ gb209)); have n3_ := Aq.mk ((by rw [hg]; exact (below_size (by repeat (first | (with_reducible first | exact HB.out | apply below_alloc | apply pw_below_drewN | apply below_drew1) | exact HB.out))) : w.heap.size ≤ gb209)); clear HB; have HB := n0_; have BK209 := n1_; have GW209 := n2_; have GE209 := n3_; clear n0_ n1_ n2_ n3_; clear hb hbox hg; have hcz4_0 : w3.cell? ⟨gb209,0,none⟩ = some (.int .i64 a0_0) := (blk_cell BK209.out 0).trans rfl; have hcz4_1 : w3.cell? ⟨gb209,1,none⟩ = some (.string a0_1) := (blk_cell BK209.out 1).trans rfl; have hcz4_2 : w3.cell? ⟨gb209,2,none⟩ = some (.string a0_2) := (blk_cell BK209.out 2).trans rfl; have hcz4_3 : w3.cell? ⟨gb209,3,none⟩ = some (.slice A0_3 l0_3.length c0_3) := (blk_cell BK209.out 3).trans rfl; have hcz4_4 : w3.cell? ⟨gb209,4,none⟩ = some (.string a0_4) := (blk_cell BK209.out 4).trans rfl; have hcz4_5 : w3.cell? ⟨gb209,5,none⟩ = some (.slice A0_5 l0_5.length c0_5) := (blk_cell BK209.out 5).trans rfl; have hcz4_6 : w3.cell? ⟨gb209,6,none⟩ = some (.slice A0_6 l0_6.length c0_6) := (blk_cell BK209.out 6).trans rfl; have hcz4_7 : w3.cell? ⟨gb209,7,none⟩ = some (.slice A0_7 l0_7.length c0_7) := (blk_cell BK209.out 7).trans rfl; have hcz4_8 : w3.cell? ⟨gb209,8,none⟩ = some (.slice A0_8 l0_8.length c0_8) := (blk_cell BK209.out 8).trans rfl; have hcz4_9 : w3.cell? ⟨gb209,9,none⟩ = some (.slice A0_9 l0_9.length c0_9) := (blk_cell BK209.out 9).trans rfl; have hcz4_10 : w3.cell? ⟨gb209,10,none⟩ = some (.slice A0_10 l0_10.length c0_10) := (blk_cell BK209.out 10).trans rfl; have hcz4_11 : w3.cell? ⟨gb209,11,none⟩ = some (.slice A0_11 l0_11.length c0_11) := (blk_cell BK209.out 11).trans rfl; have hcz4_12 : w3.cell? ⟨gb209,12,none⟩ = some (.int .i64 a0_12) := (blk_cell BK209.out 12).trans rfl; have hcz4_13 : w3.cell? ⟨gb209,13,none⟩ = some (.slice A0_13 l0_13.length c0_13) := (blk_cell BK209.out 13).trans rfl; have hcz4_14 : w3.cell? ⟨gb209,14,none⟩ = some (.slice A0_14 l0_14.length c0_14) := (blk_cell BK209.out 14).trans rfl; have hcz4_15 : w3.cell? ⟨gb209,15,none⟩ = some (.int .i64 a0_15) := (blk_cell BK209.out 15).trans rfl; have hcz4_16 : w3.cell? ⟨gb209,16,none⟩ = some (.string a0_16) := (blk_cell BK209.out 16).trans rfl; have hcz4_17 : w3.cell? ⟨gb209,17,none⟩ = some (.int .i64 a0_17) := (blk_cell BK209.out 17).trans rfl; have hcz4_18 : w3.cell? ⟨gb209,18,none⟩ = some (.int .i64 a0_18) := (blk_cell BK209.out 18).trans rfl; have hcz4_19 : w3.cell? ⟨gb209,19,none⟩ = some (.string a0_19) := (blk_cell BK209.out 19).trans rfl; have hcz4_20 : w3.cell? ⟨gb209,20,none⟩ = some (.int .i64 a0_20) := (blk_cell BK209.out 20).trans rfl; have hfz4_0 := blk_frozen BK209.out 0; have hfz4_1 := blk_frozen BK209.out 1; have hfz4_2 := blk_frozen BK209.out 2; have hfz4_3 := blk_frozen BK209.out 3; have hfz4_4 := blk_frozen BK209.out 4; have hfz4_5 := blk_frozen BK209.out 5; have hfz4_6 := blk_frozen BK209.out 6; have hfz4_7 := blk_frozen BK209.out 7; have hfz4_8 := blk_frozen BK209.out 8; have hfz4_9 := blk_frozen BK209.out 9; have hfz4_10 := blk_frozen BK209.out 10; have hfz4_11 := blk_frozen BK209.out 11; have hfz4_12 := blk_frozen BK209.out 12; have hfz4_13 := blk_frozen BK209.out 13; have hfz4_14 := blk_frozen BK209.out 14; have hfz4_15 := blk_frozen BK209.out 15; have hfz4_16 := blk_frozen BK209.out 16; have hfz4_17 := blk_frozen BK209.out 17; have hfz4_18 := blk_frozen BK209.out 18; have hfz4_19 := blk_frozen BK209.out 19; have hfz4_20 := blk_frozen BK209.out 20))
  go_ret
  exact ⟨by first | rfl | (simp [errW_none,errW_some] <;> rfl) | (simp [*,errW_none,errW_some] <;> rfl),by repeat (first | (with_reducible first | exact HB.out | apply below_alloc | apply pw_below_drewN | apply below_drew1 | refine below_set ?_ GE209.out) | exact HB.out)⟩
 ·rw [if_neg c2] at H
  have c2b0 : (a0_0 == 2) = false := beq_eq_false_iff_ne.mpr c2
  have c2b1 : (a0_0 != 2) = true := bne_iff_ne.mpr c2
  obtain rfl := Option.some.inj H
  go_enter Try.func30,Try.ntmps30
  go_wp2_with (first | ((with_reducible refine gate_dst (N := 1) rfl ?_); refine box_event ?hg (N := 1) ?hd (cs := #[.int .i64 a0_0,.string a0_1,.string a0_2,.slice A0_3 l0_3.length c0_3,.string a0_4,.slice A0_5 l0_5.length c0_5,.slice A0_6 l0_6.length c0_6,.slice A0_7 l0_7.length c0_7,.slice A0_8 l0_8.length c0_8,.slice A0_9 l0_9.length c0_9,.slice A0_10 l0_10.length c0_10,.slice A0_11 l0_11.length c0_11,.int .i64 a0_12,.slice A0_13 l0_13.length c0_13,.slice A0_14 l0_14.length c0_14,.int .i64 a0_15,.string a0_16,.int .i64 a0_17,.int .i64 a0_18,.string a0_19,.int .i64 a0_20]) (t := 49) ?hr ?_; (case hd => rfl); (case hg => rfl); (case hr => first | (go_simp; done) | (go_simp; rfl)); intro gb209 hg w5 hbox hb; have n0_ := Aq.mk (below_step (by repeat (first | (with_reducible first | exact HB.out | apply below_alloc | apply pw_below_drewN | apply below_drew1) | exact HB.out)) hb); have n1_ := Aq.mk (hbox); have n2_ := Aq.mk ((by rw [hg]; exact (below_size (by repeat (first | (with_reducible first | exact HB.out | apply below_alloc | apply pw_below_drewN | apply below_drew1) | exact HB.out))) : w.heap.size ≤ gb209)); have n3_ := Aq.mk ((by rw [hg]; exact (below_size (by repeat (first | (with_reducible first | exact HB.out | apply below_alloc | apply pw_below_drewN | apply below_drew1) | exact HB.out))) : w.heap.size ≤ gb209)); clear HB; have HB := n0_; have BK209 := n1_; have GW209 := n2_; have GE209 := n3_; clear n0_ n1_ n2_ n3_; clear hb hbox hg; have hcz6_0 : w5.cell? ⟨gb209,0,none⟩ = some (.int .i64 a0_0) := (blk_cell BK209.out 0).trans rfl; have hcz6_1 : w5.cell? ⟨gb209,1,none⟩ = some (.string a0_1) := (blk_cell BK209.out 1).trans rfl; have hcz6_2 : w5.cell? ⟨gb209,2,none⟩ = some (.string a0_2) := (blk_cell BK209.out 2).trans rfl; have hcz6_3 : w5.cell? ⟨gb209,3,none⟩ = some (.slice A0_3 l0_3.length c0_3) := (blk_cell BK209.out 3).trans rfl; have hcz6_4 : w5.cell? ⟨gb209,4,none⟩ = some (.string a0_4) := (blk_cell BK209.out 4).trans rfl; have hcz6_5 : w5.cell? ⟨gb209,5,none⟩ = some (.slice A0_5 l0_5.length c0_5) := (blk_cell BK209.out 5).trans rfl; have hcz6_6 : w5.cell? ⟨gb209,6,none⟩ = some (.slice A0_6 l0_6.length c0_6) := (blk_cell BK209.out 6).trans rfl; have hcz6_7 : w5.cell? ⟨gb209,7,none⟩ = some (.slice A0_7 l0_7.length c0_7) := (blk_cell BK209.out 7).trans rfl; have hcz6_8 : w5.cell? ⟨gb209,8,none⟩ = some (.slice A0_8 l0_8.length c0_8) := (blk_cell BK209.out 8).trans rfl; have hcz6_9 : w5.cell? ⟨gb209,9,none⟩ = some (.slice A0_9 l0_9.length c0_9) := (blk_cell BK209.out 9).trans rfl; have hcz6_10 : w5.cell? ⟨gb209,10,none⟩ = some (.slice A0_10 l0_10.length c0_10) := (blk_cell BK209.out 10).trans rfl; have hcz6_11 : w5.cell? ⟨gb209,11,none⟩ = some (.slice A0_11 l0_11.length c0_11) := (blk_cell BK209.out 11).trans rfl; have hcz6_12 : w5.cell? ⟨gb209,12,none⟩ = some (.int .i64 a0_12) := (blk_cell BK209.out 12).trans rfl; have hcz6_13 : w5.cell? ⟨gb209,13,none⟩ = some (.slice A0_13 l0_13.length c0_13) := (blk_cell BK209.out 13).trans rfl; have hcz6_14 : w5.cell? ⟨gb209,14,none⟩ = some (.slice A0_14 l0_14.length c0_14) := (blk_cell BK209.out 14).trans rfl; have hcz6_15 : w5.cell? ⟨gb209,15,none⟩ = some (.int .i64 a0_15) := (blk_cell BK209.out 15).trans rfl; have hcz6_16 : w5.cell? ⟨gb209,16,none⟩ = some (.string a0_16) := (blk_cell BK209.out 16).trans rfl; have hcz6_17 : w5.cell? ⟨gb209,17,none⟩ = some (.int .i64 a0_17) := (blk_cell BK209.out 17).trans rfl; have hcz6_18 : w5.cell? ⟨gb209,18,none⟩ = some (.int .i64 a0_18) := (blk_cell BK209.out 18).trans rfl; have hcz6_19 : w5.cell? ⟨gb209,19,none⟩ = some (.string a0_19) := (blk_cell BK209.out 19).trans rfl; have hcz6_20 : w5.cell? ⟨gb209,20,none⟩ = some (.int .i64 a0_20) := (blk_cell BK209.out 20).trans rfl; have hfz6_0 := blk_frozen BK209.out 0; have hfz6_1 := blk_frozen BK209.out 1; have hfz6_2 := blk_frozen BK209.out 2; have hfz6_3 := blk_frozen BK209.out 3; have hfz6_4 := blk_frozen BK209.out 4; have hfz6_5 := blk_frozen BK209.out 5; have hfz6_6 := blk_frozen BK209.out 6; have hfz6_7 := blk_frozen BK209.out 7; have hfz6_8 := blk_frozen BK209.out 8; have hfz6_9 := blk_frozen BK209.out 9; have hfz6_10 := blk_frozen BK209.out 10; have hfz6_11 := blk_frozen BK209.out 11; have hfz6_12 := blk_frozen BK209.out 12; have hfz6_13 := blk_frozen BK209.out 13; have hfz6_14 := blk_frozen BK209.out 14; have hfz6_15 := blk_frozen BK209.out 15; have hfz6_16 := blk_frozen BK209.out 16; have hfz6_17 := blk_frozen BK209.out 17; have hfz6_18 := blk_frozen BK209.out 18; have hfz6_19 := blk_frozen BK209.out 19; have hfz6_20 := blk_frozen BK209.out 20))
  go_ret
  exact ⟨by first | rfl | (simp [errW_none,errW_some] <;> rfl) | (simp [*,errW_none,errW_some] <;> rfl),by repeat (first | (with_reducible first | exact HB.out | apply below_alloc | apply pw_below_drewN | apply below_drew1 | refine below_set ?_ GE209.out) | exact HB.out)⟩
def slices_Index_int_int.l0 : Nat → List Int → Int → Int → Int → Option (Int)
 | 0,_,_,_,_ => none
 | k + 1,x0,x1,x7,x8 => if x8 < x7 then (if 0 ≤ x8 then (if x8 < (x0.length : Int) then (if x1 = (rd x0 x8) then (some x8) else (slices_Index_int_int.l0 k x0 x1 x7 (wrap64 (x8 + 1)))) else (none)) else (none)) else (some (-1))
def slices_Index_int_int.f (k : Nat) (l0 : List Int) (a1 : Int) : Option (Int) := slices_Index_int_int.l0 k l0 a1 (l0.length : Int) 0
theorem slices_Index_int_int.mono_l : ∀ k,(∀ y0 y1 y2 y3,LeO (slices_Index_int_int.l0 k y0 y1 y2 y3) (slices_Index_int_int.l0 (k + 1) y0 y1 y2 y3))
 | 0 => fun _ _ _ _ r h => by simp [slices_Index_int_int.l0] at h
 | k + 1 => by
  have ih0 := slices_Index_int_int.mono_l k
  ·intro y0 y1 y2 y3
   unfold slices_Index_int_int.l0
   repeat' first
   | (with_reducible exact ih0 _ _ _ _)
   | (with_reducible exact LeO.refl _)
   | (with_reducible exact LeO.none _)
   | (with_reducible refine LeO.ite ?_ ?_)
   | (with_reducible refine LeO.bind ?_ (fun _ => ?_))
   | exact ih0 _ _ _ _
   | exact LeO.none _
   | refine LeO.ite ?_ ?_
   | refine LeO.bind ?_ (fun _ => ?_)
theorem slices_Index_int_int.mono : ∀ a0 a1 k,LeO (slices_Index_int_int.f k a0 a1) (slices_Index_int_int.f (k + 1) a0 a1) := by
 intro a0 a1 k
 have ih0 := slices_Index_int_int.mono_l k
 unfold slices_Index_int_int.f
 repeat' first
   | (with_reducible exact ih0 _ _ _ _)
   | (with_reducible exact LeO.refl _)
   | (with_reducible exact LeO.none _)
   | (with_reducible refine LeO.ite ?_ ?_)
   | (with_reducible refine LeO.bind ?_ (fun _ => ?_))
   | exact ih0 _ _ _ _
   | exact LeO.none _
   | refine LeO.ite ?_ ?_
   | refine LeO.bind ?_ (fun _ => ?_)
set_option maxHeartbeats 8000000 in
set_option maxRecDepth 100000 in
theorem slices_Index_int_int.calls (k : Nat) (A0 : Option Addr) (c0 : Nat) (l0 : List Int) (a1 : Int) (r : Int) (w : World) (hr0 : Kd.C (Kd.int .i64) w A0 l0.length l0) (hc0 : l0.length ≤ c0) (h : slices_Index_int_int.f k l0 a1 = some r) :
  Calls Try.prog 92 #[.slice A0 l0.length c0,.int .i64 a1] w fun e w' => e = .returned (.int .i64 r) ∧ Drawn0 w w' := by
 have HR0 := Aq.mk hr0
 have HC0 := Aq.mk hc0
 clear hr0 hc0
 have H : (slices_Index_int_int.l0 k l0 a1 (l0.length : Int) 0) = some r := h
 clear h
 have H' := Aq.mk H
 clear H
 go_enter Try.func92,Try.ntmps92
 go_wp2
 go_loopg [8] k (fun kq v8 w' => ∃ (x8_1 : Int),v8 = .int .i64 x8_1 ∧ Aq (slices_Index_int_int.l0 kq l0 a1 (l0.length : Int) x8_1 = some r) ∧ Aq (kq ≤ k) ∧ Drawn0 w w')
 case atStart => exact ⟨(0),(by first | rfl | (simp; done) | (simp [*]; done)),H',⟨Nat.le_refl _⟩,by repeat (first | exact Drawn0.refl _ | apply Drawn0.step)⟩
 case round =>
  clear H'
  try clear p2
  obtain ⟨x8_1,rfl,HA,HK1,⟨m1,rfl⟩⟩ := hrel
  cases gk with
  | zero => exact absurd HA.out (by simp [slices_Index_int_int.l0])
  | succ k1 =>
   have H := HA.out
   clear HA
   simp only [slices_Index_int_int.l0] at H
   by_cases c3 : x8_1 < (l0.length : Int)
   ·rw [if_pos c3] at H
    have c3b0 : decide (x8_1 < (l0.length : Int)) = true := decide_eq_true c3
    clear c3
    by_cases c4 : 0 ≤ x8_1
    ·rw [if_pos c4] at H
     have c4b0 : decide (0 ≤ x8_1) = true := decide_eq_true c4
     clear c4
     by_cases c5 : x8_1 < (l0.length : Int)
     ·rw [if_pos c5] at H
      have c5b0 : decide (x8_1 < (l0.length : Int)) = true := decide_eq_true c5
      clear c5
      by_cases c6 : a1 = (rd l0 x8_1)
      ·rw [if_pos c6] at H
       have c6b0 : (a1 == (rd l0 x8_1)) = true := beq_iff_eq.mpr c6
       have c6b1 : (a1 != (rd l0 x8_1)) = false := bne_eq_false_iff_eq.mpr c6
       clear c6
       obtain rfl := Option.some.inj H
       have p210 : 0 ≤ (x8_1 : Int) := of_decide_eq_true (by first | (with_reducible assumption) | assumption)
       have q210 : x8_1 < (l0.length : Int) := of_decide_eq_true (by first | (with_reducible assumption) | assumption)
       obtain ⟨ad210,e210,hx210_0⟩ := Kd.at_int HR0.out x8_1 p210 q210
       cases e210
       replace p210 := eq_true p210
       replace q210 := eq_true q210
       go_wp2
       go_ret
       exact ⟨by first | rfl | (simp; done) | (simp [*]; done),by repeat (first | exact Drawn0.refl _ | apply Drawn0.step)⟩
      ·rw [if_neg c6] at H
       have c6b0 : (a1 == (rd l0 x8_1)) = false := beq_eq_false_iff_ne.mpr c6
       have c6b1 : (a1 != (rd l0 x8_1)) = true := bne_iff_ne.mpr c6
       have H' := Aq.mk H
       clear H
       have p210 : 0 ≤ (x8_1 : Int) := of_decide_eq_true (by first | (with_reducible assumption) | assumption)
       have q210 : x8_1 < (l0.length : Int) := of_decide_eq_true (by first | (with_reducible assumption) | assumption)
       obtain ⟨ad210,e210,hx210_0⟩ := Kd.at_int HR0.out x8_1 p210 q210
       cases e210
       replace p210 := eq_true p210
       replace q210 := eq_true q210
       go_wp2
       go_roundg k1
       case measure => have := HK1.out; omega
       case rel => exact ⟨(wrap64 (x8_1 + 1)),(by first | rfl | (simp; done) | (simp [*]; done)),H',⟨by have := HK1.out; omega⟩,by repeat (first | exact Drawn0.refl _ | apply Drawn0.step)⟩
     ·rw [if_neg c5] at H
      exact absurd H (by simp)
    ·rw [if_neg c4] at H
     exact absurd H (by simp)
   ·rw [if_neg c3] at H
    have c3b0 : decide (x8_1 < (l0.length : Int)) = false := decide_eq_false c3
    clear c3
    obtain rfl := Option.some.inj H
    go_wp2
    go_ret
    exact ⟨by first | rfl | (simp; done) | (simp [*]; done),by repeat (first | exact Drawn0.refl _ | apply Drawn0.step)⟩
def slices_Contains_int_int.f (k : Nat) (l0 : List Int) (a1 : Int) : Option (Bool) := (slices_Index_int_int.f k l0 a1).bind fun t211 => (some (decide (t211 ≥ 0)))
theorem slices_Contains_int_int.mono : ∀ a0 a1 k,LeO (slices_Contains_int_int.f k a0 a1) (slices_Contains_int_int.f (k + 1) a0 a1) := by
 intro a0 a1 k
 unfold slices_Contains_int_int.f
 repeat' first
   | (with_reducible exact slices_Index_int_int.mono _ _ _)
   | (with_reducible exact LeO.refl _)
   | (with_reducible exact LeO.none _)
   | (with_reducible refine LeO.ite ?_ ?_)
   | (with_reducible refine LeO.bind ?_ (fun _ => ?_))
   | exact slices_Index_int_int.mono _ _ _
   | exact LeO.none _
   | refine LeO.ite ?_ ?_
   | refine LeO.bind ?_ (fun _ => ?_)
set_option maxHeartbeats 8000000 in
set_option maxRecDepth 100000 in
theorem slices_Contains_int_int.calls (k : Nat) (A0 : Option Addr) (c0 : Nat) (l0 : List Int) (a1 : Int) (r : Bool) (w : World) (hr0 : Kd.C (Kd.int .i64) w A0 l0.length l0) (hc0 : l0.length ≤ c0) (h : slices_Contains_int_int.f k l0 a1 = some r) :
  Calls Try.prog 62 #[.slice A0 l0.length c0,.int .i64 a1] w fun e w' => e = .returned (.bool r) ∧ Drawn0 w w' := by
 have HR0 := Aq.mk hr0
 have HC0 := Aq.mk hc0
 clear hr0 hc0
 have H : ((slices_Index_int_int.f k l0 a1).bind fun t211 => (some (decide (t211 ≥ 0)))) = some r := h
 clear h
 replace H := Option.bind_eq_some_iff.mp H
 obtain ⟨t211,A30,H⟩ := H
 replace H : (some (decide (t211 ≥ 0))) = some r := H
 have A3 := Aq.mk A30
 clear A30
 obtain rfl := Option.some.inj H
 go_enter Try.func62,Try.ntmps62
 go_wp2_with (first | ((with_reducible refine gate_callee (f := 92) rfl ?_); refine goesL_ (some 7) rfl rfl Try.func92 (by kernel_rfl) rfl #[.slice A0 l0.length c0,.int .i64 a1] rfl (by (try simp only [List.map_toArray,List.map_cons,List.map_nil]); first | done | rfl | (simp only [List.length_drop,List.length_take]; rfl)) ?_; (with_reducible refine (slices_Index_int_int.calls k _ _ l0 a1 t211 _ ?side1 ?side2 A3.out).mono ?_); (case side1 => repeat (first | exact HR0.out | (with_reducible refine Kd.C_alloc ?_ _) | (with_reducible refine Kd.C_drewN ?_ _) | (with_reducible refine Kd.C_drew ?_))); (case side2 => exact HC0.out); rintro e w' ⟨rfl,⟨nd,rfl⟩⟩; refine ⟨_,rfl,?_⟩))
 go_ret
 exact ⟨by first | rfl | (simp; done) | (simp [*]; done),by repeat (first | exact Drawn0.refl _ | apply Drawn0.step)⟩
def msg_finished.f  : Option (List Int) := some (([32,48] : List Int))
set_option maxHeartbeats 8000000 in
set_option maxRecDepth 100000 in
theorem msg_finished.calls  (r : List Int) (w : World) (h : msg_finished.f  = some r) :
  Calls Try.prog 63 #[] w fun e w' => ∃ v0_ : Value,e = .returned (v0_) ∧ Kd.R (Kd.int .i64) 3 w' w.heap.size (fun _ => True) v0_ r ∧ Below w.heap.size w w' := by
 have HB := Aq.mk (Below.refl w.heap.size w)
 have H : (some (([32,48] : List Int))) = some r := h
 clear h
 obtain ⟨y212,hy212⟩ : ∃ y_ : List Int,y_ = (([32,48] : List Int)) := ⟨_,rfl⟩
 replace H : (some y212) = some r := by first | (rw [hy212]; with_reducible exact H) | (have H2_ := (Option.bind_some _ _).symm.trans H; rw [hy212]; with_reducible exact H2_) | (have H2_ := (Option.bind_some _ _).symm.trans H; with_reducible exact H2_) | with_reducible exact H | (rw [hy212]; exact H) | exact H
 have Ny212 := Aq.mk hy212
 clear hy212
 obtain rfl := Option.some.inj H
 go_enter Try.func63,Try.ntmps63
 go_wp2_with (first | ((with_reducible refine gate_dst (N := 1) rfl ?_); refine Kd.R_lit (Kd.int .i64) _ 3 ?hg (N := 1) ?hd (xs := ([32,48] : List Int)) (inner := [.int .i64 32,.int .i64 48]) (ok := fun _ => True) (okp := fun _ => True) ?hr ?hp (fun _ hk => hk) trivial (Below.refl _ _) (Nat.le_refl _) (by simp) ?_; (case hd => rfl); (case hg => rfl); (case hr => first | (go_simp; done) | (go_simp; rfl)); (case hp => exact (Reps.one (show Kd.M (Kd.int .i64) _ _ _ 32 [.int .i64 32] from rfl) (Reps.one (show Kd.M (Kd.int .i64) _ _ _ 48 [.int .i64 48] from rfl) (Reps.none _ _)))); intro v213 w1 ho2 hb hg_ hnew_; clear hg_ hnew_; (first | rw [← Ny212.out] at ho2 | (simp only [Int.reduceToNat] at ho2; rw [← Ny212.out] at ho2)); have n0_ := Aq.mk (Kd.R_lower ho2 (below_size (by repeat (first | (with_reducible first | exact HB.out | apply below_alloc | apply pw_below_drewN | apply below_drew1) | exact HB.out)))); have n1_ := Aq.mk (below_step (by repeat (first | (with_reducible first | exact HB.out | apply below_alloc | apply pw_below_drewN | apply below_drew1) | exact HB.out)) hb); clear HB; have HO214 := n0_; have HB := n1_; clear n0_ n1_; clear hb ho2))
 go_ret
 exact ⟨_,by first | rfl | (simp [errW_none,errW_some] <;> rfl) | (simp [*,errW_none,errW_some] <;> rfl),by (with_reducible repeat (first | apply Kd.R_alloc | apply Kd.R_drewN | apply Kd.R_drew)); exact HO214.out,by repeat (first | (with_reducible first | exact HB.out | apply below_alloc | apply pw_below_drewN | apply below_drew1) | exact HB.out)⟩
end Go.Proofs.Ytlkebjkpmiehcaa.X
end
section
namespace Go.Proofs.Ytlkebjkpmiehcaa.Ms
open Go.RowKit Go.Proofs.YtlkebjkpmiehcaaW.PrintWords Go.Proofs.YtlkebjkpmiehcaaW.PrintLast Go.Proofs.YtlkebjkpmiehcaaW.PrintMore Go.Proofs.Ytlkebjkpmiehcaa.X
set_option linter.unusedVariables false
def Wt (lo : Nat) (W : World) (g : Nat) (s : ByteArray) (b : Bool) : Prop :=
 ∃ v,W.heap[g]? = some (.cells #[v,.bool b] 83 (0,0)) ∧ lo ≤ g ∧ W.ownsRow lo 5 1 v s.size (Lib.strCells s)
structure Fr (lo g : Nat) (w w' : World) : Prop where
 below : Below lo w w'
 keep : ∀ k cs t,w.heap[k]? = some (.cells cs t (0,0)) → k ≠ g → t ≠ 5 → w'.heap[k]? = some (.cells cs t (0,0))
theorem Fr.refl (lo g : Nat) (w : World) : Fr lo g w w := ⟨Below.refl _ _,fun _ _ _ h _ _ => h⟩
theorem Fr.trans {lo g : Nat} {a b c : World} (h : Fr lo g a b) (k : Fr lo g b c) : Fr lo g a c := ⟨h.below.trans k.below,fun i cs t hi hg ht => k.keep i cs t (h.keep i cs t hi hg ht) hg ht⟩
theorem Fr.of_below {lo g : Nat} {w w' : World} (hl : lo ≤ w.heap.size) (h : Below w.heap.size w w') : Fr lo g w w' := ⟨h.mono hl,fun k cs t hk _ _ => (h.block k (blk_lt hk)).trans hk⟩
theorem Fr.of_keep {lo g : Nat} {w w' : World} (h : Below lo w w') (k : KeepBut w w' g none) : Fr lo g w w' := ⟨h,fun i cs t hi hg _ => (k.2 i (blk_lt hi) hg (by simp)).trans hi⟩
theorem Fr.blk {lo g : Nat} {w w' : World} (h : Fr lo g w w') {k : Nat} {cs : Array Value} {t : TypeId} (hk : w.heap[k]? = some (.cells cs t (0,0))) (hg : k ≠ g) (ht : t ≠ 5) : w'.heap[k]? = some (.cells cs t (0,0)) := h.keep k cs t hk hg ht
theorem Wt.lt {lo g : Nat} {W : World} {s : ByteArray} {b : Bool} (h : Wt lo W g s b) : lo ≤ g ∧ g < W.heap.size := by
 obtain ⟨v,h1,h2,h3⟩ := h
 exact ⟨h2,blk_lt h1⟩
theorem Wt.size {lo g : Nat} {W : World} {s : ByteArray} {b : Bool} (h : Wt lo W g s b) : lo ≤ W.heap.size := Nat.le_of_lt (Nat.lt_of_le_of_lt h.lt.1 h.lt.2)
theorem Wt.below {lo g : Nat} {W W' : World} {s : ByteArray} {b : Bool} (h : Wt lo W g s b) (hb : Below W.heap.size W W') : Wt lo W' g s b := by
 obtain ⟨v,h1,h2,h3⟩ := h
 exact ⟨v,(hb.block g (blk_lt h1)).trans h1,h2,h3.kept (grown_of_below hb none) (by cases v.ownBlock <;> simp)⟩
theorem row_ne {lo g : Nat} {W : World} {v : Value} {cs : Array Value} {t : TypeId} {n : Nat} {xs : List Value} (ht5 : t ≠ 5) (h1 : W.heap[g]? = some (.cells cs t (0,0))) (h3 : W.ownsRow lo 5 1 v n xs) : some g ≠ v.ownBlock := by
 rcases h3.2 with ⟨rfl,_⟩ | ⟨k,cap,cur,rfl,_,hh,_⟩
 ·simp [Value.ownBlock]
 ·intro e
  have e' : g = k := by simpa [Value.ownBlock] using e
  subst e'
  rw [h1] at hh
  injection hh with hh
  injection hh with _ ht
  exact ht5 ht
theorem Wt.row {lo g : Nat} {W : World} {v : Value} {b : Bool} {n : Nat} {xs : List Value} (h1 : W.heap[g]? = some (.cells #[v,.bool b] 83 (0,0))) (h3 : W.ownsRow lo 5 1 v n xs) : some g ≠ v.ownBlock := row_ne (by decide) h1 h3
theorem cell0 {w : World} {g : Nat} {v : Value} {b : Bool} (h : w.heap[g]? = some (.cells #[v,.bool b] 83 (0,0))) : w.cell? ⟨g,0,none⟩ = some v := (blk_cell h 0).trans rfl
theorem cell1 {w : World} {g : Nat} {v : Value} {b : Bool} (h : w.heap[g]? = some (.cells #[v,.bool b] 83 (0,0))) : w.cell? ⟨g,1,none⟩ = some (.bool b) := (blk_cell h 1).trans rfl
theorem Wt.bad {lo g : Nat} {W : World} {s : ByteArray} {b : Bool} (h : Wt lo W g s b) (b' : Bool) : Wt lo (W.setCell ⟨g,1,none⟩ (.bool b')) g s b' := by
 obtain ⟨v,h1,h2,h3⟩ := h
 exact ⟨v,blk_set h1 1 _,h2,own_setCell h3 (Wt.row h1 h3) _⟩
theorem keep_store {lo g : Nat} {w : World} (hl : lo ≤ g) (i : Nat) (u : Value) : Below lo w (w.setCell ⟨g,i,none⟩ u) ∧ KeepBut w (w.setCell ⟨g,i,none⟩ u) g none := ⟨(Below.refl lo w).setCell hl u,(KeepBut.refl w g none).set_ i u⟩
set_option maxRecDepth 100000 in
set_option maxHeartbeats 8000000 in
theorem need_calls (lo g : Nat) (s : ByteArray) (b is : Bool) (w : World) (h : Wt lo w g s b) :
  Calls Try.prog 61 #[.pointer (some ⟨g,0,none⟩),.bool is] w fun e w' => e = .returned (.tuple #[]) ∧ Wt lo w' g s (b || !is) ∧ Below lo w w' ∧ KeepBut w w' g none := by
 have HW := Aq.mk h
 obtain ⟨v,h1,h2,h3⟩ := h
 have hc := cell1 h1
 have hf := blk_frozen h1 1
 clear h1 h3
 cases b
 ·cases is
  all_goals
   go_enter Try.func61,Try.ntmps61
   go_wp2
   first | go_end0 | ((try simp only [Exit.inBlock,Exit.then]); refine bodyPost_ret (results_none rfl _ _ _) rfl ?_)
   exact ⟨rfl,HW.out.bad _,keep_store h2 1 _⟩
 ·go_enter Try.func61,Try.ntmps61
  go_wp2
  first | go_end0 | ((try simp only [Exit.inBlock,Exit.then]); refine bodyPost_ret (results_none rfl _ _ _) rfl ?_)
  exact ⟨rfl,HW.out.bad _,keep_store h2 1 _⟩
structure Mid (lo g : Nat) (w : World) (s : ByteArray) (b : Bool) (v : Value) : Prop where
 row : ∃ v0,w.heap[g]? = some (.cells #[v0,.bool b] 83 (0,0))
 ge : lo ≤ g
 own : w.ownsRow lo 5 1 v s.size (Lib.strCells s)
theorem strCells_append (a b : ByteArray) : Lib.strCells (a ++ b) = Lib.strCells a ++ Lib.strCells b := by
 simp [Lib.strCells,ByteArray.data_append]
theorem app_bytes {ops : Array Oper} {rest : List Oper} {o : Oper} {a : Act} {Q : Exit → Act → World → Prop} {w : World} (hgd : o.guard = none) (sl x : Operand)
  (ho : o.op = .call { callee := .builtin .append,args := #[sl,x],argTypes := #[39,9] }) (lo g : Nat) (s t : ByteArray) (b : Bool) (v : Value)
  (hs : a.eval sl = v) (hx : a.eval x = .string t) (h1 : w.heap[g]? = some (.cells #[v,.bool b] 83 (0,0))) (h2 : lo ≤ g) (h3 : w.ownsRow lo 5 1 v s.size (Lib.strCells s)) (hn : s.size + t.size ≤ 140737488355328)
  (H : ∀ v' w',Mid lo g w' (s ++ t) b v' → Fr lo g w w' → wpList Try.prog ops Q rest (a.put o.dst v') w') : wpList Try.prog ops Q (o :: rest) a w := by
 have hinfo := info5
 obtain ⟨i0,hi,hzz⟩ := Option.map_eq_some_iff.1 hinfo
 simp only [Prod.mk.injEq] at hzz
 obtain ⟨hz0,hz1,hz2⟩ := hzz
 refine Lib.wpList_append_own_string w hgd sl x 39 9 ho lo 5 i0 Try.underlying39 (by kernel_rfl) hi hz0 hz1 hz2 v s.size (Lib.strCells s) hs h3 t hx (by simp only [maxLen]; omega) hn (by have := blk_lt h1; omega) ?_
 intro v1 w1 hown hg _
 have hz : s.size + t.size = (s ++ t).size := by rw [ByteArray.size_append]
 refine H v1 w1 ⟨⟨v,blk_grown h1 hg (Wt.row h1 h3)⟩,h2,by rw [strCells_append,← hz]; exact hown⟩ ⟨(Below.refl lo w).grown hg (by have := blk_lt h1; omega) (fun k hk => (h3.lt k hk).1),fun k cs ty hk hgk hty => blk_grown hk hg ?_⟩
 exact row_ne hty hk h3
theorem Mid.store {lo g : Nat} {w : World} {s : ByteArray} {b : Bool} {v : Value} (h : Mid lo g w s b v) : Wt lo (w.setCell ⟨g,0,none⟩ v) g s b := by
 obtain ⟨v0,h1⟩ := h.row
 have h4 : some g ≠ v.ownBlock := row_ne (by decide) h1 h.own
 exact ⟨v,blk_set h1 0 v,h.ge,own_setCell h.own h4 _⟩
set_option maxRecDepth 100000 in
set_option maxHeartbeats 8000000 in
theorem num_calls (lo g : Nat) (s t : ByteArray) (b : Bool) (x size e : Int) (w : World) (h : Wt lo w g s b) (hf : wire_Put.f x size = some (t,e)) (hn : s.size + t.size ≤ 140737488355328) :
  Calls Try.prog 60 #[.pointer (some ⟨g,0,none⟩),.int .i64 x,.int .i64 size] w fun ex w' => ex = .returned (.tuple #[]) ∧ Wt lo w' g (s ++ t) (b || !(e == 0)) ∧ Fr lo g w w' := by
 have HW := Aq.mk h
 have HF := Aq.mk hf
 have HN := Aq.mk hn
 clear h hf hn
 go_enter Try.func60,Try.ntmps60
 go_wp2_with (first
  | (go_at_call 39; (with_reducible refine (wire_Put.calls x size t e _ HF.out).mono ?_); rintro e1 w1 ⟨rfl,b1⟩; have HW1 := Aq.mk (HW.out.below b1); have HR1 := Aq.mk (Fr.of_below (g := g) HW.out.size b1); clear b1)
  | (go_at_call 61; (with_reducible refine (need_calls lo g s b (e == 0) _ HW1.out).mono ?_); rintro e2 w2 ⟨rfl,i2,b2,k2⟩; have HR2 := Aq.mk (HR1.out.trans (Fr.of_keep b2 k2)); obtain ⟨v,h1,h2,h3⟩ := i2; obtain ⟨A,c,rfl⟩ := own_slice h3; have HB2 := Aq.mk h1; have HO2 := Aq.mk h3; have HL := Aq.mk h2; have hc := cell0 h1; clear h1 h2 h3 b2 k2)
  | ((with_reducible refine gate_builtin (b := .append) (xs := #[.tmp 22,.tmp 23]) rfl ?_); at_builtin; refine app_bytes rfl _ _ rfl lo g s t _ _ rfl rfl HB2.out HL.out HO2.out HN.out ?_; intro v3 w3 m3 f3; obtain ⟨A3,c3,rfl⟩ := own_slice m3.own; have HM3 := Aq.mk m3; have HR3 := Aq.mk (HR2.out.trans f3); obtain ⟨v4,h4⟩ := m3.row; have hz := blk_frozen h4 0; have hc4 := cell0 h4; clear f3 h4 m3))
 first | go_end0 | ((try simp only [Exit.inBlock,Exit.then]); refine bodyPost_ret (results_none rfl _ _ _) rfl ?_)
 exact ⟨rfl,by have h5 := HM3.out.store; simp only [ByteArray.size_append] at h5; exact h5,HR3.out.trans (Fr.of_keep (keep_store HL.out 0 _).1 (keep_store HL.out 0 _).2)⟩
def vecOk (v : ByteArray) (e least most : Int) : Bool := e == 0 && decide (least ≤ v.size) && decide ((v.size : Int) ≤ most)
set_option maxRecDepth 100000 in
set_option maxHeartbeats 8000000 in
theorem vec_calls (lo g : Nat) (s v t : ByteArray) (b : Bool) (size least most e : Int) (w : World) (h : Wt lo w g s b) (hf : wire_PutVec.f v size = some (t,e)) (hn : s.size + t.size ≤ 140737488355328) :
  Calls Try.prog 57 #[.pointer (some ⟨g,0,none⟩),.string v,.int .i64 size,.int .i64 least,.int .i64 most] w fun ex w' => ex = .returned (.tuple #[]) ∧ Wt lo w' g (s ++ t) (b || !(vecOk v e least most)) ∧ Fr lo g w w' := by
 have HW := Aq.mk h
 have HF := Aq.mk hf
 have HN := Aq.mk hn
 obtain ⟨ok,hok⟩ : ∃ ok,vecOk v e least most = ok := ⟨_,rfl⟩
 rw [hok]
 have HK := Aq.mk hok
 unfold vecOk at hok
 clear h hf hn
 by_cases c1 : (e == 0) = true
 ·by_cases c2 : least ≤ v.size
  ·have c2' := decide_eq_true c2
   by_cases c3 : (v.size : Int) ≤ most
   ·have c3' := decide_eq_true c3
    obtain rfl : ok = true := by rw [← hok,c1,c2',c3']; rfl
    clear hok c2 c3
    go_enter Try.func57,Try.ntmps57
    go_wp2_with (first
     | (go_at_call 40; (with_reducible refine (wire_PutVec.calls v size t e _ HF.out).mono ?_); rintro e1 w1 ⟨rfl,b1⟩; have HW1 := Aq.mk (HW.out.below b1); have HR1 := Aq.mk (Fr.of_below (g := g) HW.out.size b1); clear b1)
     | (go_at_call 61; (with_reducible refine (need_calls lo g s b true _ HW1.out).mono ?_); rintro e2 w2 ⟨rfl,i2,b2,k2⟩; have HR2 := Aq.mk (HR1.out.trans (Fr.of_keep b2 k2)); obtain ⟨v0,h1,h2,h3⟩ := i2; obtain ⟨A,c,rfl⟩ := own_slice h3; have HB2 := Aq.mk h1; have HO2 := Aq.mk h3; have HL := Aq.mk h2; have hc := cell0 h1; clear h1 h2 h3 b2 k2)
     | ((with_reducible refine gate_builtin (b := .append) (xs := #[.tmp 38,.tmp 39]) rfl ?_); at_builtin; refine app_bytes rfl _ _ rfl lo g s t _ _ rfl rfl HB2.out HL.out HO2.out HN.out ?_; intro v3 w3 m3 f3; obtain ⟨A3,c3,rfl⟩ := own_slice m3.own; have HM3 := Aq.mk m3; have HR3 := Aq.mk (HR2.out.trans f3); obtain ⟨v4,h4⟩ := m3.row; have hz := blk_frozen h4 0; have hc4 := cell0 h4; clear f3 h4 m3))
    first | go_end0 | ((try simp only [Exit.inBlock,Exit.then]); refine bodyPost_ret (results_none rfl _ _ _) rfl ?_)
    exact ⟨rfl,by have h5 := HM3.out.store; simp only [ByteArray.size_append] at h5; exact h5,HR3.out.trans (Fr.of_keep (keep_store HL.out 0 _).1 (keep_store HL.out 0 _).2)⟩
   ·have c3' := decide_eq_false c3
    obtain rfl : ok = false := by rw [← hok,c1,c2',c3']; rfl
    clear hok c2 c3
    go_enter Try.func57,Try.ntmps57
    go_wp2_with (first
     | (go_at_call 40; (with_reducible refine (wire_PutVec.calls v size t e _ HF.out).mono ?_); rintro e1 w1 ⟨rfl,b1⟩; have HW1 := Aq.mk (HW.out.below b1); have HR1 := Aq.mk (Fr.of_below (g := g) HW.out.size b1); clear b1)
     | (go_at_call 61; (with_reducible refine (need_calls lo g s b false _ HW1.out).mono ?_); rintro e2 w2 ⟨rfl,i2,b2,k2⟩; have HR2 := Aq.mk (HR1.out.trans (Fr.of_keep b2 k2)); obtain ⟨v0,h1,h2,h3⟩ := i2; obtain ⟨A,c,rfl⟩ := own_slice h3; have HB2 := Aq.mk h1; have HO2 := Aq.mk h3; have HL := Aq.mk h2; have hc := cell0 h1; clear h1 h2 h3 b2 k2)
     | ((with_reducible refine gate_builtin (b := .append) (xs := #[.tmp 38,.tmp 39]) rfl ?_); at_builtin; refine app_bytes rfl _ _ rfl lo g s t _ _ rfl rfl HB2.out HL.out HO2.out HN.out ?_; intro v3 w3 m3 f3; obtain ⟨A3,c3,rfl⟩ := own_slice m3.own; have HM3 := Aq.mk m3; have HR3 := Aq.mk (HR2.out.trans f3); obtain ⟨v4,h4⟩ := m3.row; have hz := blk_frozen h4 0; have hc4 := cell0 h4; clear f3 h4 m3))
    first | go_end0 | ((try simp only [Exit.inBlock,Exit.then]); refine bodyPost_ret (results_none rfl _ _ _) rfl ?_)
    exact ⟨rfl,by have h5 := HM3.out.store; simp only [ByteArray.size_append] at h5; exact h5,HR3.out.trans (Fr.of_keep (keep_store HL.out 0 _).1 (keep_store HL.out 0 _).2)⟩
  ·have c2' := decide_eq_false c2
   obtain rfl : ok = false := by rw [← hok,c1,c2']; rfl
   clear hok c2
   go_enter Try.func57,Try.ntmps57
   go_wp2_with (first
    | (go_at_call 40; (with_reducible refine (wire_PutVec.calls v size t e _ HF.out).mono ?_); rintro e1 w1 ⟨rfl,b1⟩; have HW1 := Aq.mk (HW.out.below b1); have HR1 := Aq.mk (Fr.of_below (g := g) HW.out.size b1); clear b1)
    | (go_at_call 61; (with_reducible refine (need_calls lo g s b false _ HW1.out).mono ?_); rintro e2 w2 ⟨rfl,i2,b2,k2⟩; have HR2 := Aq.mk (HR1.out.trans (Fr.of_keep b2 k2)); obtain ⟨v0,h1,h2,h3⟩ := i2; obtain ⟨A,c,rfl⟩ := own_slice h3; have HB2 := Aq.mk h1; have HO2 := Aq.mk h3; have HL := Aq.mk h2; have hc := cell0 h1; clear h1 h2 h3 b2 k2)
    | ((with_reducible refine gate_builtin (b := .append) (xs := #[.tmp 38,.tmp 39]) rfl ?_); at_builtin; refine app_bytes rfl _ _ rfl lo g s t _ _ rfl rfl HB2.out HL.out HO2.out HN.out ?_; intro v3 w3 m3 f3; obtain ⟨A3,c3,rfl⟩ := own_slice m3.own; have HM3 := Aq.mk m3; have HR3 := Aq.mk (HR2.out.trans f3); obtain ⟨v4,h4⟩ := m3.row; have hz := blk_frozen h4 0; have hc4 := cell0 h4; clear f3 h4 m3))
   first | go_end0 | ((try simp only [Exit.inBlock,Exit.then]); refine bodyPost_ret (results_none rfl _ _ _) rfl ?_)
   exact ⟨rfl,by have h5 := HM3.out.store; simp only [ByteArray.size_append] at h5; exact h5,HR3.out.trans (Fr.of_keep (keep_store HL.out 0 _).1 (keep_store HL.out 0 _).2)⟩
 ·rw [Bool.not_eq_true] at c1
  obtain rfl : ok = false := by rw [← hok,c1]; rfl
  clear hok
  go_enter Try.func57,Try.ntmps57
  go_wp2_with (first
   | (go_at_call 40; (with_reducible refine (wire_PutVec.calls v size t e _ HF.out).mono ?_); rintro e1 w1 ⟨rfl,b1⟩; have HW1 := Aq.mk (HW.out.below b1); have HR1 := Aq.mk (Fr.of_below (g := g) HW.out.size b1); clear b1)
   | (go_at_call 61; (with_reducible refine (need_calls lo g s b false _ HW1.out).mono ?_); rintro e2 w2 ⟨rfl,i2,b2,k2⟩; have HR2 := Aq.mk (HR1.out.trans (Fr.of_keep b2 k2)); obtain ⟨v0,h1,h2,h3⟩ := i2; obtain ⟨A,c,rfl⟩ := own_slice h3; have HB2 := Aq.mk h1; have HO2 := Aq.mk h3; have HL := Aq.mk h2; have hc := cell0 h1; clear h1 h2 h3 b2 k2)
   | ((with_reducible refine gate_builtin (b := .append) (xs := #[.tmp 38,.tmp 39]) rfl ?_); at_builtin; refine app_bytes rfl _ _ rfl lo g s t _ _ rfl rfl HB2.out HL.out HO2.out HN.out ?_; intro v3 w3 m3 f3; obtain ⟨A3,c3,rfl⟩ := own_slice m3.own; have HM3 := Aq.mk m3; have HR3 := Aq.mk (HR2.out.trans f3); obtain ⟨v4,h4⟩ := m3.row; have hz := blk_frozen h4 0; have hc4 := cell0 h4; clear f3 h4 m3))
  first | go_end0 | ((try simp only [Exit.inBlock,Exit.then]); refine bodyPost_ret (results_none rfl _ _ _) rfl ?_)
  exact ⟨rfl,by have h5 := HM3.out.store; simp only [ByteArray.size_append] at h5; exact h5,HR3.out.trans (Fr.of_keep (keep_store HL.out 0 _).1 (keep_store HL.out 0 _).2)⟩
theorem built83 : Try.prog.built 83 [] = some #[.slice none 0 0,.bool false] := by kernel_rfl
theorem build83 {ops : Array Oper} {rest : List Oper} {o : Oper} {a : Act} {Q : Exit → Act → World → Prop} {w : World} (hgd : o.guard = none) (ho : o.op = .build 83 #[])
  (H : wpList Try.prog ops Q rest (a.put o.dst (.agg #[.slice none 0 0,.bool false])) w) : wpList Try.prog ops Q (o :: rest) a w := by
 refine wpList_plain hgd fun K hK => ?_
 unfold Oper.wp execOp
 have hr := run_build (P := Try.prog) w 83 #[] _ built83
 have he : (#[] : Array (Nat × Operand)).map (fun x => (x.fst,a.eval x.snd)) = #[] := by simp
 simp only [ho,Sem.run_bind]
 rw [he,hr]
 exact hK _ _ H
theorem box83 {ops : Array Oper} {rest : List Oper} {o : Oper} {a : Act} {Q : Exit → Act → World → Prop} {w : World} (hgd : o.guard = none) (x : Operand) (ho : o.op = .box 83 x) (hx : a.eval x = .agg #[.slice none 0 0,.bool false])
  (H : ∀ g,g = w.heap.size → ∀ w1,Wt w.heap.size w1 g ByteArray.empty false → Below w.heap.size w w1 → wpList Try.prog ops Q rest (a.put o.dst (.pointer (some ⟨g,0,none⟩))) w1) : wpList Try.prog ops Q (o :: rest) a w := by
 refine Kd.event_run hgd ?_ (H _ rfl _ ⟨.slice none 0 0,blk_new w _,Nat.le_refl _,World.ownsRow_nil _ _ _ _⟩ (below_alloc (Below.refl _ _) _))
 unfold execOp
 simp only [ho,hx]
 rfl
theorem own_bytes {W : World} {lo n : Nat} {v : Value} {s : ByteArray} (h : W.ownsRow lo 5 1 v n (Lib.strCells s)) : (convert 39 9 v).run Try.prog W = .ok (.string s) W := by
 have h2 : W.ownsRow lo 5 1 v n (nums .u8 (bytesOf s)) := by
  have : nums .u8 (bytesOf s) = Lib.strCells s := by simp [nums,bytesOf,Lib.strCells]
  rw [this]
  exact h
 rw [own_string Try.underlying39 (by kernel_rfl) (by kernel_rfl) h2]
 congr 2
 unfold strOfNums bytesOf
 congr 1
 have hid : ((fun n : Int => UInt8.ofNat n.toNat) ∘ fun b : UInt8 => (b.toNat : Int)) = id := by
  funext b
  simp
 rw [List.map_map,hid,List.map_id]
abbrev Writes (k : Nat) (cap : Array Value) (w : World) (u : ByteArray) (bu : Bool) : Prop :=
 ∀ w1 g1,Below w.heap.size w w1 → Wt w.heap.size w1 g1 ByteArray.empty false →
  Calls Try.prog k (#[.pointer (some ⟨g1,0,none⟩)] ++ cap) w1 fun ex w' => ex = .returned (.tuple #[]) ∧ Wt w.heap.size w' g1 u bu ∧ Fr w.heap.size g1 w1 w'
set_option maxRecDepth 100000 in
set_option maxHeartbeats 8000000 in
theorem within_calls (lo g k : Nat) (cap : Array Value) (s u t : ByteArray) (b bu : Bool) (size e : Int) (w : World) (h : Wt lo w g s b)
  (eg : ∀ args w,(callFunc k args).run Try.prog w = .ok (.enter k args) w) (hw : Writes k cap w u bu) (hf : wire_PutVec.f u size = some (t,e)) (hn : s.size + t.size ≤ 140737488355328) :
  Calls Try.prog 58 #[.pointer (some ⟨g,0,none⟩),.int .i64 size,.func (.func k) #[] cap] w fun ex w' => ex = .returned (.tuple #[]) ∧ Wt lo w' g (s ++ t) ((b || !(!bu)) || !(vecOk u e 0 16777216)) ∧ Fr lo g w w' := by
 have HW := Aq.mk h
 have HF := Aq.mk hf
 have HN := Aq.mk hn
 have HC := Aq.mk hw
 clear h hf hn hw
 go_enter Try.func58,Try.ntmps58
 go_wp2_with (first
  | ((with_reducible refine gate_dst (N := 7) rfl ?_); refine build83 rfl rfl ?_)
  | ((with_reducible refine gate_dst (N := 8) rfl ?_); refine box83 rfl _ rfl rfl ?_; intro g1 eg1 w1 i1 b1; have HE1 := Aq.mk eg1; have HI1 := Aq.mk i1; have HB1 := Aq.mk b1; clear i1 b1 eg1)
  | ((refine (HC.out _ _ HB1.out HI1.out).mono ?_); rintro e2 w2 ⟨rfl,i2,f2⟩; have HB2 := Aq.mk (HB1.out.trans f2.below); have HW2 := Aq.mk (HW.out.below HB2.out); have HR2 := Aq.mk (Fr.of_below (g := g) HW.out.size HB2.out); have HI2 := Aq.mk i2; obtain ⟨v2,h2,l2,o2⟩ := i2; have hc := cell1 h2; clear h2 l2 o2 f2)
  | (go_at_call 61; (with_reducible refine (need_calls lo g s b (!bu) _ HW2.out).mono ?_); rintro e3 w3 ⟨rfl,i3,b3,k3⟩; have HR3 := Aq.mk (HR2.out.trans (Fr.of_keep b3 k3)); have HW3 := Aq.mk i3; obtain ⟨v3,h2,l2,o2⟩ := HI2.out; have h3 := (k3.2 g1 (blk_lt h2) (by have := HW.out.lt; have := HE1.out; omega) (by simp)).trans h2; have o3 := o2.kept (row := some g) ⟨b3.os,b3.tape,b3.output,k3.1,fun i hi hg => k3.2 i hi (by simpa using hg) (by simp)⟩ (by rcases o2.lt with hl; cases hv : v3.ownBlock with | none => exact .inl rfl | some q => exact .inr (by intro e; injection e with e; have := (hl q hv).1; have := HW.out.lt; omega)); obtain ⟨A,c,rfl⟩ := own_slice o3; have hc0 := cell0 h3; have hcv := own_bytes o3; clear h2 l2 o2 h3 o3 i3 b3 k3)
  | (go_at_call 57; (with_reducible refine (vec_calls lo g s u t _ size 0 16777216 e _ HW3.out HF.out HN.out).mono ?_); rintro e4 w4 ⟨rfl,i4,f4⟩; have HW4 := Aq.mk i4; have HR4 := Aq.mk (HR3.out.trans f4); clear i4 f4))
 first | go_end0 | ((try simp only [Exit.inBlock,Exit.then]); refine bodyPost_ret (results_none rfl _ _ _) rfl ?_)
 exact ⟨rfl,HW4.out,HR4.out⟩
section
variable {ops : Array Oper} {rest : List Oper} {o : Oper} {a : Act} {Q : Exit → Act → World → Prop} {w : World}
theorem isAgg_no {ty : TypeId} {d : TypeDesc} (hu : Try.prog.underlying ty = some d) (hd : (match d with | .struct _ | .array _ _ => true | _ => false) = false) (w : World) : (isAgg ty).run Try.prog w = .ok false w := by
 unfold isAgg
 rw [Sem.run_bind,run_underlying hu w]
 cases d <;> simp_all
theorem ld {ty : TypeId} {x : Operand} (hgd : o.guard = none) (ho : o.op = .load ty x) {g i : Nat} (hx : a.eval x = .pointer (some ⟨g,i,none⟩)) {cs : Array Value} {t : TypeId} (h : w.heap[g]? = some (.cells cs t (0,0)))
  {d : TypeDesc} (hu : Try.prog.underlying ty = some d) (hd : (match d with | .struct _ | .array _ _ => true | _ => false) = false) {v : Value} (hv : cs[i]? = some v) (H : wpList Try.prog ops Q rest (a.put o.dst v) w) : wpList Try.prog ops Q (o :: rest) a w := by
 refine Kd.event_run hgd ?_ H
 have hc : w.cell? ⟨g,i,none⟩ = some v := by rw [blk_cell h i]; exact hv
 unfold execOp
 simp [ho,hx,Instr.loadAt,Instr.sureAddr,Sem.run_bind,loadVar,isAgg_no hu hd,load,Sem.run,hc]
theorem st {ty : TypeId} {p x : Operand} (hgd : o.guard = none) (ho : o.op = .store ty p x) {g i : Nat} (hp : a.eval p = .pointer (some ⟨g,i,none⟩)) {cs : Array Value} {t : TypeId} (h : w.heap[g]? = some (.cells cs t (0,0)))
  (hs : (Try.prog.info? ty).map (·.size) = some 1) {v : Value} (hx : a.eval x = v) (hv : v.cells = #[v]) (h1 : v.oneCell' = true) (hi : i < cs.size)
  (H : ∀ w1,w1.heap[g]? = some (.cells (cs.setIfInBounds i v) t (0,0)) → (∀ lo,lo ≤ g → Below lo w w1) → KeepBut w w1 g none → wpList Try.prog ops Q rest (a.put o.dst undef) w1) : wpList Try.prog ops Q (o :: rest) a w := by
 refine wpList_plain hgd fun K hK => ?_
 have hc : w.cell? ⟨g,i,none⟩ = some cs[i] := by rw [blk_cell h i]; exact Array.getElem?_eq_getElem hi
 have hst : (store ⟨g,i,none⟩ v).run Try.prog w = .ok () (w.setCell ⟨g,i,none⟩ v) := by
  rw [run_store _ _ _ _ _ h1]
  simp [stored,hc,blk_frozen h i]
 obtain ⟨i0,hi0,hz⟩ := Option.map_eq_some_iff.1 hs
 unfold Oper.wp execOp
 simp only [ho,hp,hx,Instr.storeAt,Instr.sureAddr,Sem.run_bind,Sem.run_pure,Result.andThen_ok]
 have hsv : (storeVar ty ⟨g,i,none⟩ v).run Try.prog w = .ok () (w.setCell ⟨g,i,none⟩ v) := by
  have ha : (⟨g,i,none⟩ : Addr).add 0 = ⟨g,i,none⟩ := by simp [Addr.add]
  simp [storeVar,sizeOf,typeInfo,hi0,hz,hv,storeCells,ha,hst,Sem.run_bind]
 rw [hsv]
 exact hK _ _ (H (w.setCell ⟨g,i,none⟩ v) (blk_set h i v) (fun lo hl => (keep_store hl i v).1) ((keep_store (Nat.le_refl g) i v).2))
end
end Go.Proofs.Ytlkebjkpmiehcaa.Ms
end
section
namespace Go.Proofs.Ytlkebjkpmiehcaa.Ms
open Go.RowKit Go.Proofs.YtlkebjkpmiehcaaW.PrintWords Go.Proofs.YtlkebjkpmiehcaaW.PrintLast Go.Proofs.YtlkebjkpmiehcaaW.PrintMore Go.Proofs.Ytlkebjkpmiehcaa.X
set_option linter.unusedVariables false
structure Rs (W : World) (r f : Nat) (s : ByteArray) (p code : Int) (tw last : Bool) : Prop where
 rd : W.heap[r]? = some (.cells #[.string s,.int .i64 p,.pointer (some ⟨f,0,none⟩),.bool last] 92 (0,0))
 ft : W.heap[f]? = some (.cells #[.int .i64 code,.bool tw] 90 (0,0))
structure Kf (lo r f : Nat) (w w' : World) : Prop where
 below : Below lo w w'
 keep : ∀ k o,w.heap[k]? = some o → k ≠ r → k ≠ f → w'.heap[k]? = some o
theorem Kf.refl (lo r f : Nat) (w : World) : Kf lo r f w w := ⟨Below.refl _ _,fun _ _ h _ _ => h⟩
theorem Kf.trans {lo r f : Nat} {a b c : World} (h : Kf lo r f a b) (k : Kf lo r f b c) : Kf lo r f a c := ⟨h.below.trans k.below,fun i o hi hr hf => k.keep i o (h.keep i o hi hr hf) hr hf⟩
theorem Kf.of_below {lo r f : Nat} {w w' : World} (hl : lo ≤ w.heap.size) (h : Below w.heap.size w w') : Kf lo r f w w' := ⟨h.mono hl,fun k o hk _ _ => (h.block k (blk_lt hk)).trans hk⟩
theorem Kf.of_keep {lo r f g : Nat} {w w' : World} (hg : g = r ∨ g = f) (h : Below lo w w') (k : KeepBut w w' g none) : Kf lo r f w w' := ⟨h,fun i o hi hr hf => (k.2 i (blk_lt hi) (by rcases hg with rfl | rfl <;> assumption) (by simp)).trans hi⟩
theorem Rs.ne {W : World} {r f : Nat} {s : ByteArray} {p code : Int} {tw last : Bool} (h : Rs W r f s p code tw last) : r ≠ f := blk_ne h.rd h.ft (by decide)
theorem Rs.below {W W' : World} {r f : Nat} {s : ByteArray} {p code : Int} {tw last : Bool} (h : Rs W r f s p code tw last) (b : Below W.heap.size W W') : Rs W' r f s p code tw last := ⟨(b.block r (blk_lt h.rd)).trans h.rd,(b.block f (blk_lt h.ft)).trans h.ft⟩
def bad (code e : Int) : Int := if code = 0 then e else code
theorem sz23 : (Try.prog.info? 23).map (·.size) = some 1 := by kernel_rfl
set_option maxRecDepth 100000 in
set_option maxHeartbeats 8000000 in
theorem fail_calls (lo r f : Nat) (s : ByteArray) (p code e : Int) (tw last : Bool) (w : World) (hl : lo ≤ f) (h : Rs w r f s p code tw last) :
  Calls Try.prog 50 #[.pointer (some ⟨r,0,none⟩),.int .i64 e] w fun ex w' => ex = .returned (.tuple #[]) ∧ Rs w' r f s p (bad code e) tw last ∧ Kf lo r f w w' := by
 have H := Aq.mk h
 have HL := Aq.mk hl
 clear h hl
 by_cases c : code = 0
 ·have c0 : (code == 0) = true := beq_iff_eq.mpr c
  rw [show bad code e = e from if_pos c]
  clear c
  go_enter Try.func50,Try.ntmps50
  go_wp2_with (first
   | ((with_reducible refine gate_dst (N := 7) rfl ?_); refine ld (v := .pointer (some ⟨f,0,none⟩)) rfl rfl rfl H.out.rd Try.underlying88 rfl rfl ?_)
   | ((with_reducible refine gate_dst (N := 10) rfl ?_); refine ld (v := .int .i64 code) rfl rfl rfl H.out.ft Try.underlying23 rfl rfl ?_)
   | ((with_reducible refine gate_dst (N := 15) rfl ?_); refine ld (v := .pointer (some ⟨f,0,none⟩)) rfl rfl rfl H.out.rd Try.underlying88 rfl rfl ?_)
   | ((with_reducible refine gate_store (p := 18) rfl ?_); refine st (v := .int .i64 e) rfl rfl rfl H.out.ft sz23 rfl rfl rfl (by simp) ?_; intro w3 h3 b3 k3; have H3 := Aq.mk (Rs.mk ((k3.2 r (blk_lt H.out.rd) H.out.ne (by simp)).trans H.out.rd) h3); have K3 := Aq.mk (Kf.of_keep (r := r) (.inr rfl) (b3 _ HL.out) k3); clear h3 b3 k3))
  first | go_end0 | ((try simp only [Exit.inBlock,Exit.then]); refine bodyPost_ret (results_none rfl _ _ _) rfl ?_)
  exact ⟨rfl,H3.out,K3.out⟩
 ·have c0 : (code == 0) = false := beq_eq_false_iff_ne.mpr c
  rw [show bad code e = code from if_neg c]
  clear c
  go_enter Try.func50,Try.ntmps50
  go_wp2_with (first
   | ((with_reducible refine gate_dst (N := 7) rfl ?_); refine ld (v := .pointer (some ⟨f,0,none⟩)) rfl rfl rfl H.out.rd Try.underlying88 rfl rfl ?_)
   | ((with_reducible refine gate_dst (N := 10) rfl ?_); refine ld (v := .int .i64 code) rfl rfl rfl H.out.ft Try.underlying23 rfl rfl ?_))
  first | go_end0 | ((try simp only [Exit.inBlock,Exit.then]); refine bodyPost_ret (results_none rfl _ _ _) rfl ?_)
  exact ⟨rfl,H.out,Kf.refl _ _ _ _⟩
set_option maxRecDepth 100000 in
set_option maxHeartbeats 8000000 in
theorem ok_calls (lo r f : Nat) (s : ByteArray) (p code : Int) (tw last : Bool) (w : World) (h : Rs w r f s p code tw last) :
  Calls Try.prog 51 #[.pointer (some ⟨r,0,none⟩)] w fun ex w' => ex = .returned (.bool (code == 0)) ∧ w' = w := by
 have H := Aq.mk h
 clear h
 go_enter Try.func51,Try.ntmps51
 go_wp2_with (first
  | ((with_reducible refine gate_dst (N := 6) rfl ?_); refine ld (v := .pointer (some ⟨f,0,none⟩)) rfl rfl rfl H.out.rd Try.underlying88 rfl rfl ?_)
  | ((with_reducible refine gate_dst (N := 9) rfl ?_); refine ld (v := .int .i64 code) rfl rfl rfl H.out.ft Try.underlying23 rfl rfl ?_))
 go_ret
 exact ⟨rfl,rfl⟩
def needed (code : Int) (is : Bool) : Int := if is then code else bad code 1700
def allowed (code : Int) (is : Bool) : Int := if is then code else bad code 1702
set_option maxRecDepth 100000 in
set_option maxHeartbeats 8000000 in
theorem rneed_calls (lo r f : Nat) (s : ByteArray) (p code : Int) (tw last is : Bool) (w : World) (hl : lo ≤ f) (h : Rs w r f s p code tw last) :
  Calls Try.prog 72 #[.pointer (some ⟨r,0,none⟩),.bool is] w fun ex w' => ex = .returned (.tuple #[]) ∧ Rs w' r f s p (needed code is) tw last ∧ Kf lo r f w w' := by
 have H := Aq.mk h
 have HL := Aq.mk hl
 clear h hl
 cases is
 ·go_enter Try.func72,Try.ntmps72
  go_wp2_with (go_at_call 50; (with_reducible refine (fail_calls lo r f s p code 1700 tw last _ HL.out H.out).mono ?_); rintro e1 w1 ⟨rfl,i1,k1⟩; have H1 := Aq.mk i1; have K1 := Aq.mk k1; clear i1 k1)
  first | go_end0 | ((try simp only [Exit.inBlock,Exit.then]); refine bodyPost_ret (results_none rfl _ _ _) rfl ?_)
  exact ⟨rfl,H1.out,K1.out⟩
 ·go_enter Try.func72,Try.ntmps72
  go_wp2
  first | go_end0 | ((try simp only [Exit.inBlock,Exit.then]); refine bodyPost_ret (results_none rfl _ _ _) rfl ?_)
  exact ⟨rfl,H.out,Kf.refl _ _ _ _⟩
set_option maxRecDepth 100000 in
set_option maxHeartbeats 8000000 in
theorem allow_calls (lo r f : Nat) (s : ByteArray) (p code : Int) (tw last is : Bool) (w : World) (hl : lo ≤ f) (h : Rs w r f s p code tw last) :
  Calls Try.prog 76 #[.pointer (some ⟨r,0,none⟩),.bool is] w fun ex w' => ex = .returned (.tuple #[]) ∧ Rs w' r f s p (allowed code is) tw last ∧ Kf lo r f w w' := by
 have H := Aq.mk h
 have HL := Aq.mk hl
 clear h hl
 cases is
 ·go_enter Try.func76,Try.ntmps76
  go_wp2_with (go_at_call 50; (with_reducible refine (fail_calls lo r f s p code 1702 tw last _ HL.out H.out).mono ?_); rintro e1 w1 ⟨rfl,i1,k1⟩; have H1 := Aq.mk i1; have K1 := Aq.mk k1; clear i1 k1)
  first | go_end0 | ((try simp only [Exit.inBlock,Exit.then]); refine bodyPost_ret (results_none rfl _ _ _) rfl ?_)
  exact ⟨rfl,H1.out,K1.out⟩
 ·go_enter Try.func76,Try.ntmps76
  go_wp2
  first | go_end0 | ((try simp only [Exit.inBlock,Exit.then]); refine bodyPost_ret (results_none rfl _ _ _) rfl ?_)
  exact ⟨rfl,H.out,Kf.refl _ _ _ _⟩
end Go.Proofs.Ytlkebjkpmiehcaa.Ms
end
section
namespace Go.Proofs.Ytlkebjkpmiehcaa.X
open Go.RowKit Go.Proofs.YtlkebjkpmiehcaaW.PrintWords Go.Proofs.YtlkebjkpmiehcaaW.PrintLast Go.Proofs.YtlkebjkpmiehcaaW.PrintMore
attribute [local go_sem] max2_int min2_int max_two min_two max_three min_three max_four min_four   
set_option linter.unusedVariables false
set_option linter.unusedSimpArgs false
mutual
def wire_number.j0 : Nat → ByteArray → Int → Int → Bool → Option (Int × Int × Int)
 | 0,_,_,_,_ => none
 | k + 1,x0,x1,x2,x26 => if x26 = true then (some (0,0,100)) else (wire_number.l0 k x0 x1 x2 0 x2 0)
def wire_number.l0 : Nat → ByteArray → Int → Int → Int → Int → Int → Option (Int × Int × Int)
 | 0,_,_,_,_,_,_ => none
 | k + 1,x0,x1,x2,x9,x27,x28 => if x28 < x27 then (if 0 ≤ (wrap64 (x1 + x28)) then (if (wrap64 (x1 + x28)) < (x0.size : Int) then (wire_number.l0 k x0 x1 x2 (Go.bits .or .i64 (wrap64 (x9 * 256)) (wrap64 (bt x0 (wrap64 (x1 + x28))))) x27 (wrap64 (x28 + 1))) else (none)) else (none)) else (some (x9,wrap64 (x1 + x2),0))
end
def wire_number.f (k : Nat) (a0 : ByteArray) (a1 : Int) (a2 : Int) : Option (Int × Int × Int) := if a1 < 0 then (wire_number.j0 k a0 a1 a2 true) else (if a1 > (a0.size : Int) then (wire_number.j0 k a0 a1 a2 true) else (wire_number.j0 k a0 a1 a2 (decide ((wrap64 ((a0.size : Int) - a1)) < a2))))
theorem wire_number.mono_l : ∀ k,(∀ y0 y1 y2 y3,LeO (wire_number.j0 k y0 y1 y2 y3) (wire_number.j0 (k + 1) y0 y1 y2 y3)) ∧ (∀ y0 y1 y2 y3 y4 y5,LeO (wire_number.l0 k y0 y1 y2 y3 y4 y5) (wire_number.l0 (k + 1) y0 y1 y2 y3 y4 y5))
 | 0 => ⟨fun _ _ _ _ r h => by simp [wire_number.j0] at h,fun _ _ _ _ _ _ r h => by simp [wire_number.l0] at h⟩
 | k + 1 => by
  obtain ⟨ih0,ih1⟩ := wire_number.mono_l k
  refine ⟨?_,?_⟩
  ·intro y0 y1 y2 y3
   unfold wire_number.j0
   repeat' first
   | (with_reducible exact ih0 _ _ _ _)
   | (with_reducible exact ih1 _ _ _ _ _ _)
   | (with_reducible exact LeO.refl _)
   | (with_reducible exact LeO.none _)
   | (with_reducible refine LeO.ite ?_ ?_)
   | (with_reducible refine LeO.bind ?_ (fun _ => ?_))
   | exact ih0 _ _ _ _
   | exact ih1 _ _ _ _ _ _
   | exact LeO.none _
   | refine LeO.ite ?_ ?_
   | refine LeO.bind ?_ (fun _ => ?_)
  ·intro y0 y1 y2 y3 y4 y5
   unfold wire_number.l0
   repeat' first
   | (with_reducible exact ih0 _ _ _ _)
   | (with_reducible exact ih1 _ _ _ _ _ _)
   | (with_reducible exact LeO.refl _)
   | (with_reducible exact LeO.none _)
   | (with_reducible refine LeO.ite ?_ ?_)
   | (with_reducible refine LeO.bind ?_ (fun _ => ?_))
   | exact ih0 _ _ _ _
   | exact ih1 _ _ _ _ _ _
   | exact LeO.none _
   | refine LeO.ite ?_ ?_
   | refine LeO.bind ?_ (fun _ => ?_)
theorem wire_number.mono : ∀ a0 a1 a2 k,LeO (wire_number.f k a0 a1 a2) (wire_number.f (k + 1) a0 a1 a2) := by
 intro a0 a1 a2 k
 obtain ⟨ih0,ih1⟩ := wire_number.mono_l k
 unfold wire_number.f
 repeat' first
   | (with_reducible exact ih0 _ _ _ _)
   | (with_reducible exact ih1 _ _ _ _ _ _)
   | (with_reducible exact LeO.refl _)
   | (with_reducible exact LeO.none _)
   | (with_reducible refine LeO.ite ?_ ?_)
   | (with_reducible refine LeO.bind ?_ (fun _ => ?_))
   | exact ih0 _ _ _ _
   | exact ih1 _ _ _ _ _ _
   | exact LeO.none _
   | refine LeO.ite ?_ ?_
   | refine LeO.bind ?_ (fun _ => ?_)
set_option maxHeartbeats 8000000 in
set_option maxRecDepth 100000 in
theorem wire_number.calls (k : Nat) (a0 : ByteArray) (a1 : Int) (a2 : Int) (r1 : Int) (r2 : Int) (r3 : Int) (w : World) (h : wire_number.f k a0 a1 a2 = some (r1,r2,r3)) :
  Calls Try.prog 54 #[.string a0,.int .i64 a1,.int .i64 a2] w fun e w' => e = .returned (.tuple #[.int .i64 r1,.int .i64 r2,.int .i64 r3]) ∧ Drawn0 w w' := by
 have e_ : wire_number.f = E.wire_number.f := by kernel_rfl
 rw [e_] at h
 exact E.wire_number.calls k a0 a1 a2 r1 r2 r3 w h
def wire_U16.f (k : Nat) (a0 : ByteArray) (a1 : Int) : Option (Int × Int × Int) := (wire_number.f k a0 a1 2).bind fun bt101 => (some (bt101.1,bt101.2.1,bt101.2.2))
theorem wire_U16.mono : ∀ a0 a1 k,LeO (wire_U16.f k a0 a1) (wire_U16.f (k + 1) a0 a1) := by
 intro a0 a1 k
 unfold wire_U16.f
 repeat' first
   | (with_reducible exact wire_number.mono _ _ _ _)
   | (with_reducible exact LeO.refl _)
   | (with_reducible exact LeO.none _)
   | (with_reducible refine LeO.ite ?_ ?_)
   | (with_reducible refine LeO.bind ?_ (fun _ => ?_))
   | exact wire_number.mono _ _ _ _
   | exact LeO.none _
   | refine LeO.ite ?_ ?_
   | refine LeO.bind ?_ (fun _ => ?_)
set_option maxHeartbeats 8000000 in
set_option maxRecDepth 100000 in
theorem wire_U16.calls (k : Nat) (a0 : ByteArray) (a1 : Int) (r1 : Int) (r2 : Int) (r3 : Int) (w : World) (h : wire_U16.f k a0 a1 = some (r1,r2,r3)) :
  Calls Try.prog 33 #[.string a0,.int .i64 a1] w fun e w' => e = .returned (.tuple #[.int .i64 r1,.int .i64 r2,.int .i64 r3]) ∧ Drawn0 w w' := by
 have e_ : wire_U16.f = E.wire_U16.f := by kernel_rfl
 rw [e_] at h
 exact E.wire_U16.calls k a0 a1 r1 r2 r3 w h
def wire_Vec.j0 : Nat → ByteArray → Int → Int → Bool → Option (ByteArray × Int × Int)
 | 0,_,_,_,_ => none
 | k + 1,x0,x1,x2,x16 => if x16 = true then (some ((⟨#[]⟩ : ByteArray),0,101)) else ((wire_number.f k x0 x1 x2).bind fun bt104 => (if bt104.2.2 = 0 then (if bt104.1 > (wrap64 ((x0.size : Int) - bt104.2.1)) then (some ((⟨#[]⟩ : ByteArray),0,100)) else (if 0 ≤ bt104.2.1 then (if bt104.2.1 ≤ (wrap64 (bt104.2.1 + bt104.1)) then (if (wrap64 (bt104.2.1 + bt104.1)) ≤ (x0.size : Int) then (some (x0.extract (bt104.2.1 : Int).toNat ((wrap64 (bt104.2.1 + bt104.1)) : Int).toNat,wrap64 (bt104.2.1 + bt104.1),0)) else (none)) else (none)) else (none))) else (some ((⟨#[]⟩ : ByteArray),0,100))))
def wire_Vec.f (k : Nat) (a0 : ByteArray) (a1 : Int) (a2 : Int) : Option (ByteArray × Int × Int) := if a2 < 1 then (wire_Vec.j0 k a0 a1 a2 true) else (wire_Vec.j0 k a0 a1 a2 (decide (a2 > 3)))
theorem wire_Vec.mono_l : ∀ k,(∀ y0 y1 y2 y3,LeO (wire_Vec.j0 k y0 y1 y2 y3) (wire_Vec.j0 (k + 1) y0 y1 y2 y3))
 | 0 => fun _ _ _ _ r h => by simp [wire_Vec.j0] at h
 | k + 1 => by
  have ih0 := wire_Vec.mono_l k
  ·intro y0 y1 y2 y3
   unfold wire_Vec.j0
   repeat' first
   | (with_reducible exact ih0 _ _ _ _)
   | (with_reducible exact wire_number.mono _ _ _ _)
   | (with_reducible exact LeO.refl _)
   | (with_reducible exact LeO.none _)
   | (with_reducible refine LeO.ite ?_ ?_)
   | (with_reducible refine LeO.bind ?_ (fun _ => ?_))
   | exact ih0 _ _ _ _
   | exact wire_number.mono _ _ _ _
   | exact LeO.none _
   | refine LeO.ite ?_ ?_
   | refine LeO.bind ?_ (fun _ => ?_)
theorem wire_Vec.mono : ∀ a0 a1 a2 k,LeO (wire_Vec.f k a0 a1 a2) (wire_Vec.f (k + 1) a0 a1 a2) := by
 intro a0 a1 a2 k
 have ih0 := wire_Vec.mono_l k
 unfold wire_Vec.f
 repeat' first
   | (with_reducible exact ih0 _ _ _ _)
   | (with_reducible exact wire_number.mono _ _ _ _)
   | (with_reducible exact LeO.refl _)
   | (with_reducible exact LeO.none _)
   | (with_reducible refine LeO.ite ?_ ?_)
   | (with_reducible refine LeO.bind ?_ (fun _ => ?_))
   | exact ih0 _ _ _ _
   | exact wire_number.mono _ _ _ _
   | exact LeO.none _
   | refine LeO.ite ?_ ?_
   | refine LeO.bind ?_ (fun _ => ?_)
set_option maxHeartbeats 8000000 in
set_option maxRecDepth 100000 in
theorem wire_Vec.calls (k : Nat) (a0 : ByteArray) (a1 : Int) (a2 : Int) (r1 : ByteArray) (r2 : Int) (r3 : Int) (w : World) (h : wire_Vec.f k a0 a1 a2 = some (r1,r2,r3)) :
  Calls Try.prog 34 #[.string a0,.int .i64 a1,.int .i64 a2] w fun e w' => e = .returned (.tuple #[.string r1,.int .i64 r2,.int .i64 r3]) ∧ Drawn0 w w' := by
 have e_ : wire_Vec.f = E.wire_Vec.f := by kernel_rfl
 rw [e_] at h
 exact E.wire_Vec.calls k a0 a1 a2 r1 r2 r3 w h
end Go.Proofs.Ytlkebjkpmiehcaa.X
end
