/- Lemmas on der.Put: what it writes, for all tags and parts in reach. Conditions: each lemma's own. -/
import Derived.Test.YtonemdclfgckoaaXx16
import Derived.Test.YtonemdclfgckoaaXx2
import Derived.Test.YtonemdclfgckoaaXx3
namespace Go.Proofs.Ytonemdclfgckoaa.Pure
open Go.RowKit Go.Proofs.Ytonemdclfgckoaa.X Go.Proofs.YtonemdclfgckoaaW.PrintWords Go.Proofs.YtonemdclfgckoaaW.PrintLast Go.Proofs.YtonemdclfgckoaaW.PrintMore
set_option linter.unusedVariables false
set_option linter.unusedSimpArgs false

/-! ### Words -/
theorem wf64 {a : Int} (h : (Lit.int .i64 a).wf = true) : -9223372036854775808 ≤ a ∧ a ≤ 9223372036854775807 := by
  simp [Lit.wf,IntKind.min,IntKind.max,IntKind.signed,IntKind.bits] at h
  omega
theorem w64 {a : Int} (h0 : -9223372036854775808 ≤ a) (h1 : a ≤ 9223372036854775807) : wrap64 a = a := by unfold wrap64; omega
theorem ev_const {α : Type} {x : Option α} {r : α} (h : x = some r) : Ev (fun _ => x) r := ⟨0,fun _ _ => h⟩
theorem ev_const' {α : Type} {x : Nat → Option α} {r : α} (h : ∀ k,x k = some r) : Ev x r := ⟨0,fun k _ => h k⟩
theorem wraps_i64 : ∀ n : Int,0 ≤ n → n < 2 ^ 63 → IntKind.i64.wrap n = n := by
  intro n h0 h1
  simp [IntKind.wrap,IntKind.bits,IntKind.signed]
  omega
theorem num_f (e : Int) : halberdlaw0_Num.f e = some e := rfl
theorem bindE {α β : Type} {x : Option α} {f : α → Option β} {a : α} {r : Option β} (h : x = some a) (k : f a = r) : x.bind f = r := by rw [h]; exact k
theorem evPos {α : Type} {c : Prop} [Decidable c] {g f : Nat → Option α} {r : α} (h : c) (k : Ev g r) : Ev (fun n => if c then g n else f n) r := by
  obtain ⟨K,k⟩ := k
  exact ⟨K,fun n hn => by simp only []; rw [if_pos h]; exact k n hn⟩
theorem evNeg {α : Type} {c : Prop} [Decidable c] {g f : Nat → Option α} {r : α} (h : ¬ c) (k : Ev f r) : Ev (fun n => if c then g n else f n) r := by
  obtain ⟨K,k⟩ := k
  exact ⟨K,fun n hn => by simp only []; rw [if_neg h]; exact k n hn⟩
theorem toNat_ofInt64 (x : Int) : (BitVec.ofInt 64 x).toNat = (x % 18446744073709551616).toNat := by
  rw [BitVec.toNat_ofInt]
  have : ((2 ^ 64 : Nat) : Int) = 18446744073709551616 := rfl
  rw [this]
theorem and_mask (x : Int) (i : Nat) (hi : i ≤ 62) : Go.bits .and .i64 x ((2 ^ i - 1 : Nat) : Int) = x % ((2 ^ i : Nat) : Int) := by
  have hp : 0 < 2 ^ i := Nat.two_pow_pos i
  have hq : 2 ^ i ≤ 4611686018427387904 := by
    have : (4611686018427387904 : Nat) = 2 ^ 62 := by decide
    rw [this]; exact Nat.pow_le_pow_right (by decide) hi
  have hd : ((2 ^ i : Nat) : Int) ∣ 18446744073709551616 := by
    have h1 : (2 ^ i : Nat) ∣ 2 ^ 64 := Nat.pow_dvd_pow 2 (by omega)
    have h2 : ((2 ^ 64 : Nat) : Int) = 18446744073709551616 := rfl
    rw [← h2]
    exact Int.natCast_dvd_natCast.mpr h1
  have e2 : (BitVec.ofInt 64 x &&& BitVec.ofInt 64 ((2 ^ i - 1 : Nat) : Int)).toNat = (x % 18446744073709551616).toNat % 2 ^ i := by
    have hm : 2 ^ i - 1 < 2 ^ 64 := by
      have : (2 : Nat) ^ 64 = 18446744073709551616 := by decide
      omega
    rw [BitVec.toNat_and,BitVec.ofInt_natCast,BitVec.toNat_ofNat,Nat.mod_eq_of_lt hm,toNat_ofInt64,Nat.and_two_pow_sub_one_eq_mod]
  have e0 : Go.bits .and .i64 x ((2 ^ i - 1 : Nat) : Int) = IntKind.i64.wrap (((BitVec.ofInt 64 x &&& BitVec.ofInt 64 ((2 ^ i - 1 : Nat) : Int)).toNat : Nat) : Int) := rfl
  rw [e0,e2]
  generalize 2 ^ i = m at *
  have hb := Int.emod_nonneg x (b := (m : Int)) (by omega)
  have hl := Int.emod_lt_of_pos x (b := (m : Int)) (by omega)
  have hn := Int.emod_nonneg x (b := 18446744073709551616) (by decide)
  have hz := Int.emod_emod_of_dvd x hd
  rw [Int.natCast_emod,Int.toNat_of_nonneg hn,hz,wraps_i64 _ hb (by omega)]
theorem and_255 (x : Int) : Go.bits .and .i64 x 255 = x % 256 := and_mask x 8 (by decide)
theorem and_7 (x : Int) : Go.bits .and .i64 x 7 = x % 8 := and_mask x 3 (by decide)
theorem u64_wrap (n : Int) : IntKind.u64.wrap n = n % 18446744073709551616 := by simp [IntKind.wrap,IntKind.bits,IntKind.signed]
theorem strOf_size (l : List Int) : (strOfNums l).size = l.length := by simp [strOfNums,ByteArray.size]
def beL : Nat → Int → List Int
  | 0,_ => []
  | n + 1,x => beL n (x / 256) ++ [x % 256]
theorem beL_length : ∀ (n : Nat) (x : Int),(beL n x).length = n
  | 0,_ => rfl
  | n + 1,x => by simp [beL,beL_length n]
/-! ### Texts as lists of numbers -/
theorem bytesOf_app (a b : ByteArray) : bytesOf (a ++ b) = bytesOf a ++ bytesOf b := by
  unfold bytesOf
  simp
theorem map_toNat_inj : ∀ {l m : List UInt8},l.map (fun b => (b.toNat : Int)) = m.map (fun b => (b.toNat : Int)) → l = m
  | [],[],_ => rfl
  | [],_ :: _,h => by simp at h
  | _ :: _,[],h => by simp at h
  | x :: l,y :: m,h => by
    simp only [List.map_cons,List.cons.injEq] at h
    obtain ⟨h1,h2⟩ := h
    have h3 : x.toNat = y.toNat := by omega
    rw [UInt8.toNat_inj.mp h3,map_toNat_inj h2]
theorem bytesOf_inj {a b : ByteArray} (h : bytesOf a = bytesOf b) : a = b := by
  have h1 := map_toNat_inj h
  cases a; cases b
  congr 1
  exact Array.toList_inj.mp h1
def Byte (l : List Int) : Prop := ∀ x ∈ l,0 ≤ x ∧ x ≤ 255
theorem bytesOf_byte (s : ByteArray) : Byte (bytesOf s) := by
  intro x hx
  unfold bytesOf at hx
  obtain ⟨b,_,rfl⟩ := List.mem_map.mp hx
  have := UInt8.toNat_lt b
  omega
theorem bytesOf_strOf {l : List Int} (h : Byte l) : bytesOf (strOfNums l) = l := by
  unfold bytesOf strOfNums
  simp only [List.map_map]
  refine (List.map_congr_left (g := id) (fun x hx => ?_)).trans (List.map_id l)
  have := h x hx
  simp only [Function.comp,id,UInt8.toNat_ofNat']
  omega
theorem strOf_bytesOf (s : ByteArray) : strOfNums (bytesOf s) = s := bytesOf_inj (bytesOf_strOf (bytesOf_byte s))
theorem beL_byte : ∀ (n : Nat) (x : Int),Byte (beL n x)
  | 0,x => by intro y hy; simp [beL] at hy
  | n + 1,x => by
    intro y hy
    simp only [beL,List.mem_append,List.mem_singleton] at hy
    rcases hy with hy | rfl
    · exact beL_byte n _ y hy
    · omega
theorem bytesOf_extract (s : ByteArray) (a b : Nat) : bytesOf (s.extract a b) = ((bytesOf s).drop a).take (b - a) := by
  unfold bytesOf
  rw [ByteArray.data_extract]
  simp [List.map_drop,List.map_take,List.extract_eq_take_drop]
/-- s reads, from place p on, as l. -/
def From (s : ByteArray) (p : Nat) (l : List Int) : Prop := p ≤ s.size ∧ (bytesOf s).drop p = l
theorem From.len {s : ByteArray} {p : Nat} {l : List Int} (h : From s p l) : p + l.length = s.size := by
  have := bytesOf_length s
  obtain ⟨h1,rfl⟩ := h
  rw [List.length_drop]
  omega
theorem From.skip {s : ByteArray} {p : Nat} {l m : List Int} (h : From s p (l ++ m)) : From s (p + l.length) m := by
  have hl := h.len
  refine ⟨by rw [List.length_append] at hl; omega,?_⟩
  rw [← List.drop_drop,h.2,List.drop_left]
theorem From.start (s : ByteArray) : From s 0 (bytesOf s) := ⟨Nat.zero_le _,rfl⟩
theorem From.text {s t : ByteArray} {p : Nat} {m : List Int} (h : From s p (bytesOf t ++ m)) : s.extract p (p + t.size) = t ∧ From s (p + t.size) m := by
  refine ⟨bytesOf_inj ?_,?_⟩
  · rw [bytesOf_extract,h.2,Nat.add_sub_cancel_left,List.take_left' (bytesOf_length t)]
  · have := h.skip
    rwa [bytesOf_length] at this
/-! ### der.Put -/
def isTag (t : Int) : Prop := 0 ≤ t ∧ t ≤ 255 ∧ ¬ (t % 32 = 31)
instance (t : Int) : Decidable (isTag t) := by unfold isTag; infer_instance
theorem and_31 (x : Int) : Go.bits .and .i64 x 31 = x % 32 := and_mask x 5 (by decide)
theorem tag_yes {t : Int} (h : isTag t) : der_tag.f t = some true := by
  obtain ⟨h0,h1,h2⟩ := h
  unfold der_tag.f
  rw [if_pos h0,if_pos h1,and_31]
  simp [h2]
theorem tag_no {t : Int} (h : ¬ isTag t) : der_tag.f t = some false := by
  unfold isTag at h
  unfold der_tag.f
  by_cases h0 : t ≥ 0
  · rw [if_pos h0]
    by_cases h1 : t ≤ 255
    · rw [if_pos h1,and_31]
      have : t % 32 = 31 := by omega
      simp [this]
    · rw [if_neg h1]
  · rw [if_neg h0]
def hd (t : Int) (n : Nat) : List Int := if n < 128 then [t % 256,n] else if n < 256 then [t % 256,129,n] else [t % 256,130,(n : Int) / 256,(n : Int) % 256]
theorem hd_byte {t : Int} {n : Nat} (hn : n ≤ 65535) : Byte (hd t n) := by
  intro x hx
  unfold hd at hx
  split at hx
  · simp only [List.mem_cons,List.not_mem_nil,or_false] at hx
    rcases hx with rfl | rfl <;> omega
  · split at hx
    · simp only [List.mem_cons,List.not_mem_nil,or_false] at hx
      rcases hx with rfl | rfl | rfl <;> omega
    · simp only [List.mem_cons,List.not_mem_nil,or_false] at hx
      rcases hx with rfl | rfl | rfl | rfl <;> omega
theorem hd_len (t : Int) (n : Nat) : 2 ≤ (hd t n).length ∧ (hd t n).length ≤ 4 := by
  unfold hd
  split
  · simp
  · split <;> simp
theorem head_ok (t : Int) (n : Nat) (hn : n ≤ 65535) : der_head.f t n = some (strOfNums (hd t n)) := by
  unfold der_head.f hd
  by_cases h1 : n < 128
  · rw [if_pos (by omega),if_pos h1]
    have : (n : Int) % 256 = n := by omega
    rw [this]
  · rw [if_neg (by omega),if_neg h1]
    by_cases h2 : n < 256
    · rw [if_pos (by omega),if_pos h2]
      have : (n : Int) % 256 = n := by omega
      rw [this]
    · rw [if_neg (by omega),if_neg h2]
      have : (n : Int) / 256 % 256 = (n : Int) / 256 := by omega
      rw [this]
/-- All parts' bytes. -/
def flat : List ByteArray → List Int
  | [] => []
  | p :: ps => bytesOf p ++ flat ps
theorem flat_byte : ∀ l : List ByteArray,Byte (flat l)
  | [],x,hx => by simp [flat] at hx
  | p :: ps,x,hx => by
    simp only [flat,List.mem_append] at hx
    rcases hx with hx | hx
    · exact bytesOf_byte p x hx
    · exact flat_byte ps x hx
theorem rdOf_mid (pre ps : List ByteArray) (p : ByteArray) : rdOf ByteArray.empty (pre ++ p :: ps) (pre.length : Int) = p := by simp [rdOf]
theorem put_sum (t : Int) (l : List ByteArray) (hl : l.length ≤ 1000) (r : ByteArray × Int) : ∀ (ps pre : List ByteArray) (acc : Nat),l = pre ++ ps → acc + (flat ps).length ≤ 65535 →
    Ev (fun k => (der_tag.f t).bind fun b => (if b = true then ((der_head.f t ((acc + (flat ps).length : Nat) : Int)).bind fun h => (if h.size ≤ 140737488355328 then (der_Put.l1 k (bytesOf h) l (l.length : Int) 0) else (none))) else (some ((⟨#[]⟩ : ByteArray),1300)))) r →
    Ev (fun k => der_Put.l0 k t l (acc : Int) l (l.length : Int) (pre.length : Int)) r := by
  intro ps
  induction ps with
  | nil =>
    intro pre acc he ha h
    refine Ev.step (fun k => ?_) h
    simp only [der_Put.l0]
    rw [if_neg (by rw [he]; simp)]
    simp [flat]
  | cons p ps ihp =>
    intro pre acc he ha h
    have hlen : (pre.length : Int) < (l.length : Int) := by rw [he]; simp; omega
    simp only [flat,List.length_append,bytesOf_length] at ha h
    have ih := ihp (pre ++ [p]) (acc + p.size) (by rw [he]; simp) (by omega) (by
      have e : acc + p.size + (flat ps).length = acc + (p.size + (flat ps).length) := by omega
      rw [e]; exact h)
    refine Ev.step (f := fun k => der_Put.l0 k t l ((acc + p.size : Nat) : Int) l (l.length : Int) (((pre ++ [p]).length : Nat) : Int)) (fun k => ?_) ih
    simp only [der_Put.l0]
    have r1 : rdOf ByteArray.empty l (pre.length : Int) = p := by rw [he,rdOf_mid]
    have w1 : wrap64 ((acc : Int) + (p.size : Int)) = ((acc + p.size : Nat) : Int) := by rw [w64 (by omega) (by omega)]; omega
    rw [if_pos hlen,if_pos (by omega),if_pos hlen,r1,w1,if_neg (by omega),w64 (by omega) (by omega)]
    simp
theorem put_parts (l : List ByteArray) (hl : l.length ≤ 1000) (x : List Int) : ∀ (ps pre : List ByteArray) (acc : List Int),l = pre ++ ps → acc.length + (flat ps).length ≤ 100000 → acc ++ flat ps = x →
    Ev (fun k => der_Put.l1 k acc l (l.length : Int) (pre.length : Int)) (strOfNums x,0)
  | [],pre,acc,he,ha,hx => by
    refine Ev.step (f := fun _ => some (strOfNums x,0)) (fun k => ?_) (Ev.now _)
    simp only [der_Put.l1]
    rw [if_neg (by rw [he]; simp),← hx]
    simp [flat]
  | p :: ps,pre,acc,he,ha,hx => by
    have hlen : (pre.length : Int) < (l.length : Int) := by rw [he]; simp; omega
    simp only [flat,List.length_append,bytesOf_length] at ha
    have ih := put_parts l hl x ps (pre ++ [p]) (acc ++ bytesOf p) (by rw [he]; simp) (by rw [List.length_append,bytesOf_length]; omega) (by rw [← hx]; simp [flat])
    refine Ev.step (f := fun k => der_Put.l1 k (acc ++ bytesOf p) l (l.length : Int) (((pre ++ [p]).length : Nat) : Int)) (fun k => ?_) ih
    simp only [der_Put.l1]
    have r1 : rdOf ByteArray.empty l (pre.length : Int) = p := by rw [he,rdOf_mid]
    rw [if_pos hlen,if_pos (by omega),if_pos hlen,r1,if_pos (by omega),w64 (by omega) (by omega)]
    simp
/-- What Put gives. -/
theorem put_ok {t : Int} {l : List ByteArray} (ht : isTag t) (hl : l.length ≤ 1000) (hn : (flat l).length ≤ 65535) :
    Ev (fun k => der_Put.f k t l) (strOfNums (hd t (flat l).length ++ flat l),0) := by
  have hh := hd_len t (flat l).length
  refine Ev.congr (f := fun k => der_Put.l0 k t l ((0 : Nat) : Int) l (l.length : Int) (([] : List ByteArray).length : Int)) (fun k => by unfold der_Put.f; rfl) ?_
  refine put_sum t l hl _ l [] 0 rfl (by omega) ?_
  rw [Nat.zero_add]
  refine Ev.bind (ev_const (tag_yes ht)) ?_
  refine evPos rfl ?_
  refine Ev.bind (ev_const (head_ok t _ hn)) ?_
  refine evPos (by rw [strOf_size]; omega) ?_
  rw [bytesOf_strOf (hd_byte hn)]
  exact put_parts l hl _ l [] _ rfl (by omega) rfl
theorem put_tag {t : Int} {l : List ByteArray} (ht : ¬ isTag t) (hl : l.length ≤ 1000) (hn : (flat l).length ≤ 65535) : Ev (fun k => der_Put.f k t l) ((⟨#[]⟩ : ByteArray),1300) := by
  refine Ev.congr (f := fun k => der_Put.l0 k t l ((0 : Nat) : Int) l (l.length : Int) (([] : List ByteArray).length : Int)) (fun k => by unfold der_Put.f; rfl) ?_
  refine put_sum t l hl _ l [] 0 rfl (by omega) ?_
  refine Ev.bind (ev_const (tag_no ht)) ?_
  exact evNeg (by simp) (Ev.now _)
theorem put_long {t : Int} {s : ByteArray} (hs : 65535 < s.size) (hs2 : s.size ≤ 140737488351232) : Ev (fun k => der_Put.f k t [s]) ((⟨#[]⟩ : ByteArray),1300) := by
  refine Ev.congr (f := fun k => der_Put.l0 k t [s] 0 [s] 1 0) (fun k => by unfold der_Put.f; rfl) ?_
  refine Ev.step (f := fun _ => some ((⟨#[]⟩ : ByteArray),1300)) (fun k => ?_) (Ev.now _)
  simp only [der_Put.l0]
  have r1 : rdOf ByteArray.empty [s] 0 = s := rdOf_mid [] [] s
  rw [if_pos (by omega),if_pos (by omega),if_pos (by simp),r1,w64 (by omega) (by omega),if_pos (by omega)]
theorem flat_one (s : ByteArray) : flat [s] = bytesOf s := by simp [flat]
theorem put_one {t : Int} {s : ByteArray} (ht : isTag t) (hn : s.size ≤ 65535) : Ev (fun k => der_Put.f k t [s]) (strOfNums (hd t s.size ++ bytesOf s),0) := by
  have h := put_ok (t := t) (l := [s]) ht (by simp) (by rw [flat_one,bytesOf_length]; exact hn)
  rw [flat_one,bytesOf_length] at h
  exact h

end Go.Proofs.Ytonemdclfgckoaa.Pure
