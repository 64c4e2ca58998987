/- Lemmas on wire's and ext's functions: what each answers, for all arguments in reach. Conditions: each lemma's own. -/
import Derived.Test.YtlkebjkpmiehcaaEx2
import Derived.Test.YtlkebjkpmiehcaaEx3
import Derived.Test.YtlkebjkpmiehcaaEx4
import Derived.Test.YtlkebjkpmiehcaaEx5
namespace Go.Proofs.Ytlkebjkpmiehcaa.Pure
open Go.RowKit Go.Proofs.Ytlkebjkpmiehcaa.E Go.Proofs.YtlkebjkpmiehcaaW.PrintWords Go.Proofs.YtlkebjkpmiehcaaW.PrintLast Go.Proofs.YtlkebjkpmiehcaaW.PrintMore
set_option linter.unusedVariables false
set_option linter.unusedSimpArgs false

/-! ### Words -/
theorem wf64 {a : Int} (h : (Lit.int .i64 a).wf = true) : -9223372036854775808 ≤ a ∧ a ≤ 9223372036854775807 := by
  simp [Lit.wf, IntKind.min, IntKind.max, IntKind.signed, IntKind.bits] at h
  omega
theorem w64 {a : Int} (h0 : -9223372036854775808 ≤ a) (h1 : a ≤ 9223372036854775807) : wrap64 a = a := by unfold wrap64; omega
theorem ev_const {α : Type} {x : Option α} {r : α} (h : x = some r) : Ev (fun _ => x) r := ⟨0, fun _ _ => h⟩
theorem ev_const' {α : Type} {x : Nat → Option α} {r : α} (h : ∀ k, x k = some r) : Ev x r := ⟨0, fun k _ => h k⟩
theorem wraps_i64 : ∀ n : Int, 0 ≤ n → n < 2 ^ 63 → IntKind.i64.wrap n = n := by
  intro n h0 h1
  simp [IntKind.wrap, IntKind.bits, IntKind.signed]
  omega
/-- A number of n bytes, the greatest first. -/
def nv (s : ByteArray) (i : Int) : Nat → Int
  | 0 => 0
  | n + 1 => nv s i n * 256 + bt s (i + n)
theorem nv_bd (s : ByteArray) (i : Int) : ∀ n, 0 ≤ nv s i n ∧ nv s i n < 256 ^ n
  | 0 => by simp [nv]
  | n + 1 => by
    have h := nv_bd s i n
    have b := bt_range s (i + n)
    simp only [nv]
    rw [Int.pow_succ]
    omega
theorem nv_bd4 (s : ByteArray) (i : Int) (n : Nat) (h : n ≤ 4) : 0 ≤ nv s i n ∧ nv s i n < 4294967296 := by
  have h1 := nv_bd s i n
  refine ⟨h1.1, Int.lt_of_lt_of_le h1.2 ?_⟩
  have : n = 0 ∨ n = 1 ∨ n = 2 ∨ n = 3 ∨ n = 4 := by omega
  rcases this with rfl | rfl | rfl | rfl | rfl <;> decide
theorem or_byte {x y : Int} (h0 : 0 ≤ x) (h1 : x < 4294967296) (h2 : 0 ≤ y) (h3 : y ≤ 255) : Go.bits .or .i64 (wrap64 (x * 256)) (wrap64 y) = x * 256 + y := by
  rw [w64 (by omega) (by omega), w64 (a := y) (by omega) (by omega)]
  exact Go.bits_join .i64 63 (by decide) wraps_i64 8 (x * 256) y (by omega) (by omega) (by omega) (by omega) (by omega) (by omega)
/-! ### The program's numbers -/
theorem number_loop (s : ByteArray) (a : Int) (n : Nat) (ha : 0 ≤ a) (hn : n ≤ 4) (h : a + n ≤ s.size) (hs : s.size ≤ 140737488351232) :
    ∀ d j : Nat, j + d = n → Ev (fun k => wire_number.l0 k s a n (nv s a j) n j) (nv s a n, a + n, 0) := by
  intro d
  induction d with
  | zero =>
    intro j hj
    obtain rfl : j = n := by omega
    refine Ev.step (f := fun _ => some (nv s a j, a + (j : Int), 0)) (fun k => ?_) (Ev.now _)
    simp only [wire_number.l0]
    rw [if_neg (by omega), w64 (a := a + (j : Int)) (by omega) (by omega)]
  | succ d ih =>
    intro j hj
    refine Ev.step (f := fun k => wire_number.l0 k s a n (nv s a (j + 1)) n ((j + 1 : Nat) : Int)) (fun k => ?_) (ih (j + 1) (by omega))
    simp only [wire_number.l0]
    have b := bt_range s (a + (j : Int))
    have v := nv_bd4 s a j (by omega)
    rw [if_pos (by omega), w64 (a := a + (j : Int)) (by omega) (by omega), if_pos (by omega), if_pos (by omega), or_byte v.1 v.2 b.1 b.2, w64 (a := (j : Int) + 1) (by omega) (by omega)]
    rfl
def CutAt (s : ByteArray) (a : Int) (n : Int) : Prop := a < 0 ∨ a > s.size ∨ s.size - a < n
theorem number_ok {s : ByteArray} {a : Int} {n : Nat} (ha : 0 ≤ a) (hn : n ≤ 4) (h : a + n ≤ s.size) (hs : s.size ≤ 140737488351232) :
    Ev (fun k => wire_number.f k s a n) (nv s a n, a + n, 0) := by
  refine Ev.congr (f := fun k => wire_number.j0 k s a n false) (fun k => ?_) ?_
  · unfold wire_number.f
    rw [if_neg (by omega), if_neg (by omega), w64 (by omega) (by omega)]
    congr 1
    exact decide_eq_false (by omega)
  · refine Ev.step (f := fun k => wire_number.l0 k s a n 0 n 0) (fun k => ?_) (number_loop s a n ha hn h hs n 0 (by omega))
    simp only [wire_number.j0]
    rfl
theorem number_cut {s : ByteArray} {a : Int} {n : Int} (hc : CutAt s a n) (hs : s.size ≤ 140737488351232) :
    Ev (fun k => wire_number.f k s a n) (0, 0, 100) := by
  have key : Ev (fun k => wire_number.j0 k s a n true) (0, 0, 100) := Ev.step (f := fun _ => some (0, 0, 100)) (fun k => by simp only [wire_number.j0]; rfl) (Ev.now _)
  refine Ev.congr (f := fun k => wire_number.j0 k s a n true) (fun k => ?_) key
  unfold wire_number.f CutAt at *
  by_cases h0 : a < 0
  · rw [if_pos h0]
  · rw [if_neg h0]
    by_cases h1 : a > (s.size : Int)
    · rw [if_pos h1]
    · rw [if_neg h1, w64 (by omega) (by omega)]
      congr 1
      exact decide_eq_true (by omega)
theorem num_f (e : Int) : halberdlaw0_Num.f e = some e := rfl
theorem aw : halberdlaw16_awake.f = some true := rfl
theorem bindE {α β : Type} {x : Option α} {f : α → Option β} {a : α} {r : Option β} (h : x = some a) (k : f a = r) : x.bind f = r := by rw [h]; exact k
theorem evPos {α : Type} {c : Prop} [Decidable c] {g f : Nat → Option α} {r : α} (h : c) (k : Ev g r) : Ev (fun n => if c then g n else f n) r := by
  obtain ⟨K, k⟩ := k
  exact ⟨K, fun n hn => by simp only []; rw [if_pos h]; exact k n hn⟩
theorem evNeg {α : Type} {c : Prop} [Decidable c] {g f : Nat → Option α} {r : α} (h : ¬ c) (k : Ev f r) : Ev (fun n => if c then g n else f n) r := by
  obtain ⟨K, k⟩ := k
  exact ⟨K, fun n hn => by simp only []; rw [if_neg h]; exact k n hn⟩
theorem toNat_ofInt64 (x : Int) : (BitVec.ofInt 64 x).toNat = (x % 18446744073709551616).toNat := by
  rw [BitVec.toNat_ofInt]
  have : ((2 ^ 64 : Nat) : Int) = 18446744073709551616 := rfl
  rw [this]
theorem and_mask (x : Int) (i : Nat) (hi : i ≤ 62) : Go.bits .and .i64 x ((2 ^ i - 1 : Nat) : Int) = x % ((2 ^ i : Nat) : Int) := by
  have hp : 0 < 2 ^ i := Nat.two_pow_pos i
  have hq : 2 ^ i ≤ 4611686018427387904 := by
    have : (4611686018427387904 : Nat) = 2 ^ 62 := by decide
    rw [this]; exact Nat.pow_le_pow_right (by decide) hi
  have hd : ((2 ^ i : Nat) : Int) ∣ 18446744073709551616 := by
    have h1 : (2 ^ i : Nat) ∣ 2 ^ 64 := Nat.pow_dvd_pow 2 (by omega)
    have h2 : ((2 ^ 64 : Nat) : Int) = 18446744073709551616 := rfl
    rw [← h2]
    exact Int.natCast_dvd_natCast.mpr h1
  have e2 : (BitVec.ofInt 64 x &&& BitVec.ofInt 64 ((2 ^ i - 1 : Nat) : Int)).toNat = (x % 18446744073709551616).toNat % 2 ^ i := by
    have hm : 2 ^ i - 1 < 2 ^ 64 := by
      have : (2 : Nat) ^ 64 = 18446744073709551616 := by decide
      omega
    rw [BitVec.toNat_and, BitVec.ofInt_natCast, BitVec.toNat_ofNat, Nat.mod_eq_of_lt hm, toNat_ofInt64, Nat.and_two_pow_sub_one_eq_mod]
  have e0 : Go.bits .and .i64 x ((2 ^ i - 1 : Nat) : Int) = IntKind.i64.wrap (((BitVec.ofInt 64 x &&& BitVec.ofInt 64 ((2 ^ i - 1 : Nat) : Int)).toNat : Nat) : Int) := rfl
  rw [e0, e2]
  generalize 2 ^ i = m at *
  have hb := Int.emod_nonneg x (b := (m : Int)) (by omega)
  have hl := Int.emod_lt_of_pos x (b := (m : Int)) (by omega)
  have hn := Int.emod_nonneg x (b := 18446744073709551616) (by decide)
  have hz := Int.emod_emod_of_dvd x hd
  rw [Int.natCast_emod, Int.toNat_of_nonneg hn, hz, wraps_i64 _ hb (by omega)]
theorem and_255 (x : Int) : Go.bits .and .i64 x 255 = x % 256 := and_mask x 8 (by decide)
theorem and_7 (x : Int) : Go.bits .and .i64 x 7 = x % 8 := and_mask x 3 (by decide)
theorem u64_wrap (n : Int) : IntKind.u64.wrap n = n % 18446744073709551616 := by simp [IntKind.wrap, IntKind.bits, IntKind.signed]
/-- What a number is. -/
def numOf (s : ByteArray) (a : Int) (n : Nat) : Int × Int × Int :=
  if a < 0 ∨ a > s.size ∨ s.size - a < n then (0, 0, 100) else (nv s a n, a + n, 0)
theorem number_any (s : ByteArray) (a : Int) (n : Nat) (hn : n ≤ 4) (hs : s.size ≤ 140737488351232) : Ev (fun k => wire_number.f k s a n) (numOf s a n) := by
  unfold numOf
  by_cases hc : a < 0 ∨ a > s.size ∨ s.size - a < n
  · rw [if_pos hc]; exact number_cut hc hs
  · rw [if_neg hc]; exact number_ok (by omega) hn (by omega) hs
theorem U16_any (s : ByteArray) (a : Int) (hs : s.size ≤ 140737488351232) : Ev (fun k => wire_U16.f k s a) (numOf s a 2) := by
  refine Ev.congr (f := fun k => (wire_number.f k s a ((2 : Nat) : Int)).bind _) (fun k => by unfold wire_U16.f; rfl) ?_
  exact Ev.bind (number_any s a 2 (by omega) hs) (Ev.now _)
/-- What a vector is. -/
def vecOf (s : ByteArray) (a : Int) (n : Nat) : ByteArray × Int × Int :=
  if a < 0 ∨ a > s.size ∨ s.size - a < n then (⟨#[]⟩, 0, 100)
  else if nv s a n > s.size - (a + n) then (⟨#[]⟩, 0, 100)
  else (s.extract (a + n).toNat (a + n + nv s a n).toNat, a + n + nv s a n, 0)
theorem vec_ok {s : ByteArray} {a : Int} {n : Nat} (h1 : 1 ≤ n) (h3 : n ≤ 3) (hs : s.size ≤ 140737488351232) : Ev (fun k => wire_Vec.f k s a n) (vecOf s a n) := by
  refine Ev.congr (f := fun k => wire_Vec.j0 k s a n false) (fun k => ?_) ?_
  · unfold wire_Vec.f
    rw [if_neg (by omega)]
    congr 1
    exact decide_eq_false (by omega)
  · unfold vecOf
    by_cases hc : a < 0 ∨ a > s.size ∨ s.size - a < n
    · rw [if_pos hc]
      refine Ev.step (f := fun k => (wire_number.f k s a n).bind _) (fun k => by simp only [wire_Vec.j0]; rfl) ?_
      exact Ev.bind (number_cut hc hs) (Ev.now _)
    · rw [if_neg hc]
      refine Ev.step (f := fun k => (wire_number.f k s a n).bind _) (fun k => by simp only [wire_Vec.j0]; rfl) ?_
      have v := nv_bd4 s a n (by omega)
      refine Ev.bind (number_ok (by omega) (by omega) (by omega) hs) (ev_const ?_)
      simp only [if_true]
      rw [w64 (a := (s.size : Int) - (a + n)) (by omega) (by omega), w64 (a := a + n + nv s a n) (by omega) (by omega)]
      by_cases hl : nv s a n > s.size - (a + n)
      · rw [if_pos hl, if_pos hl]
      · rw [if_neg hl, if_neg hl, if_pos (by omega), if_pos (by omega), if_pos (by omega)]
theorem vec_no {s : ByteArray} {a n : Int} (h : n < 1 ∨ n > 3) : Ev (fun k => wire_Vec.f k s a n) ((⟨#[]⟩ : ByteArray), 0, 101) := by
  have key : Ev (fun k => wire_Vec.j0 k s a n true) ((⟨#[]⟩ : ByteArray), 0, 101) := Ev.step (f := fun _ => some ((⟨#[]⟩ : ByteArray), 0, 101)) (fun k => by simp only [wire_Vec.j0]; rfl) (Ev.now _)
  refine Ev.congr (f := fun k => wire_Vec.j0 k s a n true) (fun k => ?_) key
  unfold wire_Vec.f
  by_cases h0 : n < 1
  · rw [if_pos h0]
  · rw [if_neg h0]
    congr 1
    exact decide_eq_true (by omega)
theorem strOf_size (l : List Int) : (strOfNums l).size = l.length := by simp [strOfNums, ByteArray.size]
/-! ### Bytes out of numbers -/
def beL : Nat → Int → List Int
  | 0, _ => []
  | n + 1, x => beL n (x / 256) ++ [x % 256]
theorem beL_length : ∀ (n : Nat) (x : Int), (beL n x).length = n
  | 0, _ => rfl
  | n + 1, x => by simp [beL, beL_length n]
theorem bytes_ok (x : Int) (n : Nat) (h0 : 1 ≤ n) (h1 : n ≤ 4) : wire_Bytes.f x n = some (strOfNums (beL n x)) := by
  have : n = 1 ∨ n = 2 ∨ n = 3 ∨ n = 4 := by omega
  rcases this with rfl | rfl | rfl | rfl <;> simp [wire_Bytes.f, beL, Int.ediv_ediv]
def putOf (x : Int) (n : Nat) : ByteArray × Int := if x < 256 ^ n then (strOfNums (beL n x), 0) else (⟨#[]⟩, 101)
theorem put_ok (x : Int) (n : Nat) (h0 : 1 ≤ n) (h1 : n ≤ 4) (hx : 0 ≤ x) : wire_Put.f x n = some (putOf x n) := by
  have hb := bytes_ok x n h0 h1
  unfold wire_Put.f putOf
  rw [if_neg (by omega), if_neg (by omega), if_neg (by omega), hb]
  have : n = 1 ∨ n = 2 ∨ n = 3 ∨ n = 4 := by omega
  rcases this with rfl | rfl | rfl | rfl <;> simp only [shr, wrap64, IntKind.bits] <;> simp <;> split <;> split <;> first | rfl | omega
theorem put_no (x n : Int) (h : n < 1 ∨ n > 4 ∨ x < 0) : wire_Put.f x n = some ((⟨#[]⟩ : ByteArray), 101) := by
  unfold wire_Put.f
  by_cases h0 : n < 1
  · rw [if_pos h0]
  · rw [if_neg h0]
    by_cases h1 : n > 4
    · rw [if_pos h1]
    · rw [if_neg h1, if_pos (by omega)]
def putVecOf (s : ByteArray) (n : Nat) : ByteArray × Int := if (s.size : Int) < 256 ^ n then (strOfNums (beL n s.size) ++ s, 0) else (⟨#[]⟩, 101)
theorem putVec_ok (s : ByteArray) (n : Nat) (h0 : 1 ≤ n) (h1 : n ≤ 3) (hs : s.size ≤ 140737488351232) : wire_PutVec.f s n = some (putVecOf s n) := by
  have hb := bytes_ok s.size n h0 (by omega)
  unfold wire_PutVec.f putVecOf
  rw [if_neg (by omega), if_neg (by omega), hb]
  simp only [Option.bind_some]
  rw [strOf_size, beL_length, if_pos (c := n + s.size ≤ 9223372036854775807) (by omega)]
  have : n = 1 ∨ n = 2 ∨ n = 3 := by omega
  rcases this with rfl | rfl | rfl <;> simp only [shr, wrap64, IntKind.bits] <;> simp <;> split <;> split <;> first | rfl | omega
theorem putVec_no (s : ByteArray) (n : Int) (h : n < 1 ∨ n > 3) : wire_PutVec.f s n = some ((⟨#[]⟩ : ByteArray), 101) := by
  unfold wire_PutVec.f
  by_cases h0 : n < 1
  · rw [if_pos h0]
  · rw [if_neg h0, if_pos (by omega)]
/-! ### Texts as lists of numbers -/
theorem bytesOf_app (a b : ByteArray) : bytesOf (a ++ b) = bytesOf a ++ bytesOf b := by
  unfold bytesOf
  simp
theorem map_toNat_inj : ∀ {l m : List UInt8}, l.map (fun b => (b.toNat : Int)) = m.map (fun b => (b.toNat : Int)) → l = m
  | [], [], _ => rfl
  | [], _ :: _, h => by simp at h
  | _ :: _, [], h => by simp at h
  | x :: l, y :: m, h => by
    simp only [List.map_cons, List.cons.injEq] at h
    obtain ⟨h1, h2⟩ := h
    have h3 : x.toNat = y.toNat := by omega
    rw [UInt8.toNat_inj.mp h3, map_toNat_inj h2]
theorem bytesOf_inj {a b : ByteArray} (h : bytesOf a = bytesOf b) : a = b := by
  have h1 := map_toNat_inj h
  cases a; cases b
  congr 1
  exact Array.toList_inj.mp h1
def Byte (l : List Int) : Prop := ∀ x ∈ l, 0 ≤ x ∧ x ≤ 255
theorem bytesOf_byte (s : ByteArray) : Byte (bytesOf s) := by
  intro x hx
  unfold bytesOf at hx
  obtain ⟨b, _, rfl⟩ := List.mem_map.mp hx
  have := UInt8.toNat_lt b
  omega
theorem bytesOf_strOf {l : List Int} (h : Byte l) : bytesOf (strOfNums l) = l := by
  unfold bytesOf strOfNums
  simp only [List.map_map]
  refine (List.map_congr_left (g := id) (fun x hx => ?_)).trans (List.map_id l)
  have := h x hx
  simp only [Function.comp, id, UInt8.toNat_ofNat']
  omega
theorem strOf_bytesOf (s : ByteArray) : strOfNums (bytesOf s) = s := bytesOf_inj (bytesOf_strOf (bytesOf_byte s))
theorem beL_byte : ∀ (n : Nat) (x : Int), Byte (beL n x)
  | 0, x => by intro y hy; simp [beL] at hy
  | n + 1, x => by
    intro y hy
    simp only [beL, List.mem_append, List.mem_singleton] at hy
    rcases hy with hy | rfl
    · exact beL_byte n _ y hy
    · omega
theorem bytesOf_extract (s : ByteArray) (a b : Nat) : bytesOf (s.extract a b) = ((bytesOf s).drop a).take (b - a) := by
  unfold bytesOf
  rw [ByteArray.data_extract]
  simp [List.map_drop, List.map_take, List.extract_eq_take_drop]
/-- The number that bytes are. -/
def nvL (l : List Int) : Int := l.foldl (fun a b => a * 256 + b) 0
theorem nvL_snoc (l : List Int) (x : Int) : nvL (l ++ [x]) = nvL l * 256 + x := by simp [nvL]
theorem bt_get (s : ByteArray) (i : Int) : bt s i = (bytesOf s).getD i.toNat 0 := (rd_bytesOf s i).symm
theorem nv_list (s : ByteArray) (i : Nat) : ∀ n : Nat, i + n ≤ s.size → nv s i n = nvL (((bytesOf s).drop i).take n)
  | 0, _ => by simp [nv, nvL]
  | n + 1, h => by
    have hl := bytesOf_length s
    have e : ((bytesOf s).drop i).take (n + 1) = ((bytesOf s).drop i).take n ++ [(bytesOf s).getD (i + n) 0] := by
      rw [List.take_succ_eq_append_getElem (by rw [List.length_drop]; omega), List.getElem_drop, List.getD_eq_getElem?_getD, List.getElem?_eq_getElem (by omega)]
      rfl
    rw [e, nvL_snoc, nv, nv_list s i n (by omega), bt_get]
    have : ((i : Int) + (n : Int)).toNat = i + n := by omega
    rw [this]
theorem nvL_beL : ∀ (n : Nat) (x : Int), nvL (beL n x) = x % 256 ^ n
  | 0, x => by simp [beL, nvL]
  | n + 1, x => by
    have hp : (0 : Int) < 256 ^ n := Int.pow_pos (by decide)
    rw [beL, nvL_snoc, nvL_beL n, Int.pow_succ, Int.mul_comm (256 ^ n) 256]
    have h1 := Int.emod_add_mul_ediv x 256
    have h2 := Int.emod_add_mul_ediv (x / 256) (256 ^ n)
    have h3 := Int.emod_add_mul_ediv x (256 * 256 ^ n)
    have h4 : x / (256 * 256 ^ n) = x / 256 / 256 ^ n := by rw [Int.ediv_ediv_of_nonneg (by decide)]
    rw [h4] at h3
    generalize x / 256 / 256 ^ n = q at *
    generalize x / 256 % 256 ^ n = r at *
    generalize x % (256 * 256 ^ n) = z at *
    rw [Int.mul_assoc] at h3
    generalize (256 : Int) ^ n * q = u at *
    omega
/-- s reads, from place p on, as l. -/
def From (s : ByteArray) (p : Nat) (l : List Int) : Prop := p ≤ s.size ∧ (bytesOf s).drop p = l
theorem From.len {s : ByteArray} {p : Nat} {l : List Int} (h : From s p l) : p + l.length = s.size := by
  have := bytesOf_length s
  obtain ⟨h1, rfl⟩ := h
  rw [List.length_drop]
  omega
theorem From.skip {s : ByteArray} {p : Nat} {l m : List Int} (h : From s p (l ++ m)) : From s (p + l.length) m := by
  have hl := h.len
  refine ⟨by rw [List.length_append] at hl; omega, ?_⟩
  rw [← List.drop_drop, h.2, List.drop_left]
theorem From.start (s : ByteArray) : From s 0 (bytesOf s) := ⟨Nat.zero_le _, rfl⟩
theorem From.number {s : ByteArray} {p n : Nat} {x : Int} {m : List Int} (h : From s p (beL n x ++ m)) : nv s p n = x % 256 ^ n ∧ From s (p + n) m := by
  have hl := h.len
  rw [List.length_append, beL_length] at hl
  refine ⟨?_, ?_⟩
  · rw [nv_list s p n (by omega), h.2, List.take_left' (beL_length n x), nvL_beL]
  · have := h.skip
    rwa [beL_length] at this
theorem From.text {s t : ByteArray} {p : Nat} {m : List Int} (h : From s p (bytesOf t ++ m)) : s.extract p (p + t.size) = t ∧ From s (p + t.size) m := by
  refine ⟨bytesOf_inj ?_, ?_⟩
  · rw [bytesOf_extract, h.2, Nat.add_sub_cancel_left, List.take_left' (bytesOf_length t)]
  · have := h.skip
    rwa [bytesOf_length] at this
/-! ### Extensions -/
def dupB (l : List Int) : Bool := decide (¬ l.Nodup)
theorem dupB_nil : dupB [] = false := by simp [dupB]
theorem dupB_snoc (l : List Int) (x : Int) : dupB (l ++ [x]) = (dupB l || decide (x ∈ l)) := by
  unfold dupB
  rw [Bool.eq_iff_iff]
  have h : (l ++ [x]).Nodup ↔ l.Nodup ∧ x ∉ l := by
    rw [List.nodup_append]
    simp only [List.mem_singleton, forall_eq]
    refine ⟨fun ⟨a, _, c⟩ => ⟨a, fun h => c x h rfl⟩, fun ⟨a, c⟩ => ⟨a, List.nodup_cons.mpr ⟨List.not_mem_nil, List.nodup_nil⟩, fun y hy e => c (e ▸ hy)⟩⟩
  simp only [decide_eq_true_eq, Bool.or_eq_true, h]
  by_cases h1 : l.Nodup <;> by_cases h2 : x ∈ l <;> simp [h1, h2]
def kindsOf (l : List S41) : List Int := l.map S41.f0
theorem kinds_snoc (l : List S41) (x : S41) : kindsOf (l ++ [x]) = kindsOf l ++ [x.f0] := by simp [kindsOf]
/-- What is answered, what has been read and what there is behind it. -/
def fin (acc : List S41) : Option (List S41) → List S41 × Int
  | none => ([], 1600)
  | some l => if dupB (kindsOf (acc ++ l)) = true then ([], 1601) else (acc ++ l, 0)
/-- The extensions from a place on; none: they are not well formed. -/
def exL (s : ByteArray) : Nat → Int → Option (List S41)
  | 0, _ => some []
  | d + 1, p => if p < s.size then
      (if (numOf s p 2).2.2 = 0 then (if (vecOf s (p + 2) 2).2.2 = 0 then (exL s d (vecOf s (p + 2) 2).2.1).map (fun l => ⟨nv s p 2, (vecOf s (p + 2) 2).1⟩ :: l) else none) else none)
      else some []
theorem fin_cons (acc : List S41) (x : S41) (o : Option (List S41)) : fin acc (o.map (fun l => x :: l)) = fin (acc ++ [x]) o := by
  cases o with
  | none => rfl
  | some l => simp only [Option.map_some, fin, List.append_assoc, List.singleton_append]
theorem vec_bd {s : ByteArray} {p : Int} (h0 : 0 ≤ p) (h : (vecOf s p 2).2.2 = 0) : p + 2 ≤ (vecOf s p 2).2.1 ∧ (vecOf s p 2).2.1 ≤ s.size ∧ ((vecOf s p 2).1.size : Int) = (vecOf s p 2).2.1 - (p + 2) ∧ nv s p 2 = (vecOf s p 2).1.size := by
  unfold vecOf at h ⊢
  have v := nv_bd4 s p 2 (by omega)
  by_cases hc : p < 0 ∨ p > s.size ∨ s.size - p < (2 : Nat)
  · rw [if_pos hc] at h; simp at h
  · rw [if_neg hc] at h ⊢
    by_cases hl : nv s p 2 > s.size - (p + (2 : Nat))
    · rw [if_pos hl] at h; simp at h
    · rw [if_neg hl]
      have e : (s.extract (p + (2 : Nat)).toNat (p + (2 : Nat) + nv s p 2).toNat).size = (nv s p 2).toNat := by
        rw [ByteArray.size_extract]
        omega
      simp only [e]
      omega
theorem num_to {s : ByteArray} {p : Int} (h : (numOf s p 2).2.2 = 0) : numOf s p 2 = (nv s p 2, p + 2, 0) ∧ p + 2 ≤ s.size := by
  unfold numOf at h ⊢
  by_cases hc : p < 0 ∨ p > s.size ∨ s.size - p < (2 : Nat)
  · rw [if_pos hc] at h; simp at h
  · rw [if_neg hc]
    exact ⟨rfl, by omega⟩
theorem wfn {x : Int} (h0 : 0 ≤ x) (h1 : x < 4294967296) : (Lit.int .i64 x).wf = true := by
  simp [Lit.wf, IntKind.min, IntKind.max, IntKind.signed, IntKind.bits]
  omega
theorem get_loop (s : ByteArray) (hs : s.size ≤ 16777216) : ∀ (d : Nat) (p : Int) (acc : List S41), 0 ≤ p → p ≤ s.size → (s.size : Int) - p ≤ d → 4 * (acc.length : Int) ≤ p →
    Ev (fun k => ext_Get.l0 k s acc (kindsOf acc) (dupB (kindsOf acc)) p) (fin acc (exL s (d + 1) p)) := by
  intro d
  induction d with
  | zero =>
    intro p acc h0 h1 hd hl
    refine Ev.step (fun k => rfl) ?_
    simp only [ext_Get.l0]
    rw [exL]
    have hn : ¬ p < s.size := by omega
    refine evNeg hn ?_
    rw [if_neg hn]
    simp only [fin, List.append_nil]
    by_cases hu : dupB (kindsOf acc) = true
    · exact evPos hu (by rw [if_pos hu]; exact Ev.now _)
    · exact evNeg hu (by rw [if_neg hu]; exact Ev.now _)
  | succ d ih =>
    intro p acc h0 h1 hd hl
    refine Ev.step (fun k => rfl) ?_
    simp only [ext_Get.l0]
    rw [exL]
    by_cases hlt : p < s.size
    · refine evPos hlt ?_
      rw [if_pos hlt]
      refine Ev.bind (U16_any s p (by omega)) ?_
      by_cases hn : (numOf s p 2).2.2 = 0
      · refine evPos hn ?_
        rw [if_pos hn]
        obtain ⟨e, hp2⟩ := num_to hn
        have v := nv_bd4 s p 2 (by omega)
        rw [e]
        refine Ev.bind (vec_ok (s := s) (a := p + 2) (n := 2) (by omega) (by omega) (by omega)) ?_
        by_cases hv : (vecOf s (p + 2) 2).2.2 = 0
        · refine evPos hv ?_
          rw [if_pos hv, fin_cons]
          obtain ⟨b1, b2, b3, _⟩ := vec_bd (by omega) hv
          have hlen : (kindsOf acc).length = acc.length := by simp [kindsOf]
          have key := ih (vecOf s (p + 2) 2).2.1 (acc ++ [⟨nv s p 2, (vecOf s (p + 2) 2).1⟩]) (by omega) b2 (by omega) (by simp only [List.length_append, List.length_singleton]; omega)
          rw [kinds_snoc, dupB_snoc] at key
          by_cases hu : dupB (kindsOf acc) = true
          · refine evPos hu (evPos (wfn v.1 v.2) (evPos (by omega) (evPos (by omega) ?_)))
            rw [hu] at key
            exact key
          · refine evNeg hu (evPos (wfn v.1 v.2) (evPos (by omega) (evPos (by omega) ?_)))
            have hu' : dupB (kindsOf acc) = false := by simpa using hu
            rw [hu'] at key
            exact key
        · refine evNeg hv ?_
          rw [if_neg hv]
          exact Ev.now _
      · refine evNeg hn ?_
        rw [if_neg hn]
        exact Ev.now _
    · refine evNeg hlt ?_
      rw [if_neg hlt]
      simp only [fin, List.append_nil]
      by_cases hu : dupB (kindsOf acc) = true
      · exact evPos hu (by rw [if_pos hu]; exact Ev.now _)
      · exact evNeg hu (by rw [if_neg hu]; exact Ev.now _)
def getOf (s : ByteArray) : List S41 × Int := fin [] (exL s (s.size + 1) 0)
theorem get_any (s : ByteArray) (hs : s.size ≤ 16777216) : Ev (fun k => ext_Get.f k s) (getOf s) := by
  have h := get_loop s hs s.size 0 [] (by omega) (by omega) (by omega) (by simp)
  exact h
/-! ### What is written -/
def okE (x : S41) : Prop := 0 ≤ x.f0 ∧ x.f0 ≤ 65535 ∧ x.f1.size ≤ 65535
instance (x : S41) : Decidable (okE x) := by unfold okE; infer_instance
def encE (x : S41) : ByteArray := strOfNums (beL 2 x.f0) ++ (strOfNums (beL 2 x.f1.size) ++ x.f1)
def encs (l : List S41) : ByteArray := l.foldl (fun a x => a ++ encE x) ⟨#[]⟩
theorem encs_snoc (l : List S41) (x : S41) : encs (l ++ [x]) = encs l ++ encE x := by simp [encs]
theorem encE_size {x : S41} (h : okE x) : (encE x).size ≤ 65539 := by
  have := h.2.2
  unfold encE
  rw [ByteArray.size_append, ByteArray.size_append, strOf_size, strOf_size, beL_length, beL_length]
  omega
def putL (pre : List S41) : List S41 → ByteArray × Int
  | [] => if dupB (kindsOf pre) = true then (⟨#[]⟩, 1601) else (encs pre, 0)
  | x :: r => if okE x then putL (pre ++ [x]) r else (⟨#[]⟩, 1600)
theorem rd_mid (pre r : List S41) (x : S41) : rd_T41 (pre ++ x :: r) (pre.length : Int) = x := by
  simp [rd_T41, List.getD_eq_getElem?_getD]
theorem put2 {x : Int} (h0 : 0 ≤ x) (h1 : x ≤ 65535) : wire_Put.f x 2 = some (strOfNums (beL 2 x), 0) := by
  have h := put_ok x 2 (by omega) (by omega) h0
  unfold putOf at h
  rw [if_pos (by omega)] at h
  exact h
theorem put2_no {x : Int} (h : ¬ (0 ≤ x ∧ x ≤ 65535)) : wire_Put.f x 2 = some ((⟨#[]⟩ : ByteArray), 101) := by
  by_cases h0 : 0 ≤ x
  · have h := put_ok x 2 (by omega) (by omega) h0
    unfold putOf at h
    rw [if_neg (by omega)] at h
    exact h
  · exact put_no x 2 (by omega)
theorem pv2 {t : ByteArray} (ht : t.size ≤ 65535) : wire_PutVec.f t 2 = some (strOfNums (beL 2 t.size) ++ t, 0) := by
  have h := putVec_ok t 2 (by omega) (by omega) (by omega)
  unfold putVecOf at h
  rw [if_pos (by omega)] at h
  exact h
theorem pv2_no {t : ByteArray} (ht : ¬ t.size ≤ 65535) (hs : t.size ≤ 140737488351232) : wire_PutVec.f t 2 = some ((⟨#[]⟩ : ByteArray), 101) := by
  have h := putVec_ok t 2 (by omega) (by omega) hs
  unfold putVecOf at h
  rw [if_neg (by omega)] at h
  exact h
theorem put_loop : ∀ (r pre : List S41), (pre ++ r).length ≤ 16777216 → (∀ x ∈ r, x.f1.size ≤ 140737488351232) → (encs pre).size ≤ 65539 * pre.length →
    Ev (fun k => ext_Put.l0 k (encs pre) (kindsOf pre) (dupB (kindsOf pre)) (pre ++ r) ((pre ++ r).length : Int) pre.length) (putL pre r)
  | [], pre, hl, hb, he => by
    refine Ev.step (fun k => rfl) ?_
    simp only [ext_Put.l0, List.append_nil, putL]
    refine evNeg (by omega) ?_
    by_cases hu : dupB (kindsOf pre) = true
    · exact evPos hu (by rw [if_pos hu]; exact Ev.now _)
    · exact evNeg hu (by rw [if_neg hu]; exact Ev.now _)
  | x :: r, pre, hl, hb, he => by
    have hl2 : pre.length + r.length + 1 ≤ 16777216 := by simpa [Nat.add_assoc] using hl
    refine Ev.step (fun k => rfl) ?_
    simp only [ext_Put.l0, putL, rd_mid]
    refine evPos (by simp; omega) (evPos (by omega) (evPos (by simp; omega) ?_))
    have hx := hb x (by simp)
    by_cases hk : 0 ≤ x.f0 ∧ x.f0 ≤ 65535
    · refine Ev.bind (ev_const (put2 hk.1 hk.2)) ?_
      by_cases hz : x.f1.size ≤ 65535
      · refine Ev.bind (ev_const (pv2 hz)) (evPos rfl (evPos rfl ?_))
        have ho : okE x := ⟨hk.1, hk.2, hz⟩
        rw [if_pos ho]
        have hE := encE_size ho
        have hlen : (kindsOf pre).length = pre.length := by simp [kindsOf]
        have key := put_loop r (pre ++ [x]) (by simpa using hl) (fun y hy => hb y (List.mem_cons_of_mem _ hy)) (by rw [encs_snoc, ByteArray.size_append, List.length_append, List.length_singleton]; omega)
        rw [encs_snoc, kinds_snoc, dupB_snoc, List.append_assoc, List.singleton_append] at key
        have e1 : wrap64 ((pre.length : Int) + 1) = ((pre ++ [x]).length : Int) := by
          rw [w64 (by omega) (by omega), List.length_append, List.length_singleton]; omega
        have hE' : (strOfNums (beL 2 x.f0) ++ (strOfNums (beL 2 x.f1.size) ++ x.f1)).size ≤ 65539 := hE
        have hE2 : (strOfNums (beL 2 x.f0)).size + (strOfNums (beL 2 x.f1.size) ++ x.f1).size ≤ 65539 := by rw [← ByteArray.size_append]; exact hE'
        by_cases hu : dupB (kindsOf pre) = true
        · refine evPos hu (evPos (wfn hk.1 (by omega)) (evPos (by omega) (evPos (by dsimp only; omega) (Ev.bind (ev_const rfl) (evPos (by rw [ByteArray.size_append]; dsimp only; omega) ?_)))))
          rw [e1]
          rw [hu] at key
          exact key
        · refine evNeg hu (evPos (wfn hk.1 (by omega)) (evPos (by omega) (evPos (by dsimp only; omega) (Ev.bind (ev_const rfl) (evPos (by rw [ByteArray.size_append]; dsimp only; omega) ?_)))))
          rw [e1]
          have hu' : dupB (kindsOf pre) = false := by simpa using hu
          rw [hu'] at key
          exact key
      · refine Ev.bind (ev_const (pv2_no hz hx)) (evPos rfl (evNeg (by decide) ?_))
        rw [if_neg (fun h => hz h.2.2)]
        exact Ev.now _
    · rw [if_neg (fun h => hk ⟨h.1, h.2.1⟩)]
      refine Ev.bind (ev_const (put2_no hk)) ?_
      by_cases hz : x.f1.size ≤ 65535
      · exact Ev.bind (ev_const (pv2 hz)) (evNeg (by simp) (Ev.now _))
      · exact Ev.bind (ev_const (pv2_no hz hx)) (evNeg (by simp) (Ev.now _))
theorem put_any (l : List S41) (hl : l.length ≤ 16777216) (hb : ∀ x ∈ l, x.f1.size ≤ 140737488351232) : Ev (fun k => ext_Put.f k l) (putL [] l) := put_loop l [] hl hb (by simp [encs, ByteArray.size])

end Go.Proofs.Ytlkebjkpmiehcaa.Pure
