/- Lemmas on wire's functions: what each answers, for all arguments in reach. Conditions: each lemma's own. -/
import Derived.Test.YtggnmnpmhknjgaaYx1
import Derived.Test.YtggnmnpmhknjgaaYx2
import Derived.Test.YtggnmnpmhknjgaaYx3
import Derived.Test.YtggnmnpmhknjgaaYx5
import Derived.Test.YtggnmnpmhknjgaaYx6
import Derived.Test.YtggnmnpmhknjgaaYx7
namespace Go.Proofs.Ytggnmnpmhknjgaa.Pure
open Go.RowKit Go.Proofs.Ytggnmnpmhknjgaa.Y Go.Proofs.YtggnmnpmhknjgaaW.PrintWords Go.Proofs.YtggnmnpmhknjgaaW.PrintLast Go.Proofs.YtggnmnpmhknjgaaW.PrintMore
set_option linter.unusedVariables false
set_option linter.unusedSimpArgs false

/-! ### Words -/
theorem wf64 {a : Int} (h : (Lit.int .i64 a).wf = true) : -9223372036854775808 ≤ a ∧ a ≤ 9223372036854775807 := by
  simp [Lit.wf, IntKind.min, IntKind.max, IntKind.signed, IntKind.bits] at h
  omega
theorem w64 {a : Int} (h0 : -9223372036854775808 ≤ a) (h1 : a ≤ 9223372036854775807) : wrap64 a = a := by unfold wrap64; omega
theorem ev_const {α : Type} {x : Option α} {r : α} (h : x = some r) : Ev (fun _ => x) r := ⟨0, fun _ _ => h⟩
theorem ev_const' {α : Type} {x : Nat → Option α} {r : α} (h : ∀ k, x k = some r) : Ev x r := ⟨0, fun k _ => h k⟩
theorem wraps_i64 : ∀ n : Int, 0 ≤ n → n < 2 ^ 63 → IntKind.i64.wrap n = n := by
  intro n h0 h1
  simp [IntKind.wrap, IntKind.bits, IntKind.signed]
  omega
/-- A number of n bytes, the greatest first. -/
def nv (s : ByteArray) (i : Int) : Nat → Int
  | 0 => 0
  | n + 1 => nv s i n * 256 + bt s (i + n)
theorem nv_bd (s : ByteArray) (i : Int) : ∀ n, 0 ≤ nv s i n ∧ nv s i n < 256 ^ n
  | 0 => by simp [nv]
  | n + 1 => by
    have h := nv_bd s i n
    have b := bt_range s (i + n)
    simp only [nv]
    rw [Int.pow_succ]
    omega
theorem nv_bd4 (s : ByteArray) (i : Int) (n : Nat) (h : n ≤ 4) : 0 ≤ nv s i n ∧ nv s i n < 4294967296 := by
  have h1 := nv_bd s i n
  refine ⟨h1.1, Int.lt_of_lt_of_le h1.2 ?_⟩
  have : n = 0 ∨ n = 1 ∨ n = 2 ∨ n = 3 ∨ n = 4 := by omega
  rcases this with rfl | rfl | rfl | rfl | rfl <;> decide
theorem or_byte {x y : Int} (h0 : 0 ≤ x) (h1 : x < 4294967296) (h2 : 0 ≤ y) (h3 : y ≤ 255) : Go.bits .or .i64 (wrap64 (x * 256)) (wrap64 y) = x * 256 + y := by
  rw [w64 (by omega) (by omega), w64 (a := y) (by omega) (by omega)]
  exact Go.bits_join .i64 63 (by decide) wraps_i64 8 (x * 256) y (by omega) (by omega) (by omega) (by omega) (by omega) (by omega)
/-! ### The program's numbers -/
theorem number_loop (s : ByteArray) (a : Int) (n : Nat) (ha : 0 ≤ a) (hn : n ≤ 4) (h : a + n ≤ s.size) (hs : s.size ≤ 140737488351232) :
    ∀ d j : Nat, j + d = n → Ev (fun k => wire_number.l0 k s a n (nv s a j) n j) (nv s a n, a + n, 0) := by
  intro d
  induction d with
  | zero =>
    intro j hj
    obtain rfl : j = n := by omega
    refine Ev.step (f := fun _ => some (nv s a j, a + (j : Int), 0)) (fun k => ?_) (Ev.now _)
    simp only [wire_number.l0]
    rw [if_neg (by omega), w64 (a := a + (j : Int)) (by omega) (by omega)]
  | succ d ih =>
    intro j hj
    refine Ev.step (f := fun k => wire_number.l0 k s a n (nv s a (j + 1)) n ((j + 1 : Nat) : Int)) (fun k => ?_) (ih (j + 1) (by omega))
    simp only [wire_number.l0]
    have b := bt_range s (a + (j : Int))
    have v := nv_bd4 s a j (by omega)
    rw [if_pos (by omega), w64 (a := a + (j : Int)) (by omega) (by omega), if_pos (by omega), if_pos (by omega), or_byte v.1 v.2 b.1 b.2, w64 (a := (j : Int) + 1) (by omega) (by omega)]
    rfl
def CutAt (s : ByteArray) (a : Int) (n : Int) : Prop := a < 0 ∨ a > s.size ∨ s.size - a < n
theorem number_ok {s : ByteArray} {a : Int} {n : Nat} (ha : 0 ≤ a) (hn : n ≤ 4) (h : a + n ≤ s.size) (hs : s.size ≤ 140737488351232) :
    Ev (fun k => wire_number.f k s a n) (nv s a n, a + n, 0) := by
  refine Ev.congr (f := fun k => wire_number.j0 k s a n false) (fun k => ?_) ?_
  · unfold wire_number.f
    rw [if_neg (by omega), if_neg (by omega), w64 (by omega) (by omega)]
    congr 1
    exact decide_eq_false (by omega)
  · refine Ev.step (f := fun k => wire_number.l0 k s a n 0 n 0) (fun k => ?_) (number_loop s a n ha hn h hs n 0 (by omega))
    simp only [wire_number.j0]
    rfl
theorem number_cut {s : ByteArray} {a : Int} {n : Int} (hc : CutAt s a n) (hs : s.size ≤ 140737488351232) :
    Ev (fun k => wire_number.f k s a n) (0, 0, 100) := by
  have key : Ev (fun k => wire_number.j0 k s a n true) (0, 0, 100) := Ev.step (f := fun _ => some (0, 0, 100)) (fun k => by simp only [wire_number.j0]; rfl) (Ev.now _)
  refine Ev.congr (f := fun k => wire_number.j0 k s a n true) (fun k => ?_) key
  unfold wire_number.f CutAt at *
  by_cases h0 : a < 0
  · rw [if_pos h0]
  · rw [if_neg h0]
    by_cases h1 : a > (s.size : Int)
    · rw [if_pos h1]
    · rw [if_neg h1, w64 (by omega) (by omega)]
      congr 1
      exact decide_eq_true (by omega)
theorem num_f (e : Int) : halberdlaw0_Num.f e = some e := rfl
theorem aw18 : halberdlaw18_awake.f = some true := rfl
theorem aw : halberdlaw1_awake.f = some true := rfl
theorem bindE {α β : Type} {x : Option α} {f : α → Option β} {a : α} {r : Option β} (h : x = some a) (k : f a = r) : x.bind f = r := by rw [h]; exact k
theorem evPos {α : Type} {c : Prop} [Decidable c] {g f : Nat → Option α} {r : α} (h : c) (k : Ev g r) : Ev (fun n => if c then g n else f n) r := by
  obtain ⟨K, k⟩ := k
  exact ⟨K, fun n hn => by simp only []; rw [if_pos h]; exact k n hn⟩
theorem evNeg {α : Type} {c : Prop} [Decidable c] {g f : Nat → Option α} {r : α} (h : ¬ c) (k : Ev f r) : Ev (fun n => if c then g n else f n) r := by
  obtain ⟨K, k⟩ := k
  exact ⟨K, fun n hn => by simp only []; rw [if_neg h]; exact k n hn⟩
theorem toNat_ofInt64 (x : Int) : (BitVec.ofInt 64 x).toNat = (x % 18446744073709551616).toNat := by
  rw [BitVec.toNat_ofInt]
  have : ((2 ^ 64 : Nat) : Int) = 18446744073709551616 := rfl
  rw [this]
theorem and_mask (x : Int) (i : Nat) (hi : i ≤ 62) : Go.bits .and .i64 x ((2 ^ i - 1 : Nat) : Int) = x % ((2 ^ i : Nat) : Int) := by
  have hp : 0 < 2 ^ i := Nat.two_pow_pos i
  have hq : 2 ^ i ≤ 4611686018427387904 := by
    have : (4611686018427387904 : Nat) = 2 ^ 62 := by decide
    rw [this]; exact Nat.pow_le_pow_right (by decide) hi
  have hd : ((2 ^ i : Nat) : Int) ∣ 18446744073709551616 := by
    have h1 : (2 ^ i : Nat) ∣ 2 ^ 64 := Nat.pow_dvd_pow 2 (by omega)
    have h2 : ((2 ^ 64 : Nat) : Int) = 18446744073709551616 := rfl
    rw [← h2]
    exact Int.natCast_dvd_natCast.mpr h1
  have e2 : (BitVec.ofInt 64 x &&& BitVec.ofInt 64 ((2 ^ i - 1 : Nat) : Int)).toNat = (x % 18446744073709551616).toNat % 2 ^ i := by
    have hm : 2 ^ i - 1 < 2 ^ 64 := by
      have : (2 : Nat) ^ 64 = 18446744073709551616 := by decide
      omega
    rw [BitVec.toNat_and, BitVec.ofInt_natCast, BitVec.toNat_ofNat, Nat.mod_eq_of_lt hm, toNat_ofInt64, Nat.and_two_pow_sub_one_eq_mod]
  have e0 : Go.bits .and .i64 x ((2 ^ i - 1 : Nat) : Int) = IntKind.i64.wrap (((BitVec.ofInt 64 x &&& BitVec.ofInt 64 ((2 ^ i - 1 : Nat) : Int)).toNat : Nat) : Int) := rfl
  rw [e0, e2]
  generalize 2 ^ i = m at *
  have hb := Int.emod_nonneg x (b := (m : Int)) (by omega)
  have hl := Int.emod_lt_of_pos x (b := (m : Int)) (by omega)
  have hn := Int.emod_nonneg x (b := 18446744073709551616) (by decide)
  have hz := Int.emod_emod_of_dvd x hd
  rw [Int.natCast_emod, Int.toNat_of_nonneg hn, hz, wraps_i64 _ hb (by omega)]
theorem and_255 (x : Int) : Go.bits .and .i64 x 255 = x % 256 := and_mask x 8 (by decide)
theorem and_7 (x : Int) : Go.bits .and .i64 x 7 = x % 8 := and_mask x 3 (by decide)
theorem u64_wrap (n : Int) : IntKind.u64.wrap n = n % 18446744073709551616 := by simp [IntKind.wrap, IntKind.bits, IntKind.signed]
/-- What a number is. -/
def numOf (s : ByteArray) (a : Int) (n : Nat) : Int × Int × Int :=
  if a < 0 ∨ a > s.size ∨ s.size - a < n then (0, 0, 100) else (nv s a n, a + n, 0)
theorem number_any (s : ByteArray) (a : Int) (n : Nat) (hn : n ≤ 4) (hs : s.size ≤ 140737488351232) : Ev (fun k => wire_number.f k s a n) (numOf s a n) := by
  unfold numOf
  by_cases hc : a < 0 ∨ a > s.size ∨ s.size - a < n
  · rw [if_pos hc]; exact number_cut hc hs
  · rw [if_neg hc]; exact number_ok (by omega) hn (by omega) hs
theorem U8_any (s : ByteArray) (a : Int) (hs : s.size ≤ 140737488351232) : Ev (fun k => wire_U8.f k s a) (numOf s a 1) := by
  refine Ev.congr (f := fun k => (wire_number.f k s a ((1 : Nat) : Int)).bind _) (fun k => by unfold wire_U8.f; rfl) ?_
  exact Ev.bind (number_any s a 1 (by omega) hs) (Ev.now _)
theorem U16_any (s : ByteArray) (a : Int) (hs : s.size ≤ 140737488351232) : Ev (fun k => wire_U16.f k s a) (numOf s a 2) := by
  refine Ev.congr (f := fun k => (wire_number.f k s a ((2 : Nat) : Int)).bind _) (fun k => by unfold wire_U16.f; rfl) ?_
  exact Ev.bind (number_any s a 2 (by omega) hs) (Ev.now _)
theorem U24_any (s : ByteArray) (a : Int) (hs : s.size ≤ 140737488351232) : Ev (fun k => wire_U24.f k s a) (numOf s a 3) := by
  refine Ev.congr (f := fun k => (wire_number.f k s a ((3 : Nat) : Int)).bind _) (fun k => by unfold wire_U24.f; rfl) ?_
  exact Ev.bind (number_any s a 3 (by omega) hs) (Ev.now _)
theorem U32_any (s : ByteArray) (a : Int) (hs : s.size ≤ 140737488351232) : Ev (fun k => wire_U32.f k s a) (numOf s a 4) := by
  refine Ev.congr (f := fun k => (wire_number.f k s a ((4 : Nat) : Int)).bind _) (fun k => by unfold wire_U32.f; rfl) ?_
  exact Ev.bind (number_any s a 4 (by omega) hs) (Ev.now _)
theorem strOf_size (l : List Int) : (strOfNums l).size = l.length := by simp [strOfNums, ByteArray.size]
/-! ### Bytes out of numbers -/
def beL : Nat → Int → List Int
  | 0, _ => []
  | n + 1, x => beL n (x / 256) ++ [x % 256]
theorem beL_length : ∀ (n : Nat) (x : Int), (beL n x).length = n
  | 0, _ => rfl
  | n + 1, x => by simp [beL, beL_length n]
theorem bytes_ok (x : Int) (n : Nat) (h0 : 1 ≤ n) (h1 : n ≤ 4) : wire_Bytes.f x n = some (strOfNums (beL n x)) := by
  have : n = 1 ∨ n = 2 ∨ n = 3 ∨ n = 4 := by omega
  rcases this with rfl | rfl | rfl | rfl <;> simp [wire_Bytes.f, beL, Int.ediv_ediv]
def putOf (x : Int) (n : Nat) : ByteArray × Int := if x < 256 ^ n then (strOfNums (beL n x), 0) else (⟨#[]⟩, 101)
theorem put_ok (x : Int) (n : Nat) (h0 : 1 ≤ n) (h1 : n ≤ 4) (hx : 0 ≤ x) : wire_Put.f x n = some (putOf x n) := by
  have hb := bytes_ok x n h0 h1
  unfold wire_Put.f putOf
  rw [if_neg (by omega), if_neg (by omega), if_neg (by omega), hb]
  have : n = 1 ∨ n = 2 ∨ n = 3 ∨ n = 4 := by omega
  rcases this with rfl | rfl | rfl | rfl <;> simp only [shr, wrap64, IntKind.bits] <;> simp <;> split <;> split <;> first | rfl | omega
theorem put_no (x n : Int) (h : n < 1 ∨ n > 4 ∨ x < 0) : wire_Put.f x n = some ((⟨#[]⟩ : ByteArray), 101) := by
  unfold wire_Put.f
  by_cases h0 : n < 1
  · rw [if_pos h0]
  · rw [if_neg h0]
    by_cases h1 : n > 4
    · rw [if_pos h1]
    · rw [if_neg h1, if_pos (by omega)]
/-! ### Texts as lists of numbers -/
theorem bytesOf_app (a b : ByteArray) : bytesOf (a ++ b) = bytesOf a ++ bytesOf b := by
  unfold bytesOf
  simp
theorem map_toNat_inj : ∀ {l m : List UInt8}, l.map (fun b => (b.toNat : Int)) = m.map (fun b => (b.toNat : Int)) → l = m
  | [], [], _ => rfl
  | [], _ :: _, h => by simp at h
  | _ :: _, [], h => by simp at h
  | x :: l, y :: m, h => by
    simp only [List.map_cons, List.cons.injEq] at h
    obtain ⟨h1, h2⟩ := h
    have h3 : x.toNat = y.toNat := by omega
    rw [UInt8.toNat_inj.mp h3, map_toNat_inj h2]
theorem bytesOf_inj {a b : ByteArray} (h : bytesOf a = bytesOf b) : a = b := by
  have h1 := map_toNat_inj h
  cases a; cases b
  congr 1
  exact Array.toList_inj.mp h1
def Byte (l : List Int) : Prop := ∀ x ∈ l, 0 ≤ x ∧ x ≤ 255
theorem bytesOf_byte (s : ByteArray) : Byte (bytesOf s) := by
  intro x hx
  unfold bytesOf at hx
  obtain ⟨b, _, rfl⟩ := List.mem_map.mp hx
  have := UInt8.toNat_lt b
  omega
theorem bytesOf_strOf {l : List Int} (h : Byte l) : bytesOf (strOfNums l) = l := by
  unfold bytesOf strOfNums
  simp only [List.map_map]
  refine (List.map_congr_left (g := id) (fun x hx => ?_)).trans (List.map_id l)
  have := h x hx
  simp only [Function.comp, id, UInt8.toNat_ofNat']
  omega
theorem strOf_bytesOf (s : ByteArray) : strOfNums (bytesOf s) = s := bytesOf_inj (bytesOf_strOf (bytesOf_byte s))
theorem beL_byte : ∀ (n : Nat) (x : Int), Byte (beL n x)
  | 0, x => by intro y hy; simp [beL] at hy
  | n + 1, x => by
    intro y hy
    simp only [beL, List.mem_append, List.mem_singleton] at hy
    rcases hy with hy | rfl
    · exact beL_byte n _ y hy
    · omega
theorem bytesOf_extract (s : ByteArray) (a b : Nat) : bytesOf (s.extract a b) = ((bytesOf s).drop a).take (b - a) := by
  unfold bytesOf
  rw [ByteArray.data_extract]
  simp [List.map_drop, List.map_take, List.extract_eq_take_drop]
/-- The number that bytes are. -/
def nvL (l : List Int) : Int := l.foldl (fun a b => a * 256 + b) 0
theorem nvL_snoc (l : List Int) (x : Int) : nvL (l ++ [x]) = nvL l * 256 + x := by simp [nvL]
theorem bt_get (s : ByteArray) (i : Int) : bt s i = (bytesOf s).getD i.toNat 0 := (rd_bytesOf s i).symm
theorem nv_list (s : ByteArray) (i : Nat) : ∀ n : Nat, i + n ≤ s.size → nv s i n = nvL (((bytesOf s).drop i).take n)
  | 0, _ => by simp [nv, nvL]
  | n + 1, h => by
    have hl := bytesOf_length s
    have e : ((bytesOf s).drop i).take (n + 1) = ((bytesOf s).drop i).take n ++ [(bytesOf s).getD (i + n) 0] := by
      rw [List.take_succ_eq_append_getElem (by rw [List.length_drop]; omega), List.getElem_drop, List.getD_eq_getElem?_getD, List.getElem?_eq_getElem (by omega)]
      rfl
    rw [e, nvL_snoc, nv, nv_list s i n (by omega), bt_get]
    have : ((i : Int) + (n : Int)).toNat = i + n := by omega
    rw [this]
theorem nvL_beL : ∀ (n : Nat) (x : Int), nvL (beL n x) = x % 256 ^ n
  | 0, x => by simp [beL, nvL]
  | n + 1, x => by
    have hp : (0 : Int) < 256 ^ n := Int.pow_pos (by decide)
    rw [beL, nvL_snoc, nvL_beL n, Int.pow_succ, Int.mul_comm (256 ^ n) 256]
    have h1 := Int.emod_add_mul_ediv x 256
    have h2 := Int.emod_add_mul_ediv (x / 256) (256 ^ n)
    have h3 := Int.emod_add_mul_ediv x (256 * 256 ^ n)
    have h4 : x / (256 * 256 ^ n) = x / 256 / 256 ^ n := by rw [Int.ediv_ediv_of_nonneg (by decide)]
    rw [h4] at h3
    generalize x / 256 / 256 ^ n = q at *
    generalize x / 256 % 256 ^ n = r at *
    generalize x % (256 * 256 ^ n) = z at *
    rw [Int.mul_assoc] at h3
    generalize (256 : Int) ^ n * q = u at *
    omega
/-- s reads, from place p on, as l. -/
def From (s : ByteArray) (p : Nat) (l : List Int) : Prop := p ≤ s.size ∧ (bytesOf s).drop p = l
theorem From.len {s : ByteArray} {p : Nat} {l : List Int} (h : From s p l) : p + l.length = s.size := by
  have := bytesOf_length s
  obtain ⟨h1, rfl⟩ := h
  rw [List.length_drop]
  omega
theorem From.skip {s : ByteArray} {p : Nat} {l m : List Int} (h : From s p (l ++ m)) : From s (p + l.length) m := by
  have hl := h.len
  refine ⟨by rw [List.length_append] at hl; omega, ?_⟩
  rw [← List.drop_drop, h.2, List.drop_left]
theorem From.start (s : ByteArray) : From s 0 (bytesOf s) := ⟨Nat.zero_le _, rfl⟩
theorem From.number {s : ByteArray} {p n : Nat} {x : Int} {m : List Int} (h : From s p (beL n x ++ m)) : nv s p n = x % 256 ^ n ∧ From s (p + n) m := by
  have hl := h.len
  rw [List.length_append, beL_length] at hl
  refine ⟨?_, ?_⟩
  · rw [nv_list s p n (by omega), h.2, List.take_left' (beL_length n x), nvL_beL]
  · have := h.skip
    rwa [beL_length] at this
theorem From.text {s t : ByteArray} {p : Nat} {m : List Int} (h : From s p (bytesOf t ++ m)) : s.extract p (p + t.size) = t ∧ From s (p + t.size) m := by
  refine ⟨bytesOf_inj ?_, ?_⟩
  · rw [bytesOf_extract, h.2, Nat.add_sub_cancel_left, List.take_left' (bytesOf_length t)]
  · have := h.skip
    rwa [bytesOf_length] at this

end Go.Proofs.Ytggnmnpmhknjgaa.Pure
