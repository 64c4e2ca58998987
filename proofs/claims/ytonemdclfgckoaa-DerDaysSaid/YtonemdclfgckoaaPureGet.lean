/- Lemmas on der.Get and der.All: what they read, at all bytes in reach. Conditions: each lemma's own. -/
import Derived.Test.YtonemdclfgckoaaXx17
import Derived.Test.YtonemdclfgckoaaXx18
import Derived.Test.YtonemdclfgckoaaXx19
import Derived.Test.YtonemdclfgckoaaXx2
import Derived.Test.YtonemdclfgckoaaPurePut
namespace Go.Proofs.Ytonemdclfgckoaa.Pure
open Go.RowKit Go.Proofs.Ytonemdclfgckoaa.X Go.Proofs.YtonemdclfgckoaaW.PrintWords Go.Proofs.YtonemdclfgckoaaW.PrintLast Go.Proofs.YtonemdclfgckoaaW.PrintMore
set_option linter.unusedVariables false
set_option linter.unusedSimpArgs false

/-! ### der.Get and der.All -/
theorem or_byte {x y : Int} (h0 : 0 ≤ x) (h1 : x < 4294967296) (h2 : 0 ≤ y) (h3 : y ≤ 255) : Go.bits .or .i64 (wrap64 (x * 256)) (wrap64 y) = x * 256 + y := by
  rw [w64 (by omega) (by omega), w64 (a := y) (by omega) (by omega)]
  exact Go.bits_join .i64 63 (by decide) wraps_i64 8 (x * 256) y (by omega) (by omega) (by omega) (by omega) (by omega) (by omega)
theorem bt_get (s : ByteArray) (i : Int) : bt s i = (bytesOf s).getD i.toNat 0 := (rd_bytesOf s i).symm
theorem From.byte {s : ByteArray} {p : Nat} {l : List Int} (h : From s p l) (i : Nat) (hi : i < l.length) : bt s ((p + i : Nat) : Int) = l.getD i 0 := by
  have hl := h.len
  have hb := bytesOf_length s
  have hn : (((p + i : Nat) : Int)).toNat = p + i := by omega
  rw [bt_get, hn, ← h.2, List.getD_eq_getElem?_getD, List.getD_eq_getElem?_getD, List.getElem?_drop]
theorem From.bytes {s : ByteArray} {p : Nat} {l : List Int} (h : From s p l) : Byte l := by
  intro x hx
  rw [← h.2] at hx
  exact bytesOf_byte s x (List.mem_of_mem_drop hx)
/-- A length: the number, how many bytes it takes. -/
def lengthL : List Int → Option (Int × Nat)
  | [] => none
  | c :: r => if c < 128 then some (c, 1) else if c = 130 then (match r with
      | x :: y :: _ => if x * 256 + y < 256 then none else some (x * 256 + y, 3)
      | _ => none) else if c = 129 then (match r with
      | x :: _ => if x < 128 then none else some (x, 2)
      | [] => none) else none
def lenRes (p : Nat) : Option (Int × Nat) → Int × Int
  | none => (0, -1)
  | some (n, h) => (n, ((p + h : Nat) : Int))
theorem length_j0 {s : ByteArray} {p : Nat} {x6 x7 : Int} {c : Int} {r : List Int} (h : From s p (c :: r)) (hs : s.size ≤ 140737488351232) (h60 : 0 ≤ x6) (h61 : x6 < 256) (h7 : 0 ≤ x7) (h71 : x7 < 1000) :
    Ev (fun k => der_length.j0 k s p x6 x7) (match r with | [] => (0, -1) | y :: _ => if x6 * 256 + y < x7 + 128 then (0, -1) else (x6 * 256 + y, ((p + 2 : Nat) : Int))) := by
  have hl := h.len
  simp only [List.length_cons] at hl
  have w1 : wrap64 ((p : Int) + 1) = ((p + 1 : Nat) : Int) := by rw [w64 (by omega) (by omega)]; omega
  have w2 : wrap64 ((p : Int) + 2) = ((p + 2 : Nat) : Int) := by rw [w64 (by omega) (by omega)]; omega
  cases r with
  | nil =>
    simp only [List.length_nil] at hl
    refine Ev.step (f := fun _ => some (0, -1)) (fun k => ?_) (Ev.now _)
    simp only [der_length.j0]
    rw [w1, if_pos (by omega)]
  | cons y r =>
    simp only [List.length_cons] at hl
    have hy := h.byte 1 (by simp)
    simp only [List.getD_cons_succ, List.getD_cons_zero] at hy
    have by1 := h.bytes y (by simp)
    refine Ev.step (f := fun _ => some (if x6 * 256 + y < x7 + 128 then (0, -1) else (x6 * 256 + y, ((p + 2 : Nat) : Int)))) (fun k => ?_) (Ev.now _)
    simp only [der_length.j0]
    rw [w1, w2, if_neg (by omega), if_pos (by omega), if_pos (by omega), hy, or_byte (by omega) (by omega) by1.1 by1.2, w64 (by omega) (by omega)]
    split <;> rfl
theorem length_ok {s : ByteArray} {p : Nat} {l : List Int} (h : From s p l) (hs : s.size ≤ 140737488351232) : Ev (fun k => der_length.f k s p) (lenRes p (lengthL l)) := by
  have hl := h.len
  cases l with
  | nil =>
    simp only [List.length_nil] at hl
    refine ev_const' (fun k => ?_)
    unfold der_length.f
    rw [if_pos (by omega)]
    rfl
  | cons c r =>
    simp only [List.length_cons] at hl
    have hc := h.byte 0 (by simp)
    simp only [List.getD_cons_zero, Nat.add_zero] at hc
    have bc := h.bytes c (by simp)
    have w0 : wrap64 c = c := w64 (by omega) (by omega)
    have w1 : wrap64 ((p : Int) + 1) = ((p + 1 : Nat) : Int) := by rw [w64 (by omega) (by omega)]; omega
    have w2 : wrap64 ((p : Int) + 2) = ((p + 2 : Nat) : Int) := by rw [w64 (by omega) (by omega)]; omega
    simp only [lengthL]
    by_cases c1 : c < 128
    · rw [if_pos c1]
      refine ev_const' (fun k => ?_)
      unfold der_length.f
      rw [if_neg (by omega), if_pos (by omega), if_pos (by omega), hc, w0, if_pos c1, w1]
      rfl
    · rw [if_neg c1]
      by_cases c2 : c = 130
      · rw [if_pos c2]
        cases r with
        | nil =>
          simp only [List.length_nil] at hl
          refine ev_const' (fun k => ?_)
          unfold der_length.f
          rw [if_neg (by omega), if_pos (by omega), if_pos (by omega), hc, w0, if_neg c1, if_pos c2, w2, if_pos (by omega)]
          rfl
        | cons x r =>
          simp only [List.length_cons] at hl
          have hx := h.byte 1 (by simp)
          simp only [List.getD_cons_succ, List.getD_cons_zero] at hx
          have bx := h.bytes x (by simp)
          have wx : wrap64 x = x := w64 (by omega) (by omega)
          have h2 : From s (p + 1) (x :: r) := by
            have := (show From s p ([c] ++ (x :: r)) from h).skip
            exact this
          cases r with
          | nil =>
            simp only [List.length_nil] at hl
            refine ev_const' (fun k => ?_)
            unfold der_length.f
            rw [if_neg (by omega), if_pos (by omega), if_pos (by omega), hc, w0, if_neg c1, if_pos c2, w2, if_pos (by omega)]
            rfl
          | cons y r =>
            simp only [List.length_cons] at hl
            have hj := length_j0 (x6 := x) (x7 := 128) h2 hs (by omega) (by omega) (by omega) (by omega)
            refine Ev.congr (f := fun k => der_length.j0 k s ((p + 1 : Nat) : Int) x 128) (fun k => ?_) ?_
            · unfold der_length.f
              rw [if_neg (by omega), if_pos (by omega), if_pos (by omega), hc, w0, if_neg c1, if_pos c2, w2, if_neg (by omega), w1, if_pos (by omega), if_pos (by omega), hx, wx]
            · have e : (lenRes p (if x * 256 + y < 256 then none else some (x * 256 + y, 3))) = (if x * 256 + y < 128 + 128 then (0, -1) else (x * 256 + y, ((p + 1 + 2 : Nat) : Int))) := by
                by_cases hh : x * 256 + y < 256
                · rw [if_pos hh, if_pos (by omega)]; rfl
                · rw [if_neg hh, if_neg (by omega)]; rfl
              simp only []
              rw [e]
              exact hj
      · rw [if_neg c2]
        by_cases c3 : c = 129
        · rw [if_pos c3]
          have hj := length_j0 (x6 := 0) (x7 := 0) h hs (by omega) (by omega) (by omega) (by omega)
          refine Ev.congr (f := fun k => der_length.j0 k s (p : Int) 0 0) (fun k => ?_) ?_
          · unfold der_length.f
            rw [if_neg (by omega), if_pos (by omega), if_pos (by omega), hc, w0, if_neg c1, if_neg c2, if_pos c3]
          · cases r with
            | nil => exact hj
            | cons x r =>
              have e : (lenRes p (if x < 128 then none else some (x, 2))) = (if 0 * 256 + x < 0 + 128 then (0, -1) else (0 * 256 + x, ((p + 2 : Nat) : Int))) := by
                by_cases hh : x < 128
                · rw [if_pos hh, if_pos (by omega)]; rfl
                · rw [if_neg hh, if_neg (by omega), Int.zero_mul, Int.zero_add]; rfl
              simp only []
              rw [e]
              exact hj
        · rw [if_neg c3]
          refine ev_const' (fun k => ?_)
          unfold der_length.f
          rw [if_neg (by omega), if_pos (by omega), if_pos (by omega), hc, w0, if_neg c1, if_neg c2, if_neg c3]
          rfl
/-- An element: tag, body, how many bytes it takes. -/
def getL : List Int → Option (Int × List Int × Nat)
  | [] => none
  | t :: r => if t % 32 = 31 then none else match lengthL r with
    | none => none
    | some (n, h) => if n > ((r.length : Int) - h) then none else some (t, (r.drop h).take n.toNat, 1 + h + n.toNat)
def getRes (p : Nat) : Option (Int × List Int × Nat) → Int × ByteArray × Int × Int
  | none => (0, (⟨#[]⟩ : ByteArray), 0, 1300)
  | some (t, b, c) => (t, strOfNums b, ((p + c : Nat) : Int), 0)
theorem lengthL_bd {l : List Int} (hb : Byte l) {n : Int} {h : Nat} (e : lengthL l = some (n, h)) : 0 ≤ n ∧ n ≤ 65535 ∧ 1 ≤ h ∧ h ≤ l.length := by
  cases l with
  | nil => simp [lengthL] at e
  | cons c r =>
    have bc := hb c (by simp)
    simp only [lengthL] at e
    by_cases c1 : c < 128
    · rw [if_pos c1] at e
      simp only [Option.some.injEq, Prod.mk.injEq] at e
      obtain ⟨rfl, rfl⟩ := e
      simp; omega
    · rw [if_neg c1] at e
      by_cases c2 : c = 130
      · rw [if_pos c2] at e
        match r, e with
        | [], e => simp at e
        | [x], e => simp at e
        | x :: y :: r, e =>
          have bx := hb x (by simp)
          have by1 := hb y (by simp)
          simp only [] at e
          split at e
          · simp at e
          · simp only [Option.some.injEq, Prod.mk.injEq] at e
            obtain ⟨rfl, rfl⟩ := e
            simp; omega
      · rw [if_neg c2] at e
        by_cases c3 : c = 129
        · rw [if_pos c3] at e
          match r, e with
          | [], e => simp at e
          | x :: r, e =>
            have bx := hb x (by simp)
            simp only [] at e
            split at e
            · simp at e
            · simp only [Option.some.injEq, Prod.mk.injEq] at e
              obtain ⟨rfl, rfl⟩ := e
              simp; omega
        · rw [if_neg c3] at e
          simp at e
theorem tag_byte {t : Int} (h0 : 0 ≤ t) (h1 : t ≤ 255) : der_tag.f t = some (!decide (t % 32 = 31)) := by
  by_cases h : t % 32 = 31
  · rw [tag_no (by unfold isTag; omega)]
    simp [h]
  · rw [tag_yes ⟨h0, h1, h⟩]
    simp [h]
theorem get_none (s : ByteArray) (a : Int) (h : a < 0 ∨ a ≥ s.size) : Ev (fun k => der_Get.f k s a) (0, (⟨#[]⟩ : ByteArray), 0, 1300) := by
  have key : Ev (fun k => der_Get.j0 k s a true) (0, (⟨#[]⟩ : ByteArray), 0, 1300) := Ev.step (f := fun _ => some (0, (⟨#[]⟩ : ByteArray), 0, 1300)) (fun k => by simp only [der_Get.j0]; rfl) (Ev.now _)
  refine Ev.congr (f := fun k => der_Get.j0 k s a true) (fun k => ?_) key
  unfold der_Get.f
  by_cases h0 : a < 0
  · rw [if_pos h0]
  · rw [if_neg h0, if_pos (by omega)]
theorem get_ok {s : ByteArray} {p : Nat} {l : List Int} (h : From s p l) (hs : s.size ≤ 140737488351232) : Ev (fun k => der_Get.f k s p) (getRes p (getL l)) := by
  have hl := h.len
  cases l with
  | nil => exact get_none s p (by simp only [List.length_nil] at hl; omega)
  | cons t r =>
    simp only [List.length_cons] at hl
    have ht := h.byte 0 (by simp)
    simp only [List.getD_cons_zero, Nat.add_zero] at ht
    have bt1 := h.bytes t (by simp)
    have w0 : wrap64 t = t := w64 (by omega) (by omega)
    have w1 : wrap64 ((p : Int) + 1) = ((p + 1 : Nat) : Int) := by rw [w64 (by omega) (by omega)]; omega
    refine Ev.congr (f := fun k => der_Get.j0 k s p (decide (t % 32 = 31))) (fun k => ?_) ?_
    · unfold der_Get.f
      rw [if_neg (by omega), if_neg (by omega), if_pos (by omega), if_pos (by omega), ht, w0, tag_byte bt1.1 bt1.2]
      simp only [Option.bind_some, Bool.not_not]
    · simp only [getL]
      by_cases hc : t % 32 = 31
      · rw [if_pos hc]
        refine Ev.step (f := fun _ => some (0, (⟨#[]⟩ : ByteArray), 0, 1300)) (fun k => ?_) (Ev.now _)
        simp only [der_Get.j0]
        rw [if_pos (by simp [hc])]
      · rw [if_neg hc]
        have h2 : From s (p + 1) r := (show From s p ([t] ++ r) from h).skip
        have hlen := length_ok h2 hs
        refine Ev.step (f := fun k => (der_length.f k s ((p + 1 : Nat) : Int)).bind _) (fun k => by simp only [der_Get.j0]; rw [if_neg (by simp [hc]), w1]) ?_
        cases e : lengthL r with
        | none =>
          rw [e] at hlen
          have hlen2 : Ev (fun k => der_length.f k s ((p + 1 : Nat) : Int)) (0, -1) := hlen
          refine Ev.bind hlen2 (ev_const ?_)
          rw [if_pos (by omega)]
          rfl
        | some nh =>
          obtain ⟨n, q⟩ := nh
          have bd := lengthL_bd h2.bytes e
          rw [e] at hlen
          have hlen2 : Ev (fun k => der_length.f k s ((p + 1 : Nat) : Int)) (n, ((p + 1 + q : Nat) : Int)) := hlen
          refine Ev.bind hlen2 (ev_const ?_)
          have wn : wrap64 ((s.size : Int) - ((p + 1 + q : Nat) : Int)) = (s.size : Int) - ((p + 1 + q : Nat) : Int) := w64 (by omega) (by omega)
          have wm : wrap64 (((p + 1 + q : Nat) : Int) + n) = ((p + 1 + q : Nat) : Int) + n := w64 (by omega) (by omega)
          dsimp only
          rw [wn, wm, if_neg (show ¬ ((p + 1 + q : Nat) : Int) < 0 by omega)]
          by_cases hn : n > ((r.length : Int) - q)
          · rw [if_pos (show n > (s.size : Int) - ((p + 1 + q : Nat) : Int) by omega), if_pos hn]
            rfl
          · rw [if_neg (show ¬ n > (s.size : Int) - ((p + 1 + q : Nat) : Int) by omega), if_neg hn, if_pos (by omega), if_pos (by omega), if_pos (by omega), if_pos (by omega), if_pos (by omega), ht, w0]
            simp only [getRes]
            have n1 : (((p + 1 + q : Nat) : Int)).toNat = p + 1 + q := by omega
            have n2 : (((p + 1 + q : Nat) : Int) + n).toNat = p + 1 + q + n.toNat := by omega
            have n3 : ((p + 1 + q : Nat) : Int) + n = ((p + (1 + q + n.toNat) : Nat) : Int) := by omega
            rw [n1, n2, n3]
            have eb : s.extract (p + 1 + q) (p + 1 + q + n.toNat) = strOfNums ((r.drop q).take n.toNat) := by
              apply bytesOf_inj
              rw [bytesOf_strOf (fun x hx => h2.bytes x (List.mem_of_mem_drop (List.mem_of_mem_take hx))), bytesOf_extract, Nat.add_sub_cancel_left, ← h2.2, List.drop_drop]
            rw [eb]
/-- What Put wrote is read. -/
theorem lengthL_hd {t : Int} {n : Nat} (hn : n ≤ 65535) (m : List Int) : lengthL ((hd t n).drop 1 ++ m) = some ((n : Int), (hd t n).length - 1) := by
  unfold hd
  by_cases h1 : n < 128
  · rw [if_pos h1]
    simp [lengthL]
    omega
  · rw [if_neg h1]
    by_cases h2 : n < 256
    · rw [if_pos h2]
      simp [lengthL]
      omega
    · rw [if_neg h2]
      simp [lengthL]
      omega
theorem hd_cons (t : Int) (n : Nat) : hd t n = t % 256 :: (hd t n).drop 1 := by
  unfold hd
  split
  · rfl
  · split <;> rfl
theorem getL_put {t : Int} {b m : List Int} (ht : isTag t) (hn : b.length ≤ 65535) : getL (hd t b.length ++ b ++ m) = some (t, b, (hd t b.length).length + b.length) := by
  have h0 := ht.1
  have h1 := ht.2.1
  have hh := hd_len t b.length
  have e : hd t b.length ++ b ++ m = t % 256 :: ((hd t b.length).drop 1 ++ (b ++ m)) := by
    conv => lhs; rw [hd_cons t b.length]
    simp
  have et : t % 256 = t := by omega
  rw [e, et]
  simp only [getL]
  rw [if_neg ht.2.2, lengthL_hd hn]
  have hlen : ((hd t b.length).drop 1).length = (hd t b.length).length - 1 := by simp
  simp only []
  rw [if_neg (by simp only [List.length_append, hlen]; omega)]
  have n1 : ((b.length : Int)).toNat = b.length := by omega
  rw [n1, ← hlen, List.drop_left, List.take_left, hlen]
  congr 3
  omega
/-- One more element of All. -/
theorem all_step {s : ByteArray} {p : Nat} {l : List Int} {t : Int} {b : List Int} {c : Nat} {out : List S40} {r : List S40 × Int} (h : From s p l) (hs : s.size ≤ 140737488351232) (e : getL l = some (t, b, c)) (hp : p < s.size) (ho : out.length ≤ 1000)
    (hr : Ev (fun k => der_All.l0 k s (out ++ [(⟨t, strOfNums b⟩ : S40)]) ((p + c : Nat) : Int)) r) : Ev (fun k => der_All.l0 k s out (p : Int)) r := by
  have hg := get_ok h hs
  rw [e] at hg
  refine Ev.step (f := fun k => (der_Get.f k s (p : Int)).bind _) (fun k => by simp only [der_All.l0]; rw [if_pos (by omega)]) ?_
  refine Ev.bind hg ?_
  simp only [getRes]
  refine evPos trivial ?_
  refine evPos (by omega) ?_
  exact hr
theorem all_end {s : ByteArray} {out : List S40} : Ev (fun k => der_All.l0 k s out (s.size : Int)) (out, 0) := by
  refine Ev.step (f := fun _ => some (out, 0)) (fun k => ?_) (Ev.now _)
  simp only [der_All.l0]
  rw [if_neg (by omega)]

end Go.Proofs.Ytonemdclfgckoaa.Pure
