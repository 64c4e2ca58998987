/- Proved: a moment that is written is read back as it was, and texts stand in the moments' order (halberdlaw13.DerDays answers true at every input). Conditions: none beside the given statement's own. -/
import Derived.Test.YtonemdclfgckoaaXx10
import Derived.Test.YtonemdclfgckoaaXx14
import Derived.Test.YtonemdclfgckoaaXx20
import Derived.Test.YtonemdclfgckoaaXx23
import Derived.Test.YtonemdclfgckoaaPureUntime
import Derived.Test.YtonemdclfgckoaaPureGet
namespace Go.Proofs.Ytonemdclfgckoaa.Pure
open Go.RowKit Go.Proofs.Ytonemdclfgckoaa.X Go.Proofs.YtonemdclfgckoaaW.PrintWords Go.Proofs.YtonemdclfgckoaaW.PrintLast Go.Proofs.YtonemdclfgckoaaW.PrintMore
set_option linter.unusedVariables false
set_option linter.unusedSimpArgs false

theorem aw : halberdlaw13_awake.f = some true := rfl
def lessI : List Int → List Int → Bool
  | _, [] => false
  | [], _ :: _ => true
  | a :: x, b :: y => decide (a < b) || (decide (a = b) && lessI x y)
theorem less_map : ∀ x y : List UInt8, Op.bytesLess x y = lessI (x.map fun b => (b.toNat : Int)) (y.map fun b => (b.toNat : Int))
  | [], [] => rfl
  | _ :: _, [] => rfl
  | [], _ :: _ => rfl
  | a :: x, b :: y => by
    simp only [Op.bytesLess, List.map_cons, lessI]
    rw [less_map x y]
    congr 1
    · rw [decide_eq_decide, UInt8.lt_iff_toNat_lt]
      omega
    · congr 1
      have e : (a = b) ↔ ((a.toNat : Int) = (b.toNat : Int)) := by
        rw [← UInt8.toNat_inj]
        omega
      by_cases h : a = b
      · rw [decide_eq_true (e.mp h), h]
        simp
      · rw [decide_eq_false (fun g => h (e.mpr g))]
        simpa using h
theorem less_bytes (s t : ByteArray) : Op.bytesLess s.toList t.toList = lessI (bytesOf s) (bytesOf t) := by
  rw [less_map, Go.ByteArray.toList_eq, Go.ByteArray.toList_eq]
  rfl
theorem lessI_self : ∀ l : List Int, lessI l l = false
  | [] => rfl
  | x :: l => by
    simp only [lessI]
    rw [lessI_self l]
    simp
theorem lessI_pre (p l m : List Int) : lessI (p ++ l) (p ++ m) = lessI l m := by
  induction p with
  | nil => rfl
  | cons x p ih =>
    simp only [List.cons_append, lessI]
    rw [ih]
    simp
theorem lessI_dig {a b : Nat} (h : a < b) (hb : b < 100) (l m : List Int) : lessI (dig a ++ l) (dig b ++ m) = true := by
  unfold dig
  simp only [List.cons_append, List.nil_append, lessI]
  by_cases h1 : (48 : Int) + (a : Int) / 10 < 48 + (b : Int) / 10
  · rw [decide_eq_true h1]
    rfl
  · have h2 : (48 : Int) + (a : Int) / 10 = 48 + (b : Int) / 10 := by omega
    have h3 : (48 : Int) + (a : Int) % 10 < 48 + (b : Int) % 10 := by omega
    rw [decide_eq_true h2, decide_eq_true h3]
    simp
theorem time_less {x x' y m r y' m' r' : Nat} (h : Day (x / 86400) y m r) (h' : Day (x' / 86400) y' m' r') (hx : x < x') (hc : (2000 ≤ y ↔ 2000 ≤ y')) : lessI (timeL y m r (x % 86400)) (timeL y' m' r' (x' % 86400)) = true := by
  have hD := h.hD
  have hD' := h'.hD
  have hyr := h.year
  have hyr' := h'.year
  have hr := h.hr
  have hr' := h'.hr
  have hy0 := h.y0
  have hy1 := h.y1
  have hy0' := h'.y0
  have hy1' := h'.y1
  have hm0 := h.m0
  have hm1 := h.m1
  have hm0' := h'.m0
  have hm1' := h'.m1
  have hml := ml_pos y m
  have hml' := ml_pos y' m'
  have hle : x / 86400 ≤ x' / 86400 := by omega
  unfold timeL
  simp only [List.append_assoc]
  by_cases c1 : y < y'
  · exact lessI_dig (by omega) (by omega) _ _
  by_cases c2 : y' < y
  · have := dby_mono (show y' + 1 ≤ y by omega)
    omega
  obtain rfl : y = y' := by omega
  rw [lessI_pre]
  by_cases c3 : m < m'
  · exact lessI_dig c3 (by omega) _ _
  by_cases c4 : m' < m
  · have q1 := cum_mono y (show m' + 1 ≤ m by omega)
    have q2 := cum_succ y hm0'
    omega
  obtain rfl : m = m' := by omega
  rw [lessI_pre]
  by_cases c5 : r < r'
  · exact lessI_dig (show r + 1 < r' + 1 by omega) (by omega) _ _
  obtain rfl : r = r' := by omega
  rw [lessI_pre]
  have ht : x % 86400 < x' % 86400 := by omega
  have t1 : x' % 86400 < 86400 := Nat.mod_lt _ (by decide)
  generalize x % 86400 = t at *
  generalize x' % 86400 = t' at *
  clear h h' hx hD hD' hyr hyr' hle
  by_cases c6 : t / 3600 < t' / 3600
  · exact lessI_dig c6 (by omega) _ _
  rw [show t / 3600 = t' / 3600 by omega, lessI_pre]
  by_cases c7 : t / 60 % 60 < t' / 60 % 60
  · exact lessI_dig c7 (by omega) _ _
  rw [show t / 60 % 60 = t' / 60 % 60 by omega, lessI_pre]
  exact lessI_dig (by omega) (by omega) _ _
theorem figs_time {D y m r t : Nat} (h : Day D y m r) (ht : t < 86400) {s : ByteArray} (hs : bytesOf s = timeL y m r t) : Figs s (y % 100) m (r + 1) (t / 3600) (t / 60 % 60) (t % 60) := by
  have hm1 := h.m1
  have hr := h.hr
  have hml := ml_pos y m
  obtain ⟨a3, a4, a5⟩ : t / 3600 < 100 ∧ t / 60 % 60 < 100 ∧ t % 60 < 100 := by omega
  have a0 : y % 100 < 100 := by omega
  have a1 : m < 100 := by omega
  have a2 : r + 1 < 100 := by omega
  have b : ∀ i : Nat, bt s (i : Int) = (timeL y m r t).getD i 0 := by
    intro i
    rw [bt_get, hs]
    rfl
  clear h hr hml ht
  unfold timeL at b
  generalize hA : y % 100 = A at *
  generalize hC : r + 1 = C at *
  generalize hH : t / 3600 = H at *
  generalize hE : t / 60 % 60 = E at *
  generalize hF : t % 60 = F at *
  have b0 : bt s 0 = 48 + (A : Int) / 10 := b 0
  have b1 : bt s 1 = 48 + (A : Int) % 10 := b 1
  have b2 : bt s 2 = 48 + (m : Int) / 10 := b 2
  have b3 : bt s 3 = 48 + (m : Int) % 10 := b 3
  have b4 : bt s 4 = 48 + (C : Int) / 10 := b 4
  have b5 : bt s 5 = 48 + (C : Int) % 10 := b 5
  have b6 : bt s 6 = 48 + (H : Int) / 10 := b 6
  have b7 : bt s 7 = 48 + (H : Int) % 10 := b 7
  have b8 : bt s 8 = 48 + (E : Int) / 10 := b 8
  have b9 : bt s 9 = 48 + (E : Int) % 10 := b 9
  have b10 : bt s 10 = 48 + (F : Int) / 10 := b 10
  have b11 : bt s 11 = 48 + (F : Int) % 10 := b 11
  refine ⟨by rw [← bytesOf_length, hs]; rfl, b 12, ?_, by omega, by omega, by omega, by omega, by omega, by omega⟩
  intro i hi
  have c : i = 0 ∨ i = 1 ∨ i = 2 ∨ i = 3 ∨ i = 4 ∨ i = 5 ∨ i = 6 ∨ i = 7 ∨ i = 8 ∨ i = 9 ∨ i = 10 ∨ i = 11 := by omega
  rcases c with rfl | rfl | rfl | rfl | rfl | rfl | rfl | rfl | rfl | rfl | rfl | rfl
  · show 48 ≤ bt s 0 ∧ bt s 0 ≤ 57; omega
  · show 48 ≤ bt s 1 ∧ bt s 1 ≤ 57; omega
  · show 48 ≤ bt s 2 ∧ bt s 2 ≤ 57; omega
  · show 48 ≤ bt s 3 ∧ bt s 3 ≤ 57; omega
  · show 48 ≤ bt s 4 ∧ bt s 4 ≤ 57; omega
  · show 48 ≤ bt s 5 ∧ bt s 5 ≤ 57; omega
  · show 48 ≤ bt s 6 ∧ bt s 6 ≤ 57; omega
  · show 48 ≤ bt s 7 ∧ bt s 7 ≤ 57; omega
  · show 48 ≤ bt s 8 ∧ bt s 8 ≤ 57; omega
  · show 48 ≤ bt s 9 ∧ bt s 9 ≤ 57; omega
  · show 48 ≤ bt s 10 ∧ bt s 10 ≤ 57; omega
  · show 48 ≤ bt s 11 ∧ bt s 11 ≤ 57; omega
theorem hms (t : Nat) : t / 3600 * 3600 + t / 60 % 60 * 60 + t % 60 = t := by omega
theorem add4 {Q a b c t x : Nat} (h1 : a + b + c = t) (h : Q + t = x) : Q + a + b + c = x := by omega
theorem add_up {q x t : Nat} (h : q * 86400 + t = x) : q * 86400 + t / 3600 * 3600 + t / 60 % 60 * 60 + t % 60 = x := by
  exact add4 (hms t) h
theorem year_back {y : Nat} (h : 1970 ≤ y) (h1 : y < 2050) : ¬ (50 ≤ y % 100 ∧ y % 100 < 70) ∧ (if y % 100 < 50 then 2000 + y % 100 else 1900 + y % 100) = y := by
  refine ⟨by omega, ?_⟩
  split <;> omega
theorem hms_bd {t : Nat} (h : t < 86400) : ¬ (t / 3600 > 23) ∧ ¬ (t / 60 % 60 > 59) ∧ ¬ (t % 60 > 59) := by omega
theorem untime_back {x y m r : Nat} (h : Day (x / 86400) y m r) : untimeL (y % 100) m (r + 1) (x % 86400 / 3600) (x % 86400 / 60 % 60) (x % 86400 % 60) = ((x : Int), 0) := by
  have hD := h.hD
  have hr := h.hr
  have hm0 := h.m0
  have hm1 := h.m1
  obtain ⟨y1, y2⟩ := year_back h.y0 h.y1
  obtain ⟨t1, t2, t3⟩ := hms_bd (Nat.mod_lt x (show 86400 > 0 by decide))
  have hxx : x / 86400 * 86400 + x % 86400 = x := Nat.div_add_mod' x 86400
  have e4 := add_up hxx
  unfold untimeL
  rw [if_neg y1, y2]
  unfold restL
  rw [if_neg (by
    rintro (c | c | c | c | c | c | c)
    · omega
    · omega
    · omega
    · omega
    · exact t1 c
    · exact t2 c
    · exact t3 c)]
  rw [show dby y + cum y m + (r + 1 - 1) = x / 86400 by rw [hD]; rfl, e4]
/-- One moment, written and read. -/
structure Mom (x : Nat) (X : ByteArray) (y m r : Nat) : Prop where
  d : Day (x / 86400) y m r
  z : X.size = 15
  b : bytesOf X = [23, 13] ++ timeL y m r (x % 86400)
  w : Ev (fun k => der_Time.f k (x : Int)) (X, 0)
  u : Ev (fun k => der_Untime.f k (X.extract 2 X.size)) ((x : Int), 0)
theorem mom_of {x : Nat} (hx : x < 2524608000) : ∃ X y m r, Mom x X y m r := by
  obtain ⟨y, m, r, dd⟩ := day_of (D := x / 86400) (by omega)
  have ht : x % 86400 < 86400 := Nat.mod_lt _ (by decide)
  have hb := dd.timeL_byte ht
  have hw := time_ok (x := x) dd
  have hB : Byte ([23, 13] ++ timeL y m r (x % 86400)) := by
    intro z hz
    rcases List.mem_append.mp hz with hz | hz
    · simp at hz; omega
    · exact hb z hz
  have e1 : (Go.Proofs.Ytonemdclfgckoaa.Pure.hd 23 13) = [23, 13] := by decide
  rw [e1] at hw
  have bX : bytesOf (strOfNums ([23, 13] ++ timeL y m r (x % 86400))) = [23, 13] ++ timeL y m r (x % 86400) := bytesOf_strOf hB
  have zX : (strOfNums ([23, 13] ++ timeL y m r (x % 86400))).size = 15 := by rw [strOf_size, List.length_append, timeL_len]; rfl
  refine ⟨_, y, m, r, dd, zX, bX, hw, ?_⟩
  have bs : bytesOf ((strOfNums ([23, 13] ++ timeL y m r (x % 86400))).extract 2 (strOfNums ([23, 13] ++ timeL y m r (x % 86400))).size) = timeL y m r (x % 86400) := by
    rw [bytesOf_extract, bX, zX, show [23, 13] ++ timeL y m r (x % 86400) = 23 :: 13 :: timeL y m r (x % 86400) from rfl, List.drop_succ_cons, List.drop_succ_cons, List.drop_zero, List.take_of_length_le (by rw [timeL_len]; decide)]
  have g := untime_good (figs_time dd ht bs)
  rw [untime_back dd] at g
  exact g
theorem toList_same (s t : ByteArray) : (s.toList == t.toList) = decide (s = t) := by
  by_cases h : s = t
  · rw [h]; simp
  · rw [decide_eq_false h]
    have : ¬ s.toList = t.toList := by
      intro e
      rw [Go.ByteArray.toList_eq, Go.ByteArray.toList_eq] at e
      apply h
      have : s.data = t.data := Array.toList_inj.mp e
      cases s; cases t
      simp only at this
      rw [this]
    simpa using this
theorem days_j0 {x x' : Nat} {X Y : ByteArray} {y m r y' m' r' : Nat} (h : Mom x X y m r) (h' : Mom x' Y y' m' r') (hx : x ≤ x') : Ev (fun k => halberdlaw13_DerDays.j0 k (x : Int) (x' : Int) X Y false) true := by
  have z := h.z
  have z' := h'.z
  have hyr := h.d.year
  have hyr' := h'.d.year
  have hD := h.d.hD
  have same : x = x' ↔ X = Y := by
    constructor
    · rintro rfl
      obtain ⟨K, k⟩ := h.w
      obtain ⟨L, l⟩ := h'.w
      have a := k (K + L) (by omega)
      have b := l (K + L) (by omega)
      have c := a.symm.trans b
      simpa using c
    · rintro rfl
      obtain ⟨K, k⟩ := h.u
      obtain ⟨L, l⟩ := h'.u
      have a := k (K + L) (by omega)
      have b := l (K + L) (by omega)
      have c := a.symm.trans b
      have d := congrArg Prod.fst (Option.some.inj c)
      simp only at d
      omega
  have d2000 : dby 2000 = 10957 := by decide
  have cen : ∀ {w Y M R : Nat}, Day (w / 86400) Y M R → (2000 ≤ Y ↔ (w : Int) ≥ 946684800) := by
    intro w Y M R hd
    have q := hd.year
    constructor
    · intro c
      have := dby_mono c
      omega
    · intro c
      apply Classical.byContradiction
      intro c2
      have := dby_mono (show Y + 1 ≤ 2000 by omega)
      omega
  have less : ((x : Int) ≥ 946684800 ↔ (x' : Int) ≥ 946684800) → (Op.bytesLess X.toList Y.toList = true ↔ (x : Int) < (x' : Int)) := by
    intro hc
    rw [less_bytes, h.b, h'.b, lessI_pre]
    by_cases e : x < x'
    · have := time_less h.d h'.d e (by rw [cen h.d, cen h'.d]; exact hc)
      rw [this]
      constructor
      · intro _; omega
      · intro _; rfl
    · have e2 : x = x' := by omega
      have e3 := same.mp e2
      have b := h.b
      rw [e3, h'.b] at b
      have b2 := List.append_cancel_left b
      rw [b2, lessI_self]
      constructor
      · intro c; exact absurd c (by simp)
      · intro c; omega
  have fin : (if (x : Int) = (x' : Int) then (some (X.toList == Y.toList)) else (some (!(X.toList == Y.toList)))) = some true := by
    rw [toList_same]
    by_cases e : x = x'
    · rw [if_pos (by omega), decide_eq_true (same.mp e)]
    · rw [if_neg (by omega), decide_eq_false (fun c => e (same.mpr c))]
      rfl
  have fin2 : ((x : Int) ≥ 946684800 ↔ (x' : Int) ≥ 946684800) → (if (x : Int) < (x' : Int) then (if (Op.bytesLess X.toList Y.toList) = true then (if (x : Int) = (x' : Int) then (some (X.toList == Y.toList)) else (some (!(X.toList == Y.toList)))) else (some false)) else (if (Op.bytesLess X.toList Y.toList) = true then (some false) else (if (x : Int) = (x' : Int) then (some (X.toList == Y.toList)) else (some (!(X.toList == Y.toList)))))) = some true := by
    intro hc
    have l := less hc
    by_cases e : (x : Int) < (x' : Int)
    · rw [if_pos e, if_pos (l.mpr e)]
      exact fin
    · rw [if_neg e, if_neg (fun c => e (l.mp c))]
      exact fin
  refine Ev.step (f := fun k => (der_Untime.f k (X.extract 2 X.size)).bind _) (fun k => by simp only [halberdlaw13_DerDays.j0]; rw [if_neg (by simp), if_pos (by omega)]) ?_
  refine Ev.bind h.u ?_
  refine evPos (by omega) ?_
  refine Ev.bind h'.u ?_
  refine ev_const ?_
  by_cases c : (x' : Int) ≥ 946684800
  · rw [if_pos c]
    refine bindE (num_f _) ?_
    rw [if_pos rfl, if_pos rfl]
    refine bindE (num_f _) ?_
    rw [if_pos rfl, if_pos rfl]
    by_cases c2 : (x : Int) ≥ 946684800
    · rw [if_pos c2]
      exact fin2 ⟨fun _ => c, fun _ => c2⟩
    · rw [if_neg c2]
      exact fin
  · rw [if_neg c]
    refine bindE (num_f _) ?_
    rw [if_pos rfl, if_pos rfl]
    refine bindE (num_f _) ?_
    rw [if_pos rfl, if_pos rfl]
    rw [if_neg (by omega)]
    exact fin2 ⟨fun c2 => absurd c2 (by omega), fun c2 => absurd c2 c⟩
/-- The given statement's pure form. -/
theorem DerDays : halberdlaw13_DerDays.Pure := by
  intro a b _ _
  obtain ⟨x, hx, hx1⟩ : ∃ x : Nat, wrap64 (Int.tmod (IntKind.u64.wrap a) 2524608000) = x ∧ x < 2524608000 := by
    rw [u64_wrap, Int.tmod_eq_emod_of_nonneg (by omega), w64 (by omega) (by omega)]
    exact ⟨(a % 18446744073709551616 % 2524608000).toNat, by omega, by omega⟩
  obtain ⟨x', hx', hx1', hle⟩ : ∃ x' : Nat, mn (wrap64 ((x : Int) + (Go.bits .and .i64 b 1048575))) 2524607999 = x' ∧ x' < 2524608000 ∧ x ≤ x' := by
    have e : Go.bits .and .i64 b 1048575 = b % 1048576 := and_mask b 20 (by decide)
    rw [e, w64 (by omega) (by omega)]
    unfold mn
    split
    · exact ⟨2524607999, rfl, by omega, by omega⟩
    · exact ⟨((x : Int) + b % 1048576).toNat, by omega, by omega, by omega⟩
  obtain ⟨X, y, m, r, h⟩ := mom_of hx1
  obtain ⟨Y, y', m', r', h'⟩ := mom_of hx1'
  obtain ⟨K1, g1⟩ := h.w
  obtain ⟨K2, g2⟩ := h'.w
  obtain ⟨K3, g3⟩ := days_j0 h h' hle
  refine ⟨K1 + K2 + K3, ?_⟩
  unfold halberdlaw13_DerDays.f
  rw [hx, hx']
  refine bindE aw ?_
  rw [if_pos rfl]
  refine bindE (g1 _ (by omega)) ?_
  refine bindE (g2 _ (by omega)) ?_
  refine bindE (num_f _) ?_
  rw [if_pos rfl]
  refine bindE (num_f _) ?_
  rw [if_pos rfl, if_pos (by show (X.size : Int) = 15; rw [h.z]; rfl)]
  have e : ((Y.size : Int) != 15) = false := by rw [h'.z]; rfl
  show halberdlaw13_DerDays.j0 _ _ _ X Y ((Y.size : Int) != 15) = some true
  rw [e]
  exact g3 _ (by omega)

end Go.Proofs.Ytonemdclfgckoaa.Pure
