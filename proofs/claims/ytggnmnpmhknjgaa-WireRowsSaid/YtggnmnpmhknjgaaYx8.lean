-- Written by a program of this session (wip/tools/xprint.py), over the kit's printer.
import Derived.Test.YtggnmnpmhknjgaaYx0
import Derived.Test.YtggnmnpmhknjgaaYx1
import Derived.Test.YtggnmnpmhknjgaaYx2
import Derived.Test.YtggnmnpmhknjgaaYx6
import Derived.Test.YtggnmnpmhknjgaaYx7
namespace Go.Proofs.Ytggnmnpmhknjgaa.Y
open Go.RowKit Go.Proofs.YtggnmnpmhknjgaaW.PrintWords Go.Proofs.YtggnmnpmhknjgaaW.PrintLast Go.Proofs.YtggnmnpmhknjgaaW.PrintMore
attribute [local go_sem] max2_int min2_int max_two min_two max_three min_three max_four min_four   -- for this text's walks alone
set_option linter.unusedVariables false
set_option linter.unusedSimpArgs false

/-! ### halberdlaw1_WireRows: function 12 -/
mutual
def halberdlaw1_WireRows.l0 : Nat → List Int → ByteArray → ByteArray → Int → Option (Bool)
  | 0, _, _, _, _ => none
  | k + 1, x0, x1, x5, x6 => if x6 < (x0.length : Int) then (halberdlaw1_WireRows.j1 k x0 x1 x5 x6 (decide (x6 < 40))) else (halberdlaw1_WireRows.j1 k x0 x1 x5 x6 false)
def halberdlaw1_WireRows.j1 : Nat → List Int → ByteArray → ByteArray → Int → Bool → Option (Bool)
  | 0, _, _, _, _, _ => none
  | k + 1, x0, x1, x5, x6, x40 => if x40 = true then (if 0 ≤ x6 then (if x6 < (x0.length : Int) then (if 0 ≤ (wrap64 (8 * (wrap64 (1 + (Go.bits .and .i64 x6 3))))) then ((wire_Put.f (Go.bits .and .i64 (rd x0 x6) (wrap64 ((shl .i64 1 (wrap64 (8 * (wrap64 (1 + (Go.bits .and .i64 x6 3)))))) - 1))) (wrap64 (1 + (Go.bits .and .i64 x6 3)))).bind fun bt340 => ((halberdlaw0_Num.f bt340.2).bind fun t342 => (if t342 = 0 then (if (bt340.1.size : Int) = (wrap64 (1 + (Go.bits .and .i64 x6 3))) then (if 0 ≤ (wrap64 ((wrap64 (1 + (Go.bits .and .i64 x6 3))) - 1)) then (if (wrap64 ((wrap64 (1 + (Go.bits .and .i64 x6 3))) - 1)) < (bt340.1.size : Int) then (if (bt bt340.1 (wrap64 ((wrap64 (1 + (Go.bits .and .i64 x6 3))) - 1))) = ((rd x0 x6) % 256) then (if x5.size + bt340.1.size ≤ 9223372036854775807 then (halberdlaw1_WireRows.l0 k x0 x1 (x5 ++ bt340.1) (wrap64 (x6 + 1))) else (none)) else (some false)) else (none)) else (none)) else (some false)) else (some false)))) else (none)) else (none)) else (none)) else (halberdlaw1_WireRows.l1 k x0 x1 x5 0 0)
def halberdlaw1_WireRows.l1 : Nat → List Int → ByteArray → ByteArray → Int → Int → Option (Bool)
  | 0, _, _, _, _, _ => none
  | k + 1, x0, x1, x5, x10, x11 => if x11 < (x0.length : Int) then (halberdlaw1_WireRows.j3 k x0 x1 x5 x10 x11 (decide (x11 < 40))) else (halberdlaw1_WireRows.j3 k x0 x1 x5 x10 x11 false)
def halberdlaw1_WireRows.j3 : Nat → List Int → ByteArray → ByteArray → Int → Int → Bool → Option (Bool)
  | 0, _, _, _, _, _, _ => none
  | k + 1, x0, x1, x5, x10, x11, x91 => if x91 = true then (if (wrap64 (1 + (Go.bits .and .i64 x11 3))) = 1 then ((wire_U8.f k x5 x10).bind fun bt351 => ((halberdlaw0_Num.f bt351.2.2).bind fun t354 => (if 0 ≤ x11 then (if x11 < (x0.length : Int) then (if 0 ≤ (wrap64 (8 * (wrap64 (1 + (Go.bits .and .i64 x11 3))))) then (if bt351.1 = (Go.bits .and .i64 (rd x0 x11) (wrap64 ((shl .i64 1 (wrap64 (8 * (wrap64 (1 + (Go.bits .and .i64 x11 3)))))) - 1))) then (if bt351.2.1 = (wrap64 (x10 + (wrap64 (1 + (Go.bits .and .i64 x11 3))))) then (if t354 = 0 then (halberdlaw1_WireRows.l1 k x0 x1 x5 bt351.2.1 (wrap64 (x11 + 1))) else (some false)) else (some false)) else (some false)) else (none)) else (none)) else (none)))) else (if (wrap64 (1 + (Go.bits .and .i64 x11 3))) = 2 then ((wire_U16.f k x5 x10).bind fun bt356 => ((halberdlaw0_Num.f bt356.2.2).bind fun t359 => (if 0 ≤ x11 then (if x11 < (x0.length : Int) then (if 0 ≤ (wrap64 (8 * (wrap64 (1 + (Go.bits .and .i64 x11 3))))) then (if bt356.1 = (Go.bits .and .i64 (rd x0 x11) (wrap64 ((shl .i64 1 (wrap64 (8 * (wrap64 (1 + (Go.bits .and .i64 x11 3)))))) - 1))) then (if bt356.2.1 = (wrap64 (x10 + (wrap64 (1 + (Go.bits .and .i64 x11 3))))) then (if t359 = 0 then (halberdlaw1_WireRows.l1 k x0 x1 x5 bt356.2.1 (wrap64 (x11 + 1))) else (some false)) else (some false)) else (some false)) else (none)) else (none)) else (none)))) else (if (wrap64 (1 + (Go.bits .and .i64 x11 3))) = 3 then ((wire_U24.f k x5 x10).bind fun bt361 => ((halberdlaw0_Num.f bt361.2.2).bind fun t364 => (if 0 ≤ x11 then (if x11 < (x0.length : Int) then (if 0 ≤ (wrap64 (8 * (wrap64 (1 + (Go.bits .and .i64 x11 3))))) then (if bt361.1 = (Go.bits .and .i64 (rd x0 x11) (wrap64 ((shl .i64 1 (wrap64 (8 * (wrap64 (1 + (Go.bits .and .i64 x11 3)))))) - 1))) then (if bt361.2.1 = (wrap64 (x10 + (wrap64 (1 + (Go.bits .and .i64 x11 3))))) then (if t364 = 0 then (halberdlaw1_WireRows.l1 k x0 x1 x5 bt361.2.1 (wrap64 (x11 + 1))) else (some false)) else (some false)) else (some false)) else (none)) else (none)) else (none)))) else ((wire_U32.f k x5 x10).bind fun bt366 => ((halberdlaw0_Num.f bt366.2.2).bind fun t369 => (if 0 ≤ x11 then (if x11 < (x0.length : Int) then (if 0 ≤ (wrap64 (8 * (wrap64 (1 + (Go.bits .and .i64 x11 3))))) then (if bt366.1 = (Go.bits .and .i64 (rd x0 x11) (wrap64 ((shl .i64 1 (wrap64 (8 * (wrap64 (1 + (Go.bits .and .i64 x11 3)))))) - 1))) then (if bt366.2.1 = (wrap64 (x10 + (wrap64 (1 + (Go.bits .and .i64 x11 3))))) then (if t369 = 0 then (halberdlaw1_WireRows.l1 k x0 x1 x5 bt366.2.1 (wrap64 (x11 + 1))) else (some false)) else (some false)) else (some false)) else (none)) else (none)) else (none))))))) else (if x5.size + x1.size ≤ 9223372036854775807 then ((some (x5 ++ x1 : ByteArray)).bind fun ys345 => (if ys345.size + 1 ≤ 9223372036854775807 then ((wire_U8.f k (ys345 ++ (⟨#[122]⟩ : ByteArray)) (wrap64 ((x5.size : Int) + (x1.size : Int)))).bind fun bt347 => (if x10 = (x5.size : Int) then (if bt347.1 = 122 then (if bt347.2.1 = (wrap64 ((wrap64 ((x5.size : Int) + (x1.size : Int))) + 1)) then ((halberdlaw0_Num.f bt347.2.2).bind fun t350 => (some (t350 == 0))) else (some false)) else (some false)) else (some false))) else (none))) else (none))
end
def halberdlaw1_WireRows.f (k : Nat) (l0 : List Int) (a1 : ByteArray) : Option (Bool) := (halberdlaw1_awake.f).bind fun t338 => (if t338 = true then (halberdlaw1_WireRows.l0 k l0 a1 (⟨#[]⟩ : ByteArray) 0) else (some false))
theorem halberdlaw1_WireRows.mono_l : ∀ k, (∀ y0 y1 y2 y3, LeO (halberdlaw1_WireRows.l0 k y0 y1 y2 y3) (halberdlaw1_WireRows.l0 (k + 1) y0 y1 y2 y3)) ∧ (∀ y0 y1 y2 y3 y4, LeO (halberdlaw1_WireRows.j1 k y0 y1 y2 y3 y4) (halberdlaw1_WireRows.j1 (k + 1) y0 y1 y2 y3 y4)) ∧ (∀ y0 y1 y2 y3 y4, LeO (halberdlaw1_WireRows.l1 k y0 y1 y2 y3 y4) (halberdlaw1_WireRows.l1 (k + 1) y0 y1 y2 y3 y4)) ∧ (∀ y0 y1 y2 y3 y4 y5, LeO (halberdlaw1_WireRows.j3 k y0 y1 y2 y3 y4 y5) (halberdlaw1_WireRows.j3 (k + 1) y0 y1 y2 y3 y4 y5))
  | 0 => ⟨fun _ _ _ _ r h => by simp [halberdlaw1_WireRows.l0] at h, fun _ _ _ _ _ r h => by simp [halberdlaw1_WireRows.j1] at h, fun _ _ _ _ _ r h => by simp [halberdlaw1_WireRows.l1] at h, fun _ _ _ _ _ _ r h => by simp [halberdlaw1_WireRows.j3] at h⟩
  | k + 1 => by
    obtain ⟨ih0, ih1, ih2, ih3⟩ := halberdlaw1_WireRows.mono_l k
    refine ⟨?_, ?_, ?_, ?_⟩
    · intro y0 y1 y2 y3
      unfold halberdlaw1_WireRows.l0
      repeat' first
      | (with_reducible exact ih0 _ _ _ _)
      | (with_reducible exact ih1 _ _ _ _ _)
      | (with_reducible exact ih2 _ _ _ _ _)
      | (with_reducible exact ih3 _ _ _ _ _ _)
      | (with_reducible exact wire_U16.mono _ _ _)
      | (with_reducible exact wire_U24.mono _ _ _)
      | (with_reducible exact wire_U32.mono _ _ _)
      | (with_reducible exact wire_U8.mono _ _ _)
      | (with_reducible exact LeO.refl _)
      | (with_reducible exact LeO.none _)
      | (with_reducible refine LeO.ite ?_ ?_)
      | (with_reducible refine LeO.bind ?_ (fun _ => ?_))
      | exact ih0 _ _ _ _
      | exact ih1 _ _ _ _ _
      | exact ih2 _ _ _ _ _
      | exact ih3 _ _ _ _ _ _
      | exact wire_U16.mono _ _ _
      | exact wire_U24.mono _ _ _
      | exact wire_U32.mono _ _ _
      | exact wire_U8.mono _ _ _
      | exact LeO.none _
      | refine LeO.ite ?_ ?_
      | refine LeO.bind ?_ (fun _ => ?_)
    · intro y0 y1 y2 y3 y4
      unfold halberdlaw1_WireRows.j1
      repeat' first
      | (with_reducible exact ih0 _ _ _ _)
      | (with_reducible exact ih1 _ _ _ _ _)
      | (with_reducible exact ih2 _ _ _ _ _)
      | (with_reducible exact ih3 _ _ _ _ _ _)
      | (with_reducible exact wire_U16.mono _ _ _)
      | (with_reducible exact wire_U24.mono _ _ _)
      | (with_reducible exact wire_U32.mono _ _ _)
      | (with_reducible exact wire_U8.mono _ _ _)
      | (with_reducible exact LeO.refl _)
      | (with_reducible exact LeO.none _)
      | (with_reducible refine LeO.ite ?_ ?_)
      | (with_reducible refine LeO.bind ?_ (fun _ => ?_))
      | exact ih0 _ _ _ _
      | exact ih1 _ _ _ _ _
      | exact ih2 _ _ _ _ _
      | exact ih3 _ _ _ _ _ _
      | exact wire_U16.mono _ _ _
      | exact wire_U24.mono _ _ _
      | exact wire_U32.mono _ _ _
      | exact wire_U8.mono _ _ _
      | exact LeO.none _
      | refine LeO.ite ?_ ?_
      | refine LeO.bind ?_ (fun _ => ?_)
    · intro y0 y1 y2 y3 y4
      unfold halberdlaw1_WireRows.l1
      repeat' first
      | (with_reducible exact ih0 _ _ _ _)
      | (with_reducible exact ih1 _ _ _ _ _)
      | (with_reducible exact ih2 _ _ _ _ _)
      | (with_reducible exact ih3 _ _ _ _ _ _)
      | (with_reducible exact wire_U16.mono _ _ _)
      | (with_reducible exact wire_U24.mono _ _ _)
      | (with_reducible exact wire_U32.mono _ _ _)
      | (with_reducible exact wire_U8.mono _ _ _)
      | (with_reducible exact LeO.refl _)
      | (with_reducible exact LeO.none _)
      | (with_reducible refine LeO.ite ?_ ?_)
      | (with_reducible refine LeO.bind ?_ (fun _ => ?_))
      | exact ih0 _ _ _ _
      | exact ih1 _ _ _ _ _
      | exact ih2 _ _ _ _ _
      | exact ih3 _ _ _ _ _ _
      | exact wire_U16.mono _ _ _
      | exact wire_U24.mono _ _ _
      | exact wire_U32.mono _ _ _
      | exact wire_U8.mono _ _ _
      | exact LeO.none _
      | refine LeO.ite ?_ ?_
      | refine LeO.bind ?_ (fun _ => ?_)
    · intro y0 y1 y2 y3 y4 y5
      unfold halberdlaw1_WireRows.j3
      repeat' first
      | (with_reducible exact ih0 _ _ _ _)
      | (with_reducible exact ih1 _ _ _ _ _)
      | (with_reducible exact ih2 _ _ _ _ _)
      | (with_reducible exact ih3 _ _ _ _ _ _)
      | (with_reducible exact wire_U16.mono _ _ _)
      | (with_reducible exact wire_U24.mono _ _ _)
      | (with_reducible exact wire_U32.mono _ _ _)
      | (with_reducible exact wire_U8.mono _ _ _)
      | (with_reducible exact LeO.refl _)
      | (with_reducible exact LeO.none _)
      | (with_reducible refine LeO.ite ?_ ?_)
      | (with_reducible refine LeO.bind ?_ (fun _ => ?_))
      | exact ih0 _ _ _ _
      | exact ih1 _ _ _ _ _
      | exact ih2 _ _ _ _ _
      | exact ih3 _ _ _ _ _ _
      | exact wire_U16.mono _ _ _
      | exact wire_U24.mono _ _ _
      | exact wire_U32.mono _ _ _
      | exact wire_U8.mono _ _ _
      | exact LeO.none _
      | refine LeO.ite ?_ ?_
      | refine LeO.bind ?_ (fun _ => ?_)
theorem halberdlaw1_WireRows.mono : ∀ a0 a1 k, LeO (halberdlaw1_WireRows.f k a0 a1) (halberdlaw1_WireRows.f (k + 1) a0 a1) := by
  intro a0 a1 k
  obtain ⟨ih0, ih1, ih2, ih3⟩ := halberdlaw1_WireRows.mono_l k
  unfold halberdlaw1_WireRows.f
  repeat' first
      | (with_reducible exact ih0 _ _ _ _)
      | (with_reducible exact ih1 _ _ _ _ _)
      | (with_reducible exact ih2 _ _ _ _ _)
      | (with_reducible exact ih3 _ _ _ _ _ _)
      | (with_reducible exact wire_U16.mono _ _ _)
      | (with_reducible exact wire_U24.mono _ _ _)
      | (with_reducible exact wire_U32.mono _ _ _)
      | (with_reducible exact wire_U8.mono _ _ _)
      | (with_reducible exact LeO.refl _)
      | (with_reducible exact LeO.none _)
      | (with_reducible refine LeO.ite ?_ ?_)
      | (with_reducible refine LeO.bind ?_ (fun _ => ?_))
      | exact ih0 _ _ _ _
      | exact ih1 _ _ _ _ _
      | exact ih2 _ _ _ _ _
      | exact ih3 _ _ _ _ _ _
      | exact wire_U16.mono _ _ _
      | exact wire_U24.mono _ _ _
      | exact wire_U32.mono _ _ _
      | exact wire_U8.mono _ _ _
      | exact LeO.none _
      | refine LeO.ite ?_ ?_
      | refine LeO.bind ?_ (fun _ => ?_)
def halberdlaw1_WireRows.T8 : Bool × List (List Nat × List Nat) := (true, [([], []), ([], []), ([0, 1], [0, 1]), ([2], [2]), ([], []), ([4], [4]), ([5], [5]), ([6], [6]), ([3, 7], [3, 7]), ([], []), ([8, 9], [8, 9]), ([10], [10]), ([11], [11]), ([11], [11]), ([12, 10, 0, 1, 2, 3, 4, 5, 6, 7, 8, 9, 10, 11, 12], [12]), ([13, 14, 0, 1, 2, 3, 4, 5, 6, 7, 8, 9, 10, 11, 12, 13, 14], [13])])
def halberdlaw1_WireRows.B8 : List Nat := [0, 0, 3, 7, 0, 16, 48, 112, 255, 0, 1023, 2047, 4095, 4095, 8191, 32767]
theorem halberdlaw1_WireRows.tab8 : rtab .any (opsOf Try.f12 8) = halberdlaw1_WireRows.T8 := by kernel_rfl
theorem halberdlaw1_WireRows.bits8 : waitsOk halberdlaw1_WireRows.T8.2 halberdlaw1_WireRows.B8 = true := by kernel_rfl
def halberdlaw1_WireRows.T9 : Bool × List (List Nat × List Nat) := (true, [([], []), ([0], [0]), ([1], [1]), ([2, 1], [2]), ([3], [3]), ([4, 3], [3, 4]), ([3], [3]), ([5, 6, 3], [3, 5, 6]), ([3, 7], [3, 7]), ([8, 3], [8]), ([9], [9]), ([9], [9]), ([11, 9], [9, 11]), ([10, 12, 9], [9, 10, 12]), ([9], [9]), ([9], [9]), ([14, 15, 9], [9, 14, 15]), ([16, 9], [9, 16]), ([17, 9], [9, 17]), ([13, 18, 9], [9, 13, 18]), ([9, 19], [9, 19])])
def halberdlaw1_WireRows.B9 : List Nat := [0, 1, 3, 7, 15, 31, 15, 127, 255, 511, 1023, 1023, 3071, 8191, 1023, 1023, 50175, 115711, 246783, 524287, 1048575]
theorem halberdlaw1_WireRows.tab9 : rtab .any (opsOf Try.f12 9) = halberdlaw1_WireRows.T9 := by kernel_rfl
theorem halberdlaw1_WireRows.bits9 : waitsOk halberdlaw1_WireRows.T9.2 halberdlaw1_WireRows.B9 = true := by kernel_rfl
def halberdlaw1_WireRows.T30 : Bool × List (List Nat × List Nat) := (true, [([], []), ([], []), ([], []), ([1, 2], [1, 2]), ([3], [3]), ([], []), ([5], [5]), ([6], [6]), ([7], [7]), ([4, 8], [4, 8]), ([0, 9], [0, 9]), ([10], [10]), ([11], [11]), ([11], [11]), ([11], [11]), ([13, 14, 11], [11, 13, 14]), ([12, 15, 11], [11, 12, 15]), ([11, 16], [11, 16]), ([17, 11], [17]), ([18], [18]), ([19, 18], [18, 19]), ([18, 20], [18, 20])])
def halberdlaw1_WireRows.B30 : List Nat := [0, 0, 0, 6, 14, 0, 32, 96, 224, 510, 1023, 2047, 4095, 4095, 4095, 28671, 65535, 131071, 262143, 524287, 1048575, 2097151]
theorem halberdlaw1_WireRows.tab30 : rtab .any (opsOf Try.f12 30) = halberdlaw1_WireRows.T30 := by kernel_rfl
theorem halberdlaw1_WireRows.bits30 : waitsOk halberdlaw1_WireRows.T30.2 halberdlaw1_WireRows.B30 = true := by kernel_rfl
set_option maxHeartbeats 8000000 in
set_option maxRecDepth 100000 in
theorem halberdlaw1_WireRows.calls (k : Nat) (A0 : Option Addr) (c0 : Nat) (l0 : List Int) (a1 : ByteArray) (r : Bool) (w : World) (hr0 : Kd.C (Kd.int .i64) w A0 l0.length l0) (hc0 : l0.length ≤ c0) (h : halberdlaw1_WireRows.f k l0 a1 = some r) (hr : Aside0 (r = true)) :
    Calls Try.prog 12 #[.slice A0 l0.length c0, .string a1] w fun e w' => e = .returned (.bool r) ∧ Below w.heap.size w w' := by
  have HR0 := Aside0.mk hr0
  have HC0 := Aside0.mk hc0
  clear hr0 hc0
  have HB := Aside0.mk (Below.refl w.heap.size w)
  have H : ((halberdlaw1_awake.f).bind fun t338 => (if t338 = true then (halberdlaw1_WireRows.l0 k l0 a1 (⟨#[]⟩ : ByteArray) 0) else (some false))) = some r := h
  clear h
  replace H := Option.bind_eq_some_iff.mp H
  obtain ⟨t338, A30, H⟩ := H
  replace H : (if t338 = true then (halberdlaw1_WireRows.l0 k l0 a1 (⟨#[]⟩ : ByteArray) 0) else (some false)) = some r := H
  have A3 := Aside0.mk A30
  clear A30
  by_cases c4 : t338 = true
  · subst c4
    have H1 : (halberdlaw1_WireRows.l0 k l0 a1 (⟨#[]⟩ : ByteArray) 0) = some r := by rw [if_pos rfl] at H; exact H
    clear H
    have H := H1
    clear H1
    have H' := Aside0.mk H
    clear H
    go_enter Try.func12, Try.ntmps12
    go_wp2_with (first | ((with_reducible refine gate_callee (f := 37) rfl ?_); refine goesL_ (some 31) rfl rfl Try.func37 (by kernel_rfl) rfl #[] rfl (by (try simp only [List.map_toArray, List.map_cons, List.map_nil]); first | done | rfl | (simp only [List.length_drop, List.length_take]; rfl)) ?_; (with_reducible refine (halberdlaw1_awake.calls  true _ A3.out).mono ?_); rintro e w5 ⟨rfl, hb⟩; refine ⟨_, rfl, ?_⟩; have n0_ := Aside0.mk (below_step (by repeat (first | (with_reducible first | exact HB.out | apply below_alloc | apply pw_below_drewN | apply below_drew1) | exact HB.out)) hb); clear HB; have HB := n0_; clear n0_; (try clear hb); (try clear hb2); (try clear hk); (try clear hi)))
    go_loopg [5, 6] k (fun kq v5 v6 w' => ∃ (x5_1 : ByteArray) (x6_1 : Int), v5 = .string x5_1 ∧ v6 = .int .i64 x6_1 ∧ Aside0 (halberdlaw1_WireRows.l0 kq l0 a1 x5_1 x6_1 = some r) ∧ Aside0 (kq ≤ k) ∧ Aside0 (Below w.heap.size w w'))
    case atStart => exact ⟨((⟨#[]⟩ : ByteArray)), (0), (by first | rfl | (simp; done) | (simp [*]; done)), (by first | rfl | (simp; done) | (simp [*]; done)), H', ⟨Nat.le_refl _⟩, ⟨by repeat (first | (with_reducible first | exact HB.out | apply below_alloc | apply pw_below_drewN | apply below_drew1) | exact HB.out)⟩⟩
    case round =>
      clear H'
      try clear c1
      try clear p2
      try clear c3
      try clear c4
      obtain ⟨x5_1, x6_1, rfl, rfl, HA, HK1, HB⟩ := hrel
      cases gk with
      | zero => exact absurd HA.out (by simp [halberdlaw1_WireRows.l0])
      | succ k1 =>
        have H := HA.out
        clear HA
        simp only [halberdlaw1_WireRows.l0] at H
        have HC6 := Aside0.mk H
        clear H
        go_upto_region 5 with (fail)
        go_cut [40] (fun v40 wc => ∃ (kq : Nat) (x40_5 : Bool), v40 = .bool x40_5 ∧ Aside0 (halberdlaw1_WireRows.j1 kq l0 a1 x5_1 x6_1 x40_5 = some r) ∧ Aside0 (kq ≤ k1) ∧ Aside0 (Below w.heap.size w wc))
        case first =>
          have H := HC6.out
          clear HC6
          by_cases c7 : x6_1 < (l0.length : Int)
          · rw [if_pos c7] at H
            have c7b0 : decide (x6_1 < (l0.length : Int)) = true := decide_eq_true c7
            clear c7
            (first | rw [c7b0] | (simp only [i64_w, i32_w]; rw [c7b0]) | skip)
            have H' := Aside0.mk H
            clear H
            go_wp2
            go_meet
            case rel => exact ⟨_, (decide (x6_1 < 40)), (by first | rfl | (simp; done) | (simp [*]; done)), H', ⟨by have := HK1.out; first | omega | exact Nat.le_refl _⟩, ⟨by repeat (first | (with_reducible first | exact HB.out | apply below_alloc | apply pw_below_drewN | apply below_drew1) | exact HB.out)⟩⟩
          · rw [if_neg c7] at H
            have c7b0 : decide (x6_1 < (l0.length : Int)) = false := decide_eq_false c7
            clear c7
            (first | rw [c7b0] | (simp only [i64_w, i32_w]; rw [c7b0]) | skip)
            have H' := Aside0.mk H
            clear H
            go_wp2
            go_meet
            case rel => exact ⟨_, (false), (by first | rfl | (simp; done) | (simp [*]; done)), H', ⟨by have := HK1.out; first | omega | exact Nat.le_refl _⟩, ⟨by repeat (first | (with_reducible first | exact HB.out | apply below_alloc | apply pw_below_drewN | apply below_drew1) | exact HB.out)⟩⟩
        case rest =>
          clear HC6
          try clear c1
          try clear p2
          try clear c3
          try clear c4
          try clear c7
          try clear c7b0
          try clear p2
          obtain ⟨kq, x40_5, rfl, HA, HJ5, HB⟩ := hcut
          cases kq with
          | zero => exact absurd HA.out (by simp [halberdlaw1_WireRows.j1])
          | succ kj5 =>
            have H := HA.out
            clear HA
            simp only [halberdlaw1_WireRows.j1] at H
            by_cases c8 : x40_5 = true
            · subst c8
              have H1 : (if 0 ≤ x6_1 then (if x6_1 < (l0.length : Int) then (if 0 ≤ (wrap64 (8 * (wrap64 (1 + (Go.bits .and .i64 x6_1 3))))) then ((wire_Put.f (Go.bits .and .i64 (rd l0 x6_1) (wrap64 ((shl .i64 1 (wrap64 (8 * (wrap64 (1 + (Go.bits .and .i64 x6_1 3)))))) - 1))) (wrap64 (1 + (Go.bits .and .i64 x6_1 3)))).bind fun bt340 => ((halberdlaw0_Num.f bt340.2).bind fun t342 => (if t342 = 0 then (if (bt340.1.size : Int) = (wrap64 (1 + (Go.bits .and .i64 x6_1 3))) then (if 0 ≤ (wrap64 ((wrap64 (1 + (Go.bits .and .i64 x6_1 3))) - 1)) then (if (wrap64 ((wrap64 (1 + (Go.bits .and .i64 x6_1 3))) - 1)) < (bt340.1.size : Int) then (if (bt bt340.1 (wrap64 ((wrap64 (1 + (Go.bits .and .i64 x6_1 3))) - 1))) = ((rd l0 x6_1) % 256) then (if x5_1.size + bt340.1.size ≤ 9223372036854775807 then (halberdlaw1_WireRows.l0 kj5 l0 a1 (x5_1 ++ bt340.1) (wrap64 (x6_1 + 1))) else (none)) else (some false)) else (none)) else (none)) else (some false)) else (some false)))) else (none)) else (none)) else (none)) = some r := by rw [if_pos rfl] at H; exact H
              clear H
              have H := H1
              clear H1
              by_cases c9 : 0 ≤ x6_1
              · rw [if_pos c9] at H
                have c9b0 : decide (0 ≤ x6_1) = true := decide_eq_true c9
                clear c9
                by_cases c10 : x6_1 < (l0.length : Int)
                · rw [if_pos c10] at H
                  have c10b0 : decide (x6_1 < (l0.length : Int)) = true := decide_eq_true c10
                  clear c10
                  obtain ⟨ji11, hji11⟩ : ∃ j_ : Int, (wrap64 (8 * (wrap64 (1 + (Go.bits .and .i64 x6_1 3))))) = j_ := ⟨_, rfl⟩
                  replace H : (if 0 ≤ (ji11) then ((wire_Put.f (Go.bits .and .i64 (rd l0 x6_1) (wrap64 ((shl .i64 1 (ji11)) - 1))) (wrap64 (1 + (Go.bits .and .i64 x6_1 3)))).bind fun bt340 => ((halberdlaw0_Num.f bt340.2).bind fun t342 => (if t342 = 0 then (if (bt340.1.size : Int) = (wrap64 (1 + (Go.bits .and .i64 x6_1 3))) then (if 0 ≤ (wrap64 ((wrap64 (1 + (Go.bits .and .i64 x6_1 3))) - 1)) then (if (wrap64 ((wrap64 (1 + (Go.bits .and .i64 x6_1 3))) - 1)) < (bt340.1.size : Int) then (if (bt bt340.1 (wrap64 ((wrap64 (1 + (Go.bits .and .i64 x6_1 3))) - 1))) = ((rd l0 x6_1) % 256) then (if x5_1.size + bt340.1.size ≤ 9223372036854775807 then (halberdlaw1_WireRows.l0 kj5 l0 a1 (x5_1 ++ bt340.1) (wrap64 (x6_1 + 1))) else (none)) else (some false)) else (none)) else (none)) else (some false)) else (some false)))) else (none)) = some r := by first | (rw [hji11] at H; exact H) | (simp only [hji11] at H ⊢; exact H)
                  have hji11w : (IntKind.i64.wrap (8 * (wrap64 (1 + (Go.bits .and .i64 x6_1 3))))) = ji11 := (i64_w _).trans hji11
                  by_cases c12 : 0 ≤ (ji11)
                  · rw [if_pos c12] at H
                    have c12b0 := eq_true c12
                    have c12b1 : decide (0 ≤ (ji11)) = true := decide_eq_true c12
                    clear c12
                    obtain ⟨ji13, hji13⟩ : ∃ j_ : Int, (shl .i64 1 (ji11)) = j_ := ⟨_, rfl⟩
                    replace H : ((wire_Put.f (Go.bits .and .i64 (rd l0 x6_1) (wrap64 ((ji13) - 1))) (wrap64 (1 + (Go.bits .and .i64 x6_1 3)))).bind fun bt340 => ((halberdlaw0_Num.f bt340.2).bind fun t342 => (if t342 = 0 then (if (bt340.1.size : Int) = (wrap64 (1 + (Go.bits .and .i64 x6_1 3))) then (if 0 ≤ (wrap64 ((wrap64 (1 + (Go.bits .and .i64 x6_1 3))) - 1)) then (if (wrap64 ((wrap64 (1 + (Go.bits .and .i64 x6_1 3))) - 1)) < (bt340.1.size : Int) then (if (bt bt340.1 (wrap64 ((wrap64 (1 + (Go.bits .and .i64 x6_1 3))) - 1))) = ((rd l0 x6_1) % 256) then (if x5_1.size + bt340.1.size ≤ 9223372036854775807 then (halberdlaw1_WireRows.l0 kj5 l0 a1 (x5_1 ++ bt340.1) (wrap64 (x6_1 + 1))) else (none)) else (some false)) else (none)) else (none)) else (some false)) else (some false)))) = some r := by first | (rw [hji13] at H; exact H) | (simp only [hji13] at H ⊢; exact H)
                    have hji13_ : (IntKind.i64.wrap (1 * 2 ^ min (ji11).toNat 64)) = ji13 := hji13
                    have hji13z : (ji11) ≤ 64 → (IntKind.i64.wrap (1 * 2 ^ (ji11).toNat)) = ji13 := shl_small hji13
                    have hji13u : (IntKind.i64.wrap (2 ^ min (ji11).toNat 64)) = ji13 := by have h_ := hji13_; rw [Int.one_mul] at h_; exact h_
                    have hji13v : (ji11) ≤ 64 → (IntKind.i64.wrap (2 ^ (ji11).toNat)) = ji13 := fun hle_ => by have h_ := hji13z hle_; rw [Int.one_mul] at h_; exact h_
                    have hji13y : (wrap64 (1 * 2 ^ min (ji11).toNat 64)) = ji13 := (i64_w _).symm.trans hji13_
                    have hji13x : (ji11) ≤ 64 → (wrap64 (1 * 2 ^ (ji11).toNat)) = ji13 := fun h_ => (i64_w _).symm.trans (hji13z h_)
                    replace H := Option.bind_eq_some_iff.mp H
                    obtain ⟨⟨t340, t341⟩, A140, H⟩ := H
                    replace H : ((halberdlaw0_Num.f t341).bind fun t342 => (if t342 = 0 then (if (t340.size : Int) = (wrap64 (1 + (Go.bits .and .i64 x6_1 3))) then (if 0 ≤ (wrap64 ((wrap64 (1 + (Go.bits .and .i64 x6_1 3))) - 1)) then (if (wrap64 ((wrap64 (1 + (Go.bits .and .i64 x6_1 3))) - 1)) < (t340.size : Int) then (if (bt t340 (wrap64 ((wrap64 (1 + (Go.bits .and .i64 x6_1 3))) - 1))) = ((rd l0 x6_1) % 256) then (if x5_1.size + t340.size ≤ 9223372036854775807 then (halberdlaw1_WireRows.l0 kj5 l0 a1 (x5_1 ++ t340) (wrap64 (x6_1 + 1))) else (none)) else (some false)) else (none)) else (none)) else (some false)) else (some false))) = some r := H
                    have A14 := Aside0.mk A140
                    clear A140
                    replace H := Option.bind_eq_some_iff.mp H
                    obtain ⟨t342, A150, H⟩ := H
                    replace H : (if t342 = 0 then (if (t340.size : Int) = (wrap64 (1 + (Go.bits .and .i64 x6_1 3))) then (if 0 ≤ (wrap64 ((wrap64 (1 + (Go.bits .and .i64 x6_1 3))) - 1)) then (if (wrap64 ((wrap64 (1 + (Go.bits .and .i64 x6_1 3))) - 1)) < (t340.size : Int) then (if (bt t340 (wrap64 ((wrap64 (1 + (Go.bits .and .i64 x6_1 3))) - 1))) = ((rd l0 x6_1) % 256) then (if x5_1.size + t340.size ≤ 9223372036854775807 then (halberdlaw1_WireRows.l0 kj5 l0 a1 (x5_1 ++ t340) (wrap64 (x6_1 + 1))) else (none)) else (some false)) else (none)) else (none)) else (some false)) else (some false)) = some r := H
                    have A15 := Aside0.mk A150
                    clear A150
                    by_cases c16 : t342 = 0
                    · rw [if_pos c16] at H
                      have c16b0 : (t342 == 0) = true := beq_iff_eq.mpr c16
                      have c16b1 : (t342 != 0) = false := bne_eq_false_iff_eq.mpr c16
                      clear c16
                      by_cases c17 : (t340.size : Int) = (wrap64 (1 + (Go.bits .and .i64 x6_1 3)))
                      · rw [if_pos c17] at H
                        have c17b0 : ((t340.size : Int) == (wrap64 (1 + (Go.bits .and .i64 x6_1 3)))) = true := beq_iff_eq.mpr c17
                        have c17b1 : ((t340.size : Int) != (wrap64 (1 + (Go.bits .and .i64 x6_1 3)))) = false := bne_eq_false_iff_eq.mpr c17
                        clear c17
                        obtain ⟨ji18, hji18⟩ : ∃ j_ : Int, (wrap64 ((wrap64 (1 + (Go.bits .and .i64 x6_1 3))) - 1)) = j_ := ⟨_, rfl⟩
                        replace H : (if 0 ≤ (ji18) then (if (ji18) < (t340.size : Int) then (if (bt t340 (ji18)) = ((rd l0 x6_1) % 256) then (if x5_1.size + t340.size ≤ 9223372036854775807 then (halberdlaw1_WireRows.l0 kj5 l0 a1 (x5_1 ++ t340) (wrap64 (x6_1 + 1))) else (none)) else (some false)) else (none)) else (none)) = some r := by first | (rw [hji18] at H; exact H) | (simp only [hji18] at H ⊢; exact H)
                        (try rw [hji18] at A14)
                        (try rw [hji18] at A15)
                        have hji18w : (IntKind.i64.wrap ((wrap64 (1 + (Go.bits .and .i64 x6_1 3))) - 1)) = ji18 := (i64_w _).trans hji18
                        by_cases c19 : 0 ≤ (ji18)
                        · rw [if_pos c19] at H
                          have c19b0 : decide (0 ≤ (ji18)) = true := decide_eq_true c19
                          clear c19
                          by_cases c20 : (ji18) < (t340.size : Int)
                          · rw [if_pos c20] at H
                            have c20b0 : decide ((ji18) < (t340.size : Int)) = true := decide_eq_true c20
                            clear c20
                            by_cases c22 : (bt t340 (ji18)) = ((rd l0 x6_1) % 256)
                            · rw [if_pos c22] at H
                              have c22b0 : ((bt t340 (ji18)) == ((rd l0 x6_1) % 256)) = true := beq_iff_eq.mpr c22
                              have c22b1 : ((bt t340 (ji18)) != ((rd l0 x6_1) % 256)) = false := bne_eq_false_iff_eq.mpr c22
                              (try (have c22b2 : ((bt t340 (ji18)) == (IntKind.u8.wrap (rd l0 x6_1))) = true := by simp only [Go.IntKind.wrap_u8]; exact beq_iff_eq.mpr c22))
                              (try (have c22b3 : ((bt t340 (ji18)) != (IntKind.u8.wrap (rd l0 x6_1))) = false := by simp only [Go.IntKind.wrap_u8]; exact bne_eq_false_iff_eq.mpr c22))
                              clear c22
                              by_cases c23 : x5_1.size + t340.size ≤ 9223372036854775807
                              · rw [if_pos c23] at H
                                have c23b0 := eq_true c23
                                have c23b1 : decide (x5_1.size + t340.size ≤ 9223372036854775807) = true := decide_eq_true c23
                                try have c23b2 : (9223372036854775807 < x5_1.size + t340.size) = False := eq_false (Nat.not_lt.2 c23)
                                obtain ⟨ys344, hys344⟩ : ∃ y_ : ByteArray, y_ = (x5_1 ++ t340) := ⟨_, rfl⟩
                                replace H : (halberdlaw1_WireRows.l0 kj5 l0 a1 ys344 (wrap64 (x6_1 + 1))) = some r := by first | (rw [hys344]; with_reducible exact H) | (have H2_ := (Option.bind_some _ _).symm.trans H; rw [hys344]; with_reducible exact H2_) | (have H2_ := (Option.bind_some _ _).symm.trans H; with_reducible exact H2_) | with_reducible exact H | (rw [hys344]; exact H) | exact H
                                have Nys344 := Aside0.mk hys344
                                clear hys344
                                have Sys344 := Nys344.out.symm
                                have H' := Aside0.mk H
                                clear H
                                try go_wp2
                                have n0_ := Aside0.mk (below_drew1 HB.out)
                                clear HB
                                have HB := n0_
                                clear n0_
                                have p339 : 0 ≤ (x6_1 : Int) := of_decide_eq_true (by first | (with_reducible assumption) | assumption)
                                have q339 : x6_1 < (l0.length : Int) := of_decide_eq_true (by first | (with_reducible assumption) | assumption)
                                obtain ⟨ad339, e339, hx339_0⟩ := Kd.at_int HR0.out x6_1 p339 q339
                                have hw339_0 := hx339_0
                                cases e339
                                replace hx339_0 := (HB.out.cell (World.block_lt_of_cell? w _ hx339_0)).trans hx339_0
                                replace p339 := eq_true p339
                                replace q339 := eq_true q339
                                refine start_ (n := 16) (S := fun w' => w'.cell? (ad339.add (x6_1).toNat) = some (.int .i64 (rd l0 x6_1))) (ds := []) #[false, false, false, false, false, false, false, false, false, false, false, false, false, false, false, false] (by kernel_rfl) rfl rfl (((HB.out.cell (World.block_lt_of_cell? w _ hw339_0)).trans hw339_0)) (fun hHeld => ?_); refine with_tabW halberdlaw1_WireRows.tab8 halberdlaw1_WireRows.bits8 (fun HT_ HW_ => ?_)
                                generalize wc.drew = w24 at HB hx339_0 hHeld ⊢
                                refine pure_ (i := 0) (N := some 47) (v := ?_) (a' := ?_) #[true, false, false, false, false, false, false, false, false, false, false, false, false, false, false, false] rfl rfl (any_of HT_.out (by kernel_rfl)) (fun _ _ _ h => h) (Or.inl ⟨by rfl, ?_⟩) ?_ ?_
                                rotate_left
                                · intro w'
                                  go_simp
                                  with_reducible rfl
                                rotate_left
                                · simp only [Act.put, List.setIfInBounds_toArray, List.set_cons_zero, List.set_cons_succ, i64_w, i32_w]
                                  rfl
                                refine pure_ (i := 1) (N := some 48) (v := ?_) (a' := ?_) #[true, true, false, false, false, false, false, false, false, false, false, false, false, false, false, false] rfl rfl (any_of HT_.out (by kernel_rfl)) (fun _ _ _ h => h) (Or.inl ⟨by rfl, ?_⟩) ?_ ?_
                                rotate_left
                                · intro w'
                                  go_simp
                                  with_reducible rfl
                                rotate_left
                                · simp only [Act.put, List.setIfInBounds_toArray, List.set_cons_zero, List.set_cons_succ, i64_w, i32_w]
                                  rfl
                                refine pure_ (i := 2) (N := some 49) (v := ?_) (a' := ?_) #[true, true, true, false, false, false, false, false, false, false, false, false, false, false, false, false] rfl rfl (any_of HT_.out (by kernel_rfl)) (fun _ _ _ h => h) (Or.inl ⟨by rfl, ?_⟩) ?_ ?_
                                rotate_left
                                · intro w'
                                  go_simp
                                  with_reducible rfl
                                rotate_left
                                · simp only [Act.put, List.setIfInBounds_toArray, List.set_cons_zero, List.set_cons_succ, i64_w, i32_w]
                                  rfl
                                refine pure_ (i := 4) (N := some 51) (v := ?_) (a' := ?_) #[true, true, true, false, true, false, false, false, false, false, false, false, false, false, false, false] rfl rfl (any_of HT_.out (by kernel_rfl)) (fun _ _ _ h => h) (Or.inl ⟨by rfl, ?_⟩) ?_ ?_
                                rotate_left
                                · intro w'
                                  go_simp
                                  with_reducible rfl
                                rotate_left
                                · simp only [Act.put, List.setIfInBounds_toArray, List.set_cons_zero, List.set_cons_succ, i64_w, i32_w]
                                  rfl
                                refine pure_ (i := 5) (N := some 52) (v := ?_) (a' := ?_) #[true, true, true, false, true, true, false, false, false, false, false, false, false, false, false, false] rfl rfl (any_of HT_.out (by kernel_rfl)) (fun _ _ _ h => h) (Or.inl ⟨by rfl, ?_⟩) ?_ ?_
                                rotate_left
                                · intro w'
                                  go_simp
                                  with_reducible rfl
                                rotate_left
                                · simp only [Act.put, List.setIfInBounds_toArray, List.set_cons_zero, List.set_cons_succ, i64_w, i32_w]
                                  rfl
                                refine pure_ (i := 6) (N := some 53) (v := ?_) (a' := ?_) #[true, true, true, false, true, true, true, false, false, false, false, false, false, false, false, false] rfl rfl (any_of HT_.out (by kernel_rfl)) (fun _ _ _ h => h) (Or.inl ⟨by rfl, ?_⟩) ?_ ?_
                                rotate_left
                                · intro w'
                                  go_simp
                                  with_reducible rfl
                                rotate_left
                                · simp only [Act.put, List.setIfInBounds_toArray, List.set_cons_zero, List.set_cons_succ, i64_w, i32_w]
                                  rfl
                                refine pure_ (i := 7) (N := some 54) (v := ?_) (a' := ?_) #[true, true, true, false, true, true, true, true, false, false, false, false, false, false, false, false] rfl rfl (any_of HT_.out (by kernel_rfl)) (fun _ _ _ h => h) (Or.inl ⟨by rfl, ?_⟩) ?_ ?_
                                rotate_left
                                · intro w'
                                  go_simp
                                  with_reducible rfl
                                rotate_left
                                · simp only [Act.put, List.setIfInBounds_toArray, List.set_cons_zero, List.set_cons_succ, i64_w, i32_w]
                                  rfl
                                refine pure_ (i := 9) (N := some 56) (v := ?_) (a' := ?_) #[true, true, true, false, true, true, true, true, false, true, false, false, false, false, false, false] rfl rfl (any_of HT_.out (by kernel_rfl)) (fun _ _ _ h => h) (Or.inl ⟨by rfl, ?_⟩) ?_ ?_
                                rotate_left
                                · intro w'
                                  go_simp
                                  with_reducible rfl
                                rotate_left
                                · simp only [Act.put, List.setIfInBounds_toArray, List.set_cons_zero, List.set_cons_succ, i64_w, i32_w]
                                  rfl
                                refine take_ (i := 3) (N := some 50) (v := ?_) (a' := ?_) #[true, true, true, true, true, true, true, true, false, true, false, false, false, false, false, false] rfl rfl (take_ofW HT_.out HW_.out (by kernel_rfl)) (fun _ _ _ h => h) (Or.inl ⟨by rfl, ?_⟩) hHeld ?_ ?_
                                rotate_left
                                · intro w' s0
                                  go_simp
                                  with_reducible rfl
                                rotate_left
                                · simp only [Act.put, List.setIfInBounds_toArray, List.set_cons_zero, List.set_cons_succ, i64_w, i32_w]
                                  rfl
                                refine pure_ (i := 8) (N := some 55) (v := ?_) (a' := ?_) #[true, true, true, true, true, true, true, true, true, true, false, false, false, false, false, false] rfl rfl (any_of HT_.out (by kernel_rfl)) (fun _ _ _ h => h) (Or.inl ⟨by rfl, ?_⟩) ?_ ?_
                                rotate_left
                                · intro w'
                                  go_simp
                                  with_reducible rfl
                                rotate_left
                                · simp only [Act.put, List.setIfInBounds_toArray, List.set_cons_zero, List.set_cons_succ, i64_w, i32_w]
                                  rfl
                                refine one_ (i := 10) (N := some 57) #[true, true, true, true, true, true, true, true, true, true, true, false, false, false, false, false] rfl rfl (one_of HT_.out (by kernel_rfl)) (by decide) (fun K hK => ?_)
                                refine goes_ Try.func33 (by kernel_rfl) rfl #[.int .i64 (Go.bits .and .i64 (rd l0 x6_1) (wrap64 ((ji13) - 1))), .int .i64 (wrap64 (1 + (Go.bits .and .i64 x6_1 3)))] (by rfl) rfl rfl (by (try simp only [List.map_toArray, List.map_cons, List.map_nil]); first | done | (simp only [hji13]; rfl) | rfl | (simp only [List.length_drop, List.length_take]; rfl)) ?_
                                with_reducible refine (wire_Put.calls (Go.bits .and .i64 (rd l0 x6_1) (wrap64 ((ji13) - 1))) (wrap64 (1 + (Go.bits .and .i64 x6_1 3))) t340 t341 _ A14.out).mono ?_
                                rintro e w25 ⟨rfl, hb⟩
                                refine ⟨_, rfl, ?_⟩
                                have n0_ := Aside0.mk (below_step (by repeat (first | (with_reducible first | exact HB.out | apply below_alloc | apply pw_below_drewN | apply below_drew1) | exact HB.out)) hb)
                                clear HB
                                have HB := n0_
                                clear n0_
                                (try clear hb)
                                (try clear hb2)
                                (try clear hk)
                                (try clear hi)
                                refine hK.out _ _ (((HB.out.cell (World.block_lt_of_cell? w _ hw339_0)).trans hw339_0)) (fun hHeld => ?_)
                                clear hK K
                                refine norm_ (a' := ?_) ?_ ?_
                                rotate_left
                                · show Act.put _ (some 57) _ = _
                                  simp only [Act.put, List.setIfInBounds_toArray, List.set_cons_zero, List.set_cons_succ, i64_w, i32_w]
                                  rfl
                                refine pure_ (i := 11) (N := some 46) (v := ?_) (a' := ?_) #[true, true, true, true, true, true, true, true, true, true, true, true, false, false, false, false] rfl rfl (any_of HT_.out (by kernel_rfl)) (fun _ _ _ h => h) (Or.inl ⟨by rfl, ?_⟩) ?_ ?_
                                rotate_left
                                · intro w'
                                  go_simp
                                  with_reducible rfl
                                rotate_left
                                · simp only [Act.put, List.setIfInBounds_toArray, List.set_cons_zero, List.set_cons_succ, i64_w, i32_w]
                                  rfl
                                refine pure_ (i := 12) (N := some 58) (v := ?_) (a' := ?_) #[true, true, true, true, true, true, true, true, true, true, true, true, true, false, false, false] rfl rfl (any_of HT_.out (by kernel_rfl)) (fun _ _ _ h => h) (Or.inl ⟨by rfl, ?_⟩) ?_ ?_
                                rotate_left
                                · intro w'
                                  go_simp
                                  with_reducible rfl
                                rotate_left
                                · simp only [Act.put, List.setIfInBounds_toArray, List.set_cons_zero, List.set_cons_succ, i64_w, i32_w]
                                  rfl
                                refine pure_ (i := 13) (N := some 59) (v := ?_) (a' := ?_) #[true, true, true, true, true, true, true, true, true, true, true, true, true, true, false, false] rfl rfl (any_of HT_.out (by kernel_rfl)) (fun _ _ _ h => h) (Or.inl ⟨by rfl, ?_⟩) ?_ ?_
                                rotate_left
                                · intro w'
                                  go_simp
                                  with_reducible rfl
                                rotate_left
                                · simp only [Act.put, List.setIfInBounds_toArray, List.set_cons_zero, List.set_cons_succ, i64_w, i32_w]
                                  rfl
                                refine pure_ (i := 14) (N := some 8) (v := ?_) (a' := ?_) #[true, true, true, true, true, true, true, true, true, true, true, true, true, true, true, false] rfl rfl (any_of HT_.out (by kernel_rfl)) (fun _ _ _ h => h) (Or.inl ⟨by rfl, ?_⟩) ?_ ?_
                                rotate_left
                                · intro w'
                                  go_simp
                                  with_reducible rfl
                                rotate_left
                                · simp only [Act.put, List.setIfInBounds_toArray, List.set_cons_zero, List.set_cons_succ, i64_w, i32_w]
                                  rfl
                                refine pure_ (i := 15) (N := some 9) (v := ?_) (a' := ?_) #[true, true, true, true, true, true, true, true, true, true, true, true, true, true, true, true] rfl rfl (any_of HT_.out (by kernel_rfl)) (fun _ _ _ h => h) (Or.inl ⟨by rfl, ?_⟩) ?_ ?_
                                rotate_left
                                · intro w'
                                  go_simp
                                  with_reducible rfl
                                rotate_left
                                · simp only [Act.put, List.setIfInBounds_toArray, List.set_cons_zero, List.set_cons_succ, i64_w, i32_w]
                                  rfl
                                refine done_ (done_of HT_.out (by kernel_rfl)) ?_
                                try go_wp2
                                have n0_ := Aside0.mk (below_drew1 HB.out)
                                clear HB
                                have HB := n0_
                                clear n0_
                                have p343 : 0 ≤ (x6_1 : Int) := of_decide_eq_true (by first | (with_reducible assumption) | assumption)
                                have q343 : x6_1 < (l0.length : Int) := of_decide_eq_true (by first | (with_reducible assumption) | assumption)
                                obtain ⟨ad343, e343, hx343_0⟩ := Kd.at_int HR0.out x6_1 p343 q343
                                have hw343_0 := hx343_0
                                obtain rfl : ad339 = ad343 := (by injection e343)
                                replace hx343_0 := (HB.out.cell (World.block_lt_of_cell? w _ hx343_0)).trans hx343_0
                                replace p343 := eq_true p343
                                replace q343 := eq_true q343
                                refine start_ (n := 21) (S := fun w' => w'.cell? (ad339.add (x6_1).toNat) = some (.int .i64 (rd l0 x6_1))) (ds := []) #[false, false, false, false, false, false, false, false, false, false, false, false, false, false, false, false, false, false, false, false, false] (by kernel_rfl) rfl rfl (((HB.out.cell (World.block_lt_of_cell? w _ hw343_0)).trans hw343_0)) (fun hHeld => ?_); refine with_tabW halberdlaw1_WireRows.tab9 halberdlaw1_WireRows.bits9 (fun HT_ HW_ => ?_)
                                generalize w25.drew = w26 at HB hx343_0 hHeld ⊢
                                refine pure_ (i := 0) (N := some 60) (v := ?_) (a' := ?_) #[true, false, false, false, false, false, false, false, false, false, false, false, false, false, false, false, false, false, false, false, false] rfl rfl (any_of HT_.out (by kernel_rfl)) (fun _ _ _ h => h) (Or.inl ⟨by rfl, ?_⟩) ?_ ?_
                                rotate_left
                                · intro w'
                                  go_simp
                                  with_reducible rfl
                                rotate_left
                                · simp only [Act.put, List.setIfInBounds_toArray, List.set_cons_zero, List.set_cons_succ, i64_w, i32_w]
                                  rfl
                                refine one_ (i := 1) (N := some 61) #[true, true, false, false, false, false, false, false, false, false, false, false, false, false, false, false, false, false, false, false, false] rfl rfl (one_of HT_.out (by kernel_rfl)) (by decide) (fun K hK => ?_)
                                refine goes_ Try.func28 (by kernel_rfl) rfl #[.int .i64 t341] (by rfl) rfl rfl (by (try simp only [List.map_toArray, List.map_cons, List.map_nil]); first | done | rfl | (simp only [List.length_drop, List.length_take]; rfl)) ?_
                                with_reducible refine (halberdlaw0_Num.calls t341 t342 _ A15.out).mono ?_
                                rintro e w' ⟨rfl, ⟨nd, rfl⟩⟩
                                refine ⟨_, rfl, ?_⟩
                                have p21 : 0 ≤ ((ji18) : Int) := of_decide_eq_true (by first | (with_reducible assumption) | assumption)
                                have q21 : (ji18) < (t340.size : Int) := of_decide_eq_true (by first | (with_reducible assumption) | assumption)
                                have hx21 := bt_at t340 (ji18)
                                replace p21 := eq_true p21
                                replace q21 := eq_true q21
                                refine hK.out _ _ (((HB.out.cell (World.block_lt_of_cell? w _ hw343_0)).trans hw343_0)) (fun hHeld => ?_)
                                clear hK K
                                refine norm_ (a' := ?_) ?_ ?_
                                rotate_left
                                · show Act.put _ (some 61) _ = _
                                  simp only [Act.put, List.setIfInBounds_toArray, List.set_cons_zero, List.set_cons_succ, i64_w, i32_w]
                                  rfl
                                refine pure_ (i := 2) (N := some 62) (v := ?_) (a' := ?_) #[true, true, true, false, false, false, false, false, false, false, false, false, false, false, false, false, false, false, false, false, false] rfl rfl (any_of HT_.out (by kernel_rfl)) (fun _ _ _ h => h) (Or.inl ⟨by rfl, ?_⟩) ?_ ?_
                                rotate_left
                                · intro w'
                                  go_simp
                                  with_reducible rfl
                                rotate_left
                                · simp only [Act.put, List.setIfInBounds_toArray, List.set_cons_zero, List.set_cons_succ, i64_w, i32_w]
                                  rfl
                                refine pure_ (i := 3) (N := some 63) (v := ?_) (a' := ?_) #[true, true, true, true, false, false, false, false, false, false, false, false, false, false, false, false, false, false, false, false, false] rfl rfl (any_of HT_.out (by kernel_rfl)) (fun _ _ _ h => h) (Or.inl ⟨by rfl, ?_⟩) ?_ ?_
                                rotate_left
                                · intro w'
                                  go_simp
                                  with_reducible rfl
                                rotate_left
                                · simp only [Act.put, List.setIfInBounds_toArray, List.set_cons_zero, List.set_cons_succ, i64_w, i32_w]
                                  rfl
                                refine pure_ (i := 4) (N := some 64) (v := ?_) (a' := ?_) #[true, true, true, true, true, false, false, false, false, false, false, false, false, false, false, false, false, false, false, false, false] rfl rfl (any_of HT_.out (by kernel_rfl)) (fun _ _ _ h => h) (Or.inl ⟨by rfl, ?_⟩) ?_ ?_
                                rotate_left
                                · intro w'
                                  go_simp
                                  with_reducible rfl
                                rotate_left
                                · simp only [Act.put, List.setIfInBounds_toArray, List.set_cons_zero, List.set_cons_succ, i64_w, i32_w]
                                  rfl
                                refine pure_ (i := 5) (N := some 65) (v := ?_) (a' := ?_) #[true, true, true, true, true, true, false, false, false, false, false, false, false, false, false, false, false, false, false, false, false] rfl rfl (any_of HT_.out (by kernel_rfl)) (fun _ _ _ h => h) (Or.inl ⟨by rfl, ?_⟩) ?_ ?_
                                rotate_left
                                · intro w'
                                  go_simp
                                  with_reducible rfl
                                rotate_left
                                · simp only [Act.put, List.setIfInBounds_toArray, List.set_cons_zero, List.set_cons_succ, i64_w, i32_w]
                                  rfl
                                refine pure_ (i := 6) (N := some 66) (v := ?_) (a' := ?_) #[true, true, true, true, true, true, true, false, false, false, false, false, false, false, false, false, false, false, false, false, false] rfl rfl (any_of HT_.out (by kernel_rfl)) (fun _ _ _ h => h) (Or.inl ⟨by rfl, ?_⟩) ?_ ?_
                                rotate_left
                                · intro w'
                                  go_simp
                                  with_reducible rfl
                                rotate_left
                                · simp only [Act.put, List.setIfInBounds_toArray, List.set_cons_zero, List.set_cons_succ, i64_w, i32_w]
                                  rfl
                                refine pure_ (i := 7) (N := some 67) (v := ?_) (a' := ?_) #[true, true, true, true, true, true, true, true, false, false, false, false, false, false, false, false, false, false, false, false, false] rfl rfl (any_of HT_.out (by kernel_rfl)) (fun _ _ _ h => h) (Or.inl ⟨by rfl, ?_⟩) ?_ ?_
                                rotate_left
                                · intro w'
                                  go_simp
                                  with_reducible rfl
                                rotate_left
                                · simp only [Act.put, List.setIfInBounds_toArray, List.set_cons_zero, List.set_cons_succ, i64_w, i32_w]
                                  rfl
                                refine pure_ (i := 8) (N := some 68) (v := ?_) (a' := ?_) #[true, true, true, true, true, true, true, true, true, false, false, false, false, false, false, false, false, false, false, false, false] rfl rfl (any_of HT_.out (by kernel_rfl)) (fun _ _ _ h => h) (Or.inl ⟨by rfl, ?_⟩) ?_ ?_
                                rotate_left
                                · intro w'
                                  go_simp
                                  with_reducible rfl
                                rotate_left
                                · simp only [Act.put, List.setIfInBounds_toArray, List.set_cons_zero, List.set_cons_succ, i64_w, i32_w]
                                  rfl
                                refine pure_ (i := 9) (N := some 69) (v := ?_) (a' := ?_) #[true, true, true, true, true, true, true, true, true, true, false, false, false, false, false, false, false, false, false, false, false] rfl rfl (any_of HT_.out (by kernel_rfl)) (fun _ _ _ h => h) (Or.inl ⟨by rfl, ?_⟩) ?_ ?_
                                rotate_left
                                · intro w'
                                  go_simp
                                  with_reducible rfl
                                rotate_left
                                · simp only [Act.put, List.setIfInBounds_toArray, List.set_cons_zero, List.set_cons_succ, i64_w, i32_w]
                                  rfl
                                refine pure_ (i := 10) (N := some 70) (v := ?_) (a' := ?_) #[true, true, true, true, true, true, true, true, true, true, true, false, false, false, false, false, false, false, false, false, false] rfl rfl (any_of HT_.out (by kernel_rfl)) (fun _ _ _ h => h) (Or.inl ⟨by rfl, ?_⟩) ?_ ?_
                                rotate_left
                                · intro w'
                                  go_simp
                                  with_reducible rfl
                                rotate_left
                                · simp only [Act.put, List.setIfInBounds_toArray, List.set_cons_zero, List.set_cons_succ, i64_w, i32_w]
                                  rfl
                                refine pure_ (i := 11) (N := some 71) (v := ?_) (a' := ?_) #[true, true, true, true, true, true, true, true, true, true, true, true, false, false, false, false, false, false, false, false, false] rfl rfl (any_of HT_.out (by kernel_rfl)) (fun _ _ _ h => h) (Or.inl ⟨by rfl, ?_⟩) ?_ ?_
                                rotate_left
                                · intro w'
                                  go_simp
                                  with_reducible rfl
                                rotate_left
                                · simp only [Act.put, List.setIfInBounds_toArray, List.set_cons_zero, List.set_cons_succ, i64_w, i32_w]
                                  rfl
                                refine pure_ (i := 12) (N := some 72) (v := ?_) (a' := ?_) #[true, true, true, true, true, true, true, true, true, true, true, true, true, false, false, false, false, false, false, false, false] rfl rfl (any_of HT_.out (by kernel_rfl)) (fun _ _ _ h => h) (Or.inl ⟨by rfl, ?_⟩) ?_ ?_
                                rotate_left
                                · intro w'
                                  go_simp
                                  with_reducible rfl
                                rotate_left
                                · simp only [Act.put, List.setIfInBounds_toArray, List.set_cons_zero, List.set_cons_succ, i64_w, i32_w]
                                  rfl
                                refine pure_ (i := 14) (N := some 74) (v := ?_) (a' := ?_) #[true, true, true, true, true, true, true, true, true, true, true, true, true, false, true, false, false, false, false, false, false] rfl rfl (any_of HT_.out (by kernel_rfl)) (fun _ _ _ h => h) (Or.inl ⟨by rfl, ?_⟩) ?_ ?_
                                rotate_left
                                · intro w'
                                  go_simp
                                  with_reducible rfl
                                rotate_left
                                · simp only [Act.put, List.setIfInBounds_toArray, List.set_cons_zero, List.set_cons_succ, i64_w, i32_w]
                                  rfl
                                refine pure_ (i := 15) (N := some 75) (v := ?_) (a' := ?_) #[true, true, true, true, true, true, true, true, true, true, true, true, true, false, true, true, false, false, false, false, false] rfl rfl (any_of HT_.out (by kernel_rfl)) (fun _ _ _ h => h) (Or.inl ⟨by rfl, ?_⟩) ?_ ?_
                                rotate_left
                                · intro w'
                                  go_simp
                                  with_reducible rfl
                                rotate_left
                                · simp only [Act.put, List.setIfInBounds_toArray, List.set_cons_zero, List.set_cons_succ, i64_w, i32_w]
                                  rfl
                                refine pure_ (i := 16) (N := some 76) (v := ?_) (a' := ?_) #[true, true, true, true, true, true, true, true, true, true, true, true, true, false, true, true, true, false, false, false, false] rfl rfl (any_of HT_.out (by kernel_rfl)) (fun _ _ _ h => h) (Or.inl ⟨by rfl, ?_⟩) ?_ ?_
                                rotate_left
                                · intro w'
                                  go_simp
                                  with_reducible rfl
                                rotate_left
                                · simp only [Act.put, List.setIfInBounds_toArray, List.set_cons_zero, List.set_cons_succ, i64_w, i32_w]
                                  rfl
                                refine take_ (i := 13) (N := some 73) (v := ?_) (a' := ?_) #[true, true, true, true, true, true, true, true, true, true, true, true, true, true, true, true, true, false, false, false, false] rfl rfl (take_ofW HT_.out HW_.out (by kernel_rfl)) (fun _ _ _ h => h) (Or.inl ⟨by rfl, ?_⟩) hHeld ?_ ?_
                                rotate_left
                                · intro w' s0
                                  go_simp
                                  with_reducible rfl
                                rotate_left
                                · simp only [Act.put, List.setIfInBounds_toArray, List.set_cons_zero, List.set_cons_succ, i64_w, i32_w]
                                  rfl
                                refine take_ (i := 17) (N := some 77) (v := ?_) (a' := ?_) #[true, true, true, true, true, true, true, true, true, true, true, true, true, true, true, true, true, true, false, false, false] rfl rfl (take_ofW HT_.out HW_.out (by kernel_rfl)) (fun _ _ _ h => h) (Or.inl ⟨by rfl, ?_⟩) hHeld ?_ ?_
                                rotate_left
                                · intro w' s0
                                  go_simp
                                  with_reducible rfl
                                rotate_left
                                · simp only [Act.put, List.setIfInBounds_toArray, List.set_cons_zero, List.set_cons_succ, i64_w, i32_w]
                                  rfl
                                refine pure_ (i := 18) (N := some 78) (v := ?_) (a' := ?_) #[true, true, true, true, true, true, true, true, true, true, true, true, true, true, true, true, true, true, true, false, false] rfl rfl (any_of HT_.out (by kernel_rfl)) (fun _ _ _ h => h) (Or.inl ⟨by rfl, ?_⟩) ?_ ?_
                                rotate_left
                                · intro w'
                                  go_simp
                                  with_reducible rfl
                                rotate_left
                                · simp only [Act.put, List.setIfInBounds_toArray, List.set_cons_zero, List.set_cons_succ, i64_w, i32_w]
                                  rfl
                                refine pure_ (i := 19) (N := some 79) (v := ?_) (a' := ?_) #[true, true, true, true, true, true, true, true, true, true, true, true, true, true, true, true, true, true, true, true, false] rfl rfl (any_of HT_.out (by kernel_rfl)) (fun _ _ _ h => h) (Or.inl ⟨by rfl, ?_⟩) ?_ ?_
                                rotate_left
                                · intro w'
                                  go_simp
                                  with_reducible rfl
                                rotate_left
                                · simp only [Act.put, List.setIfInBounds_toArray, List.set_cons_zero, List.set_cons_succ, i64_w, i32_w]
                                  rfl
                                refine pure_ (i := 20) (N := some 80) (v := ?_) (a' := ?_) #[true, true, true, true, true, true, true, true, true, true, true, true, true, true, true, true, true, true, true, true, true] rfl rfl (any_of HT_.out (by kernel_rfl)) (fun _ _ _ h => h) (Or.inl ⟨by rfl, ?_⟩) ?_ ?_
                                rotate_left
                                · intro w'
                                  go_simp
                                  with_reducible rfl
                                rotate_left
                                · simp only [Act.put, List.setIfInBounds_toArray, List.set_cons_zero, List.set_cons_succ, i64_w, i32_w]
                                  rfl
                                refine done_ (done_of HT_.out (by kernel_rfl)) ?_
                                try go_wp2
                                go_roundg kj5
                                case measure => have := HK1.out; have := HJ5.out; omega
                                case rel => exact ⟨(ys344), (wrap64 (x6_1 + 1)), (by first | rfl | (simp; done) | (simp [*]; done)), (by first | rfl | (simp; done) | (simp [*]; done)), H', ⟨by have := HK1.out; have := HJ5.out; omega⟩, ⟨by repeat (first | (with_reducible first | exact HB.out | apply below_alloc | apply pw_below_drewN | apply below_drew1) | exact HB.out)⟩⟩
                              · rw [if_neg c23] at H
                                exact absurd H (by simp)
                            · rw [if_neg c22] at H
                              have c22b0 : ((bt t340 (ji18)) == ((rd l0 x6_1) % 256)) = false := beq_eq_false_iff_ne.mpr c22
                              have c22b1 : ((bt t340 (ji18)) != ((rd l0 x6_1) % 256)) = true := bne_iff_ne.mpr c22
                              (try (have c22b2 : ((bt t340 (ji18)) == (IntKind.u8.wrap (rd l0 x6_1))) = false := by simp only [Go.IntKind.wrap_u8]; exact beq_eq_false_iff_ne.mpr c22))
                              (try (have c22b3 : ((bt t340 (ji18)) != (IntKind.u8.wrap (rd l0 x6_1))) = true := by simp only [Go.IntKind.wrap_u8]; exact bne_iff_ne.mpr c22))
                              exact absurd ((Option.some.inj H).trans hr.out) (by decide)
                          · rw [if_neg c20] at H
                            exact absurd H (by simp)
                        · rw [if_neg c19] at H
                          exact absurd H (by simp)
                      · rw [if_neg c17] at H
                        have c17b0 : ((t340.size : Int) == (wrap64 (1 + (Go.bits .and .i64 x6_1 3)))) = false := beq_eq_false_iff_ne.mpr c17
                        have c17b1 : ((t340.size : Int) != (wrap64 (1 + (Go.bits .and .i64 x6_1 3)))) = true := bne_iff_ne.mpr c17
                        exact absurd ((Option.some.inj H).trans hr.out) (by decide)
                    · rw [if_neg c16] at H
                      have c16b0 : (t342 == 0) = false := beq_eq_false_iff_ne.mpr c16
                      have c16b1 : (t342 != 0) = true := bne_iff_ne.mpr c16
                      exact absurd ((Option.some.inj H).trans hr.out) (by decide)
                  · rw [if_neg c12] at H
                    exact absurd H (by simp)
                · rw [if_neg c10] at H
                  exact absurd H (by simp)
              · rw [if_neg c9] at H
                exact absurd H (by simp)
            · replace c8 := Bool.eq_false_iff.mpr c8
              subst c8
              have H1 : (halberdlaw1_WireRows.l1 kj5 l0 a1 x5_1 0 0) = some r := by rw [if_neg (show ¬ (false = true) by decide)] at H; exact H
              clear H
              have H := H1
              clear H1
              have H' := Aside0.mk H
              clear H
              go_wp2
              go_loopg [10, 11] kj5 (fun kq v10 v11 w' => ∃ (x10_3 : Int) (x11_3 : Int), v10 = .int .i64 x10_3 ∧ v11 = .int .i64 x11_3 ∧ Aside0 (halberdlaw1_WireRows.l1 kq l0 a1 x5_1 x10_3 x11_3 = some r) ∧ Aside0 (kq ≤ kj5) ∧ Aside0 (Below w.heap.size w w'))
              case atStart => exact ⟨(0), (0), (by first | rfl | (simp; done) | (simp [*]; done)), (by first | rfl | (simp; done) | (simp [*]; done)), H', ⟨Nat.le_refl _⟩, ⟨by repeat (first | (with_reducible first | exact HB.out | apply below_alloc | apply pw_below_drewN | apply below_drew1) | exact HB.out)⟩⟩
              case round =>
                clear H'
                try clear c1
                try clear c2
                try clear p2
                try clear q2
                try clear hx2
                try clear c3
                try clear p3
                try clear q3
                try clear hx3
                try clear c4
                try clear p6
                try clear c7
                try clear c7b0
                try clear c8
                try clear c9
                try clear c9b0
                try clear c10
                try clear c10b0
                try clear c12
                try clear c12b0
                try clear c12b1
                try clear c16
                try clear c16b0
                try clear c16b1
                try clear c17
                try clear c17b0
                try clear c17b1
                try clear c19
                try clear c19b0
                try clear c20
                try clear c20b0
                try clear p21
                try clear q21
                try clear hx21
                try clear c22
                try clear c22b0
                try clear c22b1
                try clear c22b2
                try clear c23
                try clear c23b0
                try clear c23b1
                try clear c23b2
                try clear hx339_0
                try clear hx343_0
                try clear p2
                try clear p21
                try clear p339
                try clear p343
                try clear q21
                try clear q339
                try clear q343
                obtain ⟨x10_3, x11_3, rfl, rfl, HA, HK3, HB⟩ := hrel
                cases gk with
                | zero => exact absurd HA.out (by simp [halberdlaw1_WireRows.l1])
                | succ k3 =>
                  have H := HA.out
                  clear HA
                  simp only [halberdlaw1_WireRows.l1] at H
                  have HC27 := Aside0.mk H
                  clear H
                  go_upto_region 14 with (fail)
                  go_cut [91] (fun v91 wc => ∃ (kq : Nat) (x91_26 : Bool), v91 = .bool x91_26 ∧ Aside0 (halberdlaw1_WireRows.j3 kq l0 a1 x5_1 x10_3 x11_3 x91_26 = some r) ∧ Aside0 (kq ≤ k3) ∧ Aside0 (Below w.heap.size w wc))
                  case first =>
                    have H := HC27.out
                    clear HC27
                    by_cases c28 : x11_3 < (l0.length : Int)
                    · rw [if_pos c28] at H
                      have c28b0 : decide (x11_3 < (l0.length : Int)) = true := decide_eq_true c28
                      clear c28
                      (first | rw [c28b0] | (simp only [i64_w, i32_w]; rw [c28b0]) | skip)
                      have H' := Aside0.mk H
                      clear H
                      go_wp2
                      go_meet
                      case rel => exact ⟨_, (decide (x11_3 < 40)), (by first | rfl | (simp; done) | (simp [*]; done)), H', ⟨by have := HK1.out; have := HJ5.out; have := HK3.out; first | omega | exact Nat.le_refl _⟩, ⟨by repeat (first | (with_reducible first | exact HB.out | apply below_alloc | apply pw_below_drewN | apply below_drew1) | exact HB.out)⟩⟩
                    · rw [if_neg c28] at H
                      have c28b0 : decide (x11_3 < (l0.length : Int)) = false := decide_eq_false c28
                      clear c28
                      (first | rw [c28b0] | (simp only [i64_w, i32_w]; rw [c28b0]) | skip)
                      have H' := Aside0.mk H
                      clear H
                      go_wp2
                      go_meet
                      case rel => exact ⟨_, (false), (by first | rfl | (simp; done) | (simp [*]; done)), H', ⟨by have := HK1.out; have := HJ5.out; have := HK3.out; first | omega | exact Nat.le_refl _⟩, ⟨by repeat (first | (with_reducible first | exact HB.out | apply below_alloc | apply pw_below_drewN | apply below_drew1) | exact HB.out)⟩⟩
                  case rest =>
                    clear HC27
                    try clear c1
                    try clear c2
                    try clear p2
                    try clear q2
                    try clear hx2
                    try clear c3
                    try clear p3
                    try clear q3
                    try clear hx3
                    try clear c4
                    try clear p6
                    try clear c7
                    try clear c7b0
                    try clear c8
                    try clear c9
                    try clear c9b0
                    try clear c10
                    try clear c10b0
                    try clear c12
                    try clear c12b0
                    try clear c12b1
                    try clear c16
                    try clear c16b0
                    try clear c16b1
                    try clear c17
                    try clear c17b0
                    try clear c17b1
                    try clear c19
                    try clear c19b0
                    try clear c20
                    try clear c20b0
                    try clear p21
                    try clear q21
                    try clear hx21
                    try clear c22
                    try clear c22b0
                    try clear c22b1
                    try clear c22b2
                    try clear c23
                    try clear c23b0
                    try clear c23b1
                    try clear c23b2
                    try clear c28
                    try clear c28b0
                    try clear hx339_0
                    try clear hx343_0
                    try clear p2
                    try clear p21
                    try clear p3
                    try clear p339
                    try clear p343
                    try clear p6
                    try clear q2
                    try clear q21
                    try clear q3
                    try clear q339
                    try clear q343
                    obtain ⟨kq, x91_26, rfl, HA, HJ26, HB⟩ := hcut
                    cases kq with
                    | zero => exact absurd HA.out (by simp [halberdlaw1_WireRows.j3])
                    | succ kj26 =>
                      have H := HA.out
                      clear HA
                      simp only [halberdlaw1_WireRows.j3] at H
                      by_cases c29 : x91_26 = true
                      · subst c29
                        have H1 : (if (wrap64 (1 + (Go.bits .and .i64 x11_3 3))) = 1 then ((wire_U8.f kj26 x5_1 x10_3).bind fun bt351 => ((halberdlaw0_Num.f bt351.2.2).bind fun t354 => (if 0 ≤ x11_3 then (if x11_3 < (l0.length : Int) then (if 0 ≤ (wrap64 (8 * (wrap64 (1 + (Go.bits .and .i64 x11_3 3))))) then (if bt351.1 = (Go.bits .and .i64 (rd l0 x11_3) (wrap64 ((shl .i64 1 (wrap64 (8 * (wrap64 (1 + (Go.bits .and .i64 x11_3 3)))))) - 1))) then (if bt351.2.1 = (wrap64 (x10_3 + (wrap64 (1 + (Go.bits .and .i64 x11_3 3))))) then (if t354 = 0 then (halberdlaw1_WireRows.l1 kj26 l0 a1 x5_1 bt351.2.1 (wrap64 (x11_3 + 1))) else (some false)) else (some false)) else (some false)) else (none)) else (none)) else (none)))) else (if (wrap64 (1 + (Go.bits .and .i64 x11_3 3))) = 2 then ((wire_U16.f kj26 x5_1 x10_3).bind fun bt356 => ((halberdlaw0_Num.f bt356.2.2).bind fun t359 => (if 0 ≤ x11_3 then (if x11_3 < (l0.length : Int) then (if 0 ≤ (wrap64 (8 * (wrap64 (1 + (Go.bits .and .i64 x11_3 3))))) then (if bt356.1 = (Go.bits .and .i64 (rd l0 x11_3) (wrap64 ((shl .i64 1 (wrap64 (8 * (wrap64 (1 + (Go.bits .and .i64 x11_3 3)))))) - 1))) then (if bt356.2.1 = (wrap64 (x10_3 + (wrap64 (1 + (Go.bits .and .i64 x11_3 3))))) then (if t359 = 0 then (halberdlaw1_WireRows.l1 kj26 l0 a1 x5_1 bt356.2.1 (wrap64 (x11_3 + 1))) else (some false)) else (some false)) else (some false)) else (none)) else (none)) else (none)))) else (if (wrap64 (1 + (Go.bits .and .i64 x11_3 3))) = 3 then ((wire_U24.f kj26 x5_1 x10_3).bind fun bt361 => ((halberdlaw0_Num.f bt361.2.2).bind fun t364 => (if 0 ≤ x11_3 then (if x11_3 < (l0.length : Int) then (if 0 ≤ (wrap64 (8 * (wrap64 (1 + (Go.bits .and .i64 x11_3 3))))) then (if bt361.1 = (Go.bits .and .i64 (rd l0 x11_3) (wrap64 ((shl .i64 1 (wrap64 (8 * (wrap64 (1 + (Go.bits .and .i64 x11_3 3)))))) - 1))) then (if bt361.2.1 = (wrap64 (x10_3 + (wrap64 (1 + (Go.bits .and .i64 x11_3 3))))) then (if t364 = 0 then (halberdlaw1_WireRows.l1 kj26 l0 a1 x5_1 bt361.2.1 (wrap64 (x11_3 + 1))) else (some false)) else (some false)) else (some false)) else (none)) else (none)) else (none)))) else ((wire_U32.f kj26 x5_1 x10_3).bind fun bt366 => ((halberdlaw0_Num.f bt366.2.2).bind fun t369 => (if 0 ≤ x11_3 then (if x11_3 < (l0.length : Int) then (if 0 ≤ (wrap64 (8 * (wrap64 (1 + (Go.bits .and .i64 x11_3 3))))) then (if bt366.1 = (Go.bits .and .i64 (rd l0 x11_3) (wrap64 ((shl .i64 1 (wrap64 (8 * (wrap64 (1 + (Go.bits .and .i64 x11_3 3)))))) - 1))) then (if bt366.2.1 = (wrap64 (x10_3 + (wrap64 (1 + (Go.bits .and .i64 x11_3 3))))) then (if t369 = 0 then (halberdlaw1_WireRows.l1 kj26 l0 a1 x5_1 bt366.2.1 (wrap64 (x11_3 + 1))) else (some false)) else (some false)) else (some false)) else (none)) else (none)) else (none))))))) = some r := by rw [if_pos rfl] at H; exact H
                        clear H
                        have H := H1
                        clear H1
                        by_cases c30 : (wrap64 (1 + (Go.bits .and .i64 x11_3 3))) = 1
                        · rw [if_pos c30] at H
                          have c30b0 : ((wrap64 (1 + (Go.bits .and .i64 x11_3 3))) == 1) = true := beq_iff_eq.mpr c30
                          have c30b1 : ((wrap64 (1 + (Go.bits .and .i64 x11_3 3))) != 1) = false := bne_eq_false_iff_eq.mpr c30
                          clear c30
                          replace H := Option.bind_eq_some_iff.mp H
                          obtain ⟨⟨t351, t352, t353⟩, A310, H⟩ := H
                          replace H : ((halberdlaw0_Num.f t353).bind fun t354 => (if 0 ≤ x11_3 then (if x11_3 < (l0.length : Int) then (if 0 ≤ (wrap64 (8 * (wrap64 (1 + (Go.bits .and .i64 x11_3 3))))) then (if t351 = (Go.bits .and .i64 (rd l0 x11_3) (wrap64 ((shl .i64 1 (wrap64 (8 * (wrap64 (1 + (Go.bits .and .i64 x11_3 3)))))) - 1))) then (if t352 = (wrap64 (x10_3 + (wrap64 (1 + (Go.bits .and .i64 x11_3 3))))) then (if t354 = 0 then (halberdlaw1_WireRows.l1 kj26 l0 a1 x5_1 t352 (wrap64 (x11_3 + 1))) else (some false)) else (some false)) else (some false)) else (none)) else (none)) else (none))) = some r := H
                          have A31 := Aside0.mk A310
                          clear A310
                          replace H := Option.bind_eq_some_iff.mp H
                          obtain ⟨t354, A320, H⟩ := H
                          replace H : (if 0 ≤ x11_3 then (if x11_3 < (l0.length : Int) then (if 0 ≤ (wrap64 (8 * (wrap64 (1 + (Go.bits .and .i64 x11_3 3))))) then (if t351 = (Go.bits .and .i64 (rd l0 x11_3) (wrap64 ((shl .i64 1 (wrap64 (8 * (wrap64 (1 + (Go.bits .and .i64 x11_3 3)))))) - 1))) then (if t352 = (wrap64 (x10_3 + (wrap64 (1 + (Go.bits .and .i64 x11_3 3))))) then (if t354 = 0 then (halberdlaw1_WireRows.l1 kj26 l0 a1 x5_1 t352 (wrap64 (x11_3 + 1))) else (some false)) else (some false)) else (some false)) else (none)) else (none)) else (none)) = some r := H
                          have A32 := Aside0.mk A320
                          clear A320
                          by_cases c33 : 0 ≤ x11_3
                          · rw [if_pos c33] at H
                            have c33b0 : decide (0 ≤ x11_3) = true := decide_eq_true c33
                            clear c33
                            by_cases c34 : x11_3 < (l0.length : Int)
                            · rw [if_pos c34] at H
                              have c34b0 : decide (x11_3 < (l0.length : Int)) = true := decide_eq_true c34
                              clear c34
                              obtain ⟨ji35, hji35⟩ : ∃ j_ : Int, (wrap64 (8 * (wrap64 (1 + (Go.bits .and .i64 x11_3 3))))) = j_ := ⟨_, rfl⟩
                              replace H : (if 0 ≤ (ji35) then (if t351 = (Go.bits .and .i64 (rd l0 x11_3) (wrap64 ((shl .i64 1 (ji35)) - 1))) then (if t352 = (wrap64 (x10_3 + (wrap64 (1 + (Go.bits .and .i64 x11_3 3))))) then (if t354 = 0 then (halberdlaw1_WireRows.l1 kj26 l0 a1 x5_1 t352 (wrap64 (x11_3 + 1))) else (some false)) else (some false)) else (some false)) else (none)) = some r := by first | (rw [hji35] at H; exact H) | (simp only [hji35] at H ⊢; exact H)
                              (try rw [hji35] at A31)
                              (try rw [hji35] at A32)
                              have hji35w : (IntKind.i64.wrap (8 * (wrap64 (1 + (Go.bits .and .i64 x11_3 3))))) = ji35 := (i64_w _).trans hji35
                              by_cases c36 : 0 ≤ (ji35)
                              · rw [if_pos c36] at H
                                have c36b0 := eq_true c36
                                have c36b1 : decide (0 ≤ (ji35)) = true := decide_eq_true c36
                                clear c36
                                obtain ⟨ji37, hji37⟩ : ∃ j_ : Int, (shl .i64 1 (ji35)) = j_ := ⟨_, rfl⟩
                                replace H : (if t351 = (Go.bits .and .i64 (rd l0 x11_3) (wrap64 ((ji37) - 1))) then (if t352 = (wrap64 (x10_3 + (wrap64 (1 + (Go.bits .and .i64 x11_3 3))))) then (if t354 = 0 then (halberdlaw1_WireRows.l1 kj26 l0 a1 x5_1 t352 (wrap64 (x11_3 + 1))) else (some false)) else (some false)) else (some false)) = some r := by first | (rw [hji37] at H; exact H) | (simp only [hji37] at H ⊢; exact H)
                                (try rw [hji37] at A31)
                                (try rw [hji37] at A32)
                                have hji37_ : (IntKind.i64.wrap (1 * 2 ^ min (ji35).toNat 64)) = ji37 := hji37
                                have hji37z : (ji35) ≤ 64 → (IntKind.i64.wrap (1 * 2 ^ (ji35).toNat)) = ji37 := shl_small hji37
                                have hji37u : (IntKind.i64.wrap (2 ^ min (ji35).toNat 64)) = ji37 := by have h_ := hji37_; rw [Int.one_mul] at h_; exact h_
                                have hji37v : (ji35) ≤ 64 → (IntKind.i64.wrap (2 ^ (ji35).toNat)) = ji37 := fun hle_ => by have h_ := hji37z hle_; rw [Int.one_mul] at h_; exact h_
                                have hji37y : (wrap64 (1 * 2 ^ min (ji35).toNat 64)) = ji37 := (i64_w _).symm.trans hji37_
                                have hji37x : (ji35) ≤ 64 → (wrap64 (1 * 2 ^ (ji35).toNat)) = ji37 := fun h_ => (i64_w _).symm.trans (hji37z h_)
                                by_cases c38 : t351 = (Go.bits .and .i64 (rd l0 x11_3) (wrap64 ((ji37) - 1)))
                                · rw [if_pos c38] at H
                                  have c38b0 : (t351 == (Go.bits .and .i64 (rd l0 x11_3) (wrap64 ((ji37) - 1)))) = true := beq_iff_eq.mpr c38
                                  have c38b1 : (t351 != (Go.bits .and .i64 (rd l0 x11_3) (wrap64 ((ji37) - 1)))) = false := bne_eq_false_iff_eq.mpr c38
                                  clear c38
                                  by_cases c39 : t352 = (wrap64 (x10_3 + (wrap64 (1 + (Go.bits .and .i64 x11_3 3)))))
                                  · rw [if_pos c39] at H
                                    have c39b0 : (t352 == (wrap64 (x10_3 + (wrap64 (1 + (Go.bits .and .i64 x11_3 3)))))) = true := beq_iff_eq.mpr c39
                                    have c39b1 : (t352 != (wrap64 (x10_3 + (wrap64 (1 + (Go.bits .and .i64 x11_3 3)))))) = false := bne_eq_false_iff_eq.mpr c39
                                    clear c39
                                    by_cases c40 : t354 = 0
                                    · rw [if_pos c40] at H
                                      have c40b0 : (t354 == 0) = true := beq_iff_eq.mpr c40
                                      have c40b1 : (t354 != 0) = false := bne_eq_false_iff_eq.mpr c40
                                      clear c40
                                      have H' := Aside0.mk H
                                      clear H
                                      try go_wp2_with (first | ((with_reducible refine gate_callee (f := 41) rfl ?_); refine goesL_ (some 114) rfl rfl Try.func41 (by kernel_rfl) rfl #[.string x5_1, .int .i64 x10_3] rfl (by (try simp only [List.map_toArray, List.map_cons, List.map_nil]); first | done | rfl | (simp only [List.length_drop, List.length_take]; rfl)) ?_; (with_reducible refine (wire_U8.calls kj26 x5_1 x10_3 t351 t352 t353 _ A31.out).mono ?_); rintro e w' ⟨rfl, ⟨nd, rfl⟩⟩; refine ⟨_, rfl, ?_⟩) | ((with_reducible refine gate_callee (f := 28) rfl ?_); refine goesL_ (some 121) rfl rfl Try.func28 (by kernel_rfl) rfl #[.int .i64 t353] rfl (by (try simp only [List.map_toArray, List.map_cons, List.map_nil]); first | done | rfl | (simp only [List.length_drop, List.length_take]; rfl)) ?_; (with_reducible refine (halberdlaw0_Num.calls t353 t354 _ A32.out).mono ?_); rintro e w' ⟨rfl, ⟨nd, rfl⟩⟩; refine ⟨_, rfl, ?_⟩))
                                      (try (rw [drewN_self wc]; generalize hq_ : World.drewN wc _ = wc; have n0_ : Aside0 (Below w.heap.size w wc) := ⟨by rw [← hq_]; exact (by repeat (first | (with_reducible first | exact HB.out | apply below_alloc | apply pw_below_drewN | apply below_drew1) | exact HB.out))⟩; clear HB hq_; have HB := n0_; clear n0_))
                                      have n0_ := Aside0.mk (below_drew1 HB.out)
                                      clear HB
                                      have HB := n0_
                                      clear n0_
                                      have p355 : 0 ≤ (x11_3 : Int) := of_decide_eq_true (by first | (with_reducible assumption) | assumption)
                                      have q355 : x11_3 < (l0.length : Int) := of_decide_eq_true (by first | (with_reducible assumption) | assumption)
                                      obtain ⟨ad355, e355, hx355_0⟩ := Kd.at_int HR0.out x11_3 p355 q355
                                      have hw355_0 := hx355_0
                                      cases e355
                                      replace hx355_0 := (HB.out.cell (World.block_lt_of_cell? w _ hx355_0)).trans hx355_0
                                      replace p355 := eq_true p355
                                      replace q355 := eq_true q355
                                      refine start_ (n := 22) (S := fun w' => w'.cell? (ad355.add (x11_3).toNat) = some (.int .i64 (rd l0 x11_3))) (ds := []) #[false, false, false, false, false, false, false, false, false, false, false, false, false, false, false, false, false, false, false, false, false, false] (by kernel_rfl) rfl rfl (((HB.out.cell (World.block_lt_of_cell? w _ hw355_0)).trans hw355_0)) (fun hHeld => ?_); refine with_tabW halberdlaw1_WireRows.tab30 halberdlaw1_WireRows.bits30 (fun HT_ HW_ => ?_)
                                      generalize wc.drew = w41 at HB hx355_0 hHeld ⊢
                                      refine pure_ (i := 0) (N := some 148) (v := ?_) (a' := ?_) #[true, false, false, false, false, false, false, false, false, false, false, false, false, false, false, false, false, false, false, false, false, false] rfl rfl (any_of HT_.out (by kernel_rfl)) (fun _ _ _ h => h) (Or.inl ⟨by rfl, ?_⟩) ?_ ?_
                                      rotate_left
                                      · intro w'
                                        go_simp
                                        with_reducible rfl
                                      rotate_left
                                      · simp only [Act.put, List.setIfInBounds_toArray, List.set_cons_zero, List.set_cons_succ, i64_w, i32_w]
                                        rfl
                                      refine pure_ (i := 1) (N := some 149) (v := ?_) (a' := ?_) #[true, true, false, false, false, false, false, false, false, false, false, false, false, false, false, false, false, false, false, false, false, false] rfl rfl (any_of HT_.out (by kernel_rfl)) (fun _ _ _ h => h) (Or.inl ⟨by rfl, ?_⟩) ?_ ?_
                                      rotate_left
                                      · intro w'
                                        go_simp
                                        with_reducible rfl
                                      rotate_left
                                      · simp only [Act.put, List.setIfInBounds_toArray, List.set_cons_zero, List.set_cons_succ, i64_w, i32_w]
                                        rfl
                                      refine pure_ (i := 2) (N := some 150) (v := ?_) (a' := ?_) #[true, true, true, false, false, false, false, false, false, false, false, false, false, false, false, false, false, false, false, false, false, false] rfl rfl (any_of HT_.out (by kernel_rfl)) (fun _ _ _ h => h) (Or.inl ⟨by rfl, ?_⟩) ?_ ?_
                                      rotate_left
                                      · intro w'
                                        go_simp
                                        with_reducible rfl
                                      rotate_left
                                      · simp only [Act.put, List.setIfInBounds_toArray, List.set_cons_zero, List.set_cons_succ, i64_w, i32_w]
                                        rfl
                                      refine pure_ (i := 3) (N := some 151) (v := ?_) (a' := ?_) #[true, true, true, true, false, false, false, false, false, false, false, false, false, false, false, false, false, false, false, false, false, false] rfl rfl (any_of HT_.out (by kernel_rfl)) (fun _ _ _ h => h) (Or.inl ⟨by rfl, ?_⟩) ?_ ?_
                                      rotate_left
                                      · intro w'
                                        go_simp
                                        with_reducible rfl
                                      rotate_left
                                      · simp only [Act.put, List.setIfInBounds_toArray, List.set_cons_zero, List.set_cons_succ, i64_w, i32_w]
                                        rfl
                                      refine pure_ (i := 5) (N := some 153) (v := ?_) (a' := ?_) #[true, true, true, true, false, true, false, false, false, false, false, false, false, false, false, false, false, false, false, false, false, false] rfl rfl (any_of HT_.out (by kernel_rfl)) (fun _ _ _ h => h) (Or.inl ⟨by rfl, ?_⟩) ?_ ?_
                                      rotate_left
                                      · intro w'
                                        go_simp
                                        with_reducible rfl
                                      rotate_left
                                      · simp only [Act.put, List.setIfInBounds_toArray, List.set_cons_zero, List.set_cons_succ, i64_w, i32_w]
                                        rfl
                                      refine pure_ (i := 6) (N := some 154) (v := ?_) (a' := ?_) #[true, true, true, true, false, true, true, false, false, false, false, false, false, false, false, false, false, false, false, false, false, false] rfl rfl (any_of HT_.out (by kernel_rfl)) (fun _ _ _ h => h) (Or.inl ⟨by rfl, ?_⟩) ?_ ?_
                                      rotate_left
                                      · intro w'
                                        go_simp
                                        with_reducible rfl
                                      rotate_left
                                      · simp only [Act.put, List.setIfInBounds_toArray, List.set_cons_zero, List.set_cons_succ, i64_w, i32_w]
                                        rfl
                                      refine pure_ (i := 7) (N := some 155) (v := ?_) (a' := ?_) #[true, true, true, true, false, true, true, true, false, false, false, false, false, false, false, false, false, false, false, false, false, false] rfl rfl (any_of HT_.out (by kernel_rfl)) (fun _ _ _ h => h) (Or.inl ⟨by rfl, ?_⟩) ?_ ?_
                                      rotate_left
                                      · intro w'
                                        go_simp
                                        with_reducible rfl
                                      rotate_left
                                      · simp only [Act.put, List.setIfInBounds_toArray, List.set_cons_zero, List.set_cons_succ, i64_w, i32_w]
                                        rfl
                                      refine pure_ (i := 8) (N := some 156) (v := ?_) (a' := ?_) #[true, true, true, true, false, true, true, true, true, false, false, false, false, false, false, false, false, false, false, false, false, false] rfl rfl (any_of HT_.out (by kernel_rfl)) (fun _ _ _ h => h) (Or.inl ⟨by rfl, ?_⟩) ?_ ?_
                                      rotate_left
                                      · intro w'
                                        go_simp
                                        with_reducible rfl
                                      rotate_left
                                      · simp only [Act.put, List.setIfInBounds_toArray, List.set_cons_zero, List.set_cons_succ, i64_w, i32_w]
                                        rfl
                                      refine take_ (i := 4) (N := some 152) (v := ?_) (a' := ?_) #[true, true, true, true, true, true, true, true, true, false, false, false, false, false, false, false, false, false, false, false, false, false] rfl rfl (take_ofW HT_.out HW_.out (by kernel_rfl)) (fun _ _ _ h => h) (Or.inl ⟨by rfl, ?_⟩) hHeld ?_ ?_
                                      rotate_left
                                      · intro w' s0
                                        go_simp
                                        with_reducible rfl
                                      rotate_left
                                      · simp only [Act.put, List.setIfInBounds_toArray, List.set_cons_zero, List.set_cons_succ, i64_w, i32_w]
                                        rfl
                                      refine pure_ (i := 9) (N := some 157) (v := ?_) (a' := ?_) #[true, true, true, true, true, true, true, true, true, true, false, false, false, false, false, false, false, false, false, false, false, false] rfl rfl (any_of HT_.out (by kernel_rfl)) (fun _ _ _ h => h) (Or.inl ⟨by rfl, ?_⟩) ?_ ?_
                                      rotate_left
                                      · intro w'
                                        go_simp
                                        with_reducible rfl
                                      rotate_left
                                      · simp only [Act.put, List.setIfInBounds_toArray, List.set_cons_zero, List.set_cons_succ, i64_w, i32_w]
                                        rfl
                                      refine pure_ (i := 10) (N := some 158) (v := ?_) (a' := ?_) #[true, true, true, true, true, true, true, true, true, true, true, false, false, false, false, false, false, false, false, false, false, false] rfl rfl (any_of HT_.out (by kernel_rfl)) (fun _ _ _ h => h) (Or.inl ⟨by rfl, ?_⟩) ?_ ?_
                                      rotate_left
                                      · intro w'
                                        go_simp
                                        with_reducible rfl
                                      rotate_left
                                      · simp only [Act.put, List.setIfInBounds_toArray, List.set_cons_zero, List.set_cons_succ, i64_w, i32_w]
                                        rfl
                                      refine pure_ (i := 11) (N := some 159) (v := ?_) (a' := ?_) #[true, true, true, true, true, true, true, true, true, true, true, true, false, false, false, false, false, false, false, false, false, false] rfl rfl (any_of HT_.out (by kernel_rfl)) (fun _ _ _ h => h) (Or.inl ⟨by rfl, ?_⟩) ?_ ?_
                                      rotate_left
                                      · intro w'
                                        go_simp
                                        with_reducible rfl
                                      rotate_left
                                      · simp only [Act.put, List.setIfInBounds_toArray, List.set_cons_zero, List.set_cons_succ, i64_w, i32_w]
                                        rfl
                                      refine pure_ (i := 12) (N := some 160) (v := ?_) (a' := ?_) #[true, true, true, true, true, true, true, true, true, true, true, true, true, false, false, false, false, false, false, false, false, false] rfl rfl (any_of HT_.out (by kernel_rfl)) (fun _ _ _ h => h) (Or.inl ⟨by rfl, ?_⟩) ?_ ?_
                                      rotate_left
                                      · intro w'
                                        go_simp
                                        with_reducible rfl
                                      rotate_left
                                      · simp only [Act.put, List.setIfInBounds_toArray, List.set_cons_zero, List.set_cons_succ, i64_w, i32_w]
                                        rfl
                                      refine pure_ (i := 13) (N := some 161) (v := ?_) (a' := ?_) #[true, true, true, true, true, true, true, true, true, true, true, true, true, true, false, false, false, false, false, false, false, false] rfl rfl (any_of HT_.out (by kernel_rfl)) (fun _ _ _ h => h) (Or.inl ⟨by rfl, ?_⟩) ?_ ?_
                                      rotate_left
                                      · intro w'
                                        go_simp
                                        with_reducible rfl
                                      rotate_left
                                      · simp only [Act.put, List.setIfInBounds_toArray, List.set_cons_zero, List.set_cons_succ, i64_w, i32_w]
                                        rfl
                                      refine pure_ (i := 14) (N := some 162) (v := ?_) (a' := ?_) #[true, true, true, true, true, true, true, true, true, true, true, true, true, true, true, false, false, false, false, false, false, false] rfl rfl (any_of HT_.out (by kernel_rfl)) (fun _ _ _ h => h) (Or.inl ⟨by rfl, ?_⟩) ?_ ?_
                                      rotate_left
                                      · intro w'
                                        go_simp
                                        with_reducible rfl
                                      rotate_left
                                      · simp only [Act.put, List.setIfInBounds_toArray, List.set_cons_zero, List.set_cons_succ, i64_w, i32_w]
                                        rfl
                                      refine pure_ (i := 15) (N := some 163) (v := ?_) (a' := ?_) #[true, true, true, true, true, true, true, true, true, true, true, true, true, true, true, true, false, false, false, false, false, false] rfl rfl (any_of HT_.out (by kernel_rfl)) (fun _ _ _ h => h) (Or.inl ⟨by rfl, ?_⟩) ?_ ?_
                                      rotate_left
                                      · intro w'
                                        go_simp
                                        with_reducible rfl
                                      rotate_left
                                      · simp only [Act.put, List.setIfInBounds_toArray, List.set_cons_zero, List.set_cons_succ, i64_w, i32_w]
                                        rfl
                                      refine pure_ (i := 16) (N := some 164) (v := ?_) (a' := ?_) #[true, true, true, true, true, true, true, true, true, true, true, true, true, true, true, true, true, false, false, false, false, false] rfl rfl (any_of HT_.out (by kernel_rfl)) (fun _ _ _ h => h) (Or.inl ⟨by rfl, ?_⟩) ?_ ?_
                                      rotate_left
                                      · intro w'
                                        go_simp
                                        with_reducible rfl
                                      rotate_left
                                      · simp only [Act.put, List.setIfInBounds_toArray, List.set_cons_zero, List.set_cons_succ, i64_w, i32_w]
                                        rfl
                                      refine pure_ (i := 17) (N := some 165) (v := ?_) (a' := ?_) #[true, true, true, true, true, true, true, true, true, true, true, true, true, true, true, true, true, true, false, false, false, false] rfl rfl (any_of HT_.out (by kernel_rfl)) (fun _ _ _ h => h) (Or.inl ⟨by rfl, ?_⟩) ?_ ?_
                                      rotate_left
                                      · intro w'
                                        go_simp
                                        with_reducible rfl
                                      rotate_left
                                      · simp only [Act.put, List.setIfInBounds_toArray, List.set_cons_zero, List.set_cons_succ, i64_w, i32_w]
                                        rfl
                                      refine pure_ (i := 18) (N := some 166) (v := ?_) (a' := ?_) #[true, true, true, true, true, true, true, true, true, true, true, true, true, true, true, true, true, true, true, false, false, false] rfl rfl (any_of HT_.out (by kernel_rfl)) (fun _ _ _ h => h) (Or.inl ⟨by rfl, ?_⟩) ?_ ?_
                                      rotate_left
                                      · intro w'
                                        go_simp
                                        with_reducible rfl
                                      rotate_left
                                      · simp only [Act.put, List.setIfInBounds_toArray, List.set_cons_zero, List.set_cons_succ, i64_w, i32_w]
                                        rfl
                                      refine pure_ (i := 19) (N := some 167) (v := ?_) (a' := ?_) #[true, true, true, true, true, true, true, true, true, true, true, true, true, true, true, true, true, true, true, true, false, false] rfl rfl (any_of HT_.out (by kernel_rfl)) (fun _ _ _ h => h) (Or.inl ⟨by rfl, ?_⟩) ?_ ?_
                                      rotate_left
                                      · intro w'
                                        go_simp
                                        with_reducible rfl
                                      rotate_left
                                      · simp only [Act.put, List.setIfInBounds_toArray, List.set_cons_zero, List.set_cons_succ, i64_w, i32_w]
                                        rfl
                                      refine pure_ (i := 20) (N := some 168) (v := ?_) (a' := ?_) #[true, true, true, true, true, true, true, true, true, true, true, true, true, true, true, true, true, true, true, true, true, false] rfl rfl (any_of HT_.out (by kernel_rfl)) (fun _ _ _ h => h) (Or.inl ⟨by rfl, ?_⟩) ?_ ?_
                                      rotate_left
                                      · intro w'
                                        go_simp
                                        with_reducible rfl
                                      rotate_left
                                      · simp only [Act.put, List.setIfInBounds_toArray, List.set_cons_zero, List.set_cons_succ, i64_w, i32_w]
                                        rfl
                                      refine pure_ (i := 21) (N := some 169) (v := ?_) (a' := ?_) #[true, true, true, true, true, true, true, true, true, true, true, true, true, true, true, true, true, true, true, true, true, true] rfl rfl (any_of HT_.out (by kernel_rfl)) (fun _ _ _ h => h) (Or.inl ⟨by rfl, ?_⟩) ?_ ?_
                                      rotate_left
                                      · intro w'
                                        go_simp
                                        with_reducible rfl
                                      rotate_left
                                      · simp only [Act.put, List.setIfInBounds_toArray, List.set_cons_zero, List.set_cons_succ, i64_w, i32_w]
                                        rfl
                                      refine done_ (done_of HT_.out (by kernel_rfl)) ?_
                                      try go_wp2
                                      go_roundg kj26
                                      case measure => have := HK1.out; have := HJ5.out; have := HK3.out; have := HJ26.out; omega
                                      case rel => exact ⟨(t352), (wrap64 (x11_3 + 1)), (by first | rfl | (simp; done) | (simp [*]; done)), (by first | rfl | (simp; done) | (simp [*]; done)), H', ⟨by have := HK1.out; have := HJ5.out; have := HK3.out; have := HJ26.out; omega⟩, ⟨by repeat (first | (with_reducible first | exact HB.out | apply below_alloc | apply pw_below_drewN | apply below_drew1) | exact HB.out)⟩⟩
                                    · rw [if_neg c40] at H
                                      have c40b0 : (t354 == 0) = false := beq_eq_false_iff_ne.mpr c40
                                      have c40b1 : (t354 != 0) = true := bne_iff_ne.mpr c40
                                      exact absurd ((Option.some.inj H).trans hr.out) (by decide)
                                  · rw [if_neg c39] at H
                                    have c39b0 : (t352 == (wrap64 (x10_3 + (wrap64 (1 + (Go.bits .and .i64 x11_3 3)))))) = false := beq_eq_false_iff_ne.mpr c39
                                    have c39b1 : (t352 != (wrap64 (x10_3 + (wrap64 (1 + (Go.bits .and .i64 x11_3 3)))))) = true := bne_iff_ne.mpr c39
                                    exact absurd ((Option.some.inj H).trans hr.out) (by decide)
                                · rw [if_neg c38] at H
                                  have c38b0 : (t351 == (Go.bits .and .i64 (rd l0 x11_3) (wrap64 ((ji37) - 1)))) = false := beq_eq_false_iff_ne.mpr c38
                                  have c38b1 : (t351 != (Go.bits .and .i64 (rd l0 x11_3) (wrap64 ((ji37) - 1)))) = true := bne_iff_ne.mpr c38
                                  exact absurd ((Option.some.inj H).trans hr.out) (by decide)
                              · rw [if_neg c36] at H
                                exact absurd H (by simp)
                            · rw [if_neg c34] at H
                              exact absurd H (by simp)
                          · rw [if_neg c33] at H
                            exact absurd H (by simp)
                        · rw [if_neg c30] at H
                          have c30b0 : ((wrap64 (1 + (Go.bits .and .i64 x11_3 3))) == 1) = false := beq_eq_false_iff_ne.mpr c30
                          have c30b1 : ((wrap64 (1 + (Go.bits .and .i64 x11_3 3))) != 1) = true := bne_iff_ne.mpr c30
                          by_cases c42 : (wrap64 (1 + (Go.bits .and .i64 x11_3 3))) = 2
                          · rw [if_pos c42] at H
                            have c42b0 : ((wrap64 (1 + (Go.bits .and .i64 x11_3 3))) == 2) = true := beq_iff_eq.mpr c42
                            have c42b1 : ((wrap64 (1 + (Go.bits .and .i64 x11_3 3))) != 2) = false := bne_eq_false_iff_eq.mpr c42
                            clear c42
                            replace H := Option.bind_eq_some_iff.mp H
                            obtain ⟨⟨t356, t357, t358⟩, A430, H⟩ := H
                            replace H : ((halberdlaw0_Num.f t358).bind fun t359 => (if 0 ≤ x11_3 then (if x11_3 < (l0.length : Int) then (if 0 ≤ (wrap64 (8 * (wrap64 (1 + (Go.bits .and .i64 x11_3 3))))) then (if t356 = (Go.bits .and .i64 (rd l0 x11_3) (wrap64 ((shl .i64 1 (wrap64 (8 * (wrap64 (1 + (Go.bits .and .i64 x11_3 3)))))) - 1))) then (if t357 = (wrap64 (x10_3 + (wrap64 (1 + (Go.bits .and .i64 x11_3 3))))) then (if t359 = 0 then (halberdlaw1_WireRows.l1 kj26 l0 a1 x5_1 t357 (wrap64 (x11_3 + 1))) else (some false)) else (some false)) else (some false)) else (none)) else (none)) else (none))) = some r := H
                            have A43 := Aside0.mk A430
                            clear A430
                            replace H := Option.bind_eq_some_iff.mp H
                            obtain ⟨t359, A440, H⟩ := H
                            replace H : (if 0 ≤ x11_3 then (if x11_3 < (l0.length : Int) then (if 0 ≤ (wrap64 (8 * (wrap64 (1 + (Go.bits .and .i64 x11_3 3))))) then (if t356 = (Go.bits .and .i64 (rd l0 x11_3) (wrap64 ((shl .i64 1 (wrap64 (8 * (wrap64 (1 + (Go.bits .and .i64 x11_3 3)))))) - 1))) then (if t357 = (wrap64 (x10_3 + (wrap64 (1 + (Go.bits .and .i64 x11_3 3))))) then (if t359 = 0 then (halberdlaw1_WireRows.l1 kj26 l0 a1 x5_1 t357 (wrap64 (x11_3 + 1))) else (some false)) else (some false)) else (some false)) else (none)) else (none)) else (none)) = some r := H
                            have A44 := Aside0.mk A440
                            clear A440
                            by_cases c45 : 0 ≤ x11_3
                            · rw [if_pos c45] at H
                              have c45b0 : decide (0 ≤ x11_3) = true := decide_eq_true c45
                              clear c45
                              by_cases c46 : x11_3 < (l0.length : Int)
                              · rw [if_pos c46] at H
                                have c46b0 : decide (x11_3 < (l0.length : Int)) = true := decide_eq_true c46
                                clear c46
                                obtain ⟨ji47, hji47⟩ : ∃ j_ : Int, (wrap64 (8 * (wrap64 (1 + (Go.bits .and .i64 x11_3 3))))) = j_ := ⟨_, rfl⟩
                                replace H : (if 0 ≤ (ji47) then (if t356 = (Go.bits .and .i64 (rd l0 x11_3) (wrap64 ((shl .i64 1 (ji47)) - 1))) then (if t357 = (wrap64 (x10_3 + (wrap64 (1 + (Go.bits .and .i64 x11_3 3))))) then (if t359 = 0 then (halberdlaw1_WireRows.l1 kj26 l0 a1 x5_1 t357 (wrap64 (x11_3 + 1))) else (some false)) else (some false)) else (some false)) else (none)) = some r := by first | (rw [hji47] at H; exact H) | (simp only [hji47] at H ⊢; exact H)
                                (try rw [hji47] at A43)
                                (try rw [hji47] at A44)
                                have hji47w : (IntKind.i64.wrap (8 * (wrap64 (1 + (Go.bits .and .i64 x11_3 3))))) = ji47 := (i64_w _).trans hji47
                                by_cases c48 : 0 ≤ (ji47)
                                · rw [if_pos c48] at H
                                  have c48b0 := eq_true c48
                                  have c48b1 : decide (0 ≤ (ji47)) = true := decide_eq_true c48
                                  clear c48
                                  obtain ⟨ji49, hji49⟩ : ∃ j_ : Int, (shl .i64 1 (ji47)) = j_ := ⟨_, rfl⟩
                                  replace H : (if t356 = (Go.bits .and .i64 (rd l0 x11_3) (wrap64 ((ji49) - 1))) then (if t357 = (wrap64 (x10_3 + (wrap64 (1 + (Go.bits .and .i64 x11_3 3))))) then (if t359 = 0 then (halberdlaw1_WireRows.l1 kj26 l0 a1 x5_1 t357 (wrap64 (x11_3 + 1))) else (some false)) else (some false)) else (some false)) = some r := by first | (rw [hji49] at H; exact H) | (simp only [hji49] at H ⊢; exact H)
                                  (try rw [hji49] at A43)
                                  (try rw [hji49] at A44)
                                  have hji49_ : (IntKind.i64.wrap (1 * 2 ^ min (ji47).toNat 64)) = ji49 := hji49
                                  have hji49z : (ji47) ≤ 64 → (IntKind.i64.wrap (1 * 2 ^ (ji47).toNat)) = ji49 := shl_small hji49
                                  have hji49u : (IntKind.i64.wrap (2 ^ min (ji47).toNat 64)) = ji49 := by have h_ := hji49_; rw [Int.one_mul] at h_; exact h_
                                  have hji49v : (ji47) ≤ 64 → (IntKind.i64.wrap (2 ^ (ji47).toNat)) = ji49 := fun hle_ => by have h_ := hji49z hle_; rw [Int.one_mul] at h_; exact h_
                                  have hji49y : (wrap64 (1 * 2 ^ min (ji47).toNat 64)) = ji49 := (i64_w _).symm.trans hji49_
                                  have hji49x : (ji47) ≤ 64 → (wrap64 (1 * 2 ^ (ji47).toNat)) = ji49 := fun h_ => (i64_w _).symm.trans (hji49z h_)
                                  by_cases c50 : t356 = (Go.bits .and .i64 (rd l0 x11_3) (wrap64 ((ji49) - 1)))
                                  · rw [if_pos c50] at H
                                    have c50b0 : (t356 == (Go.bits .and .i64 (rd l0 x11_3) (wrap64 ((ji49) - 1)))) = true := beq_iff_eq.mpr c50
                                    have c50b1 : (t356 != (Go.bits .and .i64 (rd l0 x11_3) (wrap64 ((ji49) - 1)))) = false := bne_eq_false_iff_eq.mpr c50
                                    clear c50
                                    by_cases c51 : t357 = (wrap64 (x10_3 + (wrap64 (1 + (Go.bits .and .i64 x11_3 3)))))
                                    · rw [if_pos c51] at H
                                      have c51b0 : (t357 == (wrap64 (x10_3 + (wrap64 (1 + (Go.bits .and .i64 x11_3 3)))))) = true := beq_iff_eq.mpr c51
                                      have c51b1 : (t357 != (wrap64 (x10_3 + (wrap64 (1 + (Go.bits .and .i64 x11_3 3)))))) = false := bne_eq_false_iff_eq.mpr c51
                                      clear c51
                                      by_cases c52 : t359 = 0
                                      · rw [if_pos c52] at H
                                        have c52b0 : (t359 == 0) = true := beq_iff_eq.mpr c52
                                        have c52b1 : (t359 != 0) = false := bne_eq_false_iff_eq.mpr c52
                                        clear c52
                                        have H' := Aside0.mk H
                                        clear H
                                        try go_wp2_with (first | ((with_reducible refine gate_callee (f := 39) rfl ?_); refine goesL_ (some 127) rfl rfl Try.func39 (by kernel_rfl) rfl #[.string x5_1, .int .i64 x10_3] rfl (by (try simp only [List.map_toArray, List.map_cons, List.map_nil]); first | done | rfl | (simp only [List.length_drop, List.length_take]; rfl)) ?_; (with_reducible refine (wire_U16.calls kj26 x5_1 x10_3 t356 t357 t358 _ A43.out).mono ?_); rintro e w' ⟨rfl, ⟨nd, rfl⟩⟩; refine ⟨_, rfl, ?_⟩) | ((with_reducible refine gate_callee (f := 28) rfl ?_); refine goesL_ (some 134) rfl rfl Try.func28 (by kernel_rfl) rfl #[.int .i64 t358] rfl (by (try simp only [List.map_toArray, List.map_cons, List.map_nil]); first | done | rfl | (simp only [List.length_drop, List.length_take]; rfl)) ?_; (with_reducible refine (halberdlaw0_Num.calls t358 t359 _ A44.out).mono ?_); rintro e w' ⟨rfl, ⟨nd, rfl⟩⟩; refine ⟨_, rfl, ?_⟩))
                                        (try (rw [drewN_self wc]; generalize hq_ : World.drewN wc _ = wc; have n0_ : Aside0 (Below w.heap.size w wc) := ⟨by rw [← hq_]; exact (by repeat (first | (with_reducible first | exact HB.out | apply below_alloc | apply pw_below_drewN | apply below_drew1) | exact HB.out))⟩; clear HB hq_; have HB := n0_; clear n0_))
                                        have n0_ := Aside0.mk (below_drew1 HB.out)
                                        clear HB
                                        have HB := n0_
                                        clear n0_
                                        have p360 : 0 ≤ (x11_3 : Int) := of_decide_eq_true (by first | (with_reducible assumption) | assumption)
                                        have q360 : x11_3 < (l0.length : Int) := of_decide_eq_true (by first | (with_reducible assumption) | assumption)
                                        obtain ⟨ad360, e360, hx360_0⟩ := Kd.at_int HR0.out x11_3 p360 q360
                                        have hw360_0 := hx360_0
                                        cases e360
                                        replace hx360_0 := (HB.out.cell (World.block_lt_of_cell? w _ hx360_0)).trans hx360_0
                                        replace p360 := eq_true p360
                                        replace q360 := eq_true q360
                                        refine start_ (n := 22) (S := fun w' => w'.cell? (ad360.add (x11_3).toNat) = some (.int .i64 (rd l0 x11_3))) (ds := []) #[false, false, false, false, false, false, false, false, false, false, false, false, false, false, false, false, false, false, false, false, false, false] (by kernel_rfl) rfl rfl (((HB.out.cell (World.block_lt_of_cell? w _ hw360_0)).trans hw360_0)) (fun hHeld => ?_); refine with_tabW halberdlaw1_WireRows.tab30 halberdlaw1_WireRows.bits30 (fun HT_ HW_ => ?_)
                                        generalize wc.drew = w53 at HB hx360_0 hHeld ⊢
                                        refine pure_ (i := 0) (N := some 148) (v := ?_) (a' := ?_) #[true, false, false, false, false, false, false, false, false, false, false, false, false, false, false, false, false, false, false, false, false, false] rfl rfl (any_of HT_.out (by kernel_rfl)) (fun _ _ _ h => h) (Or.inl ⟨by rfl, ?_⟩) ?_ ?_
                                        rotate_left
                                        · intro w'
                                          go_simp
                                          with_reducible rfl
                                        rotate_left
                                        · simp only [Act.put, List.setIfInBounds_toArray, List.set_cons_zero, List.set_cons_succ, i64_w, i32_w]
                                          rfl
                                        refine pure_ (i := 1) (N := some 149) (v := ?_) (a' := ?_) #[true, true, false, false, false, false, false, false, false, false, false, false, false, false, false, false, false, false, false, false, false, false] rfl rfl (any_of HT_.out (by kernel_rfl)) (fun _ _ _ h => h) (Or.inl ⟨by rfl, ?_⟩) ?_ ?_
                                        rotate_left
                                        · intro w'
                                          go_simp
                                          with_reducible rfl
                                        rotate_left
                                        · simp only [Act.put, List.setIfInBounds_toArray, List.set_cons_zero, List.set_cons_succ, i64_w, i32_w]
                                          rfl
                                        refine pure_ (i := 2) (N := some 150) (v := ?_) (a' := ?_) #[true, true, true, false, false, false, false, false, false, false, false, false, false, false, false, false, false, false, false, false, false, false] rfl rfl (any_of HT_.out (by kernel_rfl)) (fun _ _ _ h => h) (Or.inl ⟨by rfl, ?_⟩) ?_ ?_
                                        rotate_left
                                        · intro w'
                                          go_simp
                                          with_reducible rfl
                                        rotate_left
                                        · simp only [Act.put, List.setIfInBounds_toArray, List.set_cons_zero, List.set_cons_succ, i64_w, i32_w]
                                          rfl
                                        refine pure_ (i := 3) (N := some 151) (v := ?_) (a' := ?_) #[true, true, true, true, false, false, false, false, false, false, false, false, false, false, false, false, false, false, false, false, false, false] rfl rfl (any_of HT_.out (by kernel_rfl)) (fun _ _ _ h => h) (Or.inl ⟨by rfl, ?_⟩) ?_ ?_
                                        rotate_left
                                        · intro w'
                                          go_simp
                                          with_reducible rfl
                                        rotate_left
                                        · simp only [Act.put, List.setIfInBounds_toArray, List.set_cons_zero, List.set_cons_succ, i64_w, i32_w]
                                          rfl
                                        refine pure_ (i := 5) (N := some 153) (v := ?_) (a' := ?_) #[true, true, true, true, false, true, false, false, false, false, false, false, false, false, false, false, false, false, false, false, false, false] rfl rfl (any_of HT_.out (by kernel_rfl)) (fun _ _ _ h => h) (Or.inl ⟨by rfl, ?_⟩) ?_ ?_
                                        rotate_left
                                        · intro w'
                                          go_simp
                                          with_reducible rfl
                                        rotate_left
                                        · simp only [Act.put, List.setIfInBounds_toArray, List.set_cons_zero, List.set_cons_succ, i64_w, i32_w]
                                          rfl
                                        refine pure_ (i := 6) (N := some 154) (v := ?_) (a' := ?_) #[true, true, true, true, false, true, true, false, false, false, false, false, false, false, false, false, false, false, false, false, false, false] rfl rfl (any_of HT_.out (by kernel_rfl)) (fun _ _ _ h => h) (Or.inl ⟨by rfl, ?_⟩) ?_ ?_
                                        rotate_left
                                        · intro w'
                                          go_simp
                                          with_reducible rfl
                                        rotate_left
                                        · simp only [Act.put, List.setIfInBounds_toArray, List.set_cons_zero, List.set_cons_succ, i64_w, i32_w]
                                          rfl
                                        refine pure_ (i := 7) (N := some 155) (v := ?_) (a' := ?_) #[true, true, true, true, false, true, true, true, false, false, false, false, false, false, false, false, false, false, false, false, false, false] rfl rfl (any_of HT_.out (by kernel_rfl)) (fun _ _ _ h => h) (Or.inl ⟨by rfl, ?_⟩) ?_ ?_
                                        rotate_left
                                        · intro w'
                                          go_simp
                                          with_reducible rfl
                                        rotate_left
                                        · simp only [Act.put, List.setIfInBounds_toArray, List.set_cons_zero, List.set_cons_succ, i64_w, i32_w]
                                          rfl
                                        refine pure_ (i := 8) (N := some 156) (v := ?_) (a' := ?_) #[true, true, true, true, false, true, true, true, true, false, false, false, false, false, false, false, false, false, false, false, false, false] rfl rfl (any_of HT_.out (by kernel_rfl)) (fun _ _ _ h => h) (Or.inl ⟨by rfl, ?_⟩) ?_ ?_
                                        rotate_left
                                        · intro w'
                                          go_simp
                                          with_reducible rfl
                                        rotate_left
                                        · simp only [Act.put, List.setIfInBounds_toArray, List.set_cons_zero, List.set_cons_succ, i64_w, i32_w]
                                          rfl
                                        refine take_ (i := 4) (N := some 152) (v := ?_) (a' := ?_) #[true, true, true, true, true, true, true, true, true, false, false, false, false, false, false, false, false, false, false, false, false, false] rfl rfl (take_ofW HT_.out HW_.out (by kernel_rfl)) (fun _ _ _ h => h) (Or.inl ⟨by rfl, ?_⟩) hHeld ?_ ?_
                                        rotate_left
                                        · intro w' s0
                                          go_simp
                                          with_reducible rfl
                                        rotate_left
                                        · simp only [Act.put, List.setIfInBounds_toArray, List.set_cons_zero, List.set_cons_succ, i64_w, i32_w]
                                          rfl
                                        refine pure_ (i := 9) (N := some 157) (v := ?_) (a' := ?_) #[true, true, true, true, true, true, true, true, true, true, false, false, false, false, false, false, false, false, false, false, false, false] rfl rfl (any_of HT_.out (by kernel_rfl)) (fun _ _ _ h => h) (Or.inl ⟨by rfl, ?_⟩) ?_ ?_
                                        rotate_left
                                        · intro w'
                                          go_simp
                                          with_reducible rfl
                                        rotate_left
                                        · simp only [Act.put, List.setIfInBounds_toArray, List.set_cons_zero, List.set_cons_succ, i64_w, i32_w]
                                          rfl
                                        refine pure_ (i := 10) (N := some 158) (v := ?_) (a' := ?_) #[true, true, true, true, true, true, true, true, true, true, true, false, false, false, false, false, false, false, false, false, false, false] rfl rfl (any_of HT_.out (by kernel_rfl)) (fun _ _ _ h => h) (Or.inl ⟨by rfl, ?_⟩) ?_ ?_
                                        rotate_left
                                        · intro w'
                                          go_simp
                                          with_reducible rfl
                                        rotate_left
                                        · simp only [Act.put, List.setIfInBounds_toArray, List.set_cons_zero, List.set_cons_succ, i64_w, i32_w]
                                          rfl
                                        refine pure_ (i := 11) (N := some 159) (v := ?_) (a' := ?_) #[true, true, true, true, true, true, true, true, true, true, true, true, false, false, false, false, false, false, false, false, false, false] rfl rfl (any_of HT_.out (by kernel_rfl)) (fun _ _ _ h => h) (Or.inl ⟨by rfl, ?_⟩) ?_ ?_
                                        rotate_left
                                        · intro w'
                                          go_simp
                                          with_reducible rfl
                                        rotate_left
                                        · simp only [Act.put, List.setIfInBounds_toArray, List.set_cons_zero, List.set_cons_succ, i64_w, i32_w]
                                          rfl
                                        refine pure_ (i := 12) (N := some 160) (v := ?_) (a' := ?_) #[true, true, true, true, true, true, true, true, true, true, true, true, true, false, false, false, false, false, false, false, false, false] rfl rfl (any_of HT_.out (by kernel_rfl)) (fun _ _ _ h => h) (Or.inl ⟨by rfl, ?_⟩) ?_ ?_
                                        rotate_left
                                        · intro w'
                                          go_simp
                                          with_reducible rfl
                                        rotate_left
                                        · simp only [Act.put, List.setIfInBounds_toArray, List.set_cons_zero, List.set_cons_succ, i64_w, i32_w]
                                          rfl
                                        refine pure_ (i := 13) (N := some 161) (v := ?_) (a' := ?_) #[true, true, true, true, true, true, true, true, true, true, true, true, true, true, false, false, false, false, false, false, false, false] rfl rfl (any_of HT_.out (by kernel_rfl)) (fun _ _ _ h => h) (Or.inl ⟨by rfl, ?_⟩) ?_ ?_
                                        rotate_left
                                        · intro w'
                                          go_simp
                                          with_reducible rfl
                                        rotate_left
                                        · simp only [Act.put, List.setIfInBounds_toArray, List.set_cons_zero, List.set_cons_succ, i64_w, i32_w]
                                          rfl
                                        refine pure_ (i := 14) (N := some 162) (v := ?_) (a' := ?_) #[true, true, true, true, true, true, true, true, true, true, true, true, true, true, true, false, false, false, false, false, false, false] rfl rfl (any_of HT_.out (by kernel_rfl)) (fun _ _ _ h => h) (Or.inl ⟨by rfl, ?_⟩) ?_ ?_
                                        rotate_left
                                        · intro w'
                                          go_simp
                                          with_reducible rfl
                                        rotate_left
                                        · simp only [Act.put, List.setIfInBounds_toArray, List.set_cons_zero, List.set_cons_succ, i64_w, i32_w]
                                          rfl
                                        refine pure_ (i := 15) (N := some 163) (v := ?_) (a' := ?_) #[true, true, true, true, true, true, true, true, true, true, true, true, true, true, true, true, false, false, false, false, false, false] rfl rfl (any_of HT_.out (by kernel_rfl)) (fun _ _ _ h => h) (Or.inl ⟨by rfl, ?_⟩) ?_ ?_
                                        rotate_left
                                        · intro w'
                                          go_simp
                                          with_reducible rfl
                                        rotate_left
                                        · simp only [Act.put, List.setIfInBounds_toArray, List.set_cons_zero, List.set_cons_succ, i64_w, i32_w]
                                          rfl
                                        refine pure_ (i := 16) (N := some 164) (v := ?_) (a' := ?_) #[true, true, true, true, true, true, true, true, true, true, true, true, true, true, true, true, true, false, false, false, false, false] rfl rfl (any_of HT_.out (by kernel_rfl)) (fun _ _ _ h => h) (Or.inl ⟨by rfl, ?_⟩) ?_ ?_
                                        rotate_left
                                        · intro w'
                                          go_simp
                                          with_reducible rfl
                                        rotate_left
                                        · simp only [Act.put, List.setIfInBounds_toArray, List.set_cons_zero, List.set_cons_succ, i64_w, i32_w]
                                          rfl
                                        refine pure_ (i := 17) (N := some 165) (v := ?_) (a' := ?_) #[true, true, true, true, true, true, true, true, true, true, true, true, true, true, true, true, true, true, false, false, false, false] rfl rfl (any_of HT_.out (by kernel_rfl)) (fun _ _ _ h => h) (Or.inl ⟨by rfl, ?_⟩) ?_ ?_
                                        rotate_left
                                        · intro w'
                                          go_simp
                                          with_reducible rfl
                                        rotate_left
                                        · simp only [Act.put, List.setIfInBounds_toArray, List.set_cons_zero, List.set_cons_succ, i64_w, i32_w]
                                          rfl
                                        refine pure_ (i := 18) (N := some 166) (v := ?_) (a' := ?_) #[true, true, true, true, true, true, true, true, true, true, true, true, true, true, true, true, true, true, true, false, false, false] rfl rfl (any_of HT_.out (by kernel_rfl)) (fun _ _ _ h => h) (Or.inl ⟨by rfl, ?_⟩) ?_ ?_
                                        rotate_left
                                        · intro w'
                                          go_simp
                                          with_reducible rfl
                                        rotate_left
                                        · simp only [Act.put, List.setIfInBounds_toArray, List.set_cons_zero, List.set_cons_succ, i64_w, i32_w]
                                          rfl
                                        refine pure_ (i := 19) (N := some 167) (v := ?_) (a' := ?_) #[true, true, true, true, true, true, true, true, true, true, true, true, true, true, true, true, true, true, true, true, false, false] rfl rfl (any_of HT_.out (by kernel_rfl)) (fun _ _ _ h => h) (Or.inl ⟨by rfl, ?_⟩) ?_ ?_
                                        rotate_left
                                        · intro w'
                                          go_simp
                                          with_reducible rfl
                                        rotate_left
                                        · simp only [Act.put, List.setIfInBounds_toArray, List.set_cons_zero, List.set_cons_succ, i64_w, i32_w]
                                          rfl
                                        refine pure_ (i := 20) (N := some 168) (v := ?_) (a' := ?_) #[true, true, true, true, true, true, true, true, true, true, true, true, true, true, true, true, true, true, true, true, true, false] rfl rfl (any_of HT_.out (by kernel_rfl)) (fun _ _ _ h => h) (Or.inl ⟨by rfl, ?_⟩) ?_ ?_
                                        rotate_left
                                        · intro w'
                                          go_simp
                                          with_reducible rfl
                                        rotate_left
                                        · simp only [Act.put, List.setIfInBounds_toArray, List.set_cons_zero, List.set_cons_succ, i64_w, i32_w]
                                          rfl
                                        refine pure_ (i := 21) (N := some 169) (v := ?_) (a' := ?_) #[true, true, true, true, true, true, true, true, true, true, true, true, true, true, true, true, true, true, true, true, true, true] rfl rfl (any_of HT_.out (by kernel_rfl)) (fun _ _ _ h => h) (Or.inl ⟨by rfl, ?_⟩) ?_ ?_
                                        rotate_left
                                        · intro w'
                                          go_simp
                                          with_reducible rfl
                                        rotate_left
                                        · simp only [Act.put, List.setIfInBounds_toArray, List.set_cons_zero, List.set_cons_succ, i64_w, i32_w]
                                          rfl
                                        refine done_ (done_of HT_.out (by kernel_rfl)) ?_
                                        try go_wp2
                                        go_roundg kj26
                                        case measure => have := HK1.out; have := HJ5.out; have := HK3.out; have := HJ26.out; omega
                                        case rel => exact ⟨(t357), (wrap64 (x11_3 + 1)), (by first | rfl | (simp; done) | (simp [*]; done)), (by first | rfl | (simp; done) | (simp [*]; done)), H', ⟨by have := HK1.out; have := HJ5.out; have := HK3.out; have := HJ26.out; omega⟩, ⟨by repeat (first | (with_reducible first | exact HB.out | apply below_alloc | apply pw_below_drewN | apply below_drew1) | exact HB.out)⟩⟩
                                      · rw [if_neg c52] at H
                                        have c52b0 : (t359 == 0) = false := beq_eq_false_iff_ne.mpr c52
                                        have c52b1 : (t359 != 0) = true := bne_iff_ne.mpr c52
                                        exact absurd ((Option.some.inj H).trans hr.out) (by decide)
                                    · rw [if_neg c51] at H
                                      have c51b0 : (t357 == (wrap64 (x10_3 + (wrap64 (1 + (Go.bits .and .i64 x11_3 3)))))) = false := beq_eq_false_iff_ne.mpr c51
                                      have c51b1 : (t357 != (wrap64 (x10_3 + (wrap64 (1 + (Go.bits .and .i64 x11_3 3)))))) = true := bne_iff_ne.mpr c51
                                      exact absurd ((Option.some.inj H).trans hr.out) (by decide)
                                  · rw [if_neg c50] at H
                                    have c50b0 : (t356 == (Go.bits .and .i64 (rd l0 x11_3) (wrap64 ((ji49) - 1)))) = false := beq_eq_false_iff_ne.mpr c50
                                    have c50b1 : (t356 != (Go.bits .and .i64 (rd l0 x11_3) (wrap64 ((ji49) - 1)))) = true := bne_iff_ne.mpr c50
                                    exact absurd ((Option.some.inj H).trans hr.out) (by decide)
                                · rw [if_neg c48] at H
                                  exact absurd H (by simp)
                              · rw [if_neg c46] at H
                                exact absurd H (by simp)
                            · rw [if_neg c45] at H
                              exact absurd H (by simp)
                          · rw [if_neg c42] at H
                            have c42b0 : ((wrap64 (1 + (Go.bits .and .i64 x11_3 3))) == 2) = false := beq_eq_false_iff_ne.mpr c42
                            have c42b1 : ((wrap64 (1 + (Go.bits .and .i64 x11_3 3))) != 2) = true := bne_iff_ne.mpr c42
                            by_cases c54 : (wrap64 (1 + (Go.bits .and .i64 x11_3 3))) = 3
                            · rw [if_pos c54] at H
                              have c54b0 : ((wrap64 (1 + (Go.bits .and .i64 x11_3 3))) == 3) = true := beq_iff_eq.mpr c54
                              have c54b1 : ((wrap64 (1 + (Go.bits .and .i64 x11_3 3))) != 3) = false := bne_eq_false_iff_eq.mpr c54
                              clear c54
                              replace H := Option.bind_eq_some_iff.mp H
                              obtain ⟨⟨t361, t362, t363⟩, A550, H⟩ := H
                              replace H : ((halberdlaw0_Num.f t363).bind fun t364 => (if 0 ≤ x11_3 then (if x11_3 < (l0.length : Int) then (if 0 ≤ (wrap64 (8 * (wrap64 (1 + (Go.bits .and .i64 x11_3 3))))) then (if t361 = (Go.bits .and .i64 (rd l0 x11_3) (wrap64 ((shl .i64 1 (wrap64 (8 * (wrap64 (1 + (Go.bits .and .i64 x11_3 3)))))) - 1))) then (if t362 = (wrap64 (x10_3 + (wrap64 (1 + (Go.bits .and .i64 x11_3 3))))) then (if t364 = 0 then (halberdlaw1_WireRows.l1 kj26 l0 a1 x5_1 t362 (wrap64 (x11_3 + 1))) else (some false)) else (some false)) else (some false)) else (none)) else (none)) else (none))) = some r := H
                              have A55 := Aside0.mk A550
                              clear A550
                              replace H := Option.bind_eq_some_iff.mp H
                              obtain ⟨t364, A560, H⟩ := H
                              replace H : (if 0 ≤ x11_3 then (if x11_3 < (l0.length : Int) then (if 0 ≤ (wrap64 (8 * (wrap64 (1 + (Go.bits .and .i64 x11_3 3))))) then (if t361 = (Go.bits .and .i64 (rd l0 x11_3) (wrap64 ((shl .i64 1 (wrap64 (8 * (wrap64 (1 + (Go.bits .and .i64 x11_3 3)))))) - 1))) then (if t362 = (wrap64 (x10_3 + (wrap64 (1 + (Go.bits .and .i64 x11_3 3))))) then (if t364 = 0 then (halberdlaw1_WireRows.l1 kj26 l0 a1 x5_1 t362 (wrap64 (x11_3 + 1))) else (some false)) else (some false)) else (some false)) else (none)) else (none)) else (none)) = some r := H
                              have A56 := Aside0.mk A560
                              clear A560
                              by_cases c57 : 0 ≤ x11_3
                              · rw [if_pos c57] at H
                                have c57b0 : decide (0 ≤ x11_3) = true := decide_eq_true c57
                                clear c57
                                by_cases c58 : x11_3 < (l0.length : Int)
                                · rw [if_pos c58] at H
                                  have c58b0 : decide (x11_3 < (l0.length : Int)) = true := decide_eq_true c58
                                  clear c58
                                  obtain ⟨ji59, hji59⟩ : ∃ j_ : Int, (wrap64 (8 * (wrap64 (1 + (Go.bits .and .i64 x11_3 3))))) = j_ := ⟨_, rfl⟩
                                  replace H : (if 0 ≤ (ji59) then (if t361 = (Go.bits .and .i64 (rd l0 x11_3) (wrap64 ((shl .i64 1 (ji59)) - 1))) then (if t362 = (wrap64 (x10_3 + (wrap64 (1 + (Go.bits .and .i64 x11_3 3))))) then (if t364 = 0 then (halberdlaw1_WireRows.l1 kj26 l0 a1 x5_1 t362 (wrap64 (x11_3 + 1))) else (some false)) else (some false)) else (some false)) else (none)) = some r := by first | (rw [hji59] at H; exact H) | (simp only [hji59] at H ⊢; exact H)
                                  (try rw [hji59] at A55)
                                  (try rw [hji59] at A56)
                                  have hji59w : (IntKind.i64.wrap (8 * (wrap64 (1 + (Go.bits .and .i64 x11_3 3))))) = ji59 := (i64_w _).trans hji59
                                  by_cases c60 : 0 ≤ (ji59)
                                  · rw [if_pos c60] at H
                                    have c60b0 := eq_true c60
                                    have c60b1 : decide (0 ≤ (ji59)) = true := decide_eq_true c60
                                    clear c60
                                    obtain ⟨ji61, hji61⟩ : ∃ j_ : Int, (shl .i64 1 (ji59)) = j_ := ⟨_, rfl⟩
                                    replace H : (if t361 = (Go.bits .and .i64 (rd l0 x11_3) (wrap64 ((ji61) - 1))) then (if t362 = (wrap64 (x10_3 + (wrap64 (1 + (Go.bits .and .i64 x11_3 3))))) then (if t364 = 0 then (halberdlaw1_WireRows.l1 kj26 l0 a1 x5_1 t362 (wrap64 (x11_3 + 1))) else (some false)) else (some false)) else (some false)) = some r := by first | (rw [hji61] at H; exact H) | (simp only [hji61] at H ⊢; exact H)
                                    (try rw [hji61] at A55)
                                    (try rw [hji61] at A56)
                                    have hji61_ : (IntKind.i64.wrap (1 * 2 ^ min (ji59).toNat 64)) = ji61 := hji61
                                    have hji61z : (ji59) ≤ 64 → (IntKind.i64.wrap (1 * 2 ^ (ji59).toNat)) = ji61 := shl_small hji61
                                    have hji61u : (IntKind.i64.wrap (2 ^ min (ji59).toNat 64)) = ji61 := by have h_ := hji61_; rw [Int.one_mul] at h_; exact h_
                                    have hji61v : (ji59) ≤ 64 → (IntKind.i64.wrap (2 ^ (ji59).toNat)) = ji61 := fun hle_ => by have h_ := hji61z hle_; rw [Int.one_mul] at h_; exact h_
                                    have hji61y : (wrap64 (1 * 2 ^ min (ji59).toNat 64)) = ji61 := (i64_w _).symm.trans hji61_
                                    have hji61x : (ji59) ≤ 64 → (wrap64 (1 * 2 ^ (ji59).toNat)) = ji61 := fun h_ => (i64_w _).symm.trans (hji61z h_)
                                    by_cases c62 : t361 = (Go.bits .and .i64 (rd l0 x11_3) (wrap64 ((ji61) - 1)))
                                    · rw [if_pos c62] at H
                                      have c62b0 : (t361 == (Go.bits .and .i64 (rd l0 x11_3) (wrap64 ((ji61) - 1)))) = true := beq_iff_eq.mpr c62
                                      have c62b1 : (t361 != (Go.bits .and .i64 (rd l0 x11_3) (wrap64 ((ji61) - 1)))) = false := bne_eq_false_iff_eq.mpr c62
                                      clear c62
                                      by_cases c63 : t362 = (wrap64 (x10_3 + (wrap64 (1 + (Go.bits .and .i64 x11_3 3)))))
                                      · rw [if_pos c63] at H
                                        have c63b0 : (t362 == (wrap64 (x10_3 + (wrap64 (1 + (Go.bits .and .i64 x11_3 3)))))) = true := beq_iff_eq.mpr c63
                                        have c63b1 : (t362 != (wrap64 (x10_3 + (wrap64 (1 + (Go.bits .and .i64 x11_3 3)))))) = false := bne_eq_false_iff_eq.mpr c63
                                        clear c63
                                        by_cases c64 : t364 = 0
                                        · rw [if_pos c64] at H
                                          have c64b0 : (t364 == 0) = true := beq_iff_eq.mpr c64
                                          have c64b1 : (t364 != 0) = false := bne_eq_false_iff_eq.mpr c64
                                          clear c64
                                          have H' := Aside0.mk H
                                          clear H
                                          try go_wp2_with (first | ((with_reducible refine gate_callee (f := 42) rfl ?_); refine goesL_ (some 140) rfl rfl Try.func42 (by kernel_rfl) rfl #[.string x5_1, .int .i64 x10_3] rfl (by (try simp only [List.map_toArray, List.map_cons, List.map_nil]); first | done | rfl | (simp only [List.length_drop, List.length_take]; rfl)) ?_; (with_reducible refine (wire_U24.calls kj26 x5_1 x10_3 t361 t362 t363 _ A55.out).mono ?_); rintro e w' ⟨rfl, ⟨nd, rfl⟩⟩; refine ⟨_, rfl, ?_⟩) | ((with_reducible refine gate_callee (f := 28) rfl ?_); refine goesL_ (some 147) rfl rfl Try.func28 (by kernel_rfl) rfl #[.int .i64 t363] rfl (by (try simp only [List.map_toArray, List.map_cons, List.map_nil]); first | done | rfl | (simp only [List.length_drop, List.length_take]; rfl)) ?_; (with_reducible refine (halberdlaw0_Num.calls t363 t364 _ A56.out).mono ?_); rintro e w' ⟨rfl, ⟨nd, rfl⟩⟩; refine ⟨_, rfl, ?_⟩))
                                          (try (rw [drewN_self wc]; generalize hq_ : World.drewN wc _ = wc; have n0_ : Aside0 (Below w.heap.size w wc) := ⟨by rw [← hq_]; exact (by repeat (first | (with_reducible first | exact HB.out | apply below_alloc | apply pw_below_drewN | apply below_drew1) | exact HB.out))⟩; clear HB hq_; have HB := n0_; clear n0_))
                                          have n0_ := Aside0.mk (below_drew1 HB.out)
                                          clear HB
                                          have HB := n0_
                                          clear n0_
                                          have p365 : 0 ≤ (x11_3 : Int) := of_decide_eq_true (by first | (with_reducible assumption) | assumption)
                                          have q365 : x11_3 < (l0.length : Int) := of_decide_eq_true (by first | (with_reducible assumption) | assumption)
                                          obtain ⟨ad365, e365, hx365_0⟩ := Kd.at_int HR0.out x11_3 p365 q365
                                          have hw365_0 := hx365_0
                                          cases e365
                                          replace hx365_0 := (HB.out.cell (World.block_lt_of_cell? w _ hx365_0)).trans hx365_0
                                          replace p365 := eq_true p365
                                          replace q365 := eq_true q365
                                          refine start_ (n := 22) (S := fun w' => w'.cell? (ad365.add (x11_3).toNat) = some (.int .i64 (rd l0 x11_3))) (ds := []) #[false, false, false, false, false, false, false, false, false, false, false, false, false, false, false, false, false, false, false, false, false, false] (by kernel_rfl) rfl rfl (((HB.out.cell (World.block_lt_of_cell? w _ hw365_0)).trans hw365_0)) (fun hHeld => ?_); refine with_tabW halberdlaw1_WireRows.tab30 halberdlaw1_WireRows.bits30 (fun HT_ HW_ => ?_)
                                          generalize wc.drew = w65 at HB hx365_0 hHeld ⊢
                                          refine pure_ (i := 0) (N := some 148) (v := ?_) (a' := ?_) #[true, false, false, false, false, false, false, false, false, false, false, false, false, false, false, false, false, false, false, false, false, false] rfl rfl (any_of HT_.out (by kernel_rfl)) (fun _ _ _ h => h) (Or.inl ⟨by rfl, ?_⟩) ?_ ?_
                                          rotate_left
                                          · intro w'
                                            go_simp
                                            with_reducible rfl
                                          rotate_left
                                          · simp only [Act.put, List.setIfInBounds_toArray, List.set_cons_zero, List.set_cons_succ, i64_w, i32_w]
                                            rfl
                                          refine pure_ (i := 1) (N := some 149) (v := ?_) (a' := ?_) #[true, true, false, false, false, false, false, false, false, false, false, false, false, false, false, false, false, false, false, false, false, false] rfl rfl (any_of HT_.out (by kernel_rfl)) (fun _ _ _ h => h) (Or.inl ⟨by rfl, ?_⟩) ?_ ?_
                                          rotate_left
                                          · intro w'
                                            go_simp
                                            with_reducible rfl
                                          rotate_left
                                          · simp only [Act.put, List.setIfInBounds_toArray, List.set_cons_zero, List.set_cons_succ, i64_w, i32_w]
                                            rfl
                                          refine pure_ (i := 2) (N := some 150) (v := ?_) (a' := ?_) #[true, true, true, false, false, false, false, false, false, false, false, false, false, false, false, false, false, false, false, false, false, false] rfl rfl (any_of HT_.out (by kernel_rfl)) (fun _ _ _ h => h) (Or.inl ⟨by rfl, ?_⟩) ?_ ?_
                                          rotate_left
                                          · intro w'
                                            go_simp
                                            with_reducible rfl
                                          rotate_left
                                          · simp only [Act.put, List.setIfInBounds_toArray, List.set_cons_zero, List.set_cons_succ, i64_w, i32_w]
                                            rfl
                                          refine pure_ (i := 3) (N := some 151) (v := ?_) (a' := ?_) #[true, true, true, true, false, false, false, false, false, false, false, false, false, false, false, false, false, false, false, false, false, false] rfl rfl (any_of HT_.out (by kernel_rfl)) (fun _ _ _ h => h) (Or.inl ⟨by rfl, ?_⟩) ?_ ?_
                                          rotate_left
                                          · intro w'
                                            go_simp
                                            with_reducible rfl
                                          rotate_left
                                          · simp only [Act.put, List.setIfInBounds_toArray, List.set_cons_zero, List.set_cons_succ, i64_w, i32_w]
                                            rfl
                                          refine pure_ (i := 5) (N := some 153) (v := ?_) (a' := ?_) #[true, true, true, true, false, true, false, false, false, false, false, false, false, false, false, false, false, false, false, false, false, false] rfl rfl (any_of HT_.out (by kernel_rfl)) (fun _ _ _ h => h) (Or.inl ⟨by rfl, ?_⟩) ?_ ?_
                                          rotate_left
                                          · intro w'
                                            go_simp
                                            with_reducible rfl
                                          rotate_left
                                          · simp only [Act.put, List.setIfInBounds_toArray, List.set_cons_zero, List.set_cons_succ, i64_w, i32_w]
                                            rfl
                                          refine pure_ (i := 6) (N := some 154) (v := ?_) (a' := ?_) #[true, true, true, true, false, true, true, false, false, false, false, false, false, false, false, false, false, false, false, false, false, false] rfl rfl (any_of HT_.out (by kernel_rfl)) (fun _ _ _ h => h) (Or.inl ⟨by rfl, ?_⟩) ?_ ?_
                                          rotate_left
                                          · intro w'
                                            go_simp
                                            with_reducible rfl
                                          rotate_left
                                          · simp only [Act.put, List.setIfInBounds_toArray, List.set_cons_zero, List.set_cons_succ, i64_w, i32_w]
                                            rfl
                                          refine pure_ (i := 7) (N := some 155) (v := ?_) (a' := ?_) #[true, true, true, true, false, true, true, true, false, false, false, false, false, false, false, false, false, false, false, false, false, false] rfl rfl (any_of HT_.out (by kernel_rfl)) (fun _ _ _ h => h) (Or.inl ⟨by rfl, ?_⟩) ?_ ?_
                                          rotate_left
                                          · intro w'
                                            go_simp
                                            with_reducible rfl
                                          rotate_left
                                          · simp only [Act.put, List.setIfInBounds_toArray, List.set_cons_zero, List.set_cons_succ, i64_w, i32_w]
                                            rfl
                                          refine pure_ (i := 8) (N := some 156) (v := ?_) (a' := ?_) #[true, true, true, true, false, true, true, true, true, false, false, false, false, false, false, false, false, false, false, false, false, false] rfl rfl (any_of HT_.out (by kernel_rfl)) (fun _ _ _ h => h) (Or.inl ⟨by rfl, ?_⟩) ?_ ?_
                                          rotate_left
                                          · intro w'
                                            go_simp
                                            with_reducible rfl
                                          rotate_left
                                          · simp only [Act.put, List.setIfInBounds_toArray, List.set_cons_zero, List.set_cons_succ, i64_w, i32_w]
                                            rfl
                                          refine take_ (i := 4) (N := some 152) (v := ?_) (a' := ?_) #[true, true, true, true, true, true, true, true, true, false, false, false, false, false, false, false, false, false, false, false, false, false] rfl rfl (take_ofW HT_.out HW_.out (by kernel_rfl)) (fun _ _ _ h => h) (Or.inl ⟨by rfl, ?_⟩) hHeld ?_ ?_
                                          rotate_left
                                          · intro w' s0
                                            go_simp
                                            with_reducible rfl
                                          rotate_left
                                          · simp only [Act.put, List.setIfInBounds_toArray, List.set_cons_zero, List.set_cons_succ, i64_w, i32_w]
                                            rfl
                                          refine pure_ (i := 9) (N := some 157) (v := ?_) (a' := ?_) #[true, true, true, true, true, true, true, true, true, true, false, false, false, false, false, false, false, false, false, false, false, false] rfl rfl (any_of HT_.out (by kernel_rfl)) (fun _ _ _ h => h) (Or.inl ⟨by rfl, ?_⟩) ?_ ?_
                                          rotate_left
                                          · intro w'
                                            go_simp
                                            with_reducible rfl
                                          rotate_left
                                          · simp only [Act.put, List.setIfInBounds_toArray, List.set_cons_zero, List.set_cons_succ, i64_w, i32_w]
                                            rfl
                                          refine pure_ (i := 10) (N := some 158) (v := ?_) (a' := ?_) #[true, true, true, true, true, true, true, true, true, true, true, false, false, false, false, false, false, false, false, false, false, false] rfl rfl (any_of HT_.out (by kernel_rfl)) (fun _ _ _ h => h) (Or.inl ⟨by rfl, ?_⟩) ?_ ?_
                                          rotate_left
                                          · intro w'
                                            go_simp
                                            with_reducible rfl
                                          rotate_left
                                          · simp only [Act.put, List.setIfInBounds_toArray, List.set_cons_zero, List.set_cons_succ, i64_w, i32_w]
                                            rfl
                                          refine pure_ (i := 11) (N := some 159) (v := ?_) (a' := ?_) #[true, true, true, true, true, true, true, true, true, true, true, true, false, false, false, false, false, false, false, false, false, false] rfl rfl (any_of HT_.out (by kernel_rfl)) (fun _ _ _ h => h) (Or.inl ⟨by rfl, ?_⟩) ?_ ?_
                                          rotate_left
                                          · intro w'
                                            go_simp
                                            with_reducible rfl
                                          rotate_left
                                          · simp only [Act.put, List.setIfInBounds_toArray, List.set_cons_zero, List.set_cons_succ, i64_w, i32_w]
                                            rfl
                                          refine pure_ (i := 12) (N := some 160) (v := ?_) (a' := ?_) #[true, true, true, true, true, true, true, true, true, true, true, true, true, false, false, false, false, false, false, false, false, false] rfl rfl (any_of HT_.out (by kernel_rfl)) (fun _ _ _ h => h) (Or.inl ⟨by rfl, ?_⟩) ?_ ?_
                                          rotate_left
                                          · intro w'
                                            go_simp
                                            with_reducible rfl
                                          rotate_left
                                          · simp only [Act.put, List.setIfInBounds_toArray, List.set_cons_zero, List.set_cons_succ, i64_w, i32_w]
                                            rfl
                                          refine pure_ (i := 13) (N := some 161) (v := ?_) (a' := ?_) #[true, true, true, true, true, true, true, true, true, true, true, true, true, true, false, false, false, false, false, false, false, false] rfl rfl (any_of HT_.out (by kernel_rfl)) (fun _ _ _ h => h) (Or.inl ⟨by rfl, ?_⟩) ?_ ?_
                                          rotate_left
                                          · intro w'
                                            go_simp
                                            with_reducible rfl
                                          rotate_left
                                          · simp only [Act.put, List.setIfInBounds_toArray, List.set_cons_zero, List.set_cons_succ, i64_w, i32_w]
                                            rfl
                                          refine pure_ (i := 14) (N := some 162) (v := ?_) (a' := ?_) #[true, true, true, true, true, true, true, true, true, true, true, true, true, true, true, false, false, false, false, false, false, false] rfl rfl (any_of HT_.out (by kernel_rfl)) (fun _ _ _ h => h) (Or.inl ⟨by rfl, ?_⟩) ?_ ?_
                                          rotate_left
                                          · intro w'
                                            go_simp
                                            with_reducible rfl
                                          rotate_left
                                          · simp only [Act.put, List.setIfInBounds_toArray, List.set_cons_zero, List.set_cons_succ, i64_w, i32_w]
                                            rfl
                                          refine pure_ (i := 15) (N := some 163) (v := ?_) (a' := ?_) #[true, true, true, true, true, true, true, true, true, true, true, true, true, true, true, true, false, false, false, false, false, false] rfl rfl (any_of HT_.out (by kernel_rfl)) (fun _ _ _ h => h) (Or.inl ⟨by rfl, ?_⟩) ?_ ?_
                                          rotate_left
                                          · intro w'
                                            go_simp
                                            with_reducible rfl
                                          rotate_left
                                          · simp only [Act.put, List.setIfInBounds_toArray, List.set_cons_zero, List.set_cons_succ, i64_w, i32_w]
                                            rfl
                                          refine pure_ (i := 16) (N := some 164) (v := ?_) (a' := ?_) #[true, true, true, true, true, true, true, true, true, true, true, true, true, true, true, true, true, false, false, false, false, false] rfl rfl (any_of HT_.out (by kernel_rfl)) (fun _ _ _ h => h) (Or.inl ⟨by rfl, ?_⟩) ?_ ?_
                                          rotate_left
                                          · intro w'
                                            go_simp
                                            with_reducible rfl
                                          rotate_left
                                          · simp only [Act.put, List.setIfInBounds_toArray, List.set_cons_zero, List.set_cons_succ, i64_w, i32_w]
                                            rfl
                                          refine pure_ (i := 17) (N := some 165) (v := ?_) (a' := ?_) #[true, true, true, true, true, true, true, true, true, true, true, true, true, true, true, true, true, true, false, false, false, false] rfl rfl (any_of HT_.out (by kernel_rfl)) (fun _ _ _ h => h) (Or.inl ⟨by rfl, ?_⟩) ?_ ?_
                                          rotate_left
                                          · intro w'
                                            go_simp
                                            with_reducible rfl
                                          rotate_left
                                          · simp only [Act.put, List.setIfInBounds_toArray, List.set_cons_zero, List.set_cons_succ, i64_w, i32_w]
                                            rfl
                                          refine pure_ (i := 18) (N := some 166) (v := ?_) (a' := ?_) #[true, true, true, true, true, true, true, true, true, true, true, true, true, true, true, true, true, true, true, false, false, false] rfl rfl (any_of HT_.out (by kernel_rfl)) (fun _ _ _ h => h) (Or.inl ⟨by rfl, ?_⟩) ?_ ?_
                                          rotate_left
                                          · intro w'
                                            go_simp
                                            with_reducible rfl
                                          rotate_left
                                          · simp only [Act.put, List.setIfInBounds_toArray, List.set_cons_zero, List.set_cons_succ, i64_w, i32_w]
                                            rfl
                                          refine pure_ (i := 19) (N := some 167) (v := ?_) (a' := ?_) #[true, true, true, true, true, true, true, true, true, true, true, true, true, true, true, true, true, true, true, true, false, false] rfl rfl (any_of HT_.out (by kernel_rfl)) (fun _ _ _ h => h) (Or.inl ⟨by rfl, ?_⟩) ?_ ?_
                                          rotate_left
                                          · intro w'
                                            go_simp
                                            with_reducible rfl
                                          rotate_left
                                          · simp only [Act.put, List.setIfInBounds_toArray, List.set_cons_zero, List.set_cons_succ, i64_w, i32_w]
                                            rfl
                                          refine pure_ (i := 20) (N := some 168) (v := ?_) (a' := ?_) #[true, true, true, true, true, true, true, true, true, true, true, true, true, true, true, true, true, true, true, true, true, false] rfl rfl (any_of HT_.out (by kernel_rfl)) (fun _ _ _ h => h) (Or.inl ⟨by rfl, ?_⟩) ?_ ?_
                                          rotate_left
                                          · intro w'
                                            go_simp
                                            with_reducible rfl
                                          rotate_left
                                          · simp only [Act.put, List.setIfInBounds_toArray, List.set_cons_zero, List.set_cons_succ, i64_w, i32_w]
                                            rfl
                                          refine pure_ (i := 21) (N := some 169) (v := ?_) (a' := ?_) #[true, true, true, true, true, true, true, true, true, true, true, true, true, true, true, true, true, true, true, true, true, true] rfl rfl (any_of HT_.out (by kernel_rfl)) (fun _ _ _ h => h) (Or.inl ⟨by rfl, ?_⟩) ?_ ?_
                                          rotate_left
                                          · intro w'
                                            go_simp
                                            with_reducible rfl
                                          rotate_left
                                          · simp only [Act.put, List.setIfInBounds_toArray, List.set_cons_zero, List.set_cons_succ, i64_w, i32_w]
                                            rfl
                                          refine done_ (done_of HT_.out (by kernel_rfl)) ?_
                                          try go_wp2
                                          go_roundg kj26
                                          case measure => have := HK1.out; have := HJ5.out; have := HK3.out; have := HJ26.out; omega
                                          case rel => exact ⟨(t362), (wrap64 (x11_3 + 1)), (by first | rfl | (simp; done) | (simp [*]; done)), (by first | rfl | (simp; done) | (simp [*]; done)), H', ⟨by have := HK1.out; have := HJ5.out; have := HK3.out; have := HJ26.out; omega⟩, ⟨by repeat (first | (with_reducible first | exact HB.out | apply below_alloc | apply pw_below_drewN | apply below_drew1) | exact HB.out)⟩⟩
                                        · rw [if_neg c64] at H
                                          have c64b0 : (t364 == 0) = false := beq_eq_false_iff_ne.mpr c64
                                          have c64b1 : (t364 != 0) = true := bne_iff_ne.mpr c64
                                          exact absurd ((Option.some.inj H).trans hr.out) (by decide)
                                      · rw [if_neg c63] at H
                                        have c63b0 : (t362 == (wrap64 (x10_3 + (wrap64 (1 + (Go.bits .and .i64 x11_3 3)))))) = false := beq_eq_false_iff_ne.mpr c63
                                        have c63b1 : (t362 != (wrap64 (x10_3 + (wrap64 (1 + (Go.bits .and .i64 x11_3 3)))))) = true := bne_iff_ne.mpr c63
                                        exact absurd ((Option.some.inj H).trans hr.out) (by decide)
                                    · rw [if_neg c62] at H
                                      have c62b0 : (t361 == (Go.bits .and .i64 (rd l0 x11_3) (wrap64 ((ji61) - 1)))) = false := beq_eq_false_iff_ne.mpr c62
                                      have c62b1 : (t361 != (Go.bits .and .i64 (rd l0 x11_3) (wrap64 ((ji61) - 1)))) = true := bne_iff_ne.mpr c62
                                      exact absurd ((Option.some.inj H).trans hr.out) (by decide)
                                  · rw [if_neg c60] at H
                                    exact absurd H (by simp)
                                · rw [if_neg c58] at H
                                  exact absurd H (by simp)
                              · rw [if_neg c57] at H
                                exact absurd H (by simp)
                            · rw [if_neg c54] at H
                              have c54b0 : ((wrap64 (1 + (Go.bits .and .i64 x11_3 3))) == 3) = false := beq_eq_false_iff_ne.mpr c54
                              have c54b1 : ((wrap64 (1 + (Go.bits .and .i64 x11_3 3))) != 3) = true := bne_iff_ne.mpr c54
                              replace H := Option.bind_eq_some_iff.mp H
                              obtain ⟨⟨t366, t367, t368⟩, A660, H⟩ := H
                              replace H : ((halberdlaw0_Num.f t368).bind fun t369 => (if 0 ≤ x11_3 then (if x11_3 < (l0.length : Int) then (if 0 ≤ (wrap64 (8 * (wrap64 (1 + (Go.bits .and .i64 x11_3 3))))) then (if t366 = (Go.bits .and .i64 (rd l0 x11_3) (wrap64 ((shl .i64 1 (wrap64 (8 * (wrap64 (1 + (Go.bits .and .i64 x11_3 3)))))) - 1))) then (if t367 = (wrap64 (x10_3 + (wrap64 (1 + (Go.bits .and .i64 x11_3 3))))) then (if t369 = 0 then (halberdlaw1_WireRows.l1 kj26 l0 a1 x5_1 t367 (wrap64 (x11_3 + 1))) else (some false)) else (some false)) else (some false)) else (none)) else (none)) else (none))) = some r := H
                              have A66 := Aside0.mk A660
                              clear A660
                              replace H := Option.bind_eq_some_iff.mp H
                              obtain ⟨t369, A670, H⟩ := H
                              replace H : (if 0 ≤ x11_3 then (if x11_3 < (l0.length : Int) then (if 0 ≤ (wrap64 (8 * (wrap64 (1 + (Go.bits .and .i64 x11_3 3))))) then (if t366 = (Go.bits .and .i64 (rd l0 x11_3) (wrap64 ((shl .i64 1 (wrap64 (8 * (wrap64 (1 + (Go.bits .and .i64 x11_3 3)))))) - 1))) then (if t367 = (wrap64 (x10_3 + (wrap64 (1 + (Go.bits .and .i64 x11_3 3))))) then (if t369 = 0 then (halberdlaw1_WireRows.l1 kj26 l0 a1 x5_1 t367 (wrap64 (x11_3 + 1))) else (some false)) else (some false)) else (some false)) else (none)) else (none)) else (none)) = some r := H
                              have A67 := Aside0.mk A670
                              clear A670
                              by_cases c68 : 0 ≤ x11_3
                              · rw [if_pos c68] at H
                                have c68b0 : decide (0 ≤ x11_3) = true := decide_eq_true c68
                                clear c68
                                by_cases c69 : x11_3 < (l0.length : Int)
                                · rw [if_pos c69] at H
                                  have c69b0 : decide (x11_3 < (l0.length : Int)) = true := decide_eq_true c69
                                  clear c69
                                  obtain ⟨ji70, hji70⟩ : ∃ j_ : Int, (wrap64 (8 * (wrap64 (1 + (Go.bits .and .i64 x11_3 3))))) = j_ := ⟨_, rfl⟩
                                  replace H : (if 0 ≤ (ji70) then (if t366 = (Go.bits .and .i64 (rd l0 x11_3) (wrap64 ((shl .i64 1 (ji70)) - 1))) then (if t367 = (wrap64 (x10_3 + (wrap64 (1 + (Go.bits .and .i64 x11_3 3))))) then (if t369 = 0 then (halberdlaw1_WireRows.l1 kj26 l0 a1 x5_1 t367 (wrap64 (x11_3 + 1))) else (some false)) else (some false)) else (some false)) else (none)) = some r := by first | (rw [hji70] at H; exact H) | (simp only [hji70] at H ⊢; exact H)
                                  (try rw [hji70] at A66)
                                  (try rw [hji70] at A67)
                                  have hji70w : (IntKind.i64.wrap (8 * (wrap64 (1 + (Go.bits .and .i64 x11_3 3))))) = ji70 := (i64_w _).trans hji70
                                  by_cases c71 : 0 ≤ (ji70)
                                  · rw [if_pos c71] at H
                                    have c71b0 := eq_true c71
                                    have c71b1 : decide (0 ≤ (ji70)) = true := decide_eq_true c71
                                    clear c71
                                    obtain ⟨ji72, hji72⟩ : ∃ j_ : Int, (shl .i64 1 (ji70)) = j_ := ⟨_, rfl⟩
                                    replace H : (if t366 = (Go.bits .and .i64 (rd l0 x11_3) (wrap64 ((ji72) - 1))) then (if t367 = (wrap64 (x10_3 + (wrap64 (1 + (Go.bits .and .i64 x11_3 3))))) then (if t369 = 0 then (halberdlaw1_WireRows.l1 kj26 l0 a1 x5_1 t367 (wrap64 (x11_3 + 1))) else (some false)) else (some false)) else (some false)) = some r := by first | (rw [hji72] at H; exact H) | (simp only [hji72] at H ⊢; exact H)
                                    (try rw [hji72] at A66)
                                    (try rw [hji72] at A67)
                                    have hji72_ : (IntKind.i64.wrap (1 * 2 ^ min (ji70).toNat 64)) = ji72 := hji72
                                    have hji72z : (ji70) ≤ 64 → (IntKind.i64.wrap (1 * 2 ^ (ji70).toNat)) = ji72 := shl_small hji72
                                    have hji72u : (IntKind.i64.wrap (2 ^ min (ji70).toNat 64)) = ji72 := by have h_ := hji72_; rw [Int.one_mul] at h_; exact h_
                                    have hji72v : (ji70) ≤ 64 → (IntKind.i64.wrap (2 ^ (ji70).toNat)) = ji72 := fun hle_ => by have h_ := hji72z hle_; rw [Int.one_mul] at h_; exact h_
                                    have hji72y : (wrap64 (1 * 2 ^ min (ji70).toNat 64)) = ji72 := (i64_w _).symm.trans hji72_
                                    have hji72x : (ji70) ≤ 64 → (wrap64 (1 * 2 ^ (ji70).toNat)) = ji72 := fun h_ => (i64_w _).symm.trans (hji72z h_)
                                    by_cases c73 : t366 = (Go.bits .and .i64 (rd l0 x11_3) (wrap64 ((ji72) - 1)))
                                    · rw [if_pos c73] at H
                                      have c73b0 : (t366 == (Go.bits .and .i64 (rd l0 x11_3) (wrap64 ((ji72) - 1)))) = true := beq_iff_eq.mpr c73
                                      have c73b1 : (t366 != (Go.bits .and .i64 (rd l0 x11_3) (wrap64 ((ji72) - 1)))) = false := bne_eq_false_iff_eq.mpr c73
                                      clear c73
                                      by_cases c74 : t367 = (wrap64 (x10_3 + (wrap64 (1 + (Go.bits .and .i64 x11_3 3)))))
                                      · rw [if_pos c74] at H
                                        have c74b0 : (t367 == (wrap64 (x10_3 + (wrap64 (1 + (Go.bits .and .i64 x11_3 3)))))) = true := beq_iff_eq.mpr c74
                                        have c74b1 : (t367 != (wrap64 (x10_3 + (wrap64 (1 + (Go.bits .and .i64 x11_3 3)))))) = false := bne_eq_false_iff_eq.mpr c74
                                        clear c74
                                        by_cases c75 : t369 = 0
                                        · rw [if_pos c75] at H
                                          have c75b0 : (t369 == 0) = true := beq_iff_eq.mpr c75
                                          have c75b1 : (t369 != 0) = false := bne_eq_false_iff_eq.mpr c75
                                          clear c75
                                          have H' := Aside0.mk H
                                          clear H
                                          try go_wp2_with (first | ((with_reducible refine gate_callee (f := 40) rfl ?_); refine goesL_ (some 101) rfl rfl Try.func40 (by kernel_rfl) rfl #[.string x5_1, .int .i64 x10_3] rfl (by (try simp only [List.map_toArray, List.map_cons, List.map_nil]); first | done | rfl | (simp only [List.length_drop, List.length_take]; rfl)) ?_; (with_reducible refine (wire_U32.calls kj26 x5_1 x10_3 t366 t367 t368 _ A66.out).mono ?_); rintro e w' ⟨rfl, ⟨nd, rfl⟩⟩; refine ⟨_, rfl, ?_⟩) | ((with_reducible refine gate_callee (f := 28) rfl ?_); refine goesL_ (some 108) rfl rfl Try.func28 (by kernel_rfl) rfl #[.int .i64 t368] rfl (by (try simp only [List.map_toArray, List.map_cons, List.map_nil]); first | done | rfl | (simp only [List.length_drop, List.length_take]; rfl)) ?_; (with_reducible refine (halberdlaw0_Num.calls t368 t369 _ A67.out).mono ?_); rintro e w' ⟨rfl, ⟨nd, rfl⟩⟩; refine ⟨_, rfl, ?_⟩))
                                          (try (rw [drewN_self wc]; generalize hq_ : World.drewN wc _ = wc; have n0_ : Aside0 (Below w.heap.size w wc) := ⟨by rw [← hq_]; exact (by repeat (first | (with_reducible first | exact HB.out | apply below_alloc | apply pw_below_drewN | apply below_drew1) | exact HB.out))⟩; clear HB hq_; have HB := n0_; clear n0_))
                                          have n0_ := Aside0.mk (below_drew1 HB.out)
                                          clear HB
                                          have HB := n0_
                                          clear n0_
                                          have p370 : 0 ≤ (x11_3 : Int) := of_decide_eq_true (by first | (with_reducible assumption) | assumption)
                                          have q370 : x11_3 < (l0.length : Int) := of_decide_eq_true (by first | (with_reducible assumption) | assumption)
                                          obtain ⟨ad370, e370, hx370_0⟩ := Kd.at_int HR0.out x11_3 p370 q370
                                          have hw370_0 := hx370_0
                                          cases e370
                                          replace hx370_0 := (HB.out.cell (World.block_lt_of_cell? w _ hx370_0)).trans hx370_0
                                          replace p370 := eq_true p370
                                          replace q370 := eq_true q370
                                          refine start_ (n := 22) (S := fun w' => w'.cell? (ad370.add (x11_3).toNat) = some (.int .i64 (rd l0 x11_3))) (ds := []) #[false, false, false, false, false, false, false, false, false, false, false, false, false, false, false, false, false, false, false, false, false, false] (by kernel_rfl) rfl rfl (((HB.out.cell (World.block_lt_of_cell? w _ hw370_0)).trans hw370_0)) (fun hHeld => ?_); refine with_tabW halberdlaw1_WireRows.tab30 halberdlaw1_WireRows.bits30 (fun HT_ HW_ => ?_)
                                          generalize wc.drew = w76 at HB hx370_0 hHeld ⊢
                                          refine pure_ (i := 0) (N := some 148) (v := ?_) (a' := ?_) #[true, false, false, false, false, false, false, false, false, false, false, false, false, false, false, false, false, false, false, false, false, false] rfl rfl (any_of HT_.out (by kernel_rfl)) (fun _ _ _ h => h) (Or.inl ⟨by rfl, ?_⟩) ?_ ?_
                                          rotate_left
                                          · intro w'
                                            go_simp
                                            with_reducible rfl
                                          rotate_left
                                          · simp only [Act.put, List.setIfInBounds_toArray, List.set_cons_zero, List.set_cons_succ, i64_w, i32_w]
                                            rfl
                                          refine pure_ (i := 1) (N := some 149) (v := ?_) (a' := ?_) #[true, true, false, false, false, false, false, false, false, false, false, false, false, false, false, false, false, false, false, false, false, false] rfl rfl (any_of HT_.out (by kernel_rfl)) (fun _ _ _ h => h) (Or.inl ⟨by rfl, ?_⟩) ?_ ?_
                                          rotate_left
                                          · intro w'
                                            go_simp
                                            with_reducible rfl
                                          rotate_left
                                          · simp only [Act.put, List.setIfInBounds_toArray, List.set_cons_zero, List.set_cons_succ, i64_w, i32_w]
                                            rfl
                                          refine pure_ (i := 2) (N := some 150) (v := ?_) (a' := ?_) #[true, true, true, false, false, false, false, false, false, false, false, false, false, false, false, false, false, false, false, false, false, false] rfl rfl (any_of HT_.out (by kernel_rfl)) (fun _ _ _ h => h) (Or.inl ⟨by rfl, ?_⟩) ?_ ?_
                                          rotate_left
                                          · intro w'
                                            go_simp
                                            with_reducible rfl
                                          rotate_left
                                          · simp only [Act.put, List.setIfInBounds_toArray, List.set_cons_zero, List.set_cons_succ, i64_w, i32_w]
                                            rfl
                                          refine pure_ (i := 3) (N := some 151) (v := ?_) (a' := ?_) #[true, true, true, true, false, false, false, false, false, false, false, false, false, false, false, false, false, false, false, false, false, false] rfl rfl (any_of HT_.out (by kernel_rfl)) (fun _ _ _ h => h) (Or.inl ⟨by rfl, ?_⟩) ?_ ?_
                                          rotate_left
                                          · intro w'
                                            go_simp
                                            with_reducible rfl
                                          rotate_left
                                          · simp only [Act.put, List.setIfInBounds_toArray, List.set_cons_zero, List.set_cons_succ, i64_w, i32_w]
                                            rfl
                                          refine pure_ (i := 5) (N := some 153) (v := ?_) (a' := ?_) #[true, true, true, true, false, true, false, false, false, false, false, false, false, false, false, false, false, false, false, false, false, false] rfl rfl (any_of HT_.out (by kernel_rfl)) (fun _ _ _ h => h) (Or.inl ⟨by rfl, ?_⟩) ?_ ?_
                                          rotate_left
                                          · intro w'
                                            go_simp
                                            with_reducible rfl
                                          rotate_left
                                          · simp only [Act.put, List.setIfInBounds_toArray, List.set_cons_zero, List.set_cons_succ, i64_w, i32_w]
                                            rfl
                                          refine pure_ (i := 6) (N := some 154) (v := ?_) (a' := ?_) #[true, true, true, true, false, true, true, false, false, false, false, false, false, false, false, false, false, false, false, false, false, false] rfl rfl (any_of HT_.out (by kernel_rfl)) (fun _ _ _ h => h) (Or.inl ⟨by rfl, ?_⟩) ?_ ?_
                                          rotate_left
                                          · intro w'
                                            go_simp
                                            with_reducible rfl
                                          rotate_left
                                          · simp only [Act.put, List.setIfInBounds_toArray, List.set_cons_zero, List.set_cons_succ, i64_w, i32_w]
                                            rfl
                                          refine pure_ (i := 7) (N := some 155) (v := ?_) (a' := ?_) #[true, true, true, true, false, true, true, true, false, false, false, false, false, false, false, false, false, false, false, false, false, false] rfl rfl (any_of HT_.out (by kernel_rfl)) (fun _ _ _ h => h) (Or.inl ⟨by rfl, ?_⟩) ?_ ?_
                                          rotate_left
                                          · intro w'
                                            go_simp
                                            with_reducible rfl
                                          rotate_left
                                          · simp only [Act.put, List.setIfInBounds_toArray, List.set_cons_zero, List.set_cons_succ, i64_w, i32_w]
                                            rfl
                                          refine pure_ (i := 8) (N := some 156) (v := ?_) (a' := ?_) #[true, true, true, true, false, true, true, true, true, false, false, false, false, false, false, false, false, false, false, false, false, false] rfl rfl (any_of HT_.out (by kernel_rfl)) (fun _ _ _ h => h) (Or.inl ⟨by rfl, ?_⟩) ?_ ?_
                                          rotate_left
                                          · intro w'
                                            go_simp
                                            with_reducible rfl
                                          rotate_left
                                          · simp only [Act.put, List.setIfInBounds_toArray, List.set_cons_zero, List.set_cons_succ, i64_w, i32_w]
                                            rfl
                                          refine take_ (i := 4) (N := some 152) (v := ?_) (a' := ?_) #[true, true, true, true, true, true, true, true, true, false, false, false, false, false, false, false, false, false, false, false, false, false] rfl rfl (take_ofW HT_.out HW_.out (by kernel_rfl)) (fun _ _ _ h => h) (Or.inl ⟨by rfl, ?_⟩) hHeld ?_ ?_
                                          rotate_left
                                          · intro w' s0
                                            go_simp
                                            with_reducible rfl
                                          rotate_left
                                          · simp only [Act.put, List.setIfInBounds_toArray, List.set_cons_zero, List.set_cons_succ, i64_w, i32_w]
                                            rfl
                                          refine pure_ (i := 9) (N := some 157) (v := ?_) (a' := ?_) #[true, true, true, true, true, true, true, true, true, true, false, false, false, false, false, false, false, false, false, false, false, false] rfl rfl (any_of HT_.out (by kernel_rfl)) (fun _ _ _ h => h) (Or.inl ⟨by rfl, ?_⟩) ?_ ?_
                                          rotate_left
                                          · intro w'
                                            go_simp
                                            with_reducible rfl
                                          rotate_left
                                          · simp only [Act.put, List.setIfInBounds_toArray, List.set_cons_zero, List.set_cons_succ, i64_w, i32_w]
                                            rfl
                                          refine pure_ (i := 10) (N := some 158) (v := ?_) (a' := ?_) #[true, true, true, true, true, true, true, true, true, true, true, false, false, false, false, false, false, false, false, false, false, false] rfl rfl (any_of HT_.out (by kernel_rfl)) (fun _ _ _ h => h) (Or.inl ⟨by rfl, ?_⟩) ?_ ?_
                                          rotate_left
                                          · intro w'
                                            go_simp
                                            with_reducible rfl
                                          rotate_left
                                          · simp only [Act.put, List.setIfInBounds_toArray, List.set_cons_zero, List.set_cons_succ, i64_w, i32_w]
                                            rfl
                                          refine pure_ (i := 11) (N := some 159) (v := ?_) (a' := ?_) #[true, true, true, true, true, true, true, true, true, true, true, true, false, false, false, false, false, false, false, false, false, false] rfl rfl (any_of HT_.out (by kernel_rfl)) (fun _ _ _ h => h) (Or.inl ⟨by rfl, ?_⟩) ?_ ?_
                                          rotate_left
                                          · intro w'
                                            go_simp
                                            with_reducible rfl
                                          rotate_left
                                          · simp only [Act.put, List.setIfInBounds_toArray, List.set_cons_zero, List.set_cons_succ, i64_w, i32_w]
                                            rfl
                                          refine pure_ (i := 12) (N := some 160) (v := ?_) (a' := ?_) #[true, true, true, true, true, true, true, true, true, true, true, true, true, false, false, false, false, false, false, false, false, false] rfl rfl (any_of HT_.out (by kernel_rfl)) (fun _ _ _ h => h) (Or.inl ⟨by rfl, ?_⟩) ?_ ?_
                                          rotate_left
                                          · intro w'
                                            go_simp
                                            with_reducible rfl
                                          rotate_left
                                          · simp only [Act.put, List.setIfInBounds_toArray, List.set_cons_zero, List.set_cons_succ, i64_w, i32_w]
                                            rfl
                                          refine pure_ (i := 13) (N := some 161) (v := ?_) (a' := ?_) #[true, true, true, true, true, true, true, true, true, true, true, true, true, true, false, false, false, false, false, false, false, false] rfl rfl (any_of HT_.out (by kernel_rfl)) (fun _ _ _ h => h) (Or.inl ⟨by rfl, ?_⟩) ?_ ?_
                                          rotate_left
                                          · intro w'
                                            go_simp
                                            with_reducible rfl
                                          rotate_left
                                          · simp only [Act.put, List.setIfInBounds_toArray, List.set_cons_zero, List.set_cons_succ, i64_w, i32_w]
                                            rfl
                                          refine pure_ (i := 14) (N := some 162) (v := ?_) (a' := ?_) #[true, true, true, true, true, true, true, true, true, true, true, true, true, true, true, false, false, false, false, false, false, false] rfl rfl (any_of HT_.out (by kernel_rfl)) (fun _ _ _ h => h) (Or.inl ⟨by rfl, ?_⟩) ?_ ?_
                                          rotate_left
                                          · intro w'
                                            go_simp
                                            with_reducible rfl
                                          rotate_left
                                          · simp only [Act.put, List.setIfInBounds_toArray, List.set_cons_zero, List.set_cons_succ, i64_w, i32_w]
                                            rfl
                                          refine pure_ (i := 15) (N := some 163) (v := ?_) (a' := ?_) #[true, true, true, true, true, true, true, true, true, true, true, true, true, true, true, true, false, false, false, false, false, false] rfl rfl (any_of HT_.out (by kernel_rfl)) (fun _ _ _ h => h) (Or.inl ⟨by rfl, ?_⟩) ?_ ?_
                                          rotate_left
                                          · intro w'
                                            go_simp
                                            with_reducible rfl
                                          rotate_left
                                          · simp only [Act.put, List.setIfInBounds_toArray, List.set_cons_zero, List.set_cons_succ, i64_w, i32_w]
                                            rfl
                                          refine pure_ (i := 16) (N := some 164) (v := ?_) (a' := ?_) #[true, true, true, true, true, true, true, true, true, true, true, true, true, true, true, true, true, false, false, false, false, false] rfl rfl (any_of HT_.out (by kernel_rfl)) (fun _ _ _ h => h) (Or.inl ⟨by rfl, ?_⟩) ?_ ?_
                                          rotate_left
                                          · intro w'
                                            go_simp
                                            with_reducible rfl
                                          rotate_left
                                          · simp only [Act.put, List.setIfInBounds_toArray, List.set_cons_zero, List.set_cons_succ, i64_w, i32_w]
                                            rfl
                                          refine pure_ (i := 17) (N := some 165) (v := ?_) (a' := ?_) #[true, true, true, true, true, true, true, true, true, true, true, true, true, true, true, true, true, true, false, false, false, false] rfl rfl (any_of HT_.out (by kernel_rfl)) (fun _ _ _ h => h) (Or.inl ⟨by rfl, ?_⟩) ?_ ?_
                                          rotate_left
                                          · intro w'
                                            go_simp
                                            with_reducible rfl
                                          rotate_left
                                          · simp only [Act.put, List.setIfInBounds_toArray, List.set_cons_zero, List.set_cons_succ, i64_w, i32_w]
                                            rfl
                                          refine pure_ (i := 18) (N := some 166) (v := ?_) (a' := ?_) #[true, true, true, true, true, true, true, true, true, true, true, true, true, true, true, true, true, true, true, false, false, false] rfl rfl (any_of HT_.out (by kernel_rfl)) (fun _ _ _ h => h) (Or.inl ⟨by rfl, ?_⟩) ?_ ?_
                                          rotate_left
                                          · intro w'
                                            go_simp
                                            with_reducible rfl
                                          rotate_left
                                          · simp only [Act.put, List.setIfInBounds_toArray, List.set_cons_zero, List.set_cons_succ, i64_w, i32_w]
                                            rfl
                                          refine pure_ (i := 19) (N := some 167) (v := ?_) (a' := ?_) #[true, true, true, true, true, true, true, true, true, true, true, true, true, true, true, true, true, true, true, true, false, false] rfl rfl (any_of HT_.out (by kernel_rfl)) (fun _ _ _ h => h) (Or.inl ⟨by rfl, ?_⟩) ?_ ?_
                                          rotate_left
                                          · intro w'
                                            go_simp
                                            with_reducible rfl
                                          rotate_left
                                          · simp only [Act.put, List.setIfInBounds_toArray, List.set_cons_zero, List.set_cons_succ, i64_w, i32_w]
                                            rfl
                                          refine pure_ (i := 20) (N := some 168) (v := ?_) (a' := ?_) #[true, true, true, true, true, true, true, true, true, true, true, true, true, true, true, true, true, true, true, true, true, false] rfl rfl (any_of HT_.out (by kernel_rfl)) (fun _ _ _ h => h) (Or.inl ⟨by rfl, ?_⟩) ?_ ?_
                                          rotate_left
                                          · intro w'
                                            go_simp
                                            with_reducible rfl
                                          rotate_left
                                          · simp only [Act.put, List.setIfInBounds_toArray, List.set_cons_zero, List.set_cons_succ, i64_w, i32_w]
                                            rfl
                                          refine pure_ (i := 21) (N := some 169) (v := ?_) (a' := ?_) #[true, true, true, true, true, true, true, true, true, true, true, true, true, true, true, true, true, true, true, true, true, true] rfl rfl (any_of HT_.out (by kernel_rfl)) (fun _ _ _ h => h) (Or.inl ⟨by rfl, ?_⟩) ?_ ?_
                                          rotate_left
                                          · intro w'
                                            go_simp
                                            with_reducible rfl
                                          rotate_left
                                          · simp only [Act.put, List.setIfInBounds_toArray, List.set_cons_zero, List.set_cons_succ, i64_w, i32_w]
                                            rfl
                                          refine done_ (done_of HT_.out (by kernel_rfl)) ?_
                                          try go_wp2
                                          go_roundg kj26
                                          case measure => have := HK1.out; have := HJ5.out; have := HK3.out; have := HJ26.out; omega
                                          case rel => exact ⟨(t367), (wrap64 (x11_3 + 1)), (by first | rfl | (simp; done) | (simp [*]; done)), (by first | rfl | (simp; done) | (simp [*]; done)), H', ⟨by have := HK1.out; have := HJ5.out; have := HK3.out; have := HJ26.out; omega⟩, ⟨by repeat (first | (with_reducible first | exact HB.out | apply below_alloc | apply pw_below_drewN | apply below_drew1) | exact HB.out)⟩⟩
                                        · rw [if_neg c75] at H
                                          have c75b0 : (t369 == 0) = false := beq_eq_false_iff_ne.mpr c75
                                          have c75b1 : (t369 != 0) = true := bne_iff_ne.mpr c75
                                          exact absurd ((Option.some.inj H).trans hr.out) (by decide)
                                      · rw [if_neg c74] at H
                                        have c74b0 : (t367 == (wrap64 (x10_3 + (wrap64 (1 + (Go.bits .and .i64 x11_3 3)))))) = false := beq_eq_false_iff_ne.mpr c74
                                        have c74b1 : (t367 != (wrap64 (x10_3 + (wrap64 (1 + (Go.bits .and .i64 x11_3 3)))))) = true := bne_iff_ne.mpr c74
                                        exact absurd ((Option.some.inj H).trans hr.out) (by decide)
                                    · rw [if_neg c73] at H
                                      have c73b0 : (t366 == (Go.bits .and .i64 (rd l0 x11_3) (wrap64 ((ji72) - 1)))) = false := beq_eq_false_iff_ne.mpr c73
                                      have c73b1 : (t366 != (Go.bits .and .i64 (rd l0 x11_3) (wrap64 ((ji72) - 1)))) = true := bne_iff_ne.mpr c73
                                      exact absurd ((Option.some.inj H).trans hr.out) (by decide)
                                  · rw [if_neg c71] at H
                                    exact absurd H (by simp)
                                · rw [if_neg c69] at H
                                  exact absurd H (by simp)
                              · rw [if_neg c68] at H
                                exact absurd H (by simp)
                      · replace c29 := Bool.eq_false_iff.mpr c29
                        subst c29
                        have H1 : (if x5_1.size + a1.size ≤ 9223372036854775807 then ((some (x5_1 ++ a1 : ByteArray)).bind fun ys345 => (if ys345.size + 1 ≤ 9223372036854775807 then ((wire_U8.f kj26 (ys345 ++ (⟨#[122]⟩ : ByteArray)) (wrap64 ((x5_1.size : Int) + (a1.size : Int)))).bind fun bt347 => (if x10_3 = (x5_1.size : Int) then (if bt347.1 = 122 then (if bt347.2.1 = (wrap64 ((wrap64 ((x5_1.size : Int) + (a1.size : Int))) + 1)) then ((halberdlaw0_Num.f bt347.2.2).bind fun t350 => (some (t350 == 0))) else (some false)) else (some false)) else (some false))) else (none))) else (none)) = some r := by rw [if_neg (show ¬ (false = true) by decide)] at H; exact H
                        clear H
                        have H := H1
                        clear H1
                        by_cases c77 : x5_1.size + a1.size ≤ 9223372036854775807
                        · rw [if_pos c77] at H
                          have c77b0 := eq_true c77
                          have c77b1 : decide (x5_1.size + a1.size ≤ 9223372036854775807) = true := decide_eq_true c77
                          try have c77b2 : (9223372036854775807 < x5_1.size + a1.size) = False := eq_false (Nat.not_lt.2 c77)
                          obtain ⟨ys345, hys345⟩ : ∃ y_ : ByteArray, y_ = (x5_1 ++ a1) := ⟨_, rfl⟩
                          replace H : (if ys345.size + 1 ≤ 9223372036854775807 then ((wire_U8.f kj26 (ys345 ++ (⟨#[122]⟩ : ByteArray)) (wrap64 ((x5_1.size : Int) + (a1.size : Int)))).bind fun bt347 => (if x10_3 = (x5_1.size : Int) then (if bt347.1 = 122 then (if bt347.2.1 = (wrap64 ((wrap64 ((x5_1.size : Int) + (a1.size : Int))) + 1)) then ((halberdlaw0_Num.f bt347.2.2).bind fun t350 => (some (t350 == 0))) else (some false)) else (some false)) else (some false))) else (none)) = some r := by first | (rw [hys345]; with_reducible exact H) | (have H2_ := (Option.bind_some _ _).symm.trans H; rw [hys345]; with_reducible exact H2_) | (have H2_ := (Option.bind_some _ _).symm.trans H; with_reducible exact H2_) | with_reducible exact H | (rw [hys345]; exact H) | exact H
                          have Nys345 := Aside0.mk hys345
                          clear hys345
                          have Sys345 := Nys345.out.symm
                          by_cases c78 : ys345.size + 1 ≤ 9223372036854775807
                          · rw [if_pos c78] at H
                            have c78b0 := eq_true c78
                            have c78b1 : decide (ys345.size + 1 ≤ 9223372036854775807) = true := decide_eq_true c78
                            try have c78b2 : (9223372036854775807 < ys345.size + 1) = False := eq_false (Nat.not_lt.2 c78)
                            obtain ⟨ys346, hys346⟩ : ∃ y_ : ByteArray, y_ = (ys345 ++ (⟨#[122]⟩ : ByteArray)) := ⟨_, rfl⟩
                            replace H : ((wire_U8.f kj26 ys346 (wrap64 ((x5_1.size : Int) + (a1.size : Int)))).bind fun bt347 => (if x10_3 = (x5_1.size : Int) then (if bt347.1 = 122 then (if bt347.2.1 = (wrap64 ((wrap64 ((x5_1.size : Int) + (a1.size : Int))) + 1)) then ((halberdlaw0_Num.f bt347.2.2).bind fun t350 => (some (t350 == 0))) else (some false)) else (some false)) else (some false))) = some r := by first | (rw [hys346]; with_reducible exact H) | (have H2_ := (Option.bind_some _ _).symm.trans H; rw [hys346]; with_reducible exact H2_) | (have H2_ := (Option.bind_some _ _).symm.trans H; with_reducible exact H2_) | with_reducible exact H | (rw [hys346]; exact H) | exact H
                            have Nys346 := Aside0.mk hys346
                            clear hys346
                            have Sys346 := Nys346.out.symm
                            replace H := Option.bind_eq_some_iff.mp H
                            obtain ⟨⟨t347, t348, t349⟩, A790, H⟩ := H
                            replace H : (if x10_3 = (x5_1.size : Int) then (if t347 = 122 then (if t348 = (wrap64 ((wrap64 ((x5_1.size : Int) + (a1.size : Int))) + 1)) then ((halberdlaw0_Num.f t349).bind fun t350 => (some (t350 == 0))) else (some false)) else (some false)) else (some false)) = some r := H
                            have A79 := Aside0.mk A790
                            clear A790
                            by_cases c80 : x10_3 = (x5_1.size : Int)
                            · rw [if_pos c80] at H
                              have c80b0 : (x10_3 == (x5_1.size : Int)) = true := beq_iff_eq.mpr c80
                              have c80b1 : (x10_3 != (x5_1.size : Int)) = false := bne_eq_false_iff_eq.mpr c80
                              clear c80
                              by_cases c81 : t347 = 122
                              · rw [if_pos c81] at H
                                have c81b0 : (t347 == 122) = true := beq_iff_eq.mpr c81
                                have c81b1 : (t347 != 122) = false := bne_eq_false_iff_eq.mpr c81
                                clear c81
                                by_cases c82 : t348 = (wrap64 ((wrap64 ((x5_1.size : Int) + (a1.size : Int))) + 1))
                                · rw [if_pos c82] at H
                                  have c82b0 : (t348 == (wrap64 ((wrap64 ((x5_1.size : Int) + (a1.size : Int))) + 1))) = true := beq_iff_eq.mpr c82
                                  have c82b1 : (t348 != (wrap64 ((wrap64 ((x5_1.size : Int) + (a1.size : Int))) + 1))) = false := bne_eq_false_iff_eq.mpr c82
                                  clear c82
                                  replace H := Option.bind_eq_some_iff.mp H
                                  obtain ⟨t350, A830, H⟩ := H
                                  replace H : (some (t350 == 0)) = some r := H
                                  have A83 := Aside0.mk A830
                                  clear A830
                                  obtain rfl := Option.some.inj H
                                  have hsu_ : wrap64 ((x5_1.size : Int) + (a1.size : Int)) = (x5_1.size : Int) + (a1.size : Int) := by unfold wrap64; omega
                                  rw [hsu_] at A79 c82b0 c82b1
                                  clear hsu_
                                  go_wp2_with (first | ((with_reducible refine gate_callee (f := 41) rfl ?_); refine goesL_ (some 181) rfl rfl Try.func41 (by kernel_rfl) rfl #[.string ys346, .int .i64 ((x5_1.size : Int) + (a1.size : Int))] rfl (by (try simp only [List.map_toArray, List.map_cons, List.map_nil]); first | done | rfl | (simp only [List.length_drop, List.length_take]; rfl)) ?_; (with_reducible refine (wire_U8.calls kj26 ys346 ((x5_1.size : Int) + (a1.size : Int)) t347 t348 t349 _ A79.out).mono ?_); rintro e w' ⟨rfl, ⟨nd, rfl⟩⟩; refine ⟨_, rfl, ?_⟩) | (go_at_call 28; (with_reducible refine (halberdlaw0_Num.calls t349 t350 _ A83.out).mono ?_); rintro e w' ⟨rfl, ⟨nd, rfl⟩⟩))
                                  go_ret
                                  exact ⟨by first | rfl | (simp [errW_none, errW_some] <;> rfl) | (simp [*, errW_none, errW_some] <;> rfl), by repeat (first | (with_reducible first | exact HB.out | apply below_alloc | apply pw_below_drewN | apply below_drew1) | exact HB.out)⟩
                                · rw [if_neg c82] at H
                                  have c82b0 : (t348 == (wrap64 ((wrap64 ((x5_1.size : Int) + (a1.size : Int))) + 1))) = false := beq_eq_false_iff_ne.mpr c82
                                  have c82b1 : (t348 != (wrap64 ((wrap64 ((x5_1.size : Int) + (a1.size : Int))) + 1))) = true := bne_iff_ne.mpr c82
                                  exact absurd ((Option.some.inj H).trans hr.out) (by decide)
                              · rw [if_neg c81] at H
                                have c81b0 : (t347 == 122) = false := beq_eq_false_iff_ne.mpr c81
                                have c81b1 : (t347 != 122) = true := bne_iff_ne.mpr c81
                                exact absurd ((Option.some.inj H).trans hr.out) (by decide)
                            · rw [if_neg c80] at H
                              have c80b0 : (x10_3 == (x5_1.size : Int)) = false := beq_eq_false_iff_ne.mpr c80
                              have c80b1 : (x10_3 != (x5_1.size : Int)) = true := bne_iff_ne.mpr c80
                              exact absurd ((Option.some.inj H).trans hr.out) (by decide)
                          · rw [if_neg c78] at H
                            exact absurd H (by simp)
                        · rw [if_neg c77] at H
                          exact absurd H (by simp)
  · replace c4 := Bool.eq_false_iff.mpr c4
    subst c4
    have H1 : (some false) = some r := by rw [if_neg (show ¬ (false = true) by decide)] at H; exact H
    clear H
    have H := H1
    clear H1
    exact absurd ((Option.some.inj H).trans hr.out) (by decide)

/-- THE ONE PURE STATEMENT of halberdlaw1_WireRows: yours. -/
def halberdlaw1_WireRows.Pure : Prop := ∀ (l0 : List Int) (a1 : ByteArray), l0.length ≤ maxLen → l0.length * 8 ≤ 140737488351232 → (∀ x ∈ l0, (Lit.int .i64 x).wf = true) → a1.size ≤ 140737488351232 → ∃ k, halberdlaw1_WireRows.f k l0 a1 = some true
theorem halberdlaw1_WireRows.walk (P : halberdlaw1_WireRows.Pure) (a0 : Option Addr) (len0 cap0 : Nat) (z0 : List Int) (a1 : ByteArray) (w : World) (w0 : (a0 = none ∧ len0 = 0 ∧ cap0 = 0 ∧ z0 = []) ∨ ∃ x, a0 = some x ∧ len0 ≤ cap0 ∧ cap0 ≤ maxLen ∧ z0.length = cap0 ∧ (∀ i, i < z0.length → w.cell? (x.add i) = some (.int .i64 (z0.getD i 0))) ∧ ∀ n ∈ z0, (Lit.int .i64 n).wf = true) (y0 : len0 * 8 ≤ 140737488351232) (w1 : a1.size ≤ 140737488351232) :
    Calls Try.prog 12 #[.slice a0 len0 cap0, .string a1] w fun e w' => e = .returned (.bool true) ∧ Below w.heap.size w w' := by
  obtain ⟨l0, rfl, hr0, hm0, hw0, hc0⟩ := ReadsInt.ofRowC w0
  obtain ⟨k, h⟩ := P l0 a1 hm0 y0 hw0 w1
  refine (halberdlaw1_WireRows.calls k _ _ l0 a1 true w (Kd.C_of_reads (d := (0 : Int)) (h1 := fun _ => rfl) hr0) hc0 h ⟨rfl⟩).mono ?_
  rintro e w' ⟨rfl, hd⟩
  exact ⟨rfl, hd⟩

end Go.Proofs.Ytggnmnpmhknjgaa.Y
