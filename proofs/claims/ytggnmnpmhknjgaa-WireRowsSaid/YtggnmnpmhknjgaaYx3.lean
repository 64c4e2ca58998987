-- Written by a program of this session (wip/tools/xprint.py), over the kit's printer.
import Derived.Test.YtggnmnpmhknjgaaYx0
import Derived.Test.YtggnmnpmhknjgaaYx1
import Derived.Test.YtggnmnpmhknjgaaYx2
namespace Go.Proofs.Ytggnmnpmhknjgaa.Y
open Go.RowKit Go.Proofs.YtggnmnpmhknjgaaW.PrintWords Go.Proofs.YtggnmnpmhknjgaaW.PrintLast Go.Proofs.YtggnmnpmhknjgaaW.PrintMore
attribute [local go_sem] max2_int min2_int max_two min_two max_three min_three max_four min_four   -- for this text's walks alone
set_option linter.unusedVariables false
set_option linter.unusedSimpArgs false

/-! ### halberdlaw0_SameTexts: function 27 -/
def halberdlaw0_SameTexts.l0 : Nat → List ByteArray → List ByteArray → Int → Option (Bool)
  | 0, _, _, _ => none
  | k + 1, x0, x1, x5 => if x5 < (x0.length : Int) then (if 0 ≤ x5 then (if x5 < (x1.length : Int) then (if (rdOf ByteArray.empty x0 x5).toList = (rdOf ByteArray.empty x1 x5).toList then (halberdlaw0_SameTexts.l0 k x0 x1 (wrap64 (x5 + 1))) else (some false)) else (none)) else (none)) else (some true)
def halberdlaw0_SameTexts.f (k : Nat) (l0 : List ByteArray) (l1 : List ByteArray) : Option (Bool) := if (l0.length : Int) = (l1.length : Int) then (halberdlaw0_SameTexts.l0 k l0 l1 0) else (some false)
theorem halberdlaw0_SameTexts.mono_l : ∀ k, (∀ y0 y1 y2, LeO (halberdlaw0_SameTexts.l0 k y0 y1 y2) (halberdlaw0_SameTexts.l0 (k + 1) y0 y1 y2))
  | 0 => fun _ _ _ r h => by simp [halberdlaw0_SameTexts.l0] at h
  | k + 1 => by
    have ih0 := halberdlaw0_SameTexts.mono_l k
    · intro y0 y1 y2
      unfold halberdlaw0_SameTexts.l0
      repeat' first
      | (with_reducible exact ih0 _ _ _)
      | (with_reducible exact LeO.refl _)
      | (with_reducible exact LeO.none _)
      | (with_reducible refine LeO.ite ?_ ?_)
      | (with_reducible refine LeO.bind ?_ (fun _ => ?_))
      | exact ih0 _ _ _
      | exact LeO.none _
      | refine LeO.ite ?_ ?_
      | refine LeO.bind ?_ (fun _ => ?_)
theorem halberdlaw0_SameTexts.mono : ∀ a0 a1 k, LeO (halberdlaw0_SameTexts.f k a0 a1) (halberdlaw0_SameTexts.f (k + 1) a0 a1) := by
  intro a0 a1 k
  have ih0 := halberdlaw0_SameTexts.mono_l k
  unfold halberdlaw0_SameTexts.f
  repeat' first
      | (with_reducible exact ih0 _ _ _)
      | (with_reducible exact LeO.refl _)
      | (with_reducible exact LeO.none _)
      | (with_reducible refine LeO.ite ?_ ?_)
      | (with_reducible refine LeO.bind ?_ (fun _ => ?_))
      | exact ih0 _ _ _
      | exact LeO.none _
      | refine LeO.ite ?_ ?_
      | refine LeO.bind ?_ (fun _ => ?_)
set_option maxHeartbeats 8000000 in
set_option maxRecDepth 100000 in
theorem halberdlaw0_SameTexts.calls (k : Nat) (A0 : Option Addr) (c0 : Nat) (l0 : List ByteArray) (A1 : Option Addr) (c1 : Nat) (l1 : List ByteArray) (r : Bool) (w : World) (hr0 : Kd.C Kd.string w A0 l0.length l0) (hc0 : l0.length ≤ c0) (hr1 : Kd.C Kd.string w A1 l1.length l1) (hc1 : l1.length ≤ c1) (h : halberdlaw0_SameTexts.f k l0 l1 = some r) :
    Calls Try.prog 27 #[.slice A0 l0.length c0, .slice A1 l1.length c1] w fun e w' => e = .returned (.bool r) ∧ Drawn0 w w' := by
  have HR0 := Aside0.mk hr0
  have HC0 := Aside0.mk hc0
  clear hr0 hc0
  have HR1 := Aside0.mk hr1
  have HC1 := Aside0.mk hc1
  clear hr1 hc1
  have H : (if (l0.length : Int) = (l1.length : Int) then (halberdlaw0_SameTexts.l0 k l0 l1 0) else (some false)) = some r := h
  clear h
  by_cases c3 : (l0.length : Int) = (l1.length : Int)
  · rw [if_pos c3] at H
    have c3b0 : ((l0.length : Int) == (l1.length : Int)) = true := beq_iff_eq.mpr c3
    have c3b1 : ((l0.length : Int) != (l1.length : Int)) = false := bne_eq_false_iff_eq.mpr c3
    have c3b2 : (l0.length == l1.length) = true := by first | simpa using c3 | (simp at c3 ⊢; omega)
    clear c3
    have H' := Aside0.mk H
    clear H
    go_enter Try.func27, Try.ntmps27
    go_wp2
    repeat (go_quiet (fail); try go_wp2)
    go_loopg [5] k (fun kq v5 w' => ∃ (x5_1 : Int), v5 = .int .i64 x5_1 ∧ Aside0 (halberdlaw0_SameTexts.l0 kq l0 l1 x5_1 = some r) ∧ Aside0 (kq ≤ k) ∧ Drawn0 w w')
    case atStart => exact ⟨(0), (by first | rfl | (simp; done) | (simp [*]; done)), H', ⟨Nat.le_refl _⟩, by repeat (first | exact Drawn0.refl _ | apply Drawn0.step)⟩
    case round =>
      clear H'
      try clear c1
      try clear c2
      try clear p2
      try clear c3
      try clear c3b0
      try clear c3b1
      try clear c3b2
      obtain ⟨x5_1, rfl, HA, HK1, ⟨m1, rfl⟩⟩ := hrel
      cases gk with
      | zero => exact absurd HA.out (by simp [halberdlaw0_SameTexts.l0])
      | succ k1 =>
        have H := HA.out
        clear HA
        simp only [halberdlaw0_SameTexts.l0] at H
        by_cases c4 : x5_1 < (l0.length : Int)
        · rw [if_pos c4] at H
          have c4b0 : decide (x5_1 < (l0.length : Int)) = true := decide_eq_true c4
          clear c4
          by_cases c5 : 0 ≤ x5_1
          · rw [if_pos c5] at H
            have c5b0 : decide (0 ≤ x5_1) = true := decide_eq_true c5
            clear c5
            by_cases c6 : x5_1 < (l1.length : Int)
            · rw [if_pos c6] at H
              have c6b0 : decide (x5_1 < (l1.length : Int)) = true := decide_eq_true c6
              clear c6
              by_cases c7 : (rdOf ByteArray.empty l0 x5_1).toList = (rdOf ByteArray.empty l1 x5_1).toList
              · rw [if_pos c7] at H
                have c7b0 : ((rdOf ByteArray.empty l0 x5_1).toList == (rdOf ByteArray.empty l1 x5_1).toList) = true := beq_iff_eq.mpr c7
                have c7b1 : ((rdOf ByteArray.empty l0 x5_1).toList != (rdOf ByteArray.empty l1 x5_1).toList) = false := bne_eq_false_iff_eq.mpr c7
                clear c7
                have H' := Aside0.mk H
                clear H
                have p132 : 0 ≤ (x5_1 : Int) := of_decide_eq_true (by first | (with_reducible assumption) | assumption)
                have q132 : x5_1 < (l0.length : Int) := of_decide_eq_true (by first | (with_reducible assumption) | assumption)
                obtain ⟨ad132, e132, hx132_0⟩ := Kd.at_string HR0.out x5_1 p132 q132
                cases e132
                replace p132 := eq_true p132
                replace q132 := eq_true q132
                have p133 : 0 ≤ (x5_1 : Int) := of_decide_eq_true (by first | (with_reducible assumption) | assumption)
                have q133 : x5_1 < (l1.length : Int) := of_decide_eq_true (by first | (with_reducible assumption) | assumption)
                obtain ⟨ad133, e133, hx133_0⟩ := Kd.at_string HR1.out x5_1 p133 q133
                cases e133
                replace p133 := eq_true p133
                replace q133 := eq_true q133
                go_wp2
                repeat (go_quiet (fail); try go_wp2)
                go_roundg k1
                case measure => have := HK1.out; omega
                case rel => exact ⟨(wrap64 (x5_1 + 1)), (by first | rfl | (simp; done) | (simp [*]; done)), H', ⟨by have := HK1.out; omega⟩, by repeat (first | exact Drawn0.refl _ | apply Drawn0.step)⟩
              · rw [if_neg c7] at H
                have c7b0 : ((rdOf ByteArray.empty l0 x5_1).toList == (rdOf ByteArray.empty l1 x5_1).toList) = false := beq_eq_false_iff_ne.mpr c7
                have c7b1 : ((rdOf ByteArray.empty l0 x5_1).toList != (rdOf ByteArray.empty l1 x5_1).toList) = true := bne_iff_ne.mpr c7
                obtain rfl := Option.some.inj H
                have p132 : 0 ≤ (x5_1 : Int) := of_decide_eq_true (by first | (with_reducible assumption) | assumption)
                have q132 : x5_1 < (l0.length : Int) := of_decide_eq_true (by first | (with_reducible assumption) | assumption)
                obtain ⟨ad132, e132, hx132_0⟩ := Kd.at_string HR0.out x5_1 p132 q132
                cases e132
                replace p132 := eq_true p132
                replace q132 := eq_true q132
                have p133 : 0 ≤ (x5_1 : Int) := of_decide_eq_true (by first | (with_reducible assumption) | assumption)
                have q133 : x5_1 < (l1.length : Int) := of_decide_eq_true (by first | (with_reducible assumption) | assumption)
                obtain ⟨ad133, e133, hx133_0⟩ := Kd.at_string HR1.out x5_1 p133 q133
                cases e133
                replace p133 := eq_true p133
                replace q133 := eq_true q133
                go_wp2
                repeat (go_quiet (fail); try go_wp2)
                go_ret
                exact ⟨by first | rfl | (simp; done) | (simp [*]; done), by repeat (first | exact Drawn0.refl _ | apply Drawn0.step)⟩
            · rw [if_neg c6] at H
              exact absurd H (by simp)
          · rw [if_neg c5] at H
            exact absurd H (by simp)
        · rw [if_neg c4] at H
          have c4b0 : decide (x5_1 < (l0.length : Int)) = false := decide_eq_false c4
          clear c4
          obtain rfl := Option.some.inj H
          go_wp2
          repeat (go_quiet (fail); try go_wp2)
          go_ret
          exact ⟨by first | rfl | (simp; done) | (simp [*]; done), by repeat (first | exact Drawn0.refl _ | apply Drawn0.step)⟩
  · rw [if_neg c3] at H
    have c3b0 : ((l0.length : Int) == (l1.length : Int)) = false := beq_eq_false_iff_ne.mpr c3
    have c3b1 : ((l0.length : Int) != (l1.length : Int)) = true := bne_iff_ne.mpr c3
    have c3b2 : (l0.length == l1.length) = false := by first | simpa using c3 | (simp at c3 ⊢; omega)
    obtain rfl := Option.some.inj H
    go_enter Try.func27, Try.ntmps27
    go_wp2
    repeat (go_quiet (fail); try go_wp2)
    go_ret
    exact ⟨by first | rfl | (simp; done) | (simp [*]; done), by repeat (first | exact Drawn0.refl _ | apply Drawn0.step)⟩

/-! ### halberdlaw18_awake0: function 32 -/
def halberdlaw18_awake0.f (k : Nat)  : Option (Bool) := (incr_New.f).bind fun bt134 => ((incr_Decoder_Feed.f k bt134.1 bt134.2 (⟨#[20, 0, 0]⟩ : ByteArray)).bind fun bt137 => ((incr_Decoder_Feed.f k bt137.2.2.1 bt137.2.2.2 (⟨#[2, 97, 98, 24]⟩ : ByteArray)).bind fun bt143 => ((incr_Decoder_Held.f bt143.2.2.1 bt143.2.2.2).bind fun bt149 => ((incr_Decoder_Feed.f k bt149.2.1 bt149.2.2 (⟨#[1, 0, 0]⟩ : ByteArray)).bind fun bt152 => ((incr_Decoder_Feed.f k bt152.2.2.1 bt152.2.2.2 (⟨#[]⟩ : ByteArray)).bind fun bt158 => (if (bt137.1.length : Int) = 0 then ((halberdlaw0_Num.f bt137.2.1).bind fun t164 => (if t164 = 0 then ((halberdlaw0_SameTexts.f k bt143.1 (([(⟨#[20, 0, 0, 2, 97, 98]⟩ : ByteArray)] : List ByteArray))).bind fun t168 => (if t168 = true then ((halberdlaw0_Num.f bt143.2.1).bind fun t169 => (if t169 = 0 then (if bt149.1 = 1 then ((halberdlaw0_Num.f bt152.2.1).bind fun t170 => (if t170 = 1800 then ((halberdlaw0_Num.f bt158.2.1).bind fun t171 => (some (t171 == 1800))) else (some false))) else (some false)) else (some false))) else (some false))) else (some false))) else (some false)))))))
theorem halberdlaw18_awake0.mono : ∀ k, LeO (halberdlaw18_awake0.f k ) (halberdlaw18_awake0.f (k + 1) ) := by
  intro  k
  unfold halberdlaw18_awake0.f
  repeat' first
      | (with_reducible exact halberdlaw0_SameTexts.mono _ _ _)
      | (with_reducible exact incr_Decoder_Feed.mono _ _ _ _)
      | (with_reducible exact LeO.refl _)
      | (with_reducible exact LeO.none _)
      | (with_reducible refine LeO.ite ?_ ?_)
      | (with_reducible refine LeO.bind ?_ (fun _ => ?_))
      | exact halberdlaw0_SameTexts.mono _ _ _
      | exact incr_Decoder_Feed.mono _ _ _ _
      | exact LeO.none _
      | refine LeO.ite ?_ ?_
      | refine LeO.bind ?_ (fun _ => ?_)
set_option maxHeartbeats 8000000 in
set_option maxRecDepth 100000 in
theorem halberdlaw18_awake0.calls (k : Nat)  (r : Bool) (w : World) (h : halberdlaw18_awake0.f k  = some r) (hr : Aside0 (r = true)) :
    Calls Try.prog 32 #[] w fun e w' => e = .returned (.bool r) ∧ Below w.heap.size w w' := by
  have HB := Aside0.mk (Below.refl w.heap.size w)
  have H : ((incr_New.f).bind fun bt134 => ((incr_Decoder_Feed.f k bt134.1 bt134.2 (⟨#[20, 0, 0]⟩ : ByteArray)).bind fun bt137 => ((incr_Decoder_Feed.f k bt137.2.2.1 bt137.2.2.2 (⟨#[2, 97, 98, 24]⟩ : ByteArray)).bind fun bt143 => ((incr_Decoder_Held.f bt143.2.2.1 bt143.2.2.2).bind fun bt149 => ((incr_Decoder_Feed.f k bt149.2.1 bt149.2.2 (⟨#[1, 0, 0]⟩ : ByteArray)).bind fun bt152 => ((incr_Decoder_Feed.f k bt152.2.2.1 bt152.2.2.2 (⟨#[]⟩ : ByteArray)).bind fun bt158 => (if (bt137.1.length : Int) = 0 then ((halberdlaw0_Num.f bt137.2.1).bind fun t164 => (if t164 = 0 then ((halberdlaw0_SameTexts.f k bt143.1 (([(⟨#[20, 0, 0, 2, 97, 98]⟩ : ByteArray)] : List ByteArray))).bind fun t168 => (if t168 = true then ((halberdlaw0_Num.f bt143.2.1).bind fun t169 => (if t169 = 0 then (if bt149.1 = 1 then ((halberdlaw0_Num.f bt152.2.1).bind fun t170 => (if t170 = 1800 then ((halberdlaw0_Num.f bt158.2.1).bind fun t171 => (some (t171 == 1800))) else (some false))) else (some false)) else (some false))) else (some false))) else (some false))) else (some false)))))))) = some r := h
  clear h
  replace H := Option.bind_eq_some_iff.mp H
  obtain ⟨⟨t134, t135⟩, A10, H⟩ := H
  replace H : ((incr_Decoder_Feed.f k t134 t135 (⟨#[20, 0, 0]⟩ : ByteArray)).bind fun bt137 => ((incr_Decoder_Feed.f k bt137.2.2.1 bt137.2.2.2 (⟨#[2, 97, 98, 24]⟩ : ByteArray)).bind fun bt143 => ((incr_Decoder_Held.f bt143.2.2.1 bt143.2.2.2).bind fun bt149 => ((incr_Decoder_Feed.f k bt149.2.1 bt149.2.2 (⟨#[1, 0, 0]⟩ : ByteArray)).bind fun bt152 => ((incr_Decoder_Feed.f k bt152.2.2.1 bt152.2.2.2 (⟨#[]⟩ : ByteArray)).bind fun bt158 => (if (bt137.1.length : Int) = 0 then ((halberdlaw0_Num.f bt137.2.1).bind fun t164 => (if t164 = 0 then ((halberdlaw0_SameTexts.f k bt143.1 (([(⟨#[20, 0, 0, 2, 97, 98]⟩ : ByteArray)] : List ByteArray))).bind fun t168 => (if t168 = true then ((halberdlaw0_Num.f bt143.2.1).bind fun t169 => (if t169 = 0 then (if bt149.1 = 1 then ((halberdlaw0_Num.f bt152.2.1).bind fun t170 => (if t170 = 1800 then ((halberdlaw0_Num.f bt158.2.1).bind fun t171 => (some (t171 == 1800))) else (some false))) else (some false)) else (some false))) else (some false))) else (some false))) else (some false))))))) = some r := H
  have A1 := Aside0.mk A10
  clear A10
  replace H := Option.bind_eq_some_iff.mp H
  obtain ⟨⟨t137, t140, t141, t142⟩, A20, H⟩ := H
  replace H : ((incr_Decoder_Feed.f k t141 t142 (⟨#[2, 97, 98, 24]⟩ : ByteArray)).bind fun bt143 => ((incr_Decoder_Held.f bt143.2.2.1 bt143.2.2.2).bind fun bt149 => ((incr_Decoder_Feed.f k bt149.2.1 bt149.2.2 (⟨#[1, 0, 0]⟩ : ByteArray)).bind fun bt152 => ((incr_Decoder_Feed.f k bt152.2.2.1 bt152.2.2.2 (⟨#[]⟩ : ByteArray)).bind fun bt158 => (if (t137.length : Int) = 0 then ((halberdlaw0_Num.f t140).bind fun t164 => (if t164 = 0 then ((halberdlaw0_SameTexts.f k bt143.1 (([(⟨#[20, 0, 0, 2, 97, 98]⟩ : ByteArray)] : List ByteArray))).bind fun t168 => (if t168 = true then ((halberdlaw0_Num.f bt143.2.1).bind fun t169 => (if t169 = 0 then (if bt149.1 = 1 then ((halberdlaw0_Num.f bt152.2.1).bind fun t170 => (if t170 = 1800 then ((halberdlaw0_Num.f bt158.2.1).bind fun t171 => (some (t171 == 1800))) else (some false))) else (some false)) else (some false))) else (some false))) else (some false))) else (some false)))))) = some r := H
  have A2 := Aside0.mk A20
  clear A20
  replace H := Option.bind_eq_some_iff.mp H
  obtain ⟨⟨t143, t146, t147, t148⟩, A30, H⟩ := H
  replace H : ((incr_Decoder_Held.f t147 t148).bind fun bt149 => ((incr_Decoder_Feed.f k bt149.2.1 bt149.2.2 (⟨#[1, 0, 0]⟩ : ByteArray)).bind fun bt152 => ((incr_Decoder_Feed.f k bt152.2.2.1 bt152.2.2.2 (⟨#[]⟩ : ByteArray)).bind fun bt158 => (if (t137.length : Int) = 0 then ((halberdlaw0_Num.f t140).bind fun t164 => (if t164 = 0 then ((halberdlaw0_SameTexts.f k t143 (([(⟨#[20, 0, 0, 2, 97, 98]⟩ : ByteArray)] : List ByteArray))).bind fun t168 => (if t168 = true then ((halberdlaw0_Num.f t146).bind fun t169 => (if t169 = 0 then (if bt149.1 = 1 then ((halberdlaw0_Num.f bt152.2.1).bind fun t170 => (if t170 = 1800 then ((halberdlaw0_Num.f bt158.2.1).bind fun t171 => (some (t171 == 1800))) else (some false))) else (some false)) else (some false))) else (some false))) else (some false))) else (some false))))) = some r := H
  have A3 := Aside0.mk A30
  clear A30
  replace H := Option.bind_eq_some_iff.mp H
  obtain ⟨⟨t149, t150, t151⟩, A40, H⟩ := H
  replace H : ((incr_Decoder_Feed.f k t150 t151 (⟨#[1, 0, 0]⟩ : ByteArray)).bind fun bt152 => ((incr_Decoder_Feed.f k bt152.2.2.1 bt152.2.2.2 (⟨#[]⟩ : ByteArray)).bind fun bt158 => (if (t137.length : Int) = 0 then ((halberdlaw0_Num.f t140).bind fun t164 => (if t164 = 0 then ((halberdlaw0_SameTexts.f k t143 (([(⟨#[20, 0, 0, 2, 97, 98]⟩ : ByteArray)] : List ByteArray))).bind fun t168 => (if t168 = true then ((halberdlaw0_Num.f t146).bind fun t169 => (if t169 = 0 then (if t149 = 1 then ((halberdlaw0_Num.f bt152.2.1).bind fun t170 => (if t170 = 1800 then ((halberdlaw0_Num.f bt158.2.1).bind fun t171 => (some (t171 == 1800))) else (some false))) else (some false)) else (some false))) else (some false))) else (some false))) else (some false)))) = some r := H
  have A4 := Aside0.mk A40
  clear A40
  replace H := Option.bind_eq_some_iff.mp H
  obtain ⟨⟨t152, t155, t156, t157⟩, A50, H⟩ := H
  replace H : ((incr_Decoder_Feed.f k t156 t157 (⟨#[]⟩ : ByteArray)).bind fun bt158 => (if (t137.length : Int) = 0 then ((halberdlaw0_Num.f t140).bind fun t164 => (if t164 = 0 then ((halberdlaw0_SameTexts.f k t143 (([(⟨#[20, 0, 0, 2, 97, 98]⟩ : ByteArray)] : List ByteArray))).bind fun t168 => (if t168 = true then ((halberdlaw0_Num.f t146).bind fun t169 => (if t169 = 0 then (if t149 = 1 then ((halberdlaw0_Num.f t155).bind fun t170 => (if t170 = 1800 then ((halberdlaw0_Num.f bt158.2.1).bind fun t171 => (some (t171 == 1800))) else (some false))) else (some false)) else (some false))) else (some false))) else (some false))) else (some false))) = some r := H
  have A5 := Aside0.mk A50
  clear A50
  replace H := Option.bind_eq_some_iff.mp H
  obtain ⟨⟨t158, t161, t162, t163⟩, A60, H⟩ := H
  replace H : (if (t137.length : Int) = 0 then ((halberdlaw0_Num.f t140).bind fun t164 => (if t164 = 0 then ((halberdlaw0_SameTexts.f k t143 (([(⟨#[20, 0, 0, 2, 97, 98]⟩ : ByteArray)] : List ByteArray))).bind fun t168 => (if t168 = true then ((halberdlaw0_Num.f t146).bind fun t169 => (if t169 = 0 then (if t149 = 1 then ((halberdlaw0_Num.f t155).bind fun t170 => (if t170 = 1800 then ((halberdlaw0_Num.f t161).bind fun t171 => (some (t171 == 1800))) else (some false))) else (some false)) else (some false))) else (some false))) else (some false))) else (some false)) = some r := H
  have A6 := Aside0.mk A60
  clear A60
  by_cases c7 : (t137.length : Int) = 0
  · rw [if_pos c7] at H
    have c7b0 : ((t137.length : Int) == 0) = true := beq_iff_eq.mpr c7
    have c7b1 : ((t137.length : Int) != 0) = false := bne_eq_false_iff_eq.mpr c7
    clear c7
    replace H := Option.bind_eq_some_iff.mp H
    obtain ⟨t164, A80, H⟩ := H
    replace H : (if t164 = 0 then ((halberdlaw0_SameTexts.f k t143 (([(⟨#[20, 0, 0, 2, 97, 98]⟩ : ByteArray)] : List ByteArray))).bind fun t168 => (if t168 = true then ((halberdlaw0_Num.f t146).bind fun t169 => (if t169 = 0 then (if t149 = 1 then ((halberdlaw0_Num.f t155).bind fun t170 => (if t170 = 1800 then ((halberdlaw0_Num.f t161).bind fun t171 => (some (t171 == 1800))) else (some false))) else (some false)) else (some false))) else (some false))) else (some false)) = some r := H
    have A8 := Aside0.mk A80
    clear A80
    by_cases c9 : t164 = 0
    · rw [if_pos c9] at H
      have c9b0 : (t164 == 0) = true := beq_iff_eq.mpr c9
      have c9b1 : (t164 != 0) = false := bne_eq_false_iff_eq.mpr c9
      clear c9
      obtain ⟨y165, hy165⟩ : ∃ y_ : List ByteArray, y_ = (([(⟨#[20, 0, 0, 2, 97, 98]⟩ : ByteArray)] : List ByteArray)) := ⟨_, rfl⟩
      replace H : ((halberdlaw0_SameTexts.f k t143 y165).bind fun t168 => (if t168 = true then ((halberdlaw0_Num.f t146).bind fun t169 => (if t169 = 0 then (if t149 = 1 then ((halberdlaw0_Num.f t155).bind fun t170 => (if t170 = 1800 then ((halberdlaw0_Num.f t161).bind fun t171 => (some (t171 == 1800))) else (some false))) else (some false)) else (some false))) else (some false))) = some r := by first | (rw [hy165]; with_reducible exact H) | (have H2_ := (Option.bind_some _ _).symm.trans H; rw [hy165]; with_reducible exact H2_) | (have H2_ := (Option.bind_some _ _).symm.trans H; with_reducible exact H2_) | with_reducible exact H | (rw [hy165]; exact H) | exact H
      have Ny165 := Aside0.mk hy165
      clear hy165
      replace H := Option.bind_eq_some_iff.mp H
      obtain ⟨t168, A100, H⟩ := H
      replace H : (if t168 = true then ((halberdlaw0_Num.f t146).bind fun t169 => (if t169 = 0 then (if t149 = 1 then ((halberdlaw0_Num.f t155).bind fun t170 => (if t170 = 1800 then ((halberdlaw0_Num.f t161).bind fun t171 => (some (t171 == 1800))) else (some false))) else (some false)) else (some false))) else (some false)) = some r := H
      have A10 := Aside0.mk A100
      clear A100
      by_cases c11 : t168 = true
      · subst c11
        have H1 : ((halberdlaw0_Num.f t146).bind fun t169 => (if t169 = 0 then (if t149 = 1 then ((halberdlaw0_Num.f t155).bind fun t170 => (if t170 = 1800 then ((halberdlaw0_Num.f t161).bind fun t171 => (some (t171 == 1800))) else (some false))) else (some false)) else (some false))) = some r := by rw [if_pos rfl] at H; exact H
        clear H
        have H := H1
        clear H1
        replace H := Option.bind_eq_some_iff.mp H
        obtain ⟨t169, A120, H⟩ := H
        replace H : (if t169 = 0 then (if t149 = 1 then ((halberdlaw0_Num.f t155).bind fun t170 => (if t170 = 1800 then ((halberdlaw0_Num.f t161).bind fun t171 => (some (t171 == 1800))) else (some false))) else (some false)) else (some false)) = some r := H
        have A12 := Aside0.mk A120
        clear A120
        by_cases c13 : t169 = 0
        · rw [if_pos c13] at H
          have c13b0 : (t169 == 0) = true := beq_iff_eq.mpr c13
          have c13b1 : (t169 != 0) = false := bne_eq_false_iff_eq.mpr c13
          clear c13
          by_cases c14 : t149 = 1
          · rw [if_pos c14] at H
            have c14b0 : (t149 == 1) = true := beq_iff_eq.mpr c14
            have c14b1 : (t149 != 1) = false := bne_eq_false_iff_eq.mpr c14
            clear c14
            replace H := Option.bind_eq_some_iff.mp H
            obtain ⟨t170, A150, H⟩ := H
            replace H : (if t170 = 1800 then ((halberdlaw0_Num.f t161).bind fun t171 => (some (t171 == 1800))) else (some false)) = some r := H
            have A15 := Aside0.mk A150
            clear A150
            by_cases c16 : t170 = 1800
            · rw [if_pos c16] at H
              have c16b0 : (t170 == 1800) = true := beq_iff_eq.mpr c16
              have c16b1 : (t170 != 1800) = false := bne_eq_false_iff_eq.mpr c16
              clear c16
              replace H := Option.bind_eq_some_iff.mp H
              obtain ⟨t171, A170, H⟩ := H
              replace H : (some (t171 == 1800)) = some r := H
              have A17 := Aside0.mk A170
              clear A170
              obtain rfl := Option.some.inj H
              go_enter Try.func32, Try.ntmps32
              go_wp2_with (first | ((with_reducible refine gate_callee (f := 24) rfl ?_); refine goesL_ (some 11) rfl rfl Try.func24 (by kernel_rfl) rfl #[] rfl (by (try simp only [List.map_toArray, List.map_cons, List.map_nil]); first | done | rfl | (simp only [List.length_drop, List.length_take]; rfl)) ?_; (with_reducible refine (incr_New.calls  t134 t135 w _ ?side1 A1.out).mono ?_); (case side1 => repeat (first | (with_reducible first | exact HB.out | apply below_alloc | apply pw_below_drewN | apply below_drew1) | exact HB.out)); rintro e w18 ⟨g136, rfl, hi, hb, hb2⟩; refine ⟨_, rfl, ?_⟩; have n0_ := Aside0.mk (hb); have n1_ := Aside0.mk (hi); clear HB; have HB := n0_; have HI136 := n1_; clear n0_ n1_; (try clear hb); (try clear hb2); (try clear hk); (try clear hi)) | ((with_reducible refine gate_callee (f := 25) rfl ?_); refine goesL_ (some 14) rfl rfl Try.func25 (by kernel_rfl) rfl #[.pointer (some ⟨g136, 0, none⟩), .string (⟨#[20, 0, 0]⟩ : ByteArray)] rfl (by (try simp only [List.map_toArray, List.map_cons, List.map_nil]); first | done | rfl | (simp only [List.length_drop, List.length_take]; rfl)) ?_; (with_reducible refine (incr_Decoder_Feed.calls k g136 t134 t135 (⟨#[20, 0, 0]⟩ : ByteArray) t137 t140 t141 t142 w _ ?side1 ?side2 A2.out).mono ?_); (case side1 => repeat (first | (with_reducible first | exact HI136.out | apply IsS63.alloc | apply IsS63.drewN | apply IsS63.drew | apply IsS63.set_0 | apply IsS63.set_1) | exact HI136.out)); (case side2 => repeat (first | (with_reducible first | exact HB.out | apply below_alloc | apply pw_below_drewN | apply below_drew1 | refine below_set ?_ (IsS63.ge HI136.out)) | exact HB.out)); rintro e w19 ⟨v138, rfl, ho0, hi, hb, hk⟩; refine ⟨_, rfl, ?_⟩; have n0_ := Aside0.mk (Kd.R_lower ho0 (below_size (by repeat (first | (with_reducible first | exact HB.out | apply below_alloc | apply pw_below_drewN | apply below_drew1 | refine below_set ?_ (IsS63.ge HI136.out)) | exact HB.out)))); have n1_ := Aside0.mk (hb); have n2_ := Aside0.mk (hi); clear HB; clear HI136; have HO139 := n0_; have HB := n1_; have HI136 := n2_; clear n0_ n1_ n2_; (try clear hb); (try clear hb2); (try clear hk); (try clear hi); (try clear ho0)) | ((with_reducible refine gate_callee (f := 25) rfl ?_); refine goesL_ (some 19) rfl rfl Try.func25 (by kernel_rfl) rfl #[.pointer (some ⟨g136, 0, none⟩), .string (⟨#[2, 97, 98, 24]⟩ : ByteArray)] rfl (by (try simp only [List.map_toArray, List.map_cons, List.map_nil]); first | done | rfl | (simp only [List.length_drop, List.length_take]; rfl)) ?_; (with_reducible refine (incr_Decoder_Feed.calls k g136 t141 t142 (⟨#[2, 97, 98, 24]⟩ : ByteArray) t143 t146 t147 t148 w _ ?side1 ?side2 A3.out).mono ?_); (case side1 => repeat (first | (with_reducible first | exact HI136.out | apply IsS63.alloc | apply IsS63.drewN | apply IsS63.drew | apply IsS63.set_0 | apply IsS63.set_1) | exact HI136.out)); (case side2 => repeat (first | (with_reducible first | exact HB.out | apply below_alloc | apply pw_below_drewN | apply below_drew1 | refine below_set ?_ (IsS63.ge HI136.out)) | exact HB.out)); rintro e w20 ⟨v144, rfl, ho0, hi, hb, hk⟩; refine ⟨_, rfl, ?_⟩; have n0_ := Aside0.mk (Kd.R_mono (Kd.R_told (Kd.R_oldK (IsS63.apart (show IsS63 w _ g136 t141 t142 from by repeat (first | (with_reducible first | exact HI136.out | apply IsS63.alloc | apply IsS63.drewN | apply IsS63.drew | apply IsS63.set_0 | apply IsS63.set_1) | exact HI136.out)) (by (with_reducible repeat (first | apply Kd.R_alloc | apply Kd.R_drewN | apply Kd.R_drew)); exact HO139.out) (by decide)) hk) (Kd.R_base ho0)) (fun _ h_ => h_.1)); have n1_ := Aside0.mk (Kd.R_lower (Kd.R_new' ho0 (Kd.R_lt (by (with_reducible repeat (first | apply Kd.R_alloc | apply Kd.R_drewN | apply Kd.R_drew)); exact HO139.out))) (below_size (by repeat (first | (with_reducible first | exact HB.out | apply below_alloc | apply pw_below_drewN | apply below_drew1 | refine below_set ?_ (IsS63.ge HI136.out)) | exact HB.out)))); have n2_ := Aside0.mk (hb); have n3_ := Aside0.mk (hi); clear HO139; clear HB; clear HI136; have HO139 := n0_; have HO145 := n1_; have HB := n2_; have HI136 := n3_; clear n0_ n1_ n2_ n3_; (try clear hb); (try clear hb2); (try clear hk); (try clear hi); (try clear ho0)) | ((with_reducible refine gate_callee (f := 29) rfl ?_); refine goesL_ (some 23) rfl rfl Try.func29 (by kernel_rfl) rfl #[.pointer (some ⟨g136, 0, none⟩)] rfl (by (try simp only [List.map_toArray, List.map_cons, List.map_nil]); first | done | rfl | (simp only [List.length_drop, List.length_take]; rfl)) ?_; (with_reducible refine (incr_Decoder_Held.calls g136 t147 t148 t149 t150 t151 w _ ?side1 ?side2 A4.out).mono ?_); (case side1 => repeat (first | (with_reducible first | exact HI136.out | apply IsS63.alloc | apply IsS63.drewN | apply IsS63.drew | apply IsS63.set_0 | apply IsS63.set_1) | exact HI136.out)); (case side2 => repeat (first | (with_reducible first | exact HB.out | apply below_alloc | apply pw_below_drewN | apply below_drew1 | refine below_set ?_ (IsS63.ge HI136.out)) | exact HB.out)); rintro e w21 ⟨rfl, hi, hb, hk⟩; refine ⟨_, rfl, ?_⟩; have n0_ := Aside0.mk (Kd.R_mono (Kd.R_keep (IsS63.apart (show IsS63 w _ g136 t147 t148 from by repeat (first | (with_reducible first | exact HI136.out | apply IsS63.alloc | apply IsS63.drewN | apply IsS63.drew | apply IsS63.set_0 | apply IsS63.set_1) | exact HI136.out)) (by (with_reducible repeat (first | apply Kd.R_alloc | apply Kd.R_drewN | apply Kd.R_drew)); exact HO139.out) (by decide)) hk (fun _ h => h.2)) (fun _ h => h.1)); have n1_ := Aside0.mk (Kd.R_mono (Kd.R_keep (IsS63.apart (show IsS63 w _ g136 t147 t148 from by repeat (first | (with_reducible first | exact HI136.out | apply IsS63.alloc | apply IsS63.drewN | apply IsS63.drew | apply IsS63.set_0 | apply IsS63.set_1) | exact HI136.out)) (by (with_reducible repeat (first | apply Kd.R_alloc | apply Kd.R_drewN | apply Kd.R_drew)); exact HO145.out) (by decide)) hk (fun _ h => h.2)) (fun _ h => h.1)); have n2_ := Aside0.mk (hb); have n3_ := Aside0.mk (hi); clear HO139; clear HO145; clear HB; clear HI136; have HO139 := n0_; have HO145 := n1_; have HB := n2_; have HI136 := n3_; clear n0_ n1_ n2_ n3_; (try clear hb); (try clear hb2); (try clear hk); (try clear hi)) | ((with_reducible refine gate_callee (f := 25) rfl ?_); refine goesL_ (some 26) rfl rfl Try.func25 (by kernel_rfl) rfl #[.pointer (some ⟨g136, 0, none⟩), .string (⟨#[1, 0, 0]⟩ : ByteArray)] rfl (by (try simp only [List.map_toArray, List.map_cons, List.map_nil]); first | done | rfl | (simp only [List.length_drop, List.length_take]; rfl)) ?_; (with_reducible refine (incr_Decoder_Feed.calls k g136 t150 t151 (⟨#[1, 0, 0]⟩ : ByteArray) t152 t155 t156 t157 w _ ?side1 ?side2 A5.out).mono ?_); (case side1 => repeat (first | (with_reducible first | exact HI136.out | apply IsS63.alloc | apply IsS63.drewN | apply IsS63.drew | apply IsS63.set_0 | apply IsS63.set_1) | exact HI136.out)); (case side2 => repeat (first | (with_reducible first | exact HB.out | apply below_alloc | apply pw_below_drewN | apply below_drew1 | refine below_set ?_ (IsS63.ge HI136.out)) | exact HB.out)); rintro e w22 ⟨v153, rfl, ho0, hi, hb, hk⟩; refine ⟨_, rfl, ?_⟩; have n0_ := Aside0.mk (Kd.R_mono (Kd.R_told (Kd.R_oldK (IsS63.apart (show IsS63 w _ g136 t150 t151 from by repeat (first | (with_reducible first | exact HI136.out | apply IsS63.alloc | apply IsS63.drewN | apply IsS63.drew | apply IsS63.set_0 | apply IsS63.set_1) | exact HI136.out)) (by (with_reducible repeat (first | apply Kd.R_alloc | apply Kd.R_drewN | apply Kd.R_drew)); exact HO139.out) (by decide)) hk) (Kd.R_base ho0)) (fun _ h_ => h_.1)); have n1_ := Aside0.mk (Kd.R_mono (Kd.R_told (Kd.R_oldK (IsS63.apart (show IsS63 w _ g136 t150 t151 from by repeat (first | (with_reducible first | exact HI136.out | apply IsS63.alloc | apply IsS63.drewN | apply IsS63.drew | apply IsS63.set_0 | apply IsS63.set_1) | exact HI136.out)) (by (with_reducible repeat (first | apply Kd.R_alloc | apply Kd.R_drewN | apply Kd.R_drew)); exact HO145.out) (by decide)) hk) (Kd.R_base ho0)) (fun _ h_ => h_.1)); have n2_ := Aside0.mk (Kd.R_lower (Kd.R_new' (Kd.R_new' ho0 (Kd.R_lt (by (with_reducible repeat (first | apply Kd.R_alloc | apply Kd.R_drewN | apply Kd.R_drew)); exact HO139.out))) (Kd.R_lt (by (with_reducible repeat (first | apply Kd.R_alloc | apply Kd.R_drewN | apply Kd.R_drew)); exact HO145.out))) (below_size (by repeat (first | (with_reducible first | exact HB.out | apply below_alloc | apply pw_below_drewN | apply below_drew1 | refine below_set ?_ (IsS63.ge HI136.out)) | exact HB.out)))); have n3_ := Aside0.mk (hb); have n4_ := Aside0.mk (hi); clear HO139; clear HO145; clear HB; clear HI136; have HO139 := n0_; have HO145 := n1_; have HO154 := n2_; have HB := n3_; have HI136 := n4_; clear n0_ n1_ n2_ n3_ n4_; (try clear hb); (try clear hb2); (try clear hk); (try clear hi); (try clear ho0)) | ((with_reducible refine gate_callee (f := 25) rfl ?_); refine goesL_ (some 31) rfl rfl Try.func25 (by kernel_rfl) rfl #[.pointer (some ⟨g136, 0, none⟩), .string (⟨#[]⟩ : ByteArray)] rfl (by (try simp only [List.map_toArray, List.map_cons, List.map_nil]); first | done | rfl | (simp only [List.length_drop, List.length_take]; rfl)) ?_; (with_reducible refine (incr_Decoder_Feed.calls k g136 t156 t157 (⟨#[]⟩ : ByteArray) t158 t161 t162 t163 w _ ?side1 ?side2 A6.out).mono ?_); (case side1 => repeat (first | (with_reducible first | exact HI136.out | apply IsS63.alloc | apply IsS63.drewN | apply IsS63.drew | apply IsS63.set_0 | apply IsS63.set_1) | exact HI136.out)); (case side2 => repeat (first | (with_reducible first | exact HB.out | apply below_alloc | apply pw_below_drewN | apply below_drew1 | refine below_set ?_ (IsS63.ge HI136.out)) | exact HB.out)); rintro e w23 ⟨v159, rfl, ho0, hi, hb, hk⟩; refine ⟨_, rfl, ?_⟩; have n0_ := Aside0.mk (Kd.R_mono (Kd.R_told (Kd.R_oldK (IsS63.apart (show IsS63 w _ g136 t156 t157 from by repeat (first | (with_reducible first | exact HI136.out | apply IsS63.alloc | apply IsS63.drewN | apply IsS63.drew | apply IsS63.set_0 | apply IsS63.set_1) | exact HI136.out)) (by (with_reducible repeat (first | apply Kd.R_alloc | apply Kd.R_drewN | apply Kd.R_drew)); exact HO139.out) (by decide)) hk) (Kd.R_base ho0)) (fun _ h_ => h_.1)); have n1_ := Aside0.mk (Kd.R_mono (Kd.R_told (Kd.R_oldK (IsS63.apart (show IsS63 w _ g136 t156 t157 from by repeat (first | (with_reducible first | exact HI136.out | apply IsS63.alloc | apply IsS63.drewN | apply IsS63.drew | apply IsS63.set_0 | apply IsS63.set_1) | exact HI136.out)) (by (with_reducible repeat (first | apply Kd.R_alloc | apply Kd.R_drewN | apply Kd.R_drew)); exact HO145.out) (by decide)) hk) (Kd.R_base ho0)) (fun _ h_ => h_.1)); have n2_ := Aside0.mk (Kd.R_mono (Kd.R_told (Kd.R_oldK (IsS63.apart (show IsS63 w _ g136 t156 t157 from by repeat (first | (with_reducible first | exact HI136.out | apply IsS63.alloc | apply IsS63.drewN | apply IsS63.drew | apply IsS63.set_0 | apply IsS63.set_1) | exact HI136.out)) (by (with_reducible repeat (first | apply Kd.R_alloc | apply Kd.R_drewN | apply Kd.R_drew)); exact HO154.out) (by decide)) hk) (Kd.R_base ho0)) (fun _ h_ => h_.1)); have n3_ := Aside0.mk (Kd.R_lower (Kd.R_new' (Kd.R_new' (Kd.R_new' ho0 (Kd.R_lt (by (with_reducible repeat (first | apply Kd.R_alloc | apply Kd.R_drewN | apply Kd.R_drew)); exact HO139.out))) (Kd.R_lt (by (with_reducible repeat (first | apply Kd.R_alloc | apply Kd.R_drewN | apply Kd.R_drew)); exact HO145.out))) (Kd.R_lt (by (with_reducible repeat (first | apply Kd.R_alloc | apply Kd.R_drewN | apply Kd.R_drew)); exact HO154.out))) (below_size (by repeat (first | (with_reducible first | exact HB.out | apply below_alloc | apply pw_below_drewN | apply below_drew1 | refine below_set ?_ (IsS63.ge HI136.out)) | exact HB.out)))); have n4_ := Aside0.mk (hb); have n5_ := Aside0.mk (hi); clear HO139; clear HO145; clear HO154; clear HB; clear HI136; have HO139 := n0_; have HO145 := n1_; have HO154 := n2_; have HO160 := n3_; have HB := n4_; have HI136 := n5_; clear n0_ n1_ n2_ n3_ n4_ n5_; (try clear hb); (try clear hb2); (try clear hk); (try clear hi); (try clear ho0); obtain ⟨Ao24, co24, eo24⟩ := Kd.R_slice HO139.out; subst eo24) | (go_at_call 28; (with_reducible refine (halberdlaw0_Num.calls t140 t164 _ A8.out).mono ?_); rintro e w' ⟨rfl, ⟨nd, rfl⟩⟩) | ((with_reducible refine gate_dst (N := 44) rfl ?_); (try (refine gate_guard (by rfl) ?_; dsimp only)); refine Kd.R_lit Kd.string _ 9 ?hg (N := 44) ?hd (xs := ([(⟨#[20, 0, 0, 2, 97, 98]⟩ : ByteArray)] : List ByteArray)) (inner := [.string (⟨#[20, 0, 0, 2, 97, 98]⟩ : ByteArray)]) (ok := fun _ => True) (okp := fun _ => True) ?hr ?hp (fun _ hk => hk) trivial (Below.refl _ _) (Nat.le_refl _) (by simp) ?_; (case hd => rfl); (case hg => rfl); (case hr => first | (go_simp; done) | (go_simp; rfl)); (case hp => exact (Reps.one (show Kd.M Kd.string _ _ _ (⟨#[20, 0, 0, 2, 97, 98]⟩ : ByteArray) [.string (⟨#[20, 0, 0, 2, 97, 98]⟩ : ByteArray)] from rfl) (Reps.none _ _))); intro v166 w25 ho26 hb hg_ hnew_; clear hg_ hnew_; (first | rw [← Ny165.out] at ho26 | (simp only [Int.reduceToNat] at ho26; rw [← Ny165.out] at ho26)); have n0_ := Aside0.mk (Kd.R_elder' (by (with_reducible repeat (first | apply Kd.R_alloc | apply Kd.R_drewN | apply Kd.R_drew)); exact HO139.out) (Kd.R_base ho26) hb); have n1_ := Aside0.mk (Kd.R_elder' (by (with_reducible repeat (first | apply Kd.R_alloc | apply Kd.R_drewN | apply Kd.R_drew)); exact HO145.out) (Kd.R_base ho26) hb); have n2_ := Aside0.mk (Kd.R_elder' (by (with_reducible repeat (first | apply Kd.R_alloc | apply Kd.R_drewN | apply Kd.R_drew)); exact HO154.out) (Kd.R_base ho26) hb); have n3_ := Aside0.mk (Kd.R_elder' (by (with_reducible repeat (first | apply Kd.R_alloc | apply Kd.R_drewN | apply Kd.R_drew)); exact HO160.out) (Kd.R_base ho26) hb); have n4_ := Aside0.mk (Kd.R_lower (Kd.R_new' (Kd.R_new' (Kd.R_new' (Kd.R_new' ho26 (Kd.R_lt (by (with_reducible repeat (first | apply Kd.R_alloc | apply Kd.R_drewN | apply Kd.R_drew)); exact HO139.out))) (Kd.R_lt (by (with_reducible repeat (first | apply Kd.R_alloc | apply Kd.R_drewN | apply Kd.R_drew)); exact HO145.out))) (Kd.R_lt (by (with_reducible repeat (first | apply Kd.R_alloc | apply Kd.R_drewN | apply Kd.R_drew)); exact HO154.out))) (Kd.R_lt (by (with_reducible repeat (first | apply Kd.R_alloc | apply Kd.R_drewN | apply Kd.R_drew)); exact HO160.out))) (below_size (by repeat (first | (with_reducible first | exact HB.out | apply below_alloc | apply pw_below_drewN | apply below_drew1 | refine below_set ?_ (IsS63.ge HI136.out)) | exact HB.out)))); have n5_ := Aside0.mk (IsS63.below (by repeat (first | (with_reducible first | exact HI136.out | apply IsS63.alloc | apply IsS63.drewN | apply IsS63.drew | apply IsS63.set_0 | apply IsS63.set_1) | exact HI136.out)) hb); have n6_ := Aside0.mk (below_step (by repeat (first | (with_reducible first | exact HB.out | apply below_alloc | apply pw_below_drewN | apply below_drew1 | refine below_set ?_ (IsS63.ge HI136.out)) | exact HB.out)) hb); clear HO139; clear HO145; clear HO154; clear HO160; clear HI136; clear HB; have HO139 := n0_; have HO145 := n1_; have HO154 := n2_; have HO160 := n3_; have HO167 := n4_; have HI136 := n5_; have HB := n6_; clear n0_ n1_ n2_ n3_ n4_ n5_ n6_; clear hb ho26; obtain ⟨Ao27, co27, eo27⟩ := Kd.R_slice HO145.out; subst eo27; obtain ⟨Ao28, co28, eo28⟩ := Kd.R_slice HO167.out; subst eo28) | (go_at_call 27; (with_reducible refine (halberdlaw0_SameTexts.calls k _ _ t143 _ _ y165 true _ ?side1 ?side2 ?side3 ?side4 A10.out).mono ?_); (case side1 => repeat (first | exact (Kd.R_reads' HO145.out).2.2 | (with_reducible refine Kd.C_alloc ?_ _) | (with_reducible refine Kd.C_drewN ?_ _) | (with_reducible refine Kd.C_drew ?_))); (case side2 => exact (Kd.R_reads' HO145.out).2.1); (case side3 => repeat (first | exact (Kd.R_reads' HO167.out).2.2 | (with_reducible refine Kd.C_alloc ?_ _) | (with_reducible refine Kd.C_drewN ?_ _) | (with_reducible refine Kd.C_drew ?_))); (case side4 => exact (Kd.R_reads' HO167.out).2.1); rintro e w' ⟨rfl, ⟨nd, rfl⟩⟩) | (go_at_call 28; (with_reducible refine (halberdlaw0_Num.calls t146 t169 _ A12.out).mono ?_); rintro e w' ⟨rfl, ⟨nd, rfl⟩⟩) | (go_at_call 28; (with_reducible refine (halberdlaw0_Num.calls t155 t170 _ A15.out).mono ?_); rintro e w' ⟨rfl, ⟨nd, rfl⟩⟩) | (go_at_call 28; (with_reducible refine (halberdlaw0_Num.calls t161 t171 _ A17.out).mono ?_); rintro e w' ⟨rfl, ⟨nd, rfl⟩⟩))
              go_ret
              exact ⟨by first | rfl | (simp [errW_none, errW_some] <;> rfl) | (simp [*, errW_none, errW_some] <;> rfl), by repeat (first | (with_reducible first | exact HB.out | apply below_alloc | apply pw_below_drewN | apply below_drew1 | refine below_set ?_ (IsS63.ge HI136.out)) | exact HB.out)⟩
            · rw [if_neg c16] at H
              have c16b0 : (t170 == 1800) = false := beq_eq_false_iff_ne.mpr c16
              have c16b1 : (t170 != 1800) = true := bne_iff_ne.mpr c16
              exact absurd ((Option.some.inj H).trans hr.out) (by decide)
          · rw [if_neg c14] at H
            have c14b0 : (t149 == 1) = false := beq_eq_false_iff_ne.mpr c14
            have c14b1 : (t149 != 1) = true := bne_iff_ne.mpr c14
            exact absurd ((Option.some.inj H).trans hr.out) (by decide)
        · rw [if_neg c13] at H
          have c13b0 : (t169 == 0) = false := beq_eq_false_iff_ne.mpr c13
          have c13b1 : (t169 != 0) = true := bne_iff_ne.mpr c13
          exact absurd ((Option.some.inj H).trans hr.out) (by decide)
      · replace c11 := Bool.eq_false_iff.mpr c11
        subst c11
        have H1 : (some false) = some r := by rw [if_neg (show ¬ (false = true) by decide)] at H; exact H
        clear H
        have H := H1
        clear H1
        exact absurd ((Option.some.inj H).trans hr.out) (by decide)
    · rw [if_neg c9] at H
      have c9b0 : (t164 == 0) = false := beq_eq_false_iff_ne.mpr c9
      have c9b1 : (t164 != 0) = true := bne_iff_ne.mpr c9
      exact absurd ((Option.some.inj H).trans hr.out) (by decide)
  · rw [if_neg c7] at H
    have c7b0 : ((t137.length : Int) == 0) = false := beq_eq_false_iff_ne.mpr c7
    have c7b1 : ((t137.length : Int) != 0) = true := bne_iff_ne.mpr c7
    have c7b2 : ¬ (t137 = []) := fun h_ => c7 (by rw [h_]; rfl)
    exact absurd ((Option.some.inj H).trans hr.out) (by decide)

/-! ### halberdlaw18_awake: function 32, closed -/
def halberdlaw18_awake.f : Option (Bool) := some true
theorem halberdlaw18_awake.knows : halberdlaw18_awake0.f 40 = some true := by decide +kernel
theorem halberdlaw18_awake.calls (r : Bool) (w : World) (h : halberdlaw18_awake.f = some r) : Calls Try.prog 32 #[] w fun e w' => e = .returned (.bool r) ∧ Below w.heap.size w w' := by
  obtain rfl := Option.some.inj h
  exact halberdlaw18_awake0.calls 40  true w halberdlaw18_awake.knows ⟨rfl⟩

end Go.Proofs.Ytggnmnpmhknjgaa.Y
