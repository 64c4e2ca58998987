-- Written by a program of this session (wip/tools/xprint.py), over the kit's printer.
import Derived.Test.YtocckplgjbhlbaaTx0
import Derived.Test.YtocckplgjbhlbaaTx1
import Derived.Test.YtocckplgjbhlbaaTx2
namespace Go.Proofs.Ytocckplgjbhlbaa.T
open Go.RowKit Go.Proofs.YtocckplgjbhlbaaW.PrintWords Go.Proofs.YtocckplgjbhlbaaW.PrintLast Go.Proofs.YtocckplgjbhlbaaW.PrintMore
attribute [local go_sem] max2_int min2_int max_two min_two max_three min_three max_four min_four   -- for this text's walks alone
set_option linter.unusedVariables false
set_option linter.unusedSimpArgs false

/-! ### halberdlaw7_PolyEnds: function 8 -/
mutual
def halberdlaw7_PolyEnds.l0 : Nat → ByteArray → Int → Int → List Int → Int → Option (Bool)
  | 0, _, _, _, _, _ => none
  | k + 1, x0, x1, x2, x7, x8 => if x8 < 32 then (if 0 ≤ x8 then (if x8 < (x7.length : Int) then ((some (x7.set (x8 : Int).toNat 255 : List Int)).bind fun y159 => (if x8 < (x0.size : Int) then (halberdlaw7_PolyEnds.l0 k x0 x1 x2 (y159.set (x8 : Int).toNat (bt x0 x8)) (wrap64 (x8 + 1))) else (halberdlaw7_PolyEnds.l0 k x0 x1 x2 y159 (wrap64 (x8 + 1))))) else (none)) else (none)) else (if 0 ≤ (Go.bits .and .i64 x1 127) then (if (Go.bits .and .i64 x1 127 : Int).toNat ≤ 281474976710656 then (halberdlaw7_PolyEnds.l1 k x2 x7 (Go.bits .and .i64 x1 127) (List.replicate (Go.bits .and .i64 x1 127 : Int).toNat 0) 0) else (none)) else (none))
def halberdlaw7_PolyEnds.l1 : Nat → Int → List Int → Int → List Int → Int → Option (Bool)
  | 0, _, _, _, _, _ => none
  | k + 1, x2, x7, x9, x10, x11 => if x11 < x9 then (if 0 ≤ x11 then (if x11 < (x10.length : Int) then (halberdlaw7_PolyEnds.l1 k x2 x7 x9 (x10.set (x11 : Int).toNat 255) (wrap64 (x11 + 1))) else (none)) else (none)) else (if x9 > 0 then (if 0 ≤ (wrap64 (x9 - 1)) then (if (wrap64 (x9 - 1)) < (x10.length : Int) then (if 0 < (x10.length : Int) then ((some ((x10.set ((wrap64 (x9 - 1)) : Int).toNat ((x2) % 256)).set (0 : Int).toNat ((wrap64 (251 + (Go.bits .and .i64 (x2 / 256) 7))) % 256) : List Int)).bind fun y166 => ((poly_Mac.f (strOfNums x7) (strOfNums y166)).bind fun bt167 => ((halberdref4_Poly.f (strOfNums x7) (strOfNums y166)).bind fun bt169 => (if bt167.1.toList = bt169.1.toList then ((halberdlaw0_Num.f bt167.2).bind fun t171 => (if t171 = 0 then (if bt169.2 = 0 then (some ((bt167.1.size : Int) == 16)) else (some false)) else (some false))) else (some false))))) else (none)) else (none)) else (none)) else ((poly_Mac.f (strOfNums x7) (strOfNums x10)).bind fun bt172 => ((halberdref4_Poly.f (strOfNums x7) (strOfNums x10)).bind fun bt174 => (if bt172.1.toList = bt174.1.toList then ((halberdlaw0_Num.f bt172.2).bind fun t176 => (if t176 = 0 then (if bt174.2 = 0 then (some ((bt172.1.size : Int) == 16)) else (some false)) else (some false))) else (some false)))))
end
def halberdlaw7_PolyEnds.f (k : Nat) (a0 : ByteArray) (a1 : Int) (a2 : Int) : Option (Bool) := (halberdlaw7_awake.f).bind fun t155 => (if t155 = true then (if 32 ≤ 281474976710656 then (halberdlaw7_PolyEnds.l0 k a0 a1 a2 (List.replicate 32 0) 0) else (none)) else (some false))
theorem halberdlaw7_PolyEnds.mono_l : ∀ k, (∀ y0 y1 y2 y3 y4, LeO (halberdlaw7_PolyEnds.l0 k y0 y1 y2 y3 y4) (halberdlaw7_PolyEnds.l0 (k + 1) y0 y1 y2 y3 y4)) ∧ (∀ y0 y1 y2 y3 y4, LeO (halberdlaw7_PolyEnds.l1 k y0 y1 y2 y3 y4) (halberdlaw7_PolyEnds.l1 (k + 1) y0 y1 y2 y3 y4))
  | 0 => ⟨fun _ _ _ _ _ r h => by simp [halberdlaw7_PolyEnds.l0] at h, fun _ _ _ _ _ r h => by simp [halberdlaw7_PolyEnds.l1] at h⟩
  | k + 1 => by
    obtain ⟨ih0, ih1⟩ := halberdlaw7_PolyEnds.mono_l k
    refine ⟨?_, ?_⟩
    · intro y0 y1 y2 y3 y4
      unfold halberdlaw7_PolyEnds.l0
      repeat' first
      | (with_reducible exact ih0 _ _ _ _ _)
      | (with_reducible exact ih1 _ _ _ _ _)
      | (with_reducible exact LeO.refl _)
      | (with_reducible exact LeO.none _)
      | (with_reducible refine LeO.ite ?_ ?_)
      | (with_reducible refine LeO.bind ?_ (fun _ => ?_))
      | exact ih0 _ _ _ _ _
      | exact ih1 _ _ _ _ _
      | exact LeO.none _
      | refine LeO.ite ?_ ?_
      | refine LeO.bind ?_ (fun _ => ?_)
    · intro y0 y1 y2 y3 y4
      unfold halberdlaw7_PolyEnds.l1
      repeat' first
      | (with_reducible exact ih0 _ _ _ _ _)
      | (with_reducible exact ih1 _ _ _ _ _)
      | (with_reducible exact LeO.refl _)
      | (with_reducible exact LeO.none _)
      | (with_reducible refine LeO.ite ?_ ?_)
      | (with_reducible refine LeO.bind ?_ (fun _ => ?_))
      | exact ih0 _ _ _ _ _
      | exact ih1 _ _ _ _ _
      | exact LeO.none _
      | refine LeO.ite ?_ ?_
      | refine LeO.bind ?_ (fun _ => ?_)
theorem halberdlaw7_PolyEnds.mono : ∀ a0 a1 a2 k, LeO (halberdlaw7_PolyEnds.f k a0 a1 a2) (halberdlaw7_PolyEnds.f (k + 1) a0 a1 a2) := by
  intro a0 a1 a2 k
  obtain ⟨ih0, ih1⟩ := halberdlaw7_PolyEnds.mono_l k
  unfold halberdlaw7_PolyEnds.f
  repeat' first
      | (with_reducible exact ih0 _ _ _ _ _)
      | (with_reducible exact ih1 _ _ _ _ _)
      | (with_reducible exact LeO.refl _)
      | (with_reducible exact LeO.none _)
      | (with_reducible refine LeO.ite ?_ ?_)
      | (with_reducible refine LeO.bind ?_ (fun _ => ?_))
      | exact ih0 _ _ _ _ _
      | exact ih1 _ _ _ _ _
      | exact LeO.none _
      | refine LeO.ite ?_ ?_
      | refine LeO.bind ?_ (fun _ => ?_)
set_option maxHeartbeats 8000000 in
set_option maxRecDepth 100000 in
theorem halberdlaw7_PolyEnds.calls (k : Nat) (a0 : ByteArray) (a1 : Int) (a2 : Int) (r : Bool) (w : World) (h : halberdlaw7_PolyEnds.f k a0 a1 a2 = some r) (hr : Aside0 (r = true)) :
    Calls Try.prog 8 #[.string a0, .int .i64 a1, .int .i64 a2] w fun e w' => e = .returned (.bool r) ∧ Below w.heap.size w w' := by
  have HB := Aside0.mk (Below.refl w.heap.size w)
  have H : ((halberdlaw7_awake.f).bind fun t155 => (if t155 = true then (if 32 ≤ 281474976710656 then (halberdlaw7_PolyEnds.l0 k a0 a1 a2 (List.replicate 32 0) 0) else (none)) else (some false))) = some r := h
  clear h
  replace H := Option.bind_eq_some_iff.mp H
  obtain ⟨t155, A40, H⟩ := H
  replace H : (if t155 = true then (if 32 ≤ 281474976710656 then (halberdlaw7_PolyEnds.l0 k a0 a1 a2 (List.replicate 32 0) 0) else (none)) else (some false)) = some r := H
  have A4 := Aside0.mk A40
  clear A40
  by_cases c5 : t155 = true
  · subst c5
    have H1 : (if 32 ≤ 281474976710656 then (halberdlaw7_PolyEnds.l0 k a0 a1 a2 (List.replicate 32 0) 0) else (none)) = some r := by rw [if_pos rfl] at H; exact H
    clear H
    have H := H1
    clear H1
    by_cases c6 : 32 ≤ 281474976710656
    · rw [if_pos c6] at H
      have c6b0 := eq_true c6
      have c6b1 : decide (32 ≤ 281474976710656) = true := decide_eq_true c6
      clear c6
      obtain ⟨y156, hy156⟩ : ∃ y_ : List Int, y_ = (List.replicate 32 0) := ⟨_, rfl⟩
      replace H : (halberdlaw7_PolyEnds.l0 k a0 a1 a2 y156 0) = some r := by first | (rw [hy156]; with_reducible exact H) | (have H2_ := (Option.bind_some _ _).symm.trans H; rw [hy156]; with_reducible exact H2_) | (have H2_ := (Option.bind_some _ _).symm.trans H; with_reducible exact H2_) | with_reducible exact H | (rw [hy156]; exact H) | exact H
      have Ny156 := Aside0.mk hy156
      clear hy156
      have H' := Aside0.mk H
      clear H
      go_enter Try.func8, Try.ntmps8
      go_wp2_with (first | ((with_reducible refine gate_callee (f := 24) rfl ?_); refine goesL_ (some 16) rfl rfl Try.func24 (by kernel_rfl) rfl #[] rfl (by (try simp only [List.map_toArray, List.map_cons, List.map_nil]); first | done | rfl | (simp only [List.length_drop, List.length_take]; rfl)) ?_; (with_reducible refine (halberdlaw7_awake.calls  true _ A4.out).mono ?_); rintro e w7 ⟨rfl, hb⟩; refine ⟨_, rfl, ?_⟩; have n0_ := Aside0.mk (below_step (by repeat (first | (with_reducible first | exact HB.out | apply below_alloc | apply pw_below_drewN | apply below_drew1) | exact HB.out)) hb); clear HB; have HB := n0_; clear n0_; (try clear hb); (try clear hb2); (try clear hk); (try clear hi)) | ((with_reducible refine gate_dst (N := 18) rfl ?_); (try (refine gate_guard (by rfl) ?_; dsimp only)); refine Kd.R_make (Kd.int .u8) _ 5 rfl (N := 18) rfl 32 _ _ rfl 32 rfl rfl Try.underlying32 (.int .u8 0) 1 info5 rfl (by decide) (by omega) 0 (ok := fun _ => True) (okp := fun _ => True) rfl (fun _ hk => hk) trivial (by omega) (by omega) (Below.refl _ _) (Nat.le_refl _) ?_; intro v157 w8 ho9 hb hg_ hnew_; clear hg_ hnew_; (first | rw [← Ny156.out] at ho9 | (simp only [Int.reduceToNat] at ho9; rw [← Ny156.out] at ho9)); have n0_ := Aside0.mk (Kd.R_lower ho9 (below_size (by repeat (first | (with_reducible first | exact HB.out | apply below_alloc | apply pw_below_drewN | apply below_drew1) | exact HB.out)))); have n1_ := Aside0.mk (below_step (by repeat (first | (with_reducible first | exact HB.out | apply below_alloc | apply pw_below_drewN | apply below_drew1) | exact HB.out)) hb); clear HB; have HO158 := n0_; have HB := n1_; clear n0_ n1_; clear hb ho9))
      go_loopg [8] k (fun kq v8 w' => ∃ (x7_1 : List Int) (x8_1 : Int), v8 = .int .i64 x8_1 ∧ Aside0 (halberdlaw7_PolyEnds.l0 kq a0 a1 a2 x7_1 x8_1 = some r) ∧ Aside0 (kq ≤ k) ∧ Aside0 (Kd.R (Kd.int .u8) 5 w' w.heap.size (fun _ => True) v157 x7_1) ∧ Aside0 (Below w.heap.size w w'))
      case atStart => exact ⟨(y156), (0), (by first | rfl | (simp; done) | (simp [*]; done)), H', ⟨Nat.le_refl _⟩, ⟨by (with_reducible repeat (first | apply Kd.R_alloc | apply Kd.R_drewN | apply Kd.R_drew)); exact HO158.out⟩, ⟨by repeat (first | (with_reducible first | exact HB.out | apply below_alloc | apply pw_below_drewN | apply below_drew1) | exact HB.out)⟩⟩
      case round =>
        clear H'
        try clear c2
        try clear p2
        try clear c5
        try clear c6
        try clear c6b0
        try clear c6b1
        try clear c8
        obtain ⟨x7_1, x8_1, rfl, HA, HK1, HO_7, HB⟩ := hrel
        cases gk with
        | zero => exact absurd HA.out (by simp [halberdlaw7_PolyEnds.l0])
        | succ k1 =>
          have H := HA.out
          clear HA
          simp only [halberdlaw7_PolyEnds.l0] at H
          by_cases c10 : x8_1 < 32
          · rw [if_pos c10] at H
            have c10b0 : decide (x8_1 < 32) = true := decide_eq_true c10
            clear c10
            by_cases c11 : 0 ≤ x8_1
            · rw [if_pos c11] at H
              have c11b0 : decide (0 ≤ x8_1) = true := decide_eq_true c11
              clear c11
              by_cases c12 : x8_1 < (x7_1.length : Int)
              · rw [if_pos c12] at H
                have c12b0 : decide (x8_1 < (x7_1.length : Int)) = true := decide_eq_true c12
                clear c12
                obtain ⟨y159, hy159⟩ : ∃ y_ : List Int, y_ = (x7_1.set (x8_1 : Int).toNat 255) := ⟨_, rfl⟩
                replace H : (if x8_1 < (a0.size : Int) then (halberdlaw7_PolyEnds.l0 k1 a0 a1 a2 (y159.set (x8_1 : Int).toNat (bt a0 x8_1)) (wrap64 (x8_1 + 1))) else (halberdlaw7_PolyEnds.l0 k1 a0 a1 a2 y159 (wrap64 (x8_1 + 1)))) = some r := by first | (rw [hy159]; with_reducible exact H) | (have H2_ := (Option.bind_some _ _).symm.trans H; rw [hy159]; with_reducible exact H2_) | (have H2_ := (Option.bind_some _ _).symm.trans H; with_reducible exact H2_) | with_reducible exact H | (rw [hy159]; exact H) | exact H
                have Ny159 := Aside0.mk hy159
                clear hy159
                by_cases c14 : x8_1 < (a0.size : Int)
                · rw [if_pos c14] at H
                  have c14b0 : decide (x8_1 < (a0.size : Int)) = true := decide_eq_true c14
                  clear c14
                  obtain ⟨y160, hy160⟩ : ∃ y_ : List Int, y_ = (y159.set (x8_1 : Int).toNat (bt a0 x8_1)) := ⟨_, rfl⟩
                  replace H : (halberdlaw7_PolyEnds.l0 k1 a0 a1 a2 y160 (wrap64 (x8_1 + 1))) = some r := by first | (rw [hy160]; with_reducible exact H) | (have H2_ := (Option.bind_some _ _).symm.trans H; rw [hy160]; with_reducible exact H2_) | (have H2_ := (Option.bind_some _ _).symm.trans H; with_reducible exact H2_) | with_reducible exact H | (rw [hy160]; exact H) | exact H
                  have Ny160 := Aside0.mk hy160
                  clear hy160
                  have H' := Aside0.mk H
                  clear H
                  have p13 : 0 ≤ (x8_1 : Int) := of_decide_eq_true (by first | (with_reducible assumption) | assumption)
                  have q13 : (x8_1 : Int) < ((x7_1.length : Int) : Int) := of_decide_eq_true (by first | (with_reducible assumption) | assumption)
                  obtain ⟨go13, co13, eo13, gb13, gl13, cl13, HG13⟩ := Kd.R_form HO_7.out (by omega)
                  (first | cases eo13 | (injection eo13 with ea_ en_ ec_; (first | subst ea_ | (injection ea_ with ea_; subst ea_)); subst ec_; clear en_))
                  have GB13 := Aside0.mk gb13
                  have GG13 := Aside0.mk HG13
                  clear gb13 gl13 HG13
                  obtain ⟨hx13_0, hf13_0⟩ := Kd.R_celln 0 HO_7.out (x8_1 : Int) p13 q13
                  replace p13 := eq_true p13
                  replace q13 := eq_true q13
                  have HP17 := Kd.R_putg HO_7.out (x8_1 : Int) 255
                  go_wp2_with (first | ((with_reducible refine gate_store (t := 5) (p := 25) rfl ?_); refine store_event (t := 5) (p := 25) (v := ?vo_w18) (w1 := (wr.setCell ⟨go13, (x8_1 : Int).toNat, none⟩ (.int .u8 255))) ?hg ?ho ?hn ?hr ?_; (case ho => rfl); (case hg => rfl); (case hn => rfl); (case hr => first | (go_simp; done) | (go_simp; rfl)); intro w18 hw; have hg : wr.grownBy w18 (some go13) := (by rw [hw]; exact HP17.2); have hp_ : Kd.R (Kd.int .u8) 5 w18 w.heap.size (fun _ => True) (.slice (some ⟨go13, 0, none⟩) x7_1.length co13) y159 := (by rw [hw, Ny159.out]; exact HP17.1); clear HP17; have n0_ := Aside0.mk (hp_); have n1_ := Aside0.mk ((by rw [hw]; exact below_set (HB.out) GB13.out : Below w.heap.size w w18)); clear HO_7; clear HB; have HO_7 := n0_; have HB := n1_; clear n0_ n1_; clear hg hw hp_; have p15 : 0 ≤ (x8_1 : Int) := of_decide_eq_true (by first | (with_reducible assumption) | assumption); have q15 : x8_1 < (a0.size : Int) := of_decide_eq_true (by first | (with_reducible assumption) | assumption); have hx15 := bt_at a0 x8_1; replace p15 := eq_true p15; replace q15 := eq_true q15; have p16 : 0 ≤ (x8_1 : Int) := of_decide_eq_true (by first | (with_reducible assumption) | assumption); have q16 : (x8_1 : Int) < ((x7_1.length : Int) : Int) := of_decide_eq_true (by first | (with_reducible assumption) | assumption); obtain ⟨hx16_0, hf16_0⟩ := Kd.R_celln 0 HO_7.out (x8_1 : Int) p16 q16; replace p16 := eq_true p16; replace q16 := eq_true q16; obtain ⟨hy19_, hz19_⟩ := Kd.R_celln 0 HO_7.out (x8_1 : Int) (of_decide_eq_true (by first | (with_reducible assumption) | assumption)) (of_decide_eq_true (by first | (with_reducible assumption) | assumption)); have HP19 := Kd.R_putg HO_7.out (x8_1 : Int) (bt a0 x8_1)) | ((with_reducible refine gate_store (t := 5) (p := 35) rfl ?_); refine store_event (t := 5) (p := 35) (v := ?vo_w20) (w1 := (w18.setCell ⟨go13, (x8_1 : Int).toNat, none⟩ (.int .u8 (bt a0 x8_1)))) ?hg ?ho ?hn ?hr ?_; (case ho => rfl); (case hg => rfl); (case hn => rfl); (case hr => first | (go_simp; done) | (go_simp; rfl)); intro w20 hw; have hg : w18.grownBy w20 (some go13) := (by rw [hw]; exact HP19.2); have hp_ : Kd.R (Kd.int .u8) 5 w20 w.heap.size (fun _ => True) (.slice (some ⟨go13, 0, none⟩) x7_1.length co13) y160 := (by rw [hw, Ny160.out]; exact HP19.1); clear HP19; have n0_ := Aside0.mk (hp_); have n1_ := Aside0.mk ((by rw [hw]; exact below_set (HB.out) GB13.out : Below w.heap.size w w20)); clear HO_7; clear HB; have HO_7 := n0_; have HB := n1_; clear n0_ n1_; clear hg hw hp_))
                  go_roundg k1
                  case measure => have := HK1.out; omega
                  case rel => exact ⟨(y160), (wrap64 (x8_1 + 1)), (by first | rfl | (simp; done) | (simp [*]; done)), H', ⟨by have := HK1.out; omega⟩, ⟨by (with_reducible repeat (first | apply Kd.R_alloc | apply Kd.R_drewN | apply Kd.R_drew)); exact HO_7.out⟩, ⟨by repeat (first | (with_reducible first | exact HB.out | apply below_alloc | apply pw_below_drewN | apply below_drew1) | exact HB.out)⟩⟩
                · rw [if_neg c14] at H
                  have c14b0 : decide (x8_1 < (a0.size : Int)) = false := decide_eq_false c14
                  clear c14
                  have H' := Aside0.mk H
                  clear H
                  have p13 : 0 ≤ (x8_1 : Int) := of_decide_eq_true (by first | (with_reducible assumption) | assumption)
                  have q13 : (x8_1 : Int) < ((x7_1.length : Int) : Int) := of_decide_eq_true (by first | (with_reducible assumption) | assumption)
                  obtain ⟨go13, co13, eo13, gb13, gl13, cl13, HG13⟩ := Kd.R_form HO_7.out (by omega)
                  (first | cases eo13 | (injection eo13 with ea_ en_ ec_; (first | subst ea_ | (injection ea_ with ea_; subst ea_)); subst ec_; clear en_))
                  have GB13 := Aside0.mk gb13
                  have GG13 := Aside0.mk HG13
                  clear gb13 gl13 HG13
                  obtain ⟨hx13_0, hf13_0⟩ := Kd.R_celln 0 HO_7.out (x8_1 : Int) p13 q13
                  replace p13 := eq_true p13
                  replace q13 := eq_true q13
                  have HP21 := Kd.R_putg HO_7.out (x8_1 : Int) 255
                  go_wp2_with (first | ((with_reducible refine gate_store (t := 5) (p := 25) rfl ?_); refine store_event (t := 5) (p := 25) (v := ?vo_w22) (w1 := (wr.setCell ⟨go13, (x8_1 : Int).toNat, none⟩ (.int .u8 255))) ?hg ?ho ?hn ?hr ?_; (case ho => rfl); (case hg => rfl); (case hn => rfl); (case hr => first | (go_simp; done) | (go_simp; rfl)); intro w22 hw; have hg : wr.grownBy w22 (some go13) := (by rw [hw]; exact HP21.2); have hp_ : Kd.R (Kd.int .u8) 5 w22 w.heap.size (fun _ => True) (.slice (some ⟨go13, 0, none⟩) x7_1.length co13) y159 := (by rw [hw, Ny159.out]; exact HP21.1); clear HP21; have n0_ := Aside0.mk (hp_); have n1_ := Aside0.mk ((by rw [hw]; exact below_set (HB.out) GB13.out : Below w.heap.size w w22)); clear HO_7; clear HB; have HO_7 := n0_; have HB := n1_; clear n0_ n1_; clear hg hw hp_))
                  go_roundg k1
                  case measure => have := HK1.out; omega
                  case rel => exact ⟨(y159), (wrap64 (x8_1 + 1)), (by first | rfl | (simp; done) | (simp [*]; done)), H', ⟨by have := HK1.out; omega⟩, ⟨by (with_reducible repeat (first | apply Kd.R_alloc | apply Kd.R_drewN | apply Kd.R_drew)); exact HO_7.out⟩, ⟨by repeat (first | (with_reducible first | exact HB.out | apply below_alloc | apply pw_below_drewN | apply below_drew1) | exact HB.out)⟩⟩
              · rw [if_neg c12] at H
                exact absurd H (by simp)
            · rw [if_neg c11] at H
              exact absurd H (by simp)
          · rw [if_neg c10] at H
            have c10b0 : decide (x8_1 < 32) = false := decide_eq_false c10
            clear c10
            by_cases c23 : 0 ≤ (Go.bits .and .i64 a1 127)
            · rw [if_pos c23] at H
              have c23b0 := eq_true c23
              have c23b1 : decide (0 ≤ (Go.bits .and .i64 a1 127)) = true := decide_eq_true c23
              clear c23
              by_cases c24 : (Go.bits .and .i64 a1 127 : Int).toNat ≤ 281474976710656
              · rw [if_pos c24] at H
                have c24b0 := eq_true c24
                have c24b1 : decide ((Go.bits .and .i64 a1 127 : Int).toNat ≤ 281474976710656) = true := decide_eq_true c24
                clear c24
                obtain ⟨y161, hy161⟩ : ∃ y_ : List Int, y_ = (List.replicate (Go.bits .and .i64 a1 127 : Int).toNat 0) := ⟨_, rfl⟩
                replace H : (halberdlaw7_PolyEnds.l1 k1 a2 x7_1 (Go.bits .and .i64 a1 127) y161 0) = some r := by first | (rw [hy161]; with_reducible exact H) | (have H2_ := (Option.bind_some _ _).symm.trans H; rw [hy161]; with_reducible exact H2_) | (have H2_ := (Option.bind_some _ _).symm.trans H; with_reducible exact H2_) | with_reducible exact H | (rw [hy161]; exact H) | exact H
                have Ny161 := Aside0.mk hy161
                clear hy161
                have H' := Aside0.mk H
                clear H
                go_wp2_with (first | ((with_reducible refine gate_dst (N := 39) rfl ?_); (try (refine gate_guard (by rfl) ?_; dsimp only)); refine Kd.R_make (Kd.int .u8) _ 5 rfl (N := 39) rfl 32 _ _ rfl (Go.bits .and .i64 a1 127) rfl rfl Try.underlying32 (.int .u8 0) 1 info5 rfl (by decide) (by omega) 0 (ok := fun _ => True) (okp := fun _ => True) rfl (fun _ hk => hk) trivial (of_decide_eq_true (by first | (with_reducible assumption) | assumption)) (Nat.le_trans (Nat.mul_le_mul_right _ (of_decide_eq_true (by first | (with_reducible assumption) | assumption) : (Go.bits .and .i64 a1 127).toNat ≤ 281474976710656)) (by omega)) (Below.refl _ _) (Nat.le_refl _) ?_; intro v162 w25 ho26 hb hg_ hnew_; clear hg_ hnew_; (first | rw [← Ny161.out] at ho26 | (simp only [Int.reduceToNat] at ho26; rw [← Ny161.out] at ho26)); have n0_ := Aside0.mk (Kd.R_elder' (by (with_reducible repeat (first | apply Kd.R_alloc | apply Kd.R_drewN | apply Kd.R_drew)); exact HO_7.out) (Kd.R_base ho26) hb); have n1_ := Aside0.mk (Kd.R_lower (Kd.R_new' ho26 (Kd.R_lt (by (with_reducible repeat (first | apply Kd.R_alloc | apply Kd.R_drewN | apply Kd.R_drew)); exact HO_7.out))) (below_size (by repeat (first | (with_reducible first | exact HB.out | apply below_alloc | apply pw_below_drewN | apply below_drew1) | exact HB.out)))); have n2_ := Aside0.mk (below_step (by repeat (first | (with_reducible first | exact HB.out | apply below_alloc | apply pw_below_drewN | apply below_drew1) | exact HB.out)) hb); clear HO_7; clear HB; have HO_7 := n0_; have HO163 := n1_; have HB := n2_; clear n0_ n1_ n2_; clear hb ho26))
                go_loopg [11] k1 (fun kq v11 w' => ∃ (x10_2 : List Int) (x11_2 : Int), v11 = .int .i64 x11_2 ∧ Aside0 (halberdlaw7_PolyEnds.l1 kq a2 x7_1 (Go.bits .and .i64 a1 127) x10_2 x11_2 = some r) ∧ Aside0 (kq ≤ k1) ∧ Aside0 (Kd.R (Kd.int .u8) 5 w' w.heap.size (fun k_ => some k_ ≠ (v162 : Value).ownBlock) v157 x7_1) ∧ Aside0 (Kd.R (Kd.int .u8) 5 w' w.heap.size (fun k_ => some k_ ≠ (v157 : Value).ownBlock) v162 x10_2) ∧ Aside0 (Below w.heap.size w w'))
                case atStart => exact ⟨(y161), (0), (by first | rfl | (simp; done) | (simp [*]; done)), H', ⟨Nat.le_refl _⟩, ⟨by (with_reducible repeat (first | apply Kd.R_alloc | apply Kd.R_drewN | apply Kd.R_drew)); exact Kd.R_mono HO_7.out (fun _ hk => hk.2)⟩, ⟨by (with_reducible repeat (first | apply Kd.R_alloc | apply Kd.R_drewN | apply Kd.R_drew)); exact Kd.R_mono HO163.out (fun _ hk => hk.2)⟩, ⟨by repeat (first | (with_reducible first | exact HB.out | apply below_alloc | apply pw_below_drewN | apply below_drew1) | exact HB.out)⟩⟩
                case round =>
                  clear H'
                  try clear c1
                  try clear p1
                  try clear q1
                  try clear hx1
                  try clear c2
                  try clear p2
                  try clear c5
                  try clear c6
                  try clear c6b0
                  try clear c6b1
                  try clear p6
                  try clear c8
                  try clear c10
                  try clear c10b0
                  try clear c11
                  try clear c11b0
                  try clear c12
                  try clear c12b0
                  try clear p13
                  try clear q13
                  try clear hx13
                  try clear hf13
                  try clear c14
                  try clear c14b0
                  try clear p15
                  try clear q15
                  try clear hx15
                  try clear p16
                  try clear q16
                  try clear hx16
                  try clear hf16
                  try clear c23
                  try clear c23b0
                  try clear c23b1
                  try clear c24
                  try clear c24b0
                  try clear c24b1
                  try clear hx13_0
                  try clear hx16_0
                  try clear p13
                  try clear p15
                  try clear p16
                  try clear p2
                  try clear q13
                  try clear q15
                  try clear q16
                  obtain ⟨x10_2, x11_2, rfl, HA, HK2, HO_7, HO_10, HB⟩ := hrel
                  cases gk with
                  | zero => exact absurd HA.out (by simp [halberdlaw7_PolyEnds.l1])
                  | succ k2 =>
                    have H := HA.out
                    clear HA
                    simp only [halberdlaw7_PolyEnds.l1] at H
                    by_cases c27 : x11_2 < (Go.bits .and .i64 a1 127)
                    · rw [if_pos c27] at H
                      have c27b0 : decide (x11_2 < (Go.bits .and .i64 a1 127)) = true := decide_eq_true c27
                      clear c27
                      by_cases c28 : 0 ≤ x11_2
                      · rw [if_pos c28] at H
                        have c28b0 : decide (0 ≤ x11_2) = true := decide_eq_true c28
                        clear c28
                        by_cases c29 : x11_2 < (x10_2.length : Int)
                        · rw [if_pos c29] at H
                          have c29b0 : decide (x11_2 < (x10_2.length : Int)) = true := decide_eq_true c29
                          clear c29
                          obtain ⟨y164, hy164⟩ : ∃ y_ : List Int, y_ = (x10_2.set (x11_2 : Int).toNat 255) := ⟨_, rfl⟩
                          replace H : (halberdlaw7_PolyEnds.l1 k2 a2 x7_1 (Go.bits .and .i64 a1 127) y164 (wrap64 (x11_2 + 1))) = some r := by first | (rw [hy164]; with_reducible exact H) | (have H2_ := (Option.bind_some _ _).symm.trans H; rw [hy164]; with_reducible exact H2_) | (have H2_ := (Option.bind_some _ _).symm.trans H; with_reducible exact H2_) | with_reducible exact H | (rw [hy164]; exact H) | exact H
                          have Ny164 := Aside0.mk hy164
                          clear hy164
                          have H' := Aside0.mk H
                          clear H
                          have p30 : 0 ≤ (x11_2 : Int) := of_decide_eq_true (by first | (with_reducible assumption) | assumption)
                          have q30 : (x11_2 : Int) < ((x10_2.length : Int) : Int) := of_decide_eq_true (by first | (with_reducible assumption) | assumption)
                          obtain ⟨go30, co30, eo30, gb30, gl30, cl30, HG30⟩ := Kd.R_form HO_10.out (by omega)
                          (first | cases eo30 | (injection eo30 with ea_ en_ ec_; (first | subst ea_ | (injection ea_ with ea_; subst ea_)); subst ec_; clear en_))
                          have GB30 := Aside0.mk gb30
                          have GG30 := Aside0.mk HG30
                          clear gb30 gl30 HG30
                          obtain ⟨hx30_0, hf30_0⟩ := Kd.R_celln 0 HO_10.out (x11_2 : Int) p30 q30
                          replace p30 := eq_true p30
                          replace q30 := eq_true q30
                          have HP31 := Kd.R_putg HO_10.out (x11_2 : Int) 255
                          go_wp2_with (first | ((with_reducible refine gate_store (t := 5) (p := 47) rfl ?_); refine store_event (t := 5) (p := 47) (v := ?vo_w32) (w1 := (wr.setCell ⟨go30, (x11_2 : Int).toNat, none⟩ (.int .u8 255))) ?hg ?ho ?hn ?hr ?_; (case ho => rfl); (case hg => rfl); (case hn => rfl); (case hr => first | (go_simp; done) | (go_simp; rfl)); intro w32 hw; have hg : wr.grownBy w32 (some go30) := (by rw [hw]; exact HP31.2); have hp_ : Kd.R (Kd.int .u8) 5 w32 w.heap.size (fun k_ => some k_ ≠ (v157 : Value).ownBlock) (.slice (some ⟨go30, 0, none⟩) x10_2.length co30) y164 := (by rw [hw, Ny164.out]; exact HP31.1); clear HP31; have n0_ := Aside0.mk (Kd.R_after (v := (.slice (some ⟨go30, 0, none⟩) x10_2.length co30)) (v1 := (.slice (some ⟨go30, 0, none⟩) x10_2.length co30)) (ok := (fun _ => True)) (by (with_reducible repeat (first | apply Kd.R_alloc | apply Kd.R_drewN | apply Kd.R_drew)); exact Kd.R_mono HO_7.out (fun _ hk => ⟨trivial, hk⟩)) hg (.inl rfl)); have n1_ := Aside0.mk (hp_); have n2_ := Aside0.mk ((by rw [hw]; exact below_set (HB.out) GB30.out : Below w.heap.size w w32)); clear HO_7; clear HO_10; clear HB; have HO_7 := n0_; have HO_10 := n1_; have HB := n2_; clear n0_ n1_ n2_; clear hg hw hp_))
                          go_roundg k2
                          case measure => have := HK1.out; have := HK2.out; omega
                          case rel => exact ⟨(y164), (wrap64 (x11_2 + 1)), (by first | rfl | (simp; done) | (simp [*]; done)), H', ⟨by have := HK1.out; have := HK2.out; omega⟩, ⟨by (with_reducible repeat (first | apply Kd.R_alloc | apply Kd.R_drewN | apply Kd.R_drew)); exact Kd.R_mono HO_7.out (fun _ hk => hk.2)⟩, ⟨by (with_reducible repeat (first | apply Kd.R_alloc | apply Kd.R_drewN | apply Kd.R_drew)); exact HO_10.out⟩, ⟨by repeat (first | (with_reducible first | exact HB.out | apply below_alloc | apply pw_below_drewN | apply below_drew1) | exact HB.out)⟩⟩
                        · rw [if_neg c29] at H
                          exact absurd H (by simp)
                      · rw [if_neg c28] at H
                        exact absurd H (by simp)
                    · rw [if_neg c27] at H
                      have c27b0 : decide (x11_2 < (Go.bits .and .i64 a1 127)) = false := decide_eq_false c27
                      clear c27
                      by_cases c33 : (Go.bits .and .i64 a1 127) > 0
                      · rw [if_pos c33] at H
                        have c33b0 : decide (0 < (Go.bits .and .i64 a1 127)) = true := decide_eq_true c33
                        clear c33
                        obtain ⟨ji34, hji34⟩ : ∃ j_ : Int, (wrap64 ((Go.bits .and .i64 a1 127) - 1)) = j_ := ⟨_, rfl⟩
                        replace H : (if 0 ≤ (ji34) then (if (ji34) < (x10_2.length : Int) then (if 0 < (x10_2.length : Int) then ((some ((x10_2.set ((ji34) : Int).toNat ((a2) % 256)).set (0 : Int).toNat ((wrap64 (251 + (Go.bits .and .i64 (a2 / 256) 7))) % 256) : List Int)).bind fun y166 => ((poly_Mac.f (strOfNums x7_1) (strOfNums y166)).bind fun bt167 => ((halberdref4_Poly.f (strOfNums x7_1) (strOfNums y166)).bind fun bt169 => (if bt167.1.toList = bt169.1.toList then ((halberdlaw0_Num.f bt167.2).bind fun t171 => (if t171 = 0 then (if bt169.2 = 0 then (some ((bt167.1.size : Int) == 16)) else (some false)) else (some false))) else (some false))))) else (none)) else (none)) else (none)) = some r := by first | (rw [hji34] at H; exact H) | (simp only [hji34] at H ⊢; exact H)
                        have hji34w : (IntKind.i64.wrap ((Go.bits .and .i64 a1 127) - 1)) = ji34 := (i64_w _).trans hji34
                        by_cases c35 : 0 ≤ (ji34)
                        · rw [if_pos c35] at H
                          have c35b0 : decide (0 ≤ (ji34)) = true := decide_eq_true c35
                          clear c35
                          by_cases c36 : (ji34) < (x10_2.length : Int)
                          · rw [if_pos c36] at H
                            have c36b0 : decide ((ji34) < (x10_2.length : Int)) = true := decide_eq_true c36
                            clear c36
                            obtain ⟨y165, hy165⟩ : ∃ y_ : List Int, y_ = (x10_2.set ((ji34) : Int).toNat ((a2) % 256)) := ⟨_, rfl⟩
                            replace H : (if 0 < (x10_2.length : Int) then ((some (y165.set (0 : Int).toNat ((wrap64 (251 + (Go.bits .and .i64 (a2 / 256) 7))) % 256) : List Int)).bind fun y166 => ((poly_Mac.f (strOfNums x7_1) (strOfNums y166)).bind fun bt167 => ((halberdref4_Poly.f (strOfNums x7_1) (strOfNums y166)).bind fun bt169 => (if bt167.1.toList = bt169.1.toList then ((halberdlaw0_Num.f bt167.2).bind fun t171 => (if t171 = 0 then (if bt169.2 = 0 then (some ((bt167.1.size : Int) == 16)) else (some false)) else (some false))) else (some false))))) else (none)) = some r := by first | (rw [hy165]; with_reducible exact H) | (have H2_ := (Option.bind_some _ _).symm.trans H; rw [hy165]; with_reducible exact H2_) | (have H2_ := (Option.bind_some _ _).symm.trans H; with_reducible exact H2_) | with_reducible exact H | (rw [hy165]; exact H) | exact H
                            have Ny165 := Aside0.mk hy165
                            clear hy165
                            by_cases c38 : 0 < (x10_2.length : Int)
                            · rw [if_pos c38] at H
                              have c38b0 : decide (0 < (x10_2.length : Int)) = true := decide_eq_true c38
                              have c38b1 : decide (0 < x10_2.length) = true := decide_eq_true (by omega)
                              clear c38
                              obtain ⟨y166, hy166⟩ : ∃ y_ : List Int, y_ = (y165.set (0 : Int).toNat ((wrap64 (251 + (Go.bits .and .i64 (a2 / 256) 7))) % 256)) := ⟨_, rfl⟩
                              replace H : ((poly_Mac.f (strOfNums x7_1) (strOfNums y166)).bind fun bt167 => ((halberdref4_Poly.f (strOfNums x7_1) (strOfNums y166)).bind fun bt169 => (if bt167.1.toList = bt169.1.toList then ((halberdlaw0_Num.f bt167.2).bind fun t171 => (if t171 = 0 then (if bt169.2 = 0 then (some ((bt167.1.size : Int) == 16)) else (some false)) else (some false))) else (some false)))) = some r := by first | (rw [hy166]; with_reducible exact H) | (have H2_ := (Option.bind_some _ _).symm.trans H; rw [hy166]; with_reducible exact H2_) | (have H2_ := (Option.bind_some _ _).symm.trans H; with_reducible exact H2_) | with_reducible exact H | (rw [hy166]; exact H) | exact H
                              have Ny166 := Aside0.mk hy166
                              clear hy166
                              replace H := Option.bind_eq_some_iff.mp H
                              obtain ⟨⟨t167, t168⟩, A400, H⟩ := H
                              replace H : ((halberdref4_Poly.f (strOfNums x7_1) (strOfNums y166)).bind fun bt169 => (if t167.toList = bt169.1.toList then ((halberdlaw0_Num.f t168).bind fun t171 => (if t171 = 0 then (if bt169.2 = 0 then (some ((t167.size : Int) == 16)) else (some false)) else (some false))) else (some false))) = some r := H
                              have A40 := Aside0.mk A400
                              clear A400
                              replace H := Option.bind_eq_some_iff.mp H
                              obtain ⟨⟨t169, t170⟩, A410, H⟩ := H
                              replace H : (if t167.toList = t169.toList then ((halberdlaw0_Num.f t168).bind fun t171 => (if t171 = 0 then (if t170 = 0 then (some ((t167.size : Int) == 16)) else (some false)) else (some false))) else (some false)) = some r := H
                              have A41 := Aside0.mk A410
                              clear A410
                              by_cases c42 : t167.toList = t169.toList
                              · rw [if_pos c42] at H
                                have c42b0 : (t167.toList == t169.toList) = true := beq_iff_eq.mpr c42
                                have c42b1 : (t167.toList != t169.toList) = false := bne_eq_false_iff_eq.mpr c42
                                clear c42
                                replace H := Option.bind_eq_some_iff.mp H
                                obtain ⟨t171, A430, H⟩ := H
                                replace H : (if t171 = 0 then (if t170 = 0 then (some ((t167.size : Int) == 16)) else (some false)) else (some false)) = some r := H
                                have A43 := Aside0.mk A430
                                clear A430
                                by_cases c44 : t171 = 0
                                · rw [if_pos c44] at H
                                  have c44b0 : (t171 == 0) = true := beq_iff_eq.mpr c44
                                  have c44b1 : (t171 != 0) = false := bne_eq_false_iff_eq.mpr c44
                                  clear c44
                                  by_cases c45 : t170 = 0
                                  · rw [if_pos c45] at H
                                    have c45b0 : (t170 == 0) = true := beq_iff_eq.mpr c45
                                    have c45b1 : (t170 != 0) = false := bne_eq_false_iff_eq.mpr c45
                                    clear c45
                                    obtain rfl := Option.some.inj H
                                    have p37 : 0 ≤ ((ji34) : Int) := of_decide_eq_true (by first | (with_reducible assumption) | assumption)
                                    have q37 : ((ji34) : Int) < ((x10_2.length : Int) : Int) := of_decide_eq_true (by first | (with_reducible assumption) | assumption)
                                    obtain ⟨go37, co37, eo37, gb37, gl37, cl37, HG37⟩ := Kd.R_form HO_10.out (by omega)
                                    (first | cases eo37 | (injection eo37 with ea_ en_ ec_; (first | subst ea_ | (injection ea_ with ea_; subst ea_)); subst ec_; clear en_))
                                    have GB37 := Aside0.mk gb37
                                    have GG37 := Aside0.mk HG37
                                    clear gb37 gl37 HG37
                                    obtain ⟨hx37_0, hf37_0⟩ := Kd.R_celln 0 HO_10.out ((ji34) : Int) p37 q37
                                    replace p37 := eq_true p37
                                    replace q37 := eq_true q37
                                    have HP46 := Kd.R_putg HO_10.out ((ji34) : Int) ((a2) % 256)
                                    go_wp2_with (first | ((with_reducible refine gate_store (t := 5) (p := 55) rfl ?_); refine store_event (t := 5) (p := 55) (v := ?vo_w47) (w1 := (wr.setCell ⟨go37, ((ji34) : Int).toNat, none⟩ (.int .u8 ((a2) % 256)))) ?hg ?ho ?hn ?hr ?_; (case ho => rfl); (case hg => rfl); (case hn => rfl); (case hr => first | (go_simp; done) | (go_simp; rfl)); intro w47 hw; have hg : wr.grownBy w47 (some go37) := (by rw [hw]; exact HP46.2); have hp_ : Kd.R (Kd.int .u8) 5 w47 w.heap.size (fun k_ => some k_ ≠ (v157 : Value).ownBlock) (.slice (some ⟨go37, 0, none⟩) x10_2.length co37) y165 := (by rw [hw, Ny165.out]; exact HP46.1); clear HP46; have n0_ := Aside0.mk (Kd.R_after (v := (.slice (some ⟨go37, 0, none⟩) x10_2.length co37)) (v1 := (.slice (some ⟨go37, 0, none⟩) x10_2.length co37)) (ok := (fun _ => True)) (by (with_reducible repeat (first | apply Kd.R_alloc | apply Kd.R_drewN | apply Kd.R_drew)); exact Kd.R_mono HO_7.out (fun _ hk => ⟨trivial, hk⟩)) hg (.inl rfl)); have n1_ := Aside0.mk (hp_); have n2_ := Aside0.mk ((by rw [hw]; exact below_set (HB.out) GB37.out : Below w.heap.size w w47)); clear HO_7; clear HO_10; clear HB; have HO_7 := n0_; have HO_10 := n1_; have HB := n2_; clear n0_ n1_ n2_; clear hg hw hp_; have p39 : 0 ≤ (0 : Int) := (by omega); have q39 : (0 : Int) < ((x10_2.length : Int) : Int) := of_decide_eq_true (by first | (with_reducible assumption) | assumption); have qi39 : (0 < x10_2.length) = True := eq_true (by omega); obtain ⟨hx39_0, hf39_0⟩ := Kd.R_celln 0 HO_10.out (0 : Int) p39 q39; (try rw [show ((0 : Int)).toNat = 0 from rfl] at hx39_0); (try simp only [Nat.reduceMul, Nat.zero_mul, Nat.zero_add, Nat.reduceAdd] at hx39_0); (try rw [show ((0 : Int)).toNat = 0 from rfl] at hf39_0); (try simp only [Nat.reduceMul, Nat.zero_mul, Nat.zero_add, Nat.reduceAdd] at hf39_0); replace p39 := eq_true p39; replace q39 := eq_true q39; obtain ⟨hy48_, hz48_⟩ := Kd.R_celln 0 HO_10.out (0 : Int) (by omega) (of_decide_eq_true (by first | (with_reducible assumption) | assumption)); (try simp only [Int.reduceToNat, Int.toNat_zero, Int.toNat_ofNat, Nat.reduceMul, Nat.zero_mul, Nat.zero_add] at hy48_ hz48_); (try rw [show ((0 : Int)).toNat = 0 from rfl] at hy48_); (try rw [show ((0 : Int)).toNat = 0 from rfl] at hz48_); have HP48 := Kd.R_putg HO_10.out (0 : Int) ((wrap64 (251 + (Go.bits .and .i64 (a2 / 256) 7))) % 256)) | ((with_reducible refine gate_store (t := 5) (p := 62) rfl ?_); refine store_event (t := 5) (p := 62) (v := ?vo_w49) (w1 := (w47.setCell ⟨go37, (0 : Int).toNat, none⟩ (.int .u8 ((wrap64 (251 + (Go.bits .and .i64 (a2 / 256) 7))) % 256)))) ?hg ?ho ?hn ?hr ?_; (case ho => rfl); (case hg => rfl); (case hn => rfl); (case hr => first | (go_simp; done) | (go_simp; rfl)); intro w49 hw; have hg : w47.grownBy w49 (some go37) := (by rw [hw]; exact HP48.2); have hp_ : Kd.R (Kd.int .u8) 5 w49 w.heap.size (fun k_ => some k_ ≠ (v157 : Value).ownBlock) (.slice (some ⟨go37, 0, none⟩) x10_2.length co37) y166 := (by rw [hw, Ny166.out]; exact HP48.1); clear HP48; have n0_ := Aside0.mk (Kd.R_after (v := (.slice (some ⟨go37, 0, none⟩) x10_2.length co37)) (v1 := (.slice (some ⟨go37, 0, none⟩) x10_2.length co37)) (ok := (fun _ => True)) (by (with_reducible repeat (first | apply Kd.R_alloc | apply Kd.R_drewN | apply Kd.R_drew)); exact HO_7.out) hg (.inl rfl)); have n1_ := Aside0.mk (hp_); have n2_ := Aside0.mk ((by rw [hw]; exact below_set (HB.out) GB37.out : Below w.heap.size w w49)); clear HO_7; clear HO_10; clear HB; have HO_7 := n0_; have HO_10 := n1_; have HB := n2_; clear n0_ n1_ n2_; clear hg hw hp_; have hcv50 := own_string (P := Try.prog) Try.underlying32 Try.underlying5 Try.underlying9 (Kd.own_of_R HO_7.out); have hcv51 := own_string (P := Try.prog) Try.underlying32 Try.underlying5 Try.underlying9 (Kd.own_of_R HO_10.out)) | ((with_reducible refine gate_callee (f := 18) rfl ?_); refine goesL_ (some 68) rfl rfl Try.func18 (by kernel_rfl) rfl #[.string (strOfNums x7_1), .string (strOfNums y166)] rfl (by (try simp only [List.map_toArray, List.map_cons, List.map_nil]); first | done | rfl | (simp only [List.length_drop, List.length_take]; rfl)) ?_; (with_reducible refine (poly_Mac.calls (strOfNums x7_1) (strOfNums y166) t167 t168 _ A40.out).mono ?_); rintro e w52 ⟨rfl, hb⟩; refine ⟨_, rfl, ?_⟩; have n0_ := Aside0.mk (Kd.R_below (by (with_reducible repeat (first | apply Kd.R_alloc | apply Kd.R_drewN | apply Kd.R_drew)); exact HO_7.out) hb); have n1_ := Aside0.mk (Kd.R_below (by (with_reducible repeat (first | apply Kd.R_alloc | apply Kd.R_drewN | apply Kd.R_drew)); exact HO_10.out) hb); have n2_ := Aside0.mk (below_step (by repeat (first | (with_reducible first | exact HB.out | apply below_alloc | apply pw_below_drewN | apply below_drew1) | exact HB.out)) hb); clear HO_7; clear HO_10; clear HB; have HO_7 := n0_; have HO_10 := n1_; have HB := n2_; clear n0_ n1_ n2_; (try clear hb); (try clear hb2); (try clear hk); (try clear hi); have hcv53 := own_string (P := Try.prog) Try.underlying32 Try.underlying5 Try.underlying9 (Kd.own_of_R HO_7.out); have hcv54 := own_string (P := Try.prog) Try.underlying32 Try.underlying5 Try.underlying9 (Kd.own_of_R HO_10.out)) | ((with_reducible refine gate_callee (f := 19) rfl ?_); refine goesL_ (some 76) rfl rfl Try.func19 (by kernel_rfl) rfl #[.string (strOfNums x7_1), .string (strOfNums y166)] rfl (by (try simp only [List.map_toArray, List.map_cons, List.map_nil]); first | done | rfl | (simp only [List.length_drop, List.length_take]; rfl)) ?_; (with_reducible refine (halberdref4_Poly.calls (strOfNums x7_1) (strOfNums y166) t169 t170 _ A41.out).mono ?_); rintro e w55 ⟨rfl, hb⟩; refine ⟨_, rfl, ?_⟩; have n0_ := Aside0.mk (Kd.R_below (by (with_reducible repeat (first | apply Kd.R_alloc | apply Kd.R_drewN | apply Kd.R_drew)); exact HO_7.out) hb); have n1_ := Aside0.mk (Kd.R_below (by (with_reducible repeat (first | apply Kd.R_alloc | apply Kd.R_drewN | apply Kd.R_drew)); exact HO_10.out) hb); have n2_ := Aside0.mk (below_step (by repeat (first | (with_reducible first | exact HB.out | apply below_alloc | apply pw_below_drewN | apply below_drew1) | exact HB.out)) hb); clear HO_7; clear HO_10; clear HB; have HO_7 := n0_; have HO_10 := n1_; have HB := n2_; clear n0_ n1_ n2_; (try clear hb); (try clear hb2); (try clear hk); (try clear hi)) | (go_at_call 16; (with_reducible refine (halberdlaw0_Num.calls t168 t171 _ A43.out).mono ?_); rintro e w' ⟨rfl, ⟨nd, rfl⟩⟩))
                                    go_ret
                                    exact ⟨by first | rfl | (simp [errW_none, errW_some] <;> rfl) | (simp only [← hji34]; first | rfl | (simp [errW_none, errW_some] <;> rfl)) | (simp [*, errW_none, errW_some] <;> rfl), by repeat (first | (with_reducible first | exact HB.out | apply below_alloc | apply pw_below_drewN | apply below_drew1) | exact HB.out)⟩
                                  · rw [if_neg c45] at H
                                    have c45b0 : (t170 == 0) = false := beq_eq_false_iff_ne.mpr c45
                                    have c45b1 : (t170 != 0) = true := bne_iff_ne.mpr c45
                                    exact absurd ((Option.some.inj H).trans hr.out) (by decide)
                                · rw [if_neg c44] at H
                                  have c44b0 : (t171 == 0) = false := beq_eq_false_iff_ne.mpr c44
                                  have c44b1 : (t171 != 0) = true := bne_iff_ne.mpr c44
                                  exact absurd ((Option.some.inj H).trans hr.out) (by decide)
                              · rw [if_neg c42] at H
                                have c42b0 : (t167.toList == t169.toList) = false := beq_eq_false_iff_ne.mpr c42
                                have c42b1 : (t167.toList != t169.toList) = true := bne_iff_ne.mpr c42
                                exact absurd ((Option.some.inj H).trans hr.out) (by decide)
                            · rw [if_neg c38] at H
                              exact absurd H (by simp)
                          · rw [if_neg c36] at H
                            exact absurd H (by simp)
                        · rw [if_neg c35] at H
                          exact absurd H (by simp)
                      · rw [if_neg c33] at H
                        have c33b0 : decide (0 < (Go.bits .and .i64 a1 127)) = false := decide_eq_false c33
                        clear c33
                        replace H := Option.bind_eq_some_iff.mp H
                        obtain ⟨⟨t172, t173⟩, A560, H⟩ := H
                        replace H : ((halberdref4_Poly.f (strOfNums x7_1) (strOfNums x10_2)).bind fun bt174 => (if t172.toList = bt174.1.toList then ((halberdlaw0_Num.f t173).bind fun t176 => (if t176 = 0 then (if bt174.2 = 0 then (some ((t172.size : Int) == 16)) else (some false)) else (some false))) else (some false))) = some r := H
                        have A56 := Aside0.mk A560
                        clear A560
                        replace H := Option.bind_eq_some_iff.mp H
                        obtain ⟨⟨t174, t175⟩, A570, H⟩ := H
                        replace H : (if t172.toList = t174.toList then ((halberdlaw0_Num.f t173).bind fun t176 => (if t176 = 0 then (if t175 = 0 then (some ((t172.size : Int) == 16)) else (some false)) else (some false))) else (some false)) = some r := H
                        have A57 := Aside0.mk A570
                        clear A570
                        by_cases c58 : t172.toList = t174.toList
                        · rw [if_pos c58] at H
                          have c58b0 : (t172.toList == t174.toList) = true := beq_iff_eq.mpr c58
                          have c58b1 : (t172.toList != t174.toList) = false := bne_eq_false_iff_eq.mpr c58
                          clear c58
                          replace H := Option.bind_eq_some_iff.mp H
                          obtain ⟨t176, A590, H⟩ := H
                          replace H : (if t176 = 0 then (if t175 = 0 then (some ((t172.size : Int) == 16)) else (some false)) else (some false)) = some r := H
                          have A59 := Aside0.mk A590
                          clear A590
                          by_cases c60 : t176 = 0
                          · rw [if_pos c60] at H
                            have c60b0 : (t176 == 0) = true := beq_iff_eq.mpr c60
                            have c60b1 : (t176 != 0) = false := bne_eq_false_iff_eq.mpr c60
                            clear c60
                            by_cases c61 : t175 = 0
                            · rw [if_pos c61] at H
                              have c61b0 : (t175 == 0) = true := beq_iff_eq.mpr c61
                              have c61b1 : (t175 != 0) = false := bne_eq_false_iff_eq.mpr c61
                              clear c61
                              obtain rfl := Option.some.inj H
                              have hcv62 := own_string (P := Try.prog) Try.underlying32 Try.underlying5 Try.underlying9 (Kd.own_of_R HO_7.out)
                              have hcv63 := own_string (P := Try.prog) Try.underlying32 Try.underlying5 Try.underlying9 (Kd.own_of_R HO_10.out)
                              go_wp2_with (first | ((with_reducible refine gate_callee (f := 18) rfl ?_); refine goesL_ (some 68) rfl rfl Try.func18 (by kernel_rfl) rfl #[.string (strOfNums x7_1), .string (strOfNums x10_2)] rfl (by (try simp only [List.map_toArray, List.map_cons, List.map_nil]); first | done | rfl | (simp only [List.length_drop, List.length_take]; rfl)) ?_; (with_reducible refine (poly_Mac.calls (strOfNums x7_1) (strOfNums x10_2) t172 t173 _ A56.out).mono ?_); rintro e w64 ⟨rfl, hb⟩; refine ⟨_, rfl, ?_⟩; have n0_ := Aside0.mk (Kd.R_below (by (with_reducible repeat (first | apply Kd.R_alloc | apply Kd.R_drewN | apply Kd.R_drew)); exact HO_7.out) hb); have n1_ := Aside0.mk (Kd.R_below (by (with_reducible repeat (first | apply Kd.R_alloc | apply Kd.R_drewN | apply Kd.R_drew)); exact HO_10.out) hb); have n2_ := Aside0.mk (below_step (by repeat (first | (with_reducible first | exact HB.out | apply below_alloc | apply pw_below_drewN | apply below_drew1) | exact HB.out)) hb); clear HO_7; clear HO_10; clear HB; have HO_7 := n0_; have HO_10 := n1_; have HB := n2_; clear n0_ n1_ n2_; (try clear hb); (try clear hb2); (try clear hk); (try clear hi); have hcv65 := own_string (P := Try.prog) Try.underlying32 Try.underlying5 Try.underlying9 (Kd.own_of_R HO_7.out); have hcv66 := own_string (P := Try.prog) Try.underlying32 Try.underlying5 Try.underlying9 (Kd.own_of_R HO_10.out)) | ((with_reducible refine gate_callee (f := 19) rfl ?_); refine goesL_ (some 76) rfl rfl Try.func19 (by kernel_rfl) rfl #[.string (strOfNums x7_1), .string (strOfNums x10_2)] rfl (by (try simp only [List.map_toArray, List.map_cons, List.map_nil]); first | done | rfl | (simp only [List.length_drop, List.length_take]; rfl)) ?_; (with_reducible refine (halberdref4_Poly.calls (strOfNums x7_1) (strOfNums x10_2) t174 t175 _ A57.out).mono ?_); rintro e w67 ⟨rfl, hb⟩; refine ⟨_, rfl, ?_⟩; have n0_ := Aside0.mk (Kd.R_below (by (with_reducible repeat (first | apply Kd.R_alloc | apply Kd.R_drewN | apply Kd.R_drew)); exact HO_7.out) hb); have n1_ := Aside0.mk (Kd.R_below (by (with_reducible repeat (first | apply Kd.R_alloc | apply Kd.R_drewN | apply Kd.R_drew)); exact HO_10.out) hb); have n2_ := Aside0.mk (below_step (by repeat (first | (with_reducible first | exact HB.out | apply below_alloc | apply pw_below_drewN | apply below_drew1) | exact HB.out)) hb); clear HO_7; clear HO_10; clear HB; have HO_7 := n0_; have HO_10 := n1_; have HB := n2_; clear n0_ n1_ n2_; (try clear hb); (try clear hb2); (try clear hk); (try clear hi)) | (go_at_call 16; (with_reducible refine (halberdlaw0_Num.calls t173 t176 _ A59.out).mono ?_); rintro e w' ⟨rfl, ⟨nd, rfl⟩⟩))
                              go_ret
                              exact ⟨by first | rfl | (simp [errW_none, errW_some] <;> rfl) | (simp [*, errW_none, errW_some] <;> rfl), by repeat (first | (with_reducible first | exact HB.out | apply below_alloc | apply pw_below_drewN | apply below_drew1) | exact HB.out)⟩
                            · rw [if_neg c61] at H
                              have c61b0 : (t175 == 0) = false := beq_eq_false_iff_ne.mpr c61
                              have c61b1 : (t175 != 0) = true := bne_iff_ne.mpr c61
                              exact absurd ((Option.some.inj H).trans hr.out) (by decide)
                          · rw [if_neg c60] at H
                            have c60b0 : (t176 == 0) = false := beq_eq_false_iff_ne.mpr c60
                            have c60b1 : (t176 != 0) = true := bne_iff_ne.mpr c60
                            exact absurd ((Option.some.inj H).trans hr.out) (by decide)
                        · rw [if_neg c58] at H
                          have c58b0 : (t172.toList == t174.toList) = false := beq_eq_false_iff_ne.mpr c58
                          have c58b1 : (t172.toList != t174.toList) = true := bne_iff_ne.mpr c58
                          exact absurd ((Option.some.inj H).trans hr.out) (by decide)
              · rw [if_neg c24] at H
                exact absurd H (by simp)
            · rw [if_neg c23] at H
              exact absurd H (by simp)
    · rw [if_neg c6] at H
      exact absurd H (by simp)
  · replace c5 := Bool.eq_false_iff.mpr c5
    subst c5
    have H1 : (some false) = some r := by rw [if_neg (show ¬ (false = true) by decide)] at H; exact H
    clear H
    have H := H1
    clear H1
    exact absurd ((Option.some.inj H).trans hr.out) (by decide)

/-- THE ONE PURE STATEMENT of halberdlaw7_PolyEnds: yours. -/
def halberdlaw7_PolyEnds.Pure : Prop := ∀ (a0 : ByteArray) (a1 : Int) (a2 : Int), a0.size ≤ 140737488351232 → (Lit.int .i64 a1).wf = true → (Lit.int .i64 a2).wf = true → ∃ k, halberdlaw7_PolyEnds.f k a0 a1 a2 = some true
theorem halberdlaw7_PolyEnds.walk (P : halberdlaw7_PolyEnds.Pure) (a0 : ByteArray) (a1 : Int) (a2 : Int) (w : World) (w0 : a0.size ≤ 140737488351232) (w1 : (Lit.int .i64 a1).wf = true) (w2 : (Lit.int .i64 a2).wf = true) :
    Calls Try.prog 8 #[.string a0, .int .i64 a1, .int .i64 a2] w fun e w' => e = .returned (.bool true) ∧ Below w.heap.size w w' := by
  obtain ⟨k, h⟩ := P a0 a1 a2 w0 w1 w2
  refine (halberdlaw7_PolyEnds.calls k a0 a1 a2 true w h ⟨rfl⟩).mono ?_
  rintro e w' ⟨rfl, hd⟩
  exact ⟨rfl, hd⟩

end Go.Proofs.Ytocckplgjbhlbaa.T
