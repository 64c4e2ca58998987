-- Written by a program of this session (wip/tools/xprint.py), over the kit's printer.
import Derived.Test.YtggnmnpmhknjgaaIx0
import Derived.Test.YtggnmnpmhknjgaaIx1
import Derived.Test.YtggnmnpmhknjgaaIx2
import Derived.Test.YtggnmnpmhknjgaaIx4
namespace Go.Proofs.Ytggnmnpmhknjgaa.I
open Go.RowKit Go.Proofs.YtggnmnpmhknjgaaW.PrintWords Go.Proofs.YtggnmnpmhknjgaaW.PrintLast Go.Proofs.YtggnmnpmhknjgaaW.PrintMore
attribute [local go_sem] max2_int min2_int max_two min_two max_three min_three max_four min_four   -- for this text's walks alone
set_option linter.unusedVariables false
set_option linter.unusedSimpArgs false

/-! ### incr_Decoder_Held: function 29 -/
def incr_Decoder_Held.f (s0_0 : ByteArray) (s0_1 : Bool) : Option (Int × ByteArray × Bool) := some ((s0_0.size : Int), s0_0, s0_1)
set_option maxHeartbeats 8000000 in
set_option maxRecDepth 100000 in
theorem incr_Decoder_Held.calls (g : Nat) (s0_0 : ByteArray) (s0_1 : Bool) (r1 : Int) (r2 : ByteArray) (r3 : Bool) (w0 w : World) (hI : IsS63 w0 w g s0_0 s0_1) (hB : Below w0.heap.size w0 w) (h : incr_Decoder_Held.f s0_0 s0_1 = some (r1, r2, r3)) :
    Calls Try.prog 29 #[.pointer (some ⟨g, 0, none⟩)] w fun e w' => e = .returned (.int .i64 r1) ∧ IsS63 w0 w' g r2 r3 ∧ Below w0.heap.size w0 w' ∧ KeepBut w w' g none := by
  have HI0 := Aside0.mk hI
  have HK := Aside0.mk (KeepBut.refl w g none)
  have HL := Aside0.mk hB.size
  clear hI
  have HW0 := Aside0.mk hB.size
  have HB := Aside0.mk hB
  clear hB
  have H : (some ((s0_0.size : Int), s0_0, s0_1)) = some (r1, r2, r3) := h
  clear h
  simp only [Option.some.injEq, Prod.mk.injEq] at H
  obtain ⟨rfl, rfl, rfl⟩ := H
  obtain ⟨HGz2, hgz2⟩ := HI0.out
  have hcz2_0 := cellS63_0 HGz2
  have hcz2_1 := cellS63_1 HGz2
  have hfz2_0 := blk_frozen HGz2 0
  have hfz2_1 := blk_frozen HGz2 1
  clear HGz2 hgz2
  go_enter Try.func29, Try.ntmps29
  go_wp2
  go_ret
  exact ⟨by first | rfl | (simp [errW_none, errW_some] <;> rfl) | (simp [*, errW_none, errW_some] <;> rfl), by repeat (first | (with_reducible first | exact HI0.out | apply IsS63.alloc | apply IsS63.drewN | apply IsS63.drew | apply IsS63.set_0 | apply IsS63.set_1) | exact HI0.out), by repeat (first | (with_reducible first | exact HB.out | apply below_alloc | apply pw_below_drewN | apply below_drew1 | refine below_set ?_ (IsS63.ge HI0.out)) | exact HB.out), by repeat (first | (with_reducible first | exact HK.out | apply KeepBut.set_ | apply keep_drewN | apply keep_drew | apply keep_alloc) | exact HK.out)⟩

/-! ### halberdref16_Decoder_Held: function 30 -/
def halberdref16_Decoder_Held.f (s0_0 : ByteArray) (s0_1 : Bool) : Option (Int × ByteArray × Bool) := some ((s0_0.size : Int), s0_0, s0_1)
set_option maxHeartbeats 8000000 in
set_option maxRecDepth 100000 in
theorem halberdref16_Decoder_Held.calls (g : Nat) (s0_0 : ByteArray) (s0_1 : Bool) (r1 : Int) (r2 : ByteArray) (r3 : Bool) (w0 w : World) (hI : IsS28 w0 w g s0_0 s0_1) (hB : Below w0.heap.size w0 w) (h : halberdref16_Decoder_Held.f s0_0 s0_1 = some (r1, r2, r3)) :
    Calls Try.prog 30 #[.pointer (some ⟨g, 0, none⟩)] w fun e w' => e = .returned (.int .i64 r1) ∧ IsS28 w0 w' g r2 r3 ∧ Below w0.heap.size w0 w' ∧ KeepBut w w' g none := by
  have HI0 := Aside0.mk hI
  have HK := Aside0.mk (KeepBut.refl w g none)
  have HL := Aside0.mk hB.size
  clear hI
  have HW0 := Aside0.mk hB.size
  have HB := Aside0.mk hB
  clear hB
  have H : (some ((s0_0.size : Int), s0_0, s0_1)) = some (r1, r2, r3) := h
  clear h
  simp only [Option.some.injEq, Prod.mk.injEq] at H
  obtain ⟨rfl, rfl, rfl⟩ := H
  obtain ⟨HGz2, hgz2⟩ := HI0.out
  have hcz2_0 := cellS28_0 HGz2
  have hcz2_1 := cellS28_1 HGz2
  have hfz2_0 := blk_frozen HGz2 0
  have hfz2_1 := blk_frozen HGz2 1
  clear HGz2 hgz2
  go_enter Try.func30, Try.ntmps30
  go_wp2
  go_ret
  exact ⟨by first | rfl | (simp [errW_none, errW_some] <;> rfl) | (simp [*, errW_none, errW_some] <;> rfl), by repeat (first | (with_reducible first | exact HI0.out | apply IsS28.alloc | apply IsS28.drewN | apply IsS28.drew | apply IsS28.set_0 | apply IsS28.set_1) | exact HI0.out), by repeat (first | (with_reducible first | exact HB.out | apply below_alloc | apply pw_below_drewN | apply below_drew1 | refine below_set ?_ (IsS28.ge HI0.out)) | exact HB.out), by repeat (first | (with_reducible first | exact HK.out | apply KeepBut.set_ | apply keep_drewN | apply keep_drew | apply keep_alloc) | exact HK.out)⟩

/-! ### halberdlaw0_SpoilTexts: function 31 -/
def halberdlaw0_SpoilTexts.l0 : Nat → List ByteArray → Int → Option (List ByteArray)
  | 0, _, _ => none
  | k + 1, x0, x2 => if x2 < (x0.length : Int) then (if 0 ≤ x2 then (if 1 + (rdOf ByteArray.empty x0 x2).size ≤ 9223372036854775807 then (halberdlaw0_SpoilTexts.l0 k (x0.set (x2 : Int).toNat ((⟨#[126]⟩ : ByteArray) ++ (rdOf ByteArray.empty x0 x2))) (wrap64 (x2 + 1))) else (none)) else (none)) else (some x0)
def halberdlaw0_SpoilTexts.f (k : Nat) (l0 : List ByteArray) : Option (List ByteArray) := halberdlaw0_SpoilTexts.l0 k l0 0
theorem halberdlaw0_SpoilTexts.mono_l : ∀ k, (∀ y0 y1, LeO (halberdlaw0_SpoilTexts.l0 k y0 y1) (halberdlaw0_SpoilTexts.l0 (k + 1) y0 y1))
  | 0 => fun _ _ r h => by simp [halberdlaw0_SpoilTexts.l0] at h
  | k + 1 => by
    have ih0 := halberdlaw0_SpoilTexts.mono_l k
    · intro y0 y1
      unfold halberdlaw0_SpoilTexts.l0
      repeat' first
      | (with_reducible exact ih0 _ _)
      | (with_reducible exact LeO.refl _)
      | (with_reducible exact LeO.none _)
      | (with_reducible refine LeO.ite ?_ ?_)
      | (with_reducible refine LeO.bind ?_ (fun _ => ?_))
      | exact ih0 _ _
      | exact LeO.none _
      | refine LeO.ite ?_ ?_
      | refine LeO.bind ?_ (fun _ => ?_)
theorem halberdlaw0_SpoilTexts.mono : ∀ a0 k, LeO (halberdlaw0_SpoilTexts.f k a0) (halberdlaw0_SpoilTexts.f (k + 1) a0) := by
  intro a0 k
  have ih0 := halberdlaw0_SpoilTexts.mono_l k
  unfold halberdlaw0_SpoilTexts.f
  repeat' first
      | (with_reducible exact ih0 _ _)
      | (with_reducible exact LeO.refl _)
      | (with_reducible exact LeO.none _)
      | (with_reducible refine LeO.ite ?_ ?_)
      | (with_reducible refine LeO.bind ?_ (fun _ => ?_))
      | exact ih0 _ _
      | exact LeO.none _
      | refine LeO.ite ?_ ?_
      | refine LeO.bind ?_ (fun _ => ?_)
set_option maxHeartbeats 8000000 in
set_option maxRecDepth 100000 in
theorem halberdlaw0_SpoilTexts.calls (k : Nat) (P0_ : Nat → Prop) (u9000_ : Value) (l0 : List ByteArray) (r : List ByteArray) (w0 w : World) (hB : Below w0.heap.size w0 w) (ho0 : Kd.R Kd.string 9 w w0.heap.size P0_ u9000_ l0) (h : halberdlaw0_SpoilTexts.f k l0 = some r) :
    Calls Try.prog 31 #[u9000_] w fun e w' => e = .returned (.tuple #[]) ∧ Kd.R Kd.string 9 w' w0.heap.size (fun k_ => (P0_ k_ ∨ w.heap.size ≤ k_)) u9000_ r ∧ Below w0.heap.size w0 w' ∧ Kept w w' (fun k_ => P0_ k_) := by
  have HO0 := Aside0.mk (show Kd.R Kd.string 9 w w0.heap.size (fun k_ => (P0_ k_ ∨ w.heap.size ≤ k_)) u9000_ l0 from Kd.R_mono ho0 (fun k_ hk => (.inl hk)))
  have HK := Aside0.mk (Kept.refl w (fun k_ => P0_ k_))
  have HW0 := Aside0.mk hB.size
  have HB := Aside0.mk hB
  clear hB
  have H : (halberdlaw0_SpoilTexts.l0 k l0 0) = some r := h
  clear h
  have H' := Aside0.mk H
  clear H
  go_enter Try.func31, Try.ntmps31
  go_wp2
  go_loopg [2] k (fun kq v2 w' => ∃ (x0_1 : List ByteArray) (x2_1 : Int), v2 = .int .i64 x2_1 ∧ Aside0 (halberdlaw0_SpoilTexts.l0 kq x0_1 x2_1 = some r) ∧ Aside0 (kq ≤ k) ∧ Aside0 (Kd.R Kd.string 9 w' w0.heap.size (fun k_ => (P0_ k_ ∨ w.heap.size ≤ k_)) u9000_ x0_1) ∧ Aside0 (Kept w w' (fun k_ => P0_ k_)) ∧ Aside0 (Below w0.heap.size w0 w'))
  case atStart => exact ⟨(l0), (0), (by first | rfl | (simp; done) | (simp [*]; done)), H', ⟨Nat.le_refl _⟩, ⟨by (with_reducible repeat (first | apply Kd.R_alloc | apply Kd.R_drewN | apply Kd.R_drew)); exact HO0.out⟩, ⟨by repeat (first | (with_reducible first | exact HK.out | apply Kept.alloc | apply Kept.drewN | apply Kept.drew) | exact HK.out)⟩, ⟨by repeat (first | (with_reducible first | exact HB.out | apply below_alloc | apply pw_below_drewN | apply below_drew1) | exact HB.out)⟩⟩
  case round =>
    clear H'
    obtain ⟨x0_1, x2_1, rfl, HA, HK1, HO_0, HK, HB⟩ := hrel
    cases gk with
    | zero => exact absurd HA.out (by simp [halberdlaw0_SpoilTexts.l0])
    | succ k1 =>
      have H := HA.out
      clear HA
      simp only [halberdlaw0_SpoilTexts.l0] at H
      by_cases c2 : x2_1 < (x0_1.length : Int)
      · rw [if_pos c2] at H
        have c2b0 : decide (x2_1 < (x0_1.length : Int)) = true := decide_eq_true c2
        clear c2
        by_cases c3 : 0 ≤ x2_1
        · rw [if_pos c3] at H
          have c3b0 : decide (0 ≤ x2_1) = true := decide_eq_true c3
          clear c3
          by_cases c4 : 1 + (rdOf ByteArray.empty x0_1 x2_1).size ≤ 9223372036854775807
          · rw [if_pos c4] at H
            have c4b0 := eq_true c4
            have c4b1 : decide (1 + (rdOf ByteArray.empty x0_1 x2_1).size ≤ 9223372036854775807) = true := decide_eq_true c4
            try have c4b2 : (9223372036854775807 < 1 + (rdOf ByteArray.empty x0_1 x2_1).size) = False := eq_false (Nat.not_lt.2 c4)
            obtain ⟨ys142, hys142⟩ : ∃ y_ : ByteArray, y_ = ((⟨#[126]⟩ : ByteArray) ++ (rdOf ByteArray.empty x0_1 x2_1)) := ⟨_, rfl⟩
            replace H : (halberdlaw0_SpoilTexts.l0 k1 (x0_1.set (x2_1 : Int).toNat ys142) (wrap64 (x2_1 + 1))) = some r := by first | (rw [hys142]; with_reducible exact H) | (have H2_ := (Option.bind_some _ _).symm.trans H; rw [hys142]; with_reducible exact H2_) | (have H2_ := (Option.bind_some _ _).symm.trans H; with_reducible exact H2_) | with_reducible exact H | (rw [hys142]; exact H) | exact H
            have Nys142 := Aside0.mk hys142
            clear hys142
            have Sys142 := Nys142.out.symm
            obtain ⟨y143, hy143⟩ : ∃ y_ : List ByteArray, y_ = (x0_1.set (x2_1 : Int).toNat ys142) := ⟨_, rfl⟩
            replace H : (halberdlaw0_SpoilTexts.l0 k1 y143 (wrap64 (x2_1 + 1))) = some r := by first | (rw [hy143]; with_reducible exact H) | (have H2_ := (Option.bind_some _ _).symm.trans H; rw [hy143]; with_reducible exact H2_) | (have H2_ := (Option.bind_some _ _).symm.trans H; with_reducible exact H2_) | with_reducible exact H | (rw [hy143]; exact H) | exact H
            have Ny143 := Aside0.mk hy143
            clear hy143
            have H' := Aside0.mk H
            clear H
            obtain ⟨Ao6, co6, eo6⟩ := Kd.R_slice HO_0.out
            subst eo6
            have p141 : 0 ≤ (x2_1 : Int) := of_decide_eq_true (by first | (with_reducible assumption) | assumption)
            have q141 : x2_1 < (x0_1.length : Int) := of_decide_eq_true (by first | (with_reducible assumption) | assumption)
            obtain ⟨ad141, e141, hx141_0⟩ := Kd.at_string (Kd.R_reads' HO_0.out).2.2 x2_1 p141 q141
            cases e141
            replace p141 := eq_true p141
            replace q141 := eq_true q141
            have p5 : 0 ≤ (x2_1 : Int) := of_decide_eq_true (by first | (with_reducible assumption) | assumption)
            have q5 : (x2_1 : Int) < ((x0_1.length : Int) : Int) := of_decide_eq_true (by first | (with_reducible assumption) | assumption)
            obtain ⟨go5, co5, eo5, gb5, gl5, cl5, HG5⟩ := Kd.R_form HO_0.out (by omega)
            (first | cases eo5 | (injection eo5 with ea_ en_ ec_; (first | subst ea_ | (injection ea_ with ea_; subst ea_)); subst ec_; clear en_))
            have GB5 := Aside0.mk gb5
            have GG5 := Aside0.mk HG5
            clear gb5 gl5 HG5
            have HMgo5 := Aside0.mk (show (P0_ go5 ∨ w.heap.size ≤ go5) from (HO_0.out.1 _ rfl))
            (first | simp only [add_plain] at hx141_0 | skip)
            obtain ⟨hx5_0, hf5_0⟩ := Kd.R_celln (⟨#[]⟩ : ByteArray) HO_0.out (x2_1 : Int) p5 q5
            replace p5 := eq_true p5
            replace q5 := eq_true q5
            have HP7 := Kd.R_putg HO_0.out (x2_1 : Int) ys142
            go_wp2_with (first | ((with_reducible refine gate_store (t := 9) (p := 16) rfl ?_); refine store_event (t := 9) (p := 16) (v := ?vo_w8) (w1 := (wr.setCell ⟨go5, (x2_1 : Int).toNat, none⟩ (.string ys142))) ?hg ?ho ?hn ?hr ?_; (case ho => rfl); (case hg => rfl); (case hn => rfl); (case hr => first | (go_simp; done) | (go_simp; rfl)); intro w8 hw; have hg : wr.grownBy w8 (some go5) := (by rw [hw]; exact HP7.2); have hp_ : Kd.R Kd.string 9 w8 w0.heap.size (fun k_ => (P0_ k_ ∨ w.heap.size ≤ k_)) (.slice (some ⟨go5, 0, none⟩) x0_1.length co6) y143 := (by rw [hw, Ny143.out]; exact HP7.1); clear HP7; have n0_ := Aside0.mk (hp_); have n1_ := Aside0.mk ((by rw [hw]; exact below_set (HB.out) GB5.out : Below w0.heap.size w0 w8)); have n2_ := Aside0.mk (Kept.of_grown (S := (fun k_ => P0_ k_)) hg (by repeat (first | (with_reducible first | exact HK.out | apply Kept.alloc | apply Kept.drewN | apply Kept.drew) | exact HK.out)) (fun k_ e_ => (HO_0.out.1 k_ e_))); clear HO_0; clear HB; clear HK; have HO_0 := n0_; have HB := n1_; have HK := n2_; clear n0_ n1_ n2_; clear hg hw hp_))
            go_roundg k1
            case measure => have := HK1.out; omega
            case rel => exact ⟨(y143), (wrap64 (x2_1 + 1)), (by first | rfl | (simp; done) | (simp [*]; done)), H', ⟨by have := HK1.out; omega⟩, ⟨by (with_reducible repeat (first | apply Kd.R_alloc | apply Kd.R_drewN | apply Kd.R_drew)); exact HO_0.out⟩, ⟨by repeat (first | (with_reducible first | exact HK.out | apply Kept.alloc | apply Kept.drewN | apply Kept.drew) | exact HK.out)⟩, ⟨by repeat (first | (with_reducible first | exact HB.out | apply below_alloc | apply pw_below_drewN | apply below_drew1) | exact HB.out)⟩⟩
          · rw [if_neg c4] at H
            exact absurd H (by simp)
        · rw [if_neg c3] at H
          exact absurd H (by simp)
      · rw [if_neg c2] at H
        have c2b0 : decide (x2_1 < (x0_1.length : Int)) = false := decide_eq_false c2
        clear c2
        obtain rfl := Option.some.inj H
        obtain ⟨Ao9, co9, eo9⟩ := Kd.R_slice HO_0.out
        subst eo9
        go_wp2
        first | go_end0 | ((try simp only [Exit.inBlock, Exit.then]); refine bodyPost_ret (results_none rfl _ _ _) rfl ?_)
        exact ⟨by first | rfl | (simp [errW_none, errW_some] <;> rfl) | (simp [*, errW_none, errW_some] <;> rfl), by (with_reducible repeat (first | apply Kd.R_alloc | apply Kd.R_drewN | apply Kd.R_drew)); exact HO_0.out, by repeat (first | (with_reducible first | exact HB.out | apply below_alloc | apply pw_below_drewN | apply below_drew1) | exact HB.out), by repeat (first | (with_reducible first | exact HK.out | apply Kept.alloc | apply Kept.drewN | apply Kept.drew) | exact HK.out)⟩

/-! ### halberdlaw18_awake0: function 32 -/
def halberdlaw18_awake0.f (k : Nat)  : Option (Bool) := (incr_New.f).bind fun bt144 => ((incr_Decoder_Feed.f k bt144.1 bt144.2 (⟨#[20, 0, 0]⟩ : ByteArray)).bind fun bt147 => ((incr_Decoder_Feed.f k bt147.2.2.1 bt147.2.2.2 (⟨#[2, 97, 98, 24]⟩ : ByteArray)).bind fun bt153 => ((incr_Decoder_Held.f bt153.2.2.1 bt153.2.2.2).bind fun bt159 => ((incr_Decoder_Feed.f k bt159.2.1 bt159.2.2 (⟨#[1, 0, 0]⟩ : ByteArray)).bind fun bt162 => ((incr_Decoder_Feed.f k bt162.2.2.1 bt162.2.2.2 (⟨#[]⟩ : ByteArray)).bind fun bt168 => (if (bt147.1.length : Int) = 0 then ((halberdlaw0_Num.f bt147.2.1).bind fun t174 => (if t174 = 0 then ((halberdlaw0_SameTexts.f k bt153.1 (([(⟨#[20, 0, 0, 2, 97, 98]⟩ : ByteArray)] : List ByteArray))).bind fun t178 => (if t178 = true then ((halberdlaw0_Num.f bt153.2.1).bind fun t179 => (if t179 = 0 then (if bt159.1 = 1 then ((halberdlaw0_Num.f bt162.2.1).bind fun t180 => (if t180 = 1800 then ((halberdlaw0_Num.f bt168.2.1).bind fun t181 => (some (t181 == 1800))) else (some false))) else (some false)) else (some false))) else (some false))) else (some false))) else (some false)))))))
theorem halberdlaw18_awake0.mono : ∀ k, LeO (halberdlaw18_awake0.f k ) (halberdlaw18_awake0.f (k + 1) ) := by
  intro  k
  unfold halberdlaw18_awake0.f
  repeat' first
      | (with_reducible exact halberdlaw0_SameTexts.mono _ _ _)
      | (with_reducible exact incr_Decoder_Feed.mono _ _ _ _)
      | (with_reducible exact LeO.refl _)
      | (with_reducible exact LeO.none _)
      | (with_reducible refine LeO.ite ?_ ?_)
      | (with_reducible refine LeO.bind ?_ (fun _ => ?_))
      | exact halberdlaw0_SameTexts.mono _ _ _
      | exact incr_Decoder_Feed.mono _ _ _ _
      | exact LeO.none _
      | refine LeO.ite ?_ ?_
      | refine LeO.bind ?_ (fun _ => ?_)
set_option maxHeartbeats 8000000 in
set_option maxRecDepth 100000 in
theorem halberdlaw18_awake0.calls (k : Nat)  (r : Bool) (w : World) (h : halberdlaw18_awake0.f k  = some r) (hr : Aside0 (r = true)) :
    Calls Try.prog 32 #[] w fun e w' => e = .returned (.bool r) ∧ Below w.heap.size w w' := by
  have HB := Aside0.mk (Below.refl w.heap.size w)
  have H : ((incr_New.f).bind fun bt144 => ((incr_Decoder_Feed.f k bt144.1 bt144.2 (⟨#[20, 0, 0]⟩ : ByteArray)).bind fun bt147 => ((incr_Decoder_Feed.f k bt147.2.2.1 bt147.2.2.2 (⟨#[2, 97, 98, 24]⟩ : ByteArray)).bind fun bt153 => ((incr_Decoder_Held.f bt153.2.2.1 bt153.2.2.2).bind fun bt159 => ((incr_Decoder_Feed.f k bt159.2.1 bt159.2.2 (⟨#[1, 0, 0]⟩ : ByteArray)).bind fun bt162 => ((incr_Decoder_Feed.f k bt162.2.2.1 bt162.2.2.2 (⟨#[]⟩ : ByteArray)).bind fun bt168 => (if (bt147.1.length : Int) = 0 then ((halberdlaw0_Num.f bt147.2.1).bind fun t174 => (if t174 = 0 then ((halberdlaw0_SameTexts.f k bt153.1 (([(⟨#[20, 0, 0, 2, 97, 98]⟩ : ByteArray)] : List ByteArray))).bind fun t178 => (if t178 = true then ((halberdlaw0_Num.f bt153.2.1).bind fun t179 => (if t179 = 0 then (if bt159.1 = 1 then ((halberdlaw0_Num.f bt162.2.1).bind fun t180 => (if t180 = 1800 then ((halberdlaw0_Num.f bt168.2.1).bind fun t181 => (some (t181 == 1800))) else (some false))) else (some false)) else (some false))) else (some false))) else (some false))) else (some false)))))))) = some r := h
  clear h
  replace H := Option.bind_eq_some_iff.mp H
  obtain ⟨⟨t144, t145⟩, A10, H⟩ := H
  replace H : ((incr_Decoder_Feed.f k t144 t145 (⟨#[20, 0, 0]⟩ : ByteArray)).bind fun bt147 => ((incr_Decoder_Feed.f k bt147.2.2.1 bt147.2.2.2 (⟨#[2, 97, 98, 24]⟩ : ByteArray)).bind fun bt153 => ((incr_Decoder_Held.f bt153.2.2.1 bt153.2.2.2).bind fun bt159 => ((incr_Decoder_Feed.f k bt159.2.1 bt159.2.2 (⟨#[1, 0, 0]⟩ : ByteArray)).bind fun bt162 => ((incr_Decoder_Feed.f k bt162.2.2.1 bt162.2.2.2 (⟨#[]⟩ : ByteArray)).bind fun bt168 => (if (bt147.1.length : Int) = 0 then ((halberdlaw0_Num.f bt147.2.1).bind fun t174 => (if t174 = 0 then ((halberdlaw0_SameTexts.f k bt153.1 (([(⟨#[20, 0, 0, 2, 97, 98]⟩ : ByteArray)] : List ByteArray))).bind fun t178 => (if t178 = true then ((halberdlaw0_Num.f bt153.2.1).bind fun t179 => (if t179 = 0 then (if bt159.1 = 1 then ((halberdlaw0_Num.f bt162.2.1).bind fun t180 => (if t180 = 1800 then ((halberdlaw0_Num.f bt168.2.1).bind fun t181 => (some (t181 == 1800))) else (some false))) else (some false)) else (some false))) else (some false))) else (some false))) else (some false))))))) = some r := H
  have A1 := Aside0.mk A10
  clear A10
  replace H := Option.bind_eq_some_iff.mp H
  obtain ⟨⟨t147, t150, t151, t152⟩, A20, H⟩ := H
  replace H : ((incr_Decoder_Feed.f k t151 t152 (⟨#[2, 97, 98, 24]⟩ : ByteArray)).bind fun bt153 => ((incr_Decoder_Held.f bt153.2.2.1 bt153.2.2.2).bind fun bt159 => ((incr_Decoder_Feed.f k bt159.2.1 bt159.2.2 (⟨#[1, 0, 0]⟩ : ByteArray)).bind fun bt162 => ((incr_Decoder_Feed.f k bt162.2.2.1 bt162.2.2.2 (⟨#[]⟩ : ByteArray)).bind fun bt168 => (if (t147.length : Int) = 0 then ((halberdlaw0_Num.f t150).bind fun t174 => (if t174 = 0 then ((halberdlaw0_SameTexts.f k bt153.1 (([(⟨#[20, 0, 0, 2, 97, 98]⟩ : ByteArray)] : List ByteArray))).bind fun t178 => (if t178 = true then ((halberdlaw0_Num.f bt153.2.1).bind fun t179 => (if t179 = 0 then (if bt159.1 = 1 then ((halberdlaw0_Num.f bt162.2.1).bind fun t180 => (if t180 = 1800 then ((halberdlaw0_Num.f bt168.2.1).bind fun t181 => (some (t181 == 1800))) else (some false))) else (some false)) else (some false))) else (some false))) else (some false))) else (some false)))))) = some r := H
  have A2 := Aside0.mk A20
  clear A20
  replace H := Option.bind_eq_some_iff.mp H
  obtain ⟨⟨t153, t156, t157, t158⟩, A30, H⟩ := H
  replace H : ((incr_Decoder_Held.f t157 t158).bind fun bt159 => ((incr_Decoder_Feed.f k bt159.2.1 bt159.2.2 (⟨#[1, 0, 0]⟩ : ByteArray)).bind fun bt162 => ((incr_Decoder_Feed.f k bt162.2.2.1 bt162.2.2.2 (⟨#[]⟩ : ByteArray)).bind fun bt168 => (if (t147.length : Int) = 0 then ((halberdlaw0_Num.f t150).bind fun t174 => (if t174 = 0 then ((halberdlaw0_SameTexts.f k t153 (([(⟨#[20, 0, 0, 2, 97, 98]⟩ : ByteArray)] : List ByteArray))).bind fun t178 => (if t178 = true then ((halberdlaw0_Num.f t156).bind fun t179 => (if t179 = 0 then (if bt159.1 = 1 then ((halberdlaw0_Num.f bt162.2.1).bind fun t180 => (if t180 = 1800 then ((halberdlaw0_Num.f bt168.2.1).bind fun t181 => (some (t181 == 1800))) else (some false))) else (some false)) else (some false))) else (some false))) else (some false))) else (some false))))) = some r := H
  have A3 := Aside0.mk A30
  clear A30
  replace H := Option.bind_eq_some_iff.mp H
  obtain ⟨⟨t159, t160, t161⟩, A40, H⟩ := H
  replace H : ((incr_Decoder_Feed.f k t160 t161 (⟨#[1, 0, 0]⟩ : ByteArray)).bind fun bt162 => ((incr_Decoder_Feed.f k bt162.2.2.1 bt162.2.2.2 (⟨#[]⟩ : ByteArray)).bind fun bt168 => (if (t147.length : Int) = 0 then ((halberdlaw0_Num.f t150).bind fun t174 => (if t174 = 0 then ((halberdlaw0_SameTexts.f k t153 (([(⟨#[20, 0, 0, 2, 97, 98]⟩ : ByteArray)] : List ByteArray))).bind fun t178 => (if t178 = true then ((halberdlaw0_Num.f t156).bind fun t179 => (if t179 = 0 then (if t159 = 1 then ((halberdlaw0_Num.f bt162.2.1).bind fun t180 => (if t180 = 1800 then ((halberdlaw0_Num.f bt168.2.1).bind fun t181 => (some (t181 == 1800))) else (some false))) else (some false)) else (some false))) else (some false))) else (some false))) else (some false)))) = some r := H
  have A4 := Aside0.mk A40
  clear A40
  replace H := Option.bind_eq_some_iff.mp H
  obtain ⟨⟨t162, t165, t166, t167⟩, A50, H⟩ := H
  replace H : ((incr_Decoder_Feed.f k t166 t167 (⟨#[]⟩ : ByteArray)).bind fun bt168 => (if (t147.length : Int) = 0 then ((halberdlaw0_Num.f t150).bind fun t174 => (if t174 = 0 then ((halberdlaw0_SameTexts.f k t153 (([(⟨#[20, 0, 0, 2, 97, 98]⟩ : ByteArray)] : List ByteArray))).bind fun t178 => (if t178 = true then ((halberdlaw0_Num.f t156).bind fun t179 => (if t179 = 0 then (if t159 = 1 then ((halberdlaw0_Num.f t165).bind fun t180 => (if t180 = 1800 then ((halberdlaw0_Num.f bt168.2.1).bind fun t181 => (some (t181 == 1800))) else (some false))) else (some false)) else (some false))) else (some false))) else (some false))) else (some false))) = some r := H
  have A5 := Aside0.mk A50
  clear A50
  replace H := Option.bind_eq_some_iff.mp H
  obtain ⟨⟨t168, t171, t172, t173⟩, A60, H⟩ := H
  replace H : (if (t147.length : Int) = 0 then ((halberdlaw0_Num.f t150).bind fun t174 => (if t174 = 0 then ((halberdlaw0_SameTexts.f k t153 (([(⟨#[20, 0, 0, 2, 97, 98]⟩ : ByteArray)] : List ByteArray))).bind fun t178 => (if t178 = true then ((halberdlaw0_Num.f t156).bind fun t179 => (if t179 = 0 then (if t159 = 1 then ((halberdlaw0_Num.f t165).bind fun t180 => (if t180 = 1800 then ((halberdlaw0_Num.f t171).bind fun t181 => (some (t181 == 1800))) else (some false))) else (some false)) else (some false))) else (some false))) else (some false))) else (some false)) = some r := H
  have A6 := Aside0.mk A60
  clear A60
  by_cases c7 : (t147.length : Int) = 0
  · rw [if_pos c7] at H
    have c7b0 : ((t147.length : Int) == 0) = true := beq_iff_eq.mpr c7
    have c7b1 : ((t147.length : Int) != 0) = false := bne_eq_false_iff_eq.mpr c7
    clear c7
    replace H := Option.bind_eq_some_iff.mp H
    obtain ⟨t174, A80, H⟩ := H
    replace H : (if t174 = 0 then ((halberdlaw0_SameTexts.f k t153 (([(⟨#[20, 0, 0, 2, 97, 98]⟩ : ByteArray)] : List ByteArray))).bind fun t178 => (if t178 = true then ((halberdlaw0_Num.f t156).bind fun t179 => (if t179 = 0 then (if t159 = 1 then ((halberdlaw0_Num.f t165).bind fun t180 => (if t180 = 1800 then ((halberdlaw0_Num.f t171).bind fun t181 => (some (t181 == 1800))) else (some false))) else (some false)) else (some false))) else (some false))) else (some false)) = some r := H
    have A8 := Aside0.mk A80
    clear A80
    by_cases c9 : t174 = 0
    · rw [if_pos c9] at H
      have c9b0 : (t174 == 0) = true := beq_iff_eq.mpr c9
      have c9b1 : (t174 != 0) = false := bne_eq_false_iff_eq.mpr c9
      clear c9
      obtain ⟨y175, hy175⟩ : ∃ y_ : List ByteArray, y_ = (([(⟨#[20, 0, 0, 2, 97, 98]⟩ : ByteArray)] : List ByteArray)) := ⟨_, rfl⟩
      replace H : ((halberdlaw0_SameTexts.f k t153 y175).bind fun t178 => (if t178 = true then ((halberdlaw0_Num.f t156).bind fun t179 => (if t179 = 0 then (if t159 = 1 then ((halberdlaw0_Num.f t165).bind fun t180 => (if t180 = 1800 then ((halberdlaw0_Num.f t171).bind fun t181 => (some (t181 == 1800))) else (some false))) else (some false)) else (some false))) else (some false))) = some r := by first | (rw [hy175]; with_reducible exact H) | (have H2_ := (Option.bind_some _ _).symm.trans H; rw [hy175]; with_reducible exact H2_) | (have H2_ := (Option.bind_some _ _).symm.trans H; with_reducible exact H2_) | with_reducible exact H | (rw [hy175]; exact H) | exact H
      have Ny175 := Aside0.mk hy175
      clear hy175
      replace H := Option.bind_eq_some_iff.mp H
      obtain ⟨t178, A100, H⟩ := H
      replace H : (if t178 = true then ((halberdlaw0_Num.f t156).bind fun t179 => (if t179 = 0 then (if t159 = 1 then ((halberdlaw0_Num.f t165).bind fun t180 => (if t180 = 1800 then ((halberdlaw0_Num.f t171).bind fun t181 => (some (t181 == 1800))) else (some false))) else (some false)) else (some false))) else (some false)) = some r := H
      have A10 := Aside0.mk A100
      clear A100
      by_cases c11 : t178 = true
      · subst c11
        have H1 : ((halberdlaw0_Num.f t156).bind fun t179 => (if t179 = 0 then (if t159 = 1 then ((halberdlaw0_Num.f t165).bind fun t180 => (if t180 = 1800 then ((halberdlaw0_Num.f t171).bind fun t181 => (some (t181 == 1800))) else (some false))) else (some false)) else (some false))) = some r := by rw [if_pos rfl] at H; exact H
        clear H
        have H := H1
        clear H1
        replace H := Option.bind_eq_some_iff.mp H
        obtain ⟨t179, A120, H⟩ := H
        replace H : (if t179 = 0 then (if t159 = 1 then ((halberdlaw0_Num.f t165).bind fun t180 => (if t180 = 1800 then ((halberdlaw0_Num.f t171).bind fun t181 => (some (t181 == 1800))) else (some false))) else (some false)) else (some false)) = some r := H
        have A12 := Aside0.mk A120
        clear A120
        by_cases c13 : t179 = 0
        · rw [if_pos c13] at H
          have c13b0 : (t179 == 0) = true := beq_iff_eq.mpr c13
          have c13b1 : (t179 != 0) = false := bne_eq_false_iff_eq.mpr c13
          clear c13
          by_cases c14 : t159 = 1
          · rw [if_pos c14] at H
            have c14b0 : (t159 == 1) = true := beq_iff_eq.mpr c14
            have c14b1 : (t159 != 1) = false := bne_eq_false_iff_eq.mpr c14
            clear c14
            replace H := Option.bind_eq_some_iff.mp H
            obtain ⟨t180, A150, H⟩ := H
            replace H : (if t180 = 1800 then ((halberdlaw0_Num.f t171).bind fun t181 => (some (t181 == 1800))) else (some false)) = some r := H
            have A15 := Aside0.mk A150
            clear A150
            by_cases c16 : t180 = 1800
            · rw [if_pos c16] at H
              have c16b0 : (t180 == 1800) = true := beq_iff_eq.mpr c16
              have c16b1 : (t180 != 1800) = false := bne_eq_false_iff_eq.mpr c16
              clear c16
              replace H := Option.bind_eq_some_iff.mp H
              obtain ⟨t181, A170, H⟩ := H
              replace H : (some (t181 == 1800)) = some r := H
              have A17 := Aside0.mk A170
              clear A170
              obtain rfl := Option.some.inj H
              go_enter Try.func32, Try.ntmps32
              go_wp2_with (first | ((with_reducible refine gate_callee (f := 24) rfl ?_); refine goesL_ (some 11) rfl rfl Try.func24 (by kernel_rfl) rfl #[] rfl (by (try simp only [List.map_toArray, List.map_cons, List.map_nil]); first | done | rfl | (simp only [List.length_drop, List.length_take]; rfl)) ?_; (with_reducible refine (incr_New.calls  t144 t145 w _ ?side1 A1.out).mono ?_); (case side1 => repeat (first | (with_reducible first | exact HB.out | apply below_alloc | apply pw_below_drewN | apply below_drew1) | exact HB.out)); rintro e w18 ⟨g146, rfl, hi, hb, hb2⟩; refine ⟨_, rfl, ?_⟩; have n0_ := Aside0.mk (hb); have n1_ := Aside0.mk (hi); clear HB; have HB := n0_; have HI146 := n1_; clear n0_ n1_; (try clear hb); (try clear hb2); (try clear hk); (try clear hi)) | ((with_reducible refine gate_callee (f := 25) rfl ?_); refine goesL_ (some 14) rfl rfl Try.func25 (by kernel_rfl) rfl #[.pointer (some ⟨g146, 0, none⟩), .string (⟨#[20, 0, 0]⟩ : ByteArray)] rfl (by (try simp only [List.map_toArray, List.map_cons, List.map_nil]); first | done | rfl | (simp only [List.length_drop, List.length_take]; rfl)) ?_; (with_reducible refine (incr_Decoder_Feed.calls k g146 t144 t145 (⟨#[20, 0, 0]⟩ : ByteArray) t147 t150 t151 t152 w _ ?side1 ?side2 A2.out).mono ?_); (case side1 => repeat (first | (with_reducible first | exact HI146.out | apply IsS63.alloc | apply IsS63.drewN | apply IsS63.drew | apply IsS63.set_0 | apply IsS63.set_1) | exact HI146.out)); (case side2 => repeat (first | (with_reducible first | exact HB.out | apply below_alloc | apply pw_below_drewN | apply below_drew1 | refine below_set ?_ (IsS63.ge HI146.out)) | exact HB.out)); rintro e w19 ⟨v148, rfl, ho0, hi, hb, hk⟩; refine ⟨_, rfl, ?_⟩; have n0_ := Aside0.mk (Kd.R_lower ho0 (below_size (by repeat (first | (with_reducible first | exact HB.out | apply below_alloc | apply pw_below_drewN | apply below_drew1 | refine below_set ?_ (IsS63.ge HI146.out)) | exact HB.out)))); have n1_ := Aside0.mk (hb); have n2_ := Aside0.mk (hi); clear HB; clear HI146; have HO149 := n0_; have HB := n1_; have HI146 := n2_; clear n0_ n1_ n2_; (try clear hb); (try clear hb2); (try clear hk); (try clear hi); (try clear ho0)) | ((with_reducible refine gate_callee (f := 25) rfl ?_); refine goesL_ (some 19) rfl rfl Try.func25 (by kernel_rfl) rfl #[.pointer (some ⟨g146, 0, none⟩), .string (⟨#[2, 97, 98, 24]⟩ : ByteArray)] rfl (by (try simp only [List.map_toArray, List.map_cons, List.map_nil]); first | done | rfl | (simp only [List.length_drop, List.length_take]; rfl)) ?_; (with_reducible refine (incr_Decoder_Feed.calls k g146 t151 t152 (⟨#[2, 97, 98, 24]⟩ : ByteArray) t153 t156 t157 t158 w _ ?side1 ?side2 A3.out).mono ?_); (case side1 => repeat (first | (with_reducible first | exact HI146.out | apply IsS63.alloc | apply IsS63.drewN | apply IsS63.drew | apply IsS63.set_0 | apply IsS63.set_1) | exact HI146.out)); (case side2 => repeat (first | (with_reducible first | exact HB.out | apply below_alloc | apply pw_below_drewN | apply below_drew1 | refine below_set ?_ (IsS63.ge HI146.out)) | exact HB.out)); rintro e w20 ⟨v154, rfl, ho0, hi, hb, hk⟩; refine ⟨_, rfl, ?_⟩; have n0_ := Aside0.mk (Kd.R_mono (Kd.R_told (Kd.R_oldK (IsS63.apart (show IsS63 w _ g146 t151 t152 from by repeat (first | (with_reducible first | exact HI146.out | apply IsS63.alloc | apply IsS63.drewN | apply IsS63.drew | apply IsS63.set_0 | apply IsS63.set_1) | exact HI146.out)) (by (with_reducible repeat (first | apply Kd.R_alloc | apply Kd.R_drewN | apply Kd.R_drew)); exact HO149.out) (by decide)) hk) (Kd.R_base ho0)) (fun _ h_ => h_.1)); have n1_ := Aside0.mk (Kd.R_lower (Kd.R_new' ho0 (Kd.R_lt (by (with_reducible repeat (first | apply Kd.R_alloc | apply Kd.R_drewN | apply Kd.R_drew)); exact HO149.out))) (below_size (by repeat (first | (with_reducible first | exact HB.out | apply below_alloc | apply pw_below_drewN | apply below_drew1 | refine below_set ?_ (IsS63.ge HI146.out)) | exact HB.out)))); have n2_ := Aside0.mk (hb); have n3_ := Aside0.mk (hi); clear HO149; clear HB; clear HI146; have HO149 := n0_; have HO155 := n1_; have HB := n2_; have HI146 := n3_; clear n0_ n1_ n2_ n3_; (try clear hb); (try clear hb2); (try clear hk); (try clear hi); (try clear ho0)) | ((with_reducible refine gate_callee (f := 29) rfl ?_); refine goesL_ (some 23) rfl rfl Try.func29 (by kernel_rfl) rfl #[.pointer (some ⟨g146, 0, none⟩)] rfl (by (try simp only [List.map_toArray, List.map_cons, List.map_nil]); first | done | rfl | (simp only [List.length_drop, List.length_take]; rfl)) ?_; (with_reducible refine (incr_Decoder_Held.calls g146 t157 t158 t159 t160 t161 w _ ?side1 ?side2 A4.out).mono ?_); (case side1 => repeat (first | (with_reducible first | exact HI146.out | apply IsS63.alloc | apply IsS63.drewN | apply IsS63.drew | apply IsS63.set_0 | apply IsS63.set_1) | exact HI146.out)); (case side2 => repeat (first | (with_reducible first | exact HB.out | apply below_alloc | apply pw_below_drewN | apply below_drew1 | refine below_set ?_ (IsS63.ge HI146.out)) | exact HB.out)); rintro e w21 ⟨rfl, hi, hb, hk⟩; refine ⟨_, rfl, ?_⟩; have n0_ := Aside0.mk (Kd.R_mono (Kd.R_keep (IsS63.apart (show IsS63 w _ g146 t157 t158 from by repeat (first | (with_reducible first | exact HI146.out | apply IsS63.alloc | apply IsS63.drewN | apply IsS63.drew | apply IsS63.set_0 | apply IsS63.set_1) | exact HI146.out)) (by (with_reducible repeat (first | apply Kd.R_alloc | apply Kd.R_drewN | apply Kd.R_drew)); exact HO149.out) (by decide)) hk (fun _ h => h.2)) (fun _ h => h.1)); have n1_ := Aside0.mk (Kd.R_mono (Kd.R_keep (IsS63.apart (show IsS63 w _ g146 t157 t158 from by repeat (first | (with_reducible first | exact HI146.out | apply IsS63.alloc | apply IsS63.drewN | apply IsS63.drew | apply IsS63.set_0 | apply IsS63.set_1) | exact HI146.out)) (by (with_reducible repeat (first | apply Kd.R_alloc | apply Kd.R_drewN | apply Kd.R_drew)); exact HO155.out) (by decide)) hk (fun _ h => h.2)) (fun _ h => h.1)); have n2_ := Aside0.mk (hb); have n3_ := Aside0.mk (hi); clear HO149; clear HO155; clear HB; clear HI146; have HO149 := n0_; have HO155 := n1_; have HB := n2_; have HI146 := n3_; clear n0_ n1_ n2_ n3_; (try clear hb); (try clear hb2); (try clear hk); (try clear hi)) | ((with_reducible refine gate_callee (f := 25) rfl ?_); refine goesL_ (some 26) rfl rfl Try.func25 (by kernel_rfl) rfl #[.pointer (some ⟨g146, 0, none⟩), .string (⟨#[1, 0, 0]⟩ : ByteArray)] rfl (by (try simp only [List.map_toArray, List.map_cons, List.map_nil]); first | done | rfl | (simp only [List.length_drop, List.length_take]; rfl)) ?_; (with_reducible refine (incr_Decoder_Feed.calls k g146 t160 t161 (⟨#[1, 0, 0]⟩ : ByteArray) t162 t165 t166 t167 w _ ?side1 ?side2 A5.out).mono ?_); (case side1 => repeat (first | (with_reducible first | exact HI146.out | apply IsS63.alloc | apply IsS63.drewN | apply IsS63.drew | apply IsS63.set_0 | apply IsS63.set_1) | exact HI146.out)); (case side2 => repeat (first | (with_reducible first | exact HB.out | apply below_alloc | apply pw_below_drewN | apply below_drew1 | refine below_set ?_ (IsS63.ge HI146.out)) | exact HB.out)); rintro e w22 ⟨v163, rfl, ho0, hi, hb, hk⟩; refine ⟨_, rfl, ?_⟩; have n0_ := Aside0.mk (Kd.R_mono (Kd.R_told (Kd.R_oldK (IsS63.apart (show IsS63 w _ g146 t160 t161 from by repeat (first | (with_reducible first | exact HI146.out | apply IsS63.alloc | apply IsS63.drewN | apply IsS63.drew | apply IsS63.set_0 | apply IsS63.set_1) | exact HI146.out)) (by (with_reducible repeat (first | apply Kd.R_alloc | apply Kd.R_drewN | apply Kd.R_drew)); exact HO149.out) (by decide)) hk) (Kd.R_base ho0)) (fun _ h_ => h_.1)); have n1_ := Aside0.mk (Kd.R_mono (Kd.R_told (Kd.R_oldK (IsS63.apart (show IsS63 w _ g146 t160 t161 from by repeat (first | (with_reducible first | exact HI146.out | apply IsS63.alloc | apply IsS63.drewN | apply IsS63.drew | apply IsS63.set_0 | apply IsS63.set_1) | exact HI146.out)) (by (with_reducible repeat (first | apply Kd.R_alloc | apply Kd.R_drewN | apply Kd.R_drew)); exact HO155.out) (by decide)) hk) (Kd.R_base ho0)) (fun _ h_ => h_.1)); have n2_ := Aside0.mk (Kd.R_lower (Kd.R_new' (Kd.R_new' ho0 (Kd.R_lt (by (with_reducible repeat (first | apply Kd.R_alloc | apply Kd.R_drewN | apply Kd.R_drew)); exact HO149.out))) (Kd.R_lt (by (with_reducible repeat (first | apply Kd.R_alloc | apply Kd.R_drewN | apply Kd.R_drew)); exact HO155.out))) (below_size (by repeat (first | (with_reducible first | exact HB.out | apply below_alloc | apply pw_below_drewN | apply below_drew1 | refine below_set ?_ (IsS63.ge HI146.out)) | exact HB.out)))); have n3_ := Aside0.mk (hb); have n4_ := Aside0.mk (hi); clear HO149; clear HO155; clear HB; clear HI146; have HO149 := n0_; have HO155 := n1_; have HO164 := n2_; have HB := n3_; have HI146 := n4_; clear n0_ n1_ n2_ n3_ n4_; (try clear hb); (try clear hb2); (try clear hk); (try clear hi); (try clear ho0)) | ((with_reducible refine gate_callee (f := 25) rfl ?_); refine goesL_ (some 31) rfl rfl Try.func25 (by kernel_rfl) rfl #[.pointer (some ⟨g146, 0, none⟩), .string (⟨#[]⟩ : ByteArray)] rfl (by (try simp only [List.map_toArray, List.map_cons, List.map_nil]); first | done | rfl | (simp only [List.length_drop, List.length_take]; rfl)) ?_; (with_reducible refine (incr_Decoder_Feed.calls k g146 t166 t167 (⟨#[]⟩ : ByteArray) t168 t171 t172 t173 w _ ?side1 ?side2 A6.out).mono ?_); (case side1 => repeat (first | (with_reducible first | exact HI146.out | apply IsS63.alloc | apply IsS63.drewN | apply IsS63.drew | apply IsS63.set_0 | apply IsS63.set_1) | exact HI146.out)); (case side2 => repeat (first | (with_reducible first | exact HB.out | apply below_alloc | apply pw_below_drewN | apply below_drew1 | refine below_set ?_ (IsS63.ge HI146.out)) | exact HB.out)); rintro e w23 ⟨v169, rfl, ho0, hi, hb, hk⟩; refine ⟨_, rfl, ?_⟩; have n0_ := Aside0.mk (Kd.R_mono (Kd.R_told (Kd.R_oldK (IsS63.apart (show IsS63 w _ g146 t166 t167 from by repeat (first | (with_reducible first | exact HI146.out | apply IsS63.alloc | apply IsS63.drewN | apply IsS63.drew | apply IsS63.set_0 | apply IsS63.set_1) | exact HI146.out)) (by (with_reducible repeat (first | apply Kd.R_alloc | apply Kd.R_drewN | apply Kd.R_drew)); exact HO149.out) (by decide)) hk) (Kd.R_base ho0)) (fun _ h_ => h_.1)); have n1_ := Aside0.mk (Kd.R_mono (Kd.R_told (Kd.R_oldK (IsS63.apart (show IsS63 w _ g146 t166 t167 from by repeat (first | (with_reducible first | exact HI146.out | apply IsS63.alloc | apply IsS63.drewN | apply IsS63.drew | apply IsS63.set_0 | apply IsS63.set_1) | exact HI146.out)) (by (with_reducible repeat (first | apply Kd.R_alloc | apply Kd.R_drewN | apply Kd.R_drew)); exact HO155.out) (by decide)) hk) (Kd.R_base ho0)) (fun _ h_ => h_.1)); have n2_ := Aside0.mk (Kd.R_mono (Kd.R_told (Kd.R_oldK (IsS63.apart (show IsS63 w _ g146 t166 t167 from by repeat (first | (with_reducible first | exact HI146.out | apply IsS63.alloc | apply IsS63.drewN | apply IsS63.drew | apply IsS63.set_0 | apply IsS63.set_1) | exact HI146.out)) (by (with_reducible repeat (first | apply Kd.R_alloc | apply Kd.R_drewN | apply Kd.R_drew)); exact HO164.out) (by decide)) hk) (Kd.R_base ho0)) (fun _ h_ => h_.1)); have n3_ := Aside0.mk (Kd.R_lower (Kd.R_new' (Kd.R_new' (Kd.R_new' ho0 (Kd.R_lt (by (with_reducible repeat (first | apply Kd.R_alloc | apply Kd.R_drewN | apply Kd.R_drew)); exact HO149.out))) (Kd.R_lt (by (with_reducible repeat (first | apply Kd.R_alloc | apply Kd.R_drewN | apply Kd.R_drew)); exact HO155.out))) (Kd.R_lt (by (with_reducible repeat (first | apply Kd.R_alloc | apply Kd.R_drewN | apply Kd.R_drew)); exact HO164.out))) (below_size (by repeat (first | (with_reducible first | exact HB.out | apply below_alloc | apply pw_below_drewN | apply below_drew1 | refine below_set ?_ (IsS63.ge HI146.out)) | exact HB.out)))); have n4_ := Aside0.mk (hb); have n5_ := Aside0.mk (hi); clear HO149; clear HO155; clear HO164; clear HB; clear HI146; have HO149 := n0_; have HO155 := n1_; have HO164 := n2_; have HO170 := n3_; have HB := n4_; have HI146 := n5_; clear n0_ n1_ n2_ n3_ n4_ n5_; (try clear hb); (try clear hb2); (try clear hk); (try clear hi); (try clear ho0); obtain ⟨Ao24, co24, eo24⟩ := Kd.R_slice HO149.out; subst eo24) | (go_at_call 28; (with_reducible refine (halberdlaw0_Num.calls t150 t174 _ A8.out).mono ?_); rintro e w' ⟨rfl, ⟨nd, rfl⟩⟩) | ((with_reducible refine gate_dst (N := 44) rfl ?_); (try (refine gate_guard (by rfl) ?_; dsimp only)); refine Kd.R_lit Kd.string _ 9 ?hg (N := 44) ?hd (xs := ([(⟨#[20, 0, 0, 2, 97, 98]⟩ : ByteArray)] : List ByteArray)) (inner := [.string (⟨#[20, 0, 0, 2, 97, 98]⟩ : ByteArray)]) (ok := fun _ => True) (okp := fun _ => True) ?hr ?hp (fun _ hk => hk) trivial (Below.refl _ _) (Nat.le_refl _) (by simp) ?_; (case hd => rfl); (case hg => rfl); (case hr => first | (go_simp; done) | (go_simp; rfl)); (case hp => exact (Reps.one (show Kd.M Kd.string _ _ _ (⟨#[20, 0, 0, 2, 97, 98]⟩ : ByteArray) [.string (⟨#[20, 0, 0, 2, 97, 98]⟩ : ByteArray)] from rfl) (Reps.none _ _))); intro v176 w25 ho26 hb hg_ hnew_; clear hg_ hnew_; (first | rw [← Ny175.out] at ho26 | (simp only [Int.reduceToNat] at ho26; rw [← Ny175.out] at ho26)); have n0_ := Aside0.mk (Kd.R_elder' (by (with_reducible repeat (first | apply Kd.R_alloc | apply Kd.R_drewN | apply Kd.R_drew)); exact HO149.out) (Kd.R_base ho26) hb); have n1_ := Aside0.mk (Kd.R_elder' (by (with_reducible repeat (first | apply Kd.R_alloc | apply Kd.R_drewN | apply Kd.R_drew)); exact HO155.out) (Kd.R_base ho26) hb); have n2_ := Aside0.mk (Kd.R_elder' (by (with_reducible repeat (first | apply Kd.R_alloc | apply Kd.R_drewN | apply Kd.R_drew)); exact HO164.out) (Kd.R_base ho26) hb); have n3_ := Aside0.mk (Kd.R_elder' (by (with_reducible repeat (first | apply Kd.R_alloc | apply Kd.R_drewN | apply Kd.R_drew)); exact HO170.out) (Kd.R_base ho26) hb); have n4_ := Aside0.mk (Kd.R_lower (Kd.R_new' (Kd.R_new' (Kd.R_new' (Kd.R_new' ho26 (Kd.R_lt (by (with_reducible repeat (first | apply Kd.R_alloc | apply Kd.R_drewN | apply Kd.R_drew)); exact HO149.out))) (Kd.R_lt (by (with_reducible repeat (first | apply Kd.R_alloc | apply Kd.R_drewN | apply Kd.R_drew)); exact HO155.out))) (Kd.R_lt (by (with_reducible repeat (first | apply Kd.R_alloc | apply Kd.R_drewN | apply Kd.R_drew)); exact HO164.out))) (Kd.R_lt (by (with_reducible repeat (first | apply Kd.R_alloc | apply Kd.R_drewN | apply Kd.R_drew)); exact HO170.out))) (below_size (by repeat (first | (with_reducible first | exact HB.out | apply below_alloc | apply pw_below_drewN | apply below_drew1 | refine below_set ?_ (IsS63.ge HI146.out)) | exact HB.out)))); have n5_ := Aside0.mk (IsS63.below (by repeat (first | (with_reducible first | exact HI146.out | apply IsS63.alloc | apply IsS63.drewN | apply IsS63.drew | apply IsS63.set_0 | apply IsS63.set_1) | exact HI146.out)) hb); have n6_ := Aside0.mk (below_step (by repeat (first | (with_reducible first | exact HB.out | apply below_alloc | apply pw_below_drewN | apply below_drew1 | refine below_set ?_ (IsS63.ge HI146.out)) | exact HB.out)) hb); clear HO149; clear HO155; clear HO164; clear HO170; clear HI146; clear HB; have HO149 := n0_; have HO155 := n1_; have HO164 := n2_; have HO170 := n3_; have HO177 := n4_; have HI146 := n5_; have HB := n6_; clear n0_ n1_ n2_ n3_ n4_ n5_ n6_; clear hb ho26; obtain ⟨Ao27, co27, eo27⟩ := Kd.R_slice HO155.out; subst eo27; obtain ⟨Ao28, co28, eo28⟩ := Kd.R_slice HO177.out; subst eo28) | (go_at_call 27; (with_reducible refine (halberdlaw0_SameTexts.calls k _ _ t153 _ _ y175 true _ ?side1 ?side2 ?side3 ?side4 A10.out).mono ?_); (case side1 => repeat (first | exact (Kd.R_reads' HO155.out).2.2 | (with_reducible refine Kd.C_alloc ?_ _) | (with_reducible refine Kd.C_drewN ?_ _) | (with_reducible refine Kd.C_drew ?_))); (case side2 => exact (Kd.R_reads' HO155.out).2.1); (case side3 => repeat (first | exact (Kd.R_reads' HO177.out).2.2 | (with_reducible refine Kd.C_alloc ?_ _) | (with_reducible refine Kd.C_drewN ?_ _) | (with_reducible refine Kd.C_drew ?_))); (case side4 => exact (Kd.R_reads' HO177.out).2.1); rintro e w' ⟨rfl, ⟨nd, rfl⟩⟩) | (go_at_call 28; (with_reducible refine (halberdlaw0_Num.calls t156 t179 _ A12.out).mono ?_); rintro e w' ⟨rfl, ⟨nd, rfl⟩⟩) | (go_at_call 28; (with_reducible refine (halberdlaw0_Num.calls t165 t180 _ A15.out).mono ?_); rintro e w' ⟨rfl, ⟨nd, rfl⟩⟩) | (go_at_call 28; (with_reducible refine (halberdlaw0_Num.calls t171 t181 _ A17.out).mono ?_); rintro e w' ⟨rfl, ⟨nd, rfl⟩⟩))
              go_ret
              exact ⟨by first | rfl | (simp [errW_none, errW_some] <;> rfl) | (simp [*, errW_none, errW_some] <;> rfl), by repeat (first | (with_reducible first | exact HB.out | apply below_alloc | apply pw_below_drewN | apply below_drew1 | refine below_set ?_ (IsS63.ge HI146.out)) | exact HB.out)⟩
            · rw [if_neg c16] at H
              have c16b0 : (t180 == 1800) = false := beq_eq_false_iff_ne.mpr c16
              have c16b1 : (t180 != 1800) = true := bne_iff_ne.mpr c16
              exact absurd ((Option.some.inj H).trans hr.out) (by decide)
          · rw [if_neg c14] at H
            have c14b0 : (t159 == 1) = false := beq_eq_false_iff_ne.mpr c14
            have c14b1 : (t159 != 1) = true := bne_iff_ne.mpr c14
            exact absurd ((Option.some.inj H).trans hr.out) (by decide)
        · rw [if_neg c13] at H
          have c13b0 : (t179 == 0) = false := beq_eq_false_iff_ne.mpr c13
          have c13b1 : (t179 != 0) = true := bne_iff_ne.mpr c13
          exact absurd ((Option.some.inj H).trans hr.out) (by decide)
      · replace c11 := Bool.eq_false_iff.mpr c11
        subst c11
        have H1 : (some false) = some r := by rw [if_neg (show ¬ (false = true) by decide)] at H; exact H
        clear H
        have H := H1
        clear H1
        exact absurd ((Option.some.inj H).trans hr.out) (by decide)
    · rw [if_neg c9] at H
      have c9b0 : (t174 == 0) = false := beq_eq_false_iff_ne.mpr c9
      have c9b1 : (t174 != 0) = true := bne_iff_ne.mpr c9
      exact absurd ((Option.some.inj H).trans hr.out) (by decide)
  · rw [if_neg c7] at H
    have c7b0 : ((t147.length : Int) == 0) = false := beq_eq_false_iff_ne.mpr c7
    have c7b1 : ((t147.length : Int) != 0) = true := bne_iff_ne.mpr c7
    have c7b2 : ¬ (t147 = []) := fun h_ => c7 (by rw [h_]; rfl)
    exact absurd ((Option.some.inj H).trans hr.out) (by decide)

/-! ### halberdlaw18_awake: function 32, closed -/
def halberdlaw18_awake.f : Option (Bool) := some true
theorem halberdlaw18_awake.knows : halberdlaw18_awake0.f 40 = some true := by decide +kernel
theorem halberdlaw18_awake.calls (r : Bool) (w : World) (h : halberdlaw18_awake.f = some r) : Calls Try.prog 32 #[] w fun e w' => e = .returned (.bool r) ∧ Below w.heap.size w w' := by
  obtain rfl := Option.some.inj h
  exact halberdlaw18_awake0.calls 40  true w halberdlaw18_awake.knows ⟨rfl⟩

-- NOT PRINTED: function 4 (halberdlaw18_Increments)

end Go.Proofs.Ytggnmnpmhknjgaa.I
