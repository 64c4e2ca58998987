-- Written by a program of this session (wip/tools/extsx.py), out of the printed texts.
import Derived.Test.YtlkebjkpmiehcaaEx0
import Derived.Test.YtlkebjkpmiehcaaEx11
import Derived.Test.YtlkebjkpmiehcaaEx12
import Derived.Test.YtlkebjkpmiehcaaEx13
import Derived.Test.YtlkebjkpmiehcaaEx3
import Derived.Test.YtlkebjkpmiehcaaEx4
import Derived.Test.YtlkebjkpmiehcaaEx5
import Derived.Test.YtlkebjkpmiehcaaEx7
import Derived.Test.YtlkebjkpmiehcaaEx9
namespace Go.Proofs.Ytlkebjkpmiehcaa.E
open Go.RowKit Go.Proofs.YtlkebjkpmiehcaaW.PrintWords Go.Proofs.YtlkebjkpmiehcaaW.PrintLast Go.Proofs.YtlkebjkpmiehcaaW.PrintMore
attribute [local go_sem] max2_int min2_int max_two min_two max_three min_three max_four min_four   -- for this text's walks alone
set_option linter.unusedVariables false
set_option linter.unusedSimpArgs false


attribute [local go_sem high] eqA41
theorem cut_to2 {P : Program} (t e : TypeId) (kh : IntKind) {i : TypeInfo} (ht : P.underlying t = some (.slice e)) (hi : P.info? e = some i) (A : Option Addr) (n c : Nat) (j : Int) (h0 : 0 ≤ j) (hm : j ≤ c) :
    ∀ W : World, (Instr.slice t (.slice A n c) none (some (.int kh j)) none).run P W = .ok (.slice A j.toNat c) W := by
  intro W
  have hel : P.elem t = e := by simp [Program.elem, ht]
  have hu : P.underlying t = some (.slice (P.elem t)) := by rw [hel]; exact ht
  have ha : (A.map fun x => x.add 0) = A := by cases A <;> simp [Addr.add]
  rw [run_slice_h W t A n c hu kh j h0 hm, hel]
  simp [sizeOf, typeInfo, hi, sliced, Result.andThen, ha]
theorem copy_same {l r : List S41} (h : halberdlaw0_CopyExts.f l = some r) : r = l := by
  unfold halberdlaw0_CopyExts.f at h
  simp only [Option.bind_some, List.nil_append] at h
  split at h
  · exact (Option.some.inj h).symm
  · cases h
theorem long_C {w : World} {base : Nat} {ok : Nat → Prop} {A : Option Addr} {n c : Nat} {l t : List S41} (h : Kd.R k41 41 w base ok (.slice A n c) (l ++ t)) : Kd.C k41 w A l.length l := by
  have h_ := Kd.C_take (m := l.length) (Kd.R_reads' h).2.2 (by rw [List.length_append]; omega)
  rw [List.take_left' rfl] at h_
  exact h_
theorem long_c2 {w : World} {base : Nat} {ok : Nat → Prop} {A : Option Addr} {n c : Nat} {l : List S41} (h : Kd.R k41 41 w base ok (.slice A n c) l) : l.length ≤ c := by
  obtain ⟨h1, h2, _⟩ := Kd.R_reads' h
  omega
theorem long_c {w : World} {base : Nat} {ok : Nat → Prop} {A : Option Addr} {n c : Nat} {l t : List S41} (h : Kd.R k41 41 w base ok (.slice A n c) (l ++ t)) : l.length ≤ c := by
  obtain ⟨h1, h2, _⟩ := Kd.R_reads' h
  rw [List.length_append] at h1
  omega
set_option maxHeartbeats 8000000 in
set_option maxRecDepth 100000 in
theorem halberdlaw0_LendExts2.calls (A0 : Option Addr) (c0 : Nat) (l0 : List (S41)) (r : List (S41)) (w : World) (hr0 : Kd.C k41 w A0 l0.length l0) (hc0 : l0.length ≤ c0) (h : halberdlaw0_LendExts.f l0 = some r) :
    Calls Try.prog 14 #[.slice A0 l0.length c0] w fun e w' => ∃ (Av : Option Addr) (cv : Nat), e = .returned (.slice Av r.length cv) ∧ Kd.R k41 41 w' w.heap.size (fun _ => True) (.slice Av (r.length + 2) cv) (r ++ ([(⟨77777, (⟨#[]⟩ : ByteArray)⟩ : S41), (⟨77777, (⟨#[]⟩ : ByteArray)⟩ : S41)] : List S41)) ∧ Below w.heap.size w w' := by
  have hu41 := Try.underlying41
  have HR0 := Aside0.mk hr0
  have HC0 := Aside0.mk hc0
  clear hr0 hc0
  have HB := Aside0.mk (Below.refl w.heap.size w)
  have H : ((halberdlaw0_CopyExts.f l0).bind fun t312 => ((some (([(⟨77777, (⟨#[]⟩ : ByteArray)⟩ : S41), (⟨77777, (⟨#[]⟩ : ByteArray)⟩ : S41)] : List (S41)) : List (S41))).bind fun y315 => (if t312.length + y315.length < 5864062014805 then ((some (t312 ++ y315 : List (S41))).bind fun y318 => (if 0 ≤ (l0.length : Int) then (if (l0.length : Int) ≤ (y318.length : Int) then (some (y318.take ((l0.length : Int) : Int).toNat)) else (none)) else (none))) else (none)))) = some r := h
  clear h
  replace H := Option.bind_eq_some_iff.mp H
  obtain ⟨t312, A20, H⟩ := H
  replace H : ((some (([(⟨77777, (⟨#[]⟩ : ByteArray)⟩ : S41), (⟨77777, (⟨#[]⟩ : ByteArray)⟩ : S41)] : List (S41)) : List (S41))).bind fun y315 => (if t312.length + y315.length < 5864062014805 then ((some (t312 ++ y315 : List (S41))).bind fun y318 => (if 0 ≤ (l0.length : Int) then (if (l0.length : Int) ≤ (y318.length : Int) then (some (y318.take ((l0.length : Int) : Int).toNat)) else (none)) else (none))) else (none))) = some r := H
  have A2 := Aside0.mk A20
  clear A20
  obtain ⟨y315, hy315⟩ : ∃ y_ : List (S41), y_ = (([(⟨77777, (⟨#[]⟩ : ByteArray)⟩ : S41), (⟨77777, (⟨#[]⟩ : ByteArray)⟩ : S41)] : List (S41))) := ⟨_, rfl⟩
  replace H : (if t312.length + y315.length < 5864062014805 then ((some (t312 ++ y315 : List (S41))).bind fun y318 => (if 0 ≤ (l0.length : Int) then (if (l0.length : Int) ≤ (y318.length : Int) then (some (y318.take ((l0.length : Int) : Int).toNat)) else (none)) else (none))) else (none)) = some r := by first | (rw [hy315]; with_reducible exact H) | (have H2_ := (Option.bind_some _ _).symm.trans H; rw [hy315]; with_reducible exact H2_) | (have H2_ := (Option.bind_some _ _).symm.trans H; with_reducible exact H2_) | with_reducible exact H | (rw [hy315]; exact H) | exact H
  have Ny315 := Aside0.mk hy315
  clear hy315
  by_cases c3 : t312.length + y315.length < 5864062014805
  · rw [if_pos c3] at H
    have LMc3 := Aside0.mk c3
    clear c3
    obtain ⟨y318, hy318⟩ : ∃ y_ : List (S41), y_ = (t312 ++ y315) := ⟨_, rfl⟩
    replace H : (if 0 ≤ (l0.length : Int) then (if (l0.length : Int) ≤ (y318.length : Int) then (some (y318.take ((l0.length : Int) : Int).toNat)) else (none)) else (none)) = some r := by first | (rw [hy318]; with_reducible exact H) | (have H2_ := (Option.bind_some _ _).symm.trans H; rw [hy318]; with_reducible exact H2_) | (have H2_ := (Option.bind_some _ _).symm.trans H; with_reducible exact H2_) | with_reducible exact H | (rw [hy318]; exact H) | exact H
    have Ny318 := Aside0.mk hy318
    clear hy318
    by_cases c4 : 0 ≤ (l0.length : Int)
    · rw [if_pos c4] at H
      have c4b0 := eq_true c4
      have c4b1 : decide (0 ≤ (l0.length : Int)) = true := decide_eq_true c4
      clear c4
      by_cases c5 : (l0.length : Int) ≤ (y318.length : Int)
      · rw [if_pos c5] at H
        have c5b0 := eq_true c5
        have c5b1 : decide ((l0.length : Int) ≤ (y318.length : Int)) = true := decide_eq_true c5
        clear c5
        obtain ⟨y321, hy321⟩ : ∃ y_ : List (S41), y_ = (y318.take ((l0.length : Int) : Int).toNat) := ⟨_, rfl⟩
        replace H : (some y321) = some r := by first | (rw [hy321]; with_reducible exact H) | (have H2_ := (Option.bind_some _ _).symm.trans H; rw [hy321]; with_reducible exact H2_) | (have H2_ := (Option.bind_some _ _).symm.trans H; with_reducible exact H2_) | with_reducible exact H | (rw [hy321]; exact H) | exact H
        have Ny321 := Aside0.mk hy321
        clear hy321
        obtain rfl := Option.some.inj H
        go_enter Try.func14, Try.ntmps14
        go_wp2_with (first | ((with_reducible refine gate_callee (f := 38) rfl ?_); refine goesL_ (some 5) rfl rfl Try.func38 (by kernel_rfl) rfl #[.slice A0 l0.length c0] rfl (by (try simp only [List.map_toArray, List.map_cons, List.map_nil]); first | done | rfl | (simp only [List.length_drop, List.length_take]; rfl)) ?_; (with_reducible refine (halberdlaw0_CopyExts.calls _ _ l0 t312 _ ?side1 ?side2 A2.out).mono ?_); (case side1 => repeat (first | exact HR0.out | (with_reducible refine Kd.C_alloc ?_ _) | (with_reducible refine Kd.C_drewN ?_ _) | (with_reducible refine Kd.C_drew ?_))); (case side2 => exact HC0.out); rintro e w6 ⟨v313, rfl, ho0, hb⟩; refine ⟨_, rfl, ?_⟩; have n0_ := Aside0.mk (Kd.R_lower ho0 (below_size (by repeat (first | (with_reducible first | exact HB.out | apply below_alloc | apply pw_below_drewN | apply below_drew1) | exact HB.out)))); have n1_ := Aside0.mk (below_step (by repeat (first | (with_reducible first | exact HB.out | apply below_alloc | apply pw_below_drewN | apply below_drew1) | exact HB.out)) hb); clear HB; have HO314 := n0_; have HB := n1_; clear n0_ n1_; (try clear hb); (try clear hb2); (try clear hk); (try clear hi); (try clear ho0)) | ((with_reducible refine gate_dst (N := 8) rfl ?_); refine Kd.R_lit k41 _ 41 ?hg (N := 8) ?hd (xs := ([(⟨77777, (⟨#[]⟩ : ByteArray)⟩ : S41), (⟨77777, (⟨#[]⟩ : ByteArray)⟩ : S41)] : List (S41))) (inner := [.int .i64 77777, .string (⟨#[]⟩ : ByteArray), .int .i64 77777, .string (⟨#[]⟩ : ByteArray)]) (ok := fun _ => True) (okp := fun _ => True) ?hr ?hp (fun _ hk => hk) trivial (Below.refl _ _) (Nat.le_refl _) (by simp) ?_; (case hd => rfl); (case hg => rfl); (case hr => first | (go_simp; done) | (go_simp; rfl)); (case hp => exact (Reps.c2 (show Kd.M k41 _ _ _ (⟨77777, (⟨#[]⟩ : ByteArray)⟩ : S41) [.int .i64 77777, .string (⟨#[]⟩ : ByteArray)] from (k41_mkM _ _ _ (⟨77777, (⟨#[]⟩ : ByteArray)⟩ : S41) )) (Reps.c2 (show Kd.M k41 _ _ _ (⟨77777, (⟨#[]⟩ : ByteArray)⟩ : S41) [.int .i64 77777, .string (⟨#[]⟩ : ByteArray)] from (k41_mkM _ _ _ (⟨77777, (⟨#[]⟩ : ByteArray)⟩ : S41) )) (Reps.none _ _)))); intro v316 w7 ho8 hb hg_ hnew_; clear hg_ hnew_; (first | rw [← Ny315.out] at ho8 | (simp only [Int.reduceToNat] at ho8; rw [← Ny315.out] at ho8)); have n0_ := Aside0.mk (Kd.R_elder' (by (with_reducible repeat (first | apply Kd.R_alloc | apply Kd.R_drewN | apply Kd.R_drew)); exact HO314.out) (Kd.R_base ho8) hb); have n1_ := Aside0.mk (Kd.R_lower (Kd.R_new' ho8 (Kd.R_lt (by (with_reducible repeat (first | apply Kd.R_alloc | apply Kd.R_drewN | apply Kd.R_drew)); exact HO314.out))) (below_size (by repeat (first | (with_reducible first | exact HB.out | apply below_alloc | apply pw_below_drewN | apply below_drew1) | exact HB.out)))); have n2_ := Aside0.mk (below_step (by repeat (first | (with_reducible first | exact HB.out | apply below_alloc | apply pw_below_drewN | apply below_drew1) | exact HB.out)) hb); clear HO314; clear HB; have HO314 := n0_; have HO317 := n1_; have HB := n2_; clear n0_ n1_ n2_; clear hb ho8; obtain ⟨Ao10, co10, eo10⟩ := Kd.R_slice HO317.out; subst eo10) | ((with_reducible refine gate_builtin (b := .append) (xs := #[.tmp 5, .tmp 8]) rfl ?_); at_builtin; refine Kd.R_append_rows k41 (w0 := w) w.heap.size rfl (.tmp 5) (.tmp 8) 22 41 (.agg #[(.int .i64 0), (.string ⟨#[]⟩)]) 24 rfl Try.underlying22 info41 rfl (by decide) (by omega) v313 t312 y315 _ _ _ (fun k_ => some k_ ≠ (.slice Ao10 y315.length co10 : Value).ownBlock) (fun _ => False) rfl rfl ?aO ?aR (fun _ _ h => h) (fun _ h => h.elim) ?aF ?aB ?aS ?aL ?_; (case aR => repeat (first | exact (Kd.R_reads' HO317.out).2.2 | (with_reducible refine Kd.C_alloc ?_ _) | (with_reducible refine Kd.C_drewN ?_ _) | (with_reducible refine Kd.C_drew ?_))); (case aB => exact (by repeat (first | (with_reducible first | exact HB.out | apply below_alloc | apply pw_below_drewN | apply below_drew1) | exact HB.out))); (case aF => exact (fun k_ hk => Kd.fresh' (Kd.R_lt (by (with_reducible repeat (first | apply Kd.R_alloc | apply Kd.R_drewN | apply Kd.R_drew)); exact HO317.out)) k_ hk)); (case aO => exact (by (with_reducible repeat (first | apply Kd.R_alloc | apply Kd.R_drewN | apply Kd.R_drew)); exact Kd.R_mono HO314.out (fun _ hk => hk.2))); (case aS => exact (below_size (by repeat (first | (with_reducible first | exact HB.out | apply below_alloc | apply pw_below_drewN | apply below_drew1) | exact HB.out)))); (case aL => have := LMc3.out; omega); intro v319 w9 ho hb hg hat; rw [← Ny318.out] at ho; have n0_ := Aside0.mk (Kd.R_after (ok := (fun _ => True)) (by (with_reducible repeat (first | apply Kd.R_alloc | apply Kd.R_drewN | apply Kd.R_drew)); exact HO317.out) hg hat); have n1_ := Aside0.mk (hb); have n2_ := Aside0.mk (ho); clear HO317; clear HB; clear HO314; have HO317 := n0_; have HB := n1_; have HO320 := n2_; clear n0_ n1_ n2_; clear ho hb hg hat; obtain ⟨Ao11, co11, eo11⟩ := Kd.R_slice HO320.out; subst eo11; have q12 : ((l0.length : Int) : Int) ≤ ((y318.length : Int) : Int) := of_decide_eq_true (by first | (with_reducible assumption) | assumption); obtain ⟨i012, hi012, _, hsz12, _⟩ := info_parts info41; have hcut12 := cut_to (P := Try.prog) 22 41 .i64 Try.underlying22 hi012 Ao11 y318.length co11 (l0.length : Int) (of_decide_eq_true (by first | (with_reducible assumption) | assumption)) q12 (Kd.R_reads' HO320.out).2.1; have hr12 := Kd.R_take (m := ((l0.length : Int) : Int).toNat) HO320.out (by omega); have hy12 : y321.length = ((l0.length : Int) : Int).toNat := (by rw [Ny321.out, List.length_take]; omega); rw [← Ny321.out] at hr12; rw [← hy12] at hr12 hcut12; have KY_ := Aside0.mk hy12; clear hy12 hi012 hsz12; have HO323 := Aside0.mk hr12; clear hr12; replace q12 := eq_true q12))
        go_ret
        have e1_ : t312 = l0 := copy_same A2.out
        have e2_ : y318 = l0 ++ ([(⟨77777, (⟨#[]⟩ : ByteArray)⟩ : S41), (⟨77777, (⟨#[]⟩ : ByteArray)⟩ : S41)] : List S41) := by rw [Ny318.out, Ny315.out, e1_]
        have e3_ : y321 = l0 := by rw [Ny321.out, e2_, Int.toNat_natCast, List.take_left' rfl]
        have HZ_ := HO320.out
        rw [e2_, ← e3_, show (y321 ++ ([(⟨77777, (⟨#[]⟩ : ByteArray)⟩ : S41), (⟨77777, (⟨#[]⟩ : ByteArray)⟩ : S41)] : List S41)).length = y321.length + 2 from by simp] at HZ_
        exact ⟨Ao11, co11, rfl, by (with_reducible repeat (first | apply Kd.R_alloc | apply Kd.R_drewN | apply Kd.R_drew)); exact Kd.R_mono HZ_ (fun _ hk => trivial), by repeat (first | (with_reducible first | exact HB.out | apply below_alloc | apply pw_below_drewN | apply below_drew1) | exact HB.out)⟩
      · rw [if_neg c5] at H
        exact absurd H (by simp)
    · rw [if_neg c4] at H
      exact absurd H (by simp)
  · rw [if_neg c3] at H
    exact absurd H (by simp)


def halberdlaw0_KeptExts2.f (k : Nat) (l0 : List (S41)) (l1 : List (S41)) : Option (Bool) := if 0 ≤ (wrap64 ((l0.length : Int) + 2)) then (if (wrap64 ((l0.length : Int) + 2)) ≤ ((l0 ++ ([(⟨77777, (⟨#[]⟩ : ByteArray)⟩ : S41), (⟨77777, (⟨#[]⟩ : ByteArray)⟩ : S41)] : List S41)).length : Int) then ((some ((l0 ++ ([(⟨77777, (⟨#[]⟩ : ByteArray)⟩ : S41), (⟨77777, (⟨#[]⟩ : ByteArray)⟩ : S41)] : List S41)).take ((wrap64 ((l0.length : Int) + 2)) : Int).toNat : List (S41))).bind fun y340 => ((halberdlaw0_SameExts.f k l0 l1).bind fun t344 => (if t344 = true then (if 0 ≤ (l1.length : Int) then (if (l1.length : Int) < (y340.length : Int) then (if (((rd_T41 y340 (l1.length : Int)).f0) == 77777 && ((((rd_T41 y340 (l1.length : Int)).f1).toList).isEmpty)) = true then (if 0 ≤ (wrap64 ((l1.length : Int) + 1)) then (if (wrap64 ((l1.length : Int) + 1)) < (y340.length : Int) then (some (((rd_T41 y340 (wrap64 ((l1.length : Int) + 1))).f0) == 77777 && ((((rd_T41 y340 (wrap64 ((l1.length : Int) + 1))).f1).toList).isEmpty))) else (none)) else (none)) else (some false)) else (none)) else (none)) else (some false)))) else (none)) else (none)
set_option maxHeartbeats 8000000 in
set_option maxRecDepth 100000 in
theorem halberdlaw0_KeptExts2.calls (k : Nat) (A0 : Option Addr) (c0 : Nat) (l0 : List (S41)) (A1 : Option Addr) (c1 : Nat) (l1 : List (S41)) (r : Bool) (w : World) (hz0 : Kd.C k41 w A0 (l0 ++ ([(⟨77777, (⟨#[]⟩ : ByteArray)⟩ : S41), (⟨77777, (⟨#[]⟩ : ByteArray)⟩ : S41)] : List S41)).length (l0 ++ ([(⟨77777, (⟨#[]⟩ : ByteArray)⟩ : S41), (⟨77777, (⟨#[]⟩ : ByteArray)⟩ : S41)] : List S41))) (hzc : (l0 ++ ([(⟨77777, (⟨#[]⟩ : ByteArray)⟩ : S41), (⟨77777, (⟨#[]⟩ : ByteArray)⟩ : S41)] : List S41)).length ≤ c0) (hr1 : Kd.C k41 w A1 l1.length l1) (hc1 : l1.length ≤ c1) (h : halberdlaw0_KeptExts2.f k l0 l1 = some r) :
    Calls Try.prog 19 #[.slice A0 l0.length c0, .slice A1 l1.length c1] w fun e w' => e = .returned (.bool r) ∧ Drawn0 w w' := by
  have hu41 := Try.underlying41
  have hr0 : Kd.C k41 w A0 l0.length l0 := by
    have h_ := Kd.C_take (m := l0.length) hz0 (by rw [List.length_append]; omega)
    rw [List.take_left' rfl] at h_
    exact h_
  have hc0 : l0.length ≤ c0 := by rw [List.length_append] at hzc; omega
  obtain ⟨z0, hz_⟩ : ∃ z_ : List S41, z_ = l0 ++ ([(⟨77777, (⟨#[]⟩ : ByteArray)⟩ : S41), (⟨77777, (⟨#[]⟩ : ByteArray)⟩ : S41)] : List S41) := ⟨_, rfl⟩
  rw [← hz_] at hz0 hzc
  have hy_ : halberdlaw0_KeptExts2.f k l0 l1 = some r := h
  unfold halberdlaw0_KeptExts2.f at h
  rw [← hz_] at h
  clear hy_ hz_
  have HR0 := Aside0.mk hr0
  have HC0 := Aside0.mk hc0
  have HZ0 := Aside0.mk hz0
  have HZC := Aside0.mk hzc
  clear hr0 hc0 hz0 hzc
  have HR1 := Aside0.mk hr1
  have HC1 := Aside0.mk hc1
  clear hr1 hc1
  have H : (if 0 ≤ (wrap64 ((l0.length : Int) + 2)) then (if (wrap64 ((l0.length : Int) + 2)) ≤ (z0.length : Int) then ((some (z0.take ((wrap64 ((l0.length : Int) + 2)) : Int).toNat : List (S41))).bind fun y340 => ((halberdlaw0_SameExts.f k l0 l1).bind fun t344 => (if t344 = true then (if 0 ≤ (l1.length : Int) then (if (l1.length : Int) < (y340.length : Int) then (if (((rd_T41 y340 (l1.length : Int)).f0) == 77777 && ((((rd_T41 y340 (l1.length : Int)).f1).toList).isEmpty)) = true then (if 0 ≤ (wrap64 ((l1.length : Int) + 1)) then (if (wrap64 ((l1.length : Int) + 1)) < (y340.length : Int) then (some (((rd_T41 y340 (wrap64 ((l1.length : Int) + 1))).f0) == 77777 && ((((rd_T41 y340 (wrap64 ((l1.length : Int) + 1))).f1).toList).isEmpty))) else (none)) else (none)) else (some false)) else (none)) else (none)) else (some false)))) else (none)) else (none)) = some r := h
  clear h
  obtain ⟨ji3, hji3⟩ : ∃ j_ : Int, (wrap64 ((l0.length : Int) + 2)) = j_ := ⟨_, rfl⟩
  replace H : (if 0 ≤ (ji3) then (if (ji3) ≤ (z0.length : Int) then ((some (z0.take ((ji3) : Int).toNat : List (S41))).bind fun y340 => ((halberdlaw0_SameExts.f k l0 l1).bind fun t344 => (if t344 = true then (if 0 ≤ (l1.length : Int) then (if (l1.length : Int) < (y340.length : Int) then (if (((rd_T41 y340 (l1.length : Int)).f0) == 77777 && ((((rd_T41 y340 (l1.length : Int)).f1).toList).isEmpty)) = true then (if 0 ≤ (wrap64 ((l1.length : Int) + 1)) then (if (wrap64 ((l1.length : Int) + 1)) < (y340.length : Int) then (some (((rd_T41 y340 (wrap64 ((l1.length : Int) + 1))).f0) == 77777 && ((((rd_T41 y340 (wrap64 ((l1.length : Int) + 1))).f1).toList).isEmpty))) else (none)) else (none)) else (some false)) else (none)) else (none)) else (some false)))) else (none)) else (none)) = some r := by first | (rw [hji3] at H; exact H) | (simp only [hji3] at H ⊢; exact H)
  have hji3w : (IntKind.i64.wrap ((l0.length : Int) + 2)) = ji3 := (i64_w _).trans hji3
  by_cases c4 : 0 ≤ (ji3)
  · rw [if_pos c4] at H
    have c4b0 := eq_true c4
    have c4b1 : decide (0 ≤ (ji3)) = true := decide_eq_true c4
    clear c4
    by_cases c5 : (ji3) ≤ (z0.length : Int)
    · rw [if_pos c5] at H
      have c5b0 := eq_true c5
      have c5b1 : decide ((ji3) ≤ (z0.length : Int)) = true := decide_eq_true c5
      clear c5
      obtain ⟨y340, hy340⟩ : ∃ y_ : List (S41), y_ = (z0.take ((ji3) : Int).toNat) := ⟨_, rfl⟩
      replace H : ((halberdlaw0_SameExts.f k l0 l1).bind fun t344 => (if t344 = true then (if 0 ≤ (l1.length : Int) then (if (l1.length : Int) < (y340.length : Int) then (if (((rd_T41 y340 (l1.length : Int)).f0) == 77777 && ((((rd_T41 y340 (l1.length : Int)).f1).toList).isEmpty)) = true then (if 0 ≤ (wrap64 ((l1.length : Int) + 1)) then (if (wrap64 ((l1.length : Int) + 1)) < (y340.length : Int) then (some (((rd_T41 y340 (wrap64 ((l1.length : Int) + 1))).f0) == 77777 && ((((rd_T41 y340 (wrap64 ((l1.length : Int) + 1))).f1).toList).isEmpty))) else (none)) else (none)) else (some false)) else (none)) else (none)) else (some false))) = some r := by first | (rw [hy340]; with_reducible exact H) | (have H2_ := (Option.bind_some _ _).symm.trans H; rw [hy340]; with_reducible exact H2_) | (have H2_ := (Option.bind_some _ _).symm.trans H; with_reducible exact H2_) | with_reducible exact H | (rw [hy340]; exact H) | exact H
      have Ny340 := Aside0.mk hy340
      clear hy340
      replace H := Option.bind_eq_some_iff.mp H
      obtain ⟨t344, A60, H⟩ := H
      replace H : (if t344 = true then (if 0 ≤ (l1.length : Int) then (if (l1.length : Int) < (y340.length : Int) then (if (((rd_T41 y340 (l1.length : Int)).f0) == 77777 && ((((rd_T41 y340 (l1.length : Int)).f1).toList).isEmpty)) = true then (if 0 ≤ (wrap64 ((l1.length : Int) + 1)) then (if (wrap64 ((l1.length : Int) + 1)) < (y340.length : Int) then (some (((rd_T41 y340 (wrap64 ((l1.length : Int) + 1))).f0) == 77777 && ((((rd_T41 y340 (wrap64 ((l1.length : Int) + 1))).f1).toList).isEmpty))) else (none)) else (none)) else (some false)) else (none)) else (none)) else (some false)) = some r := H
      have A6 := Aside0.mk A60
      clear A60
      by_cases c7 : t344 = true
      · subst c7
        have H1 : (if 0 ≤ (l1.length : Int) then (if (l1.length : Int) < (y340.length : Int) then (if (((rd_T41 y340 (l1.length : Int)).f0) == 77777 && ((((rd_T41 y340 (l1.length : Int)).f1).toList).isEmpty)) = true then (if 0 ≤ (wrap64 ((l1.length : Int) + 1)) then (if (wrap64 ((l1.length : Int) + 1)) < (y340.length : Int) then (some (((rd_T41 y340 (wrap64 ((l1.length : Int) + 1))).f0) == 77777 && ((((rd_T41 y340 (wrap64 ((l1.length : Int) + 1))).f1).toList).isEmpty))) else (none)) else (none)) else (some false)) else (none)) else (none)) = some r := by rw [if_pos rfl] at H; exact H
        clear H
        have H := H1
        clear H1
        by_cases c8 : 0 ≤ (l1.length : Int)
        · rw [if_pos c8] at H
          have c8b0 : decide (0 ≤ (l1.length : Int)) = true := decide_eq_true c8
          have c8b1 : decide (0 ≤ l1.length) = true := decide_eq_true (by omega)
          clear c8
          by_cases c9 : (l1.length : Int) < (y340.length : Int)
          · rw [if_pos c9] at H
            have c9b0 : decide ((l1.length : Int) < (y340.length : Int)) = true := decide_eq_true c9
            have c9b1 : decide (l1.length < y340.length) = true := decide_eq_true (Int.ofNat_lt.mp c9)
            clear c9
            by_cases c10 : (((rd_T41 y340 (l1.length : Int)).f0) == 77777 && ((((rd_T41 y340 (l1.length : Int)).f1).toList).isEmpty)) = true
            · rw [if_pos c10] at H
              have c10b0 : (((rd_T41 y340 (l1.length : Int)).f0) == 77777 && ((((rd_T41 y340 (l1.length : Int)).f1).toList).isEmpty)) = true := c10
              (try (have c10b1 : decide (((rd_T41 y340 (l1.length : Int)).f0) = 77777 && ((((rd_T41 y340 (l1.length : Int)).f1).toList).isEmpty)) = true := by simpa using c10))
              (try (have c10b2 : (((rd_T41 y340 (l1.length : Int)).f0) == 77777 && ((((rd_T41 y340 (l1.length : Int)).f1).toList).isEmpty)) = true := by simpa using c10))
              clear c10
              obtain ⟨ji11, hji11⟩ : ∃ j_ : Int, (wrap64 ((l1.length : Int) + 1)) = j_ := ⟨_, rfl⟩
              replace H : (if 0 ≤ (ji11) then (if (ji11) < (y340.length : Int) then (some (((rd_T41 y340 (ji11)).f0) == 77777 && ((((rd_T41 y340 (ji11)).f1).toList).isEmpty))) else (none)) else (none)) = some r := by first | (rw [hji11] at H; exact H) | (simp only [hji11] at H ⊢; exact H)
              (try rw [hji11] at A6)
              have hji11w : (IntKind.i64.wrap ((l1.length : Int) + 1)) = ji11 := (i64_w _).trans hji11
              by_cases c12 : 0 ≤ (ji11)
              · rw [if_pos c12] at H
                have c12b0 : decide (0 ≤ (ji11)) = true := decide_eq_true c12
                clear c12
                by_cases c13 : (ji11) < (y340.length : Int)
                · rw [if_pos c13] at H
                  have c13b0 : decide ((ji11) < (y340.length : Int)) = true := decide_eq_true c13
                  clear c13
                  obtain rfl := Option.some.inj H
                  have q14 : ((ji3) : Int) ≤ ((z0.length : Int) : Int) := of_decide_eq_true (by first | (with_reducible assumption) | assumption)
                  obtain ⟨i014, hi014, _, hsz14, _⟩ := info_parts info41
                  have hroom14 : z0.length ≤ c0 := HZC.out
                  have hC14 : Kd.C k41 _ A0 z0.length z0 := HZ0.out
                  have hcut14 := cut_to2 (P := Try.prog) 22 41 .i64 Try.underlying22 hi014 A0 l0.length c0 (ji3) (of_decide_eq_true (by first | (with_reducible assumption) | assumption)) (by omega)
                  have hr14 := Kd.C_take (m := ((ji3) : Int).toNat) hC14 (by omega)
                  have hy14 : y340.length = ((ji3) : Int).toNat := (by rw [Ny340.out, List.length_take]; omega)
                  rw [← Ny340.out] at hr14
                  rw [← hy14] at hcut14
                  have HR343 := Aside0.mk hr14
                  have HC343 := Aside0.mk (show y340.length ≤ c0 from by omega)
                  clear hr14 hC14 hroom14 hi014 hsz14
                  have KY14 := Aside0.mk hy14
                  clear hy14
                  replace q14 := eq_true q14
                  go_enter Try.func19, Try.ntmps19
                  go_wp2_with (first | ((with_reducible refine gate_callee (f := 17) rfl ?_); refine goesL_ (some 13) rfl rfl Try.func17 (by kernel_rfl) rfl #[.slice A0 l0.length c0, .slice A1 l1.length c1] rfl (by (try simp only [List.map_toArray, List.map_cons, List.map_nil]); first | done | rfl | (simp only [List.length_drop, List.length_take]; rfl)) ?_; (with_reducible refine (halberdlaw0_SameExts.calls k _ _ l0 _ _ l1 true _ ?side1 ?side2 ?side3 ?side4 A6.out).mono ?_); (case side1 => repeat (first | exact HR0.out | (with_reducible refine Kd.C_alloc ?_ _) | (with_reducible refine Kd.C_drewN ?_ _) | (with_reducible refine Kd.C_drew ?_))); (case side2 => exact HC0.out); (case side3 => repeat (first | exact HR1.out | (with_reducible refine Kd.C_alloc ?_ _) | (with_reducible refine Kd.C_drewN ?_ _) | (with_reducible refine Kd.C_drew ?_))); (case side4 => exact HC1.out); rintro e w' ⟨rfl, ⟨nd, rfl⟩⟩; refine ⟨_, rfl, ?_⟩; have p345 : 0 ≤ ((l1.length : Int) : Int) := of_decide_eq_true (by first | (with_reducible assumption) | assumption); have q345 : (l1.length : Int) < (y340.length : Int) := of_decide_eq_true (by first | (with_reducible assumption) | assumption); obtain ⟨ad345, e345, hx345_0, hx345_1⟩ := at_T41 HR343.out (l1.length : Int) p345 q345; cases e345; (try simp only [Go.IntWalk.toNatUp] at hx345_0); (try simp only [Go.IntWalk.toNatUp] at hx345_1); replace p345 := eq_true p345; replace q345 := eq_true q345; have p346 : 0 ≤ ((ji11) : Int) := of_decide_eq_true (by first | (with_reducible assumption) | assumption); have q346 : (ji11) < (y340.length : Int) := of_decide_eq_true (by first | (with_reducible assumption) | assumption); obtain ⟨ad346, e346, hx346_0, hx346_1⟩ := at_T41 HR343.out (ji11) p346 q346; obtain rfl : ad345 = ad346 := (by injection e346); replace p346 := eq_true p346; replace q346 := eq_true q346))
                  go_ret
                  exact ⟨by first | rfl | (simp; done) | (simp only [← hji3, ← hji11] <;> (first | rfl | simp)) | (simp [*]; done), by repeat (first | exact Drawn0.refl _ | apply Drawn0.step)⟩
                · rw [if_neg c13] at H
                  exact absurd H (by simp)
              · rw [if_neg c12] at H
                exact absurd H (by simp)
            · rw [if_neg c10] at H
              have c10b0 : (((rd_T41 y340 (l1.length : Int)).f0) == 77777 && ((((rd_T41 y340 (l1.length : Int)).f1).toList).isEmpty)) = false := by simpa using c10
              (try (have c10b1 : decide (((rd_T41 y340 (l1.length : Int)).f0) = 77777 && ((((rd_T41 y340 (l1.length : Int)).f1).toList).isEmpty)) = false := by simpa using c10))
              (try (have c10b2 : (((rd_T41 y340 (l1.length : Int)).f0) == 77777 && ((((rd_T41 y340 (l1.length : Int)).f1).toList).isEmpty)) = false := by simpa using c10))
              (try (have c10b3 : ¬ (((rd_T41 y340 (l1.length : Int)).f0) = 77777 && ((((rd_T41 y340 (l1.length : Int)).f1).toList).isEmpty)) := by simpa using c10))
              clear c10
              obtain rfl := Option.some.inj H
              have q15 : ((ji3) : Int) ≤ ((z0.length : Int) : Int) := of_decide_eq_true (by first | (with_reducible assumption) | assumption)
              obtain ⟨i015, hi015, _, hsz15, _⟩ := info_parts info41
              have hroom15 : z0.length ≤ c0 := HZC.out
              have hC15 : Kd.C k41 _ A0 z0.length z0 := HZ0.out
              have hcut15 := cut_to2 (P := Try.prog) 22 41 .i64 Try.underlying22 hi015 A0 l0.length c0 (ji3) (of_decide_eq_true (by first | (with_reducible assumption) | assumption)) (by omega)
              have hr15 := Kd.C_take (m := ((ji3) : Int).toNat) hC15 (by omega)
              have hy15 : y340.length = ((ji3) : Int).toNat := (by rw [Ny340.out, List.length_take]; omega)
              rw [← Ny340.out] at hr15
              rw [← hy15] at hcut15
              have HR343 := Aside0.mk hr15
              have HC343 := Aside0.mk (show y340.length ≤ c0 from by omega)
              clear hr15 hC15 hroom15 hi015 hsz15
              have KY15 := Aside0.mk hy15
              clear hy15
              replace q15 := eq_true q15
              go_enter Try.func19, Try.ntmps19
              go_wp2_with (first | ((with_reducible refine gate_callee (f := 17) rfl ?_); refine goesL_ (some 13) rfl rfl Try.func17 (by kernel_rfl) rfl #[.slice A0 l0.length c0, .slice A1 l1.length c1] rfl (by (try simp only [List.map_toArray, List.map_cons, List.map_nil]); first | done | rfl | (simp only [List.length_drop, List.length_take]; rfl)) ?_; (with_reducible refine (halberdlaw0_SameExts.calls k _ _ l0 _ _ l1 true _ ?side1 ?side2 ?side3 ?side4 A6.out).mono ?_); (case side1 => repeat (first | exact HR0.out | (with_reducible refine Kd.C_alloc ?_ _) | (with_reducible refine Kd.C_drewN ?_ _) | (with_reducible refine Kd.C_drew ?_))); (case side2 => exact HC0.out); (case side3 => repeat (first | exact HR1.out | (with_reducible refine Kd.C_alloc ?_ _) | (with_reducible refine Kd.C_drewN ?_ _) | (with_reducible refine Kd.C_drew ?_))); (case side4 => exact HC1.out); rintro e w' ⟨rfl, ⟨nd, rfl⟩⟩; refine ⟨_, rfl, ?_⟩; have p345 : 0 ≤ ((l1.length : Int) : Int) := of_decide_eq_true (by first | (with_reducible assumption) | assumption); have q345 : (l1.length : Int) < (y340.length : Int) := of_decide_eq_true (by first | (with_reducible assumption) | assumption); obtain ⟨ad345, e345, hx345_0, hx345_1⟩ := at_T41 HR343.out (l1.length : Int) p345 q345; cases e345; (try simp only [Go.IntWalk.toNatUp] at hx345_0); (try simp only [Go.IntWalk.toNatUp] at hx345_1); replace p345 := eq_true p345; replace q345 := eq_true q345))
              go_ret
              exact ⟨by first | rfl | (simp; done) | (simp only [← hji3] <;> (first | rfl | simp)) | (simp [*]; done), by repeat (first | exact Drawn0.refl _ | apply Drawn0.step)⟩
          · rw [if_neg c9] at H
            exact absurd H (by simp)
        · rw [if_neg c8] at H
          exact absurd H (by simp)
      · replace c7 := Bool.eq_false_iff.mpr c7
        subst c7
        have H1 : (some false) = some r := by rw [if_neg (show ¬ (false = true) by decide)] at H; exact H
        clear H
        have H := H1
        clear H1
        obtain rfl := Option.some.inj H
        have q16 : ((ji3) : Int) ≤ ((z0.length : Int) : Int) := of_decide_eq_true (by first | (with_reducible assumption) | assumption)
        obtain ⟨i016, hi016, _, hsz16, _⟩ := info_parts info41
        have hroom16 : z0.length ≤ c0 := HZC.out
        have hC16 : Kd.C k41 _ A0 z0.length z0 := HZ0.out
        have hcut16 := cut_to2 (P := Try.prog) 22 41 .i64 Try.underlying22 hi016 A0 l0.length c0 (ji3) (of_decide_eq_true (by first | (with_reducible assumption) | assumption)) (by omega)
        have hr16 := Kd.C_take (m := ((ji3) : Int).toNat) hC16 (by omega)
        have hy16 : y340.length = ((ji3) : Int).toNat := (by rw [Ny340.out, List.length_take]; omega)
        rw [← Ny340.out] at hr16
        rw [← hy16] at hcut16
        have HR343 := Aside0.mk hr16
        have HC343 := Aside0.mk (show y340.length ≤ c0 from by omega)
        clear hr16 hC16 hroom16 hi016 hsz16
        have KY16 := Aside0.mk hy16
        clear hy16
        replace q16 := eq_true q16
        go_enter Try.func19, Try.ntmps19
        go_wp2_with (first | ((with_reducible refine gate_callee (f := 17) rfl ?_); refine goesL_ (some 13) rfl rfl Try.func17 (by kernel_rfl) rfl #[.slice A0 l0.length c0, .slice A1 l1.length c1] rfl (by (try simp only [List.map_toArray, List.map_cons, List.map_nil]); first | done | rfl | (simp only [List.length_drop, List.length_take]; rfl)) ?_; (with_reducible refine (halberdlaw0_SameExts.calls k _ _ l0 _ _ l1 false _ ?side1 ?side2 ?side3 ?side4 A6.out).mono ?_); (case side1 => repeat (first | exact HR0.out | (with_reducible refine Kd.C_alloc ?_ _) | (with_reducible refine Kd.C_drewN ?_ _) | (with_reducible refine Kd.C_drew ?_))); (case side2 => exact HC0.out); (case side3 => repeat (first | exact HR1.out | (with_reducible refine Kd.C_alloc ?_ _) | (with_reducible refine Kd.C_drewN ?_ _) | (with_reducible refine Kd.C_drew ?_))); (case side4 => exact HC1.out); rintro e w' ⟨rfl, ⟨nd, rfl⟩⟩; refine ⟨_, rfl, ?_⟩))
        go_ret
        exact ⟨by first | rfl | (simp; done) | (simp only [← hji3] <;> (first | rfl | simp)) | (simp [*]; done), by repeat (first | exact Drawn0.refl _ | apply Drawn0.step)⟩
    · rw [if_neg c5] at H
      exact absurd H (by simp)
  · rw [if_neg c4] at H
    exact absurd H (by simp)


def halberdlaw16_Exts2.f (k : Nat) (a0 : ByteArray) (l1 : List (S41)) : Option (Bool) := (ext_Get.f k a0).bind fun bt349 => ((halberdref16_Exts.f k a0).bind fun bt353 => ((halberdlaw0_LendExts.f l1).bind fun t357 => ((ext_Put.f k t357).bind fun bt360 => ((halberdref16_PutExts.f k l1).bind fun bt362 => ((halberdlaw0_SameExts.f k bt349.1 bt353.1).bind fun t364 => (if t364 = true then ((halberdlaw0_Num.f bt349.2).bind fun t365 => (if t365 = bt353.2 then (if bt360.1.toList = bt362.1.toList then ((halberdlaw0_Num.f bt360.2).bind fun t366 => (if t366 = bt362.2 then ((halberdlaw0_KeptExts2.f k t357 l1).bind fun t367 => (halberdlaw16_Exts.j0 k a0 bt349.1 bt353.1 (!t367))) else (halberdlaw16_Exts.j0 k a0 bt349.1 bt353.1 true))) else (halberdlaw16_Exts.j0 k a0 bt349.1 bt353.1 true)) else (halberdlaw16_Exts.j0 k a0 bt349.1 bt353.1 true))) else (halberdlaw16_Exts.j0 k a0 bt349.1 bt353.1 true)))))))
set_option maxHeartbeats 8000000 in
set_option maxRecDepth 100000 in
theorem halberdlaw16_Exts2.calls (k : Nat) (a0 : ByteArray) (A1 : Option Addr) (c1 : Nat) (l1 : List (S41)) (r : Bool) (w : World) (hr1 : Kd.C k41 w A1 l1.length l1) (hc1 : l1.length ≤ c1) (h : halberdlaw16_Exts2.f k a0 l1 = some r) (hr : Aside0 (r = true)) :
    Calls Try.prog 3 #[.string a0, .slice A1 l1.length c1] w fun e w' => e = .returned (.bool r) ∧ Below w.heap.size w w' := by
  have HR1 := Aside0.mk hr1
  have HC1 := Aside0.mk hc1
  clear hr1 hc1
  have HB := Aside0.mk (Below.refl w.heap.size w)
  have H : ((ext_Get.f k a0).bind fun bt349 => ((halberdref16_Exts.f k a0).bind fun bt353 => ((halberdlaw0_LendExts.f l1).bind fun t357 => ((ext_Put.f k t357).bind fun bt360 => ((halberdref16_PutExts.f k l1).bind fun bt362 => ((halberdlaw0_SameExts.f k bt349.1 bt353.1).bind fun t364 => (if t364 = true then ((halberdlaw0_Num.f bt349.2).bind fun t365 => (if t365 = bt353.2 then (if bt360.1.toList = bt362.1.toList then ((halberdlaw0_Num.f bt360.2).bind fun t366 => (if t366 = bt362.2 then ((halberdlaw0_KeptExts2.f k t357 l1).bind fun t367 => (halberdlaw16_Exts.j0 k a0 bt349.1 bt353.1 (!t367))) else (halberdlaw16_Exts.j0 k a0 bt349.1 bt353.1 true))) else (halberdlaw16_Exts.j0 k a0 bt349.1 bt353.1 true)) else (halberdlaw16_Exts.j0 k a0 bt349.1 bt353.1 true))) else (halberdlaw16_Exts.j0 k a0 bt349.1 bt353.1 true)))))))) = some r := h
  clear h
  replace H := Option.bind_eq_some_iff.mp H
  obtain ⟨⟨t349, t350⟩, A30, H⟩ := H
  replace H : ((halberdref16_Exts.f k a0).bind fun bt353 => ((halberdlaw0_LendExts.f l1).bind fun t357 => ((ext_Put.f k t357).bind fun bt360 => ((halberdref16_PutExts.f k l1).bind fun bt362 => ((halberdlaw0_SameExts.f k t349 bt353.1).bind fun t364 => (if t364 = true then ((halberdlaw0_Num.f t350).bind fun t365 => (if t365 = bt353.2 then (if bt360.1.toList = bt362.1.toList then ((halberdlaw0_Num.f bt360.2).bind fun t366 => (if t366 = bt362.2 then ((halberdlaw0_KeptExts2.f k t357 l1).bind fun t367 => (halberdlaw16_Exts.j0 k a0 t349 bt353.1 (!t367))) else (halberdlaw16_Exts.j0 k a0 t349 bt353.1 true))) else (halberdlaw16_Exts.j0 k a0 t349 bt353.1 true)) else (halberdlaw16_Exts.j0 k a0 t349 bt353.1 true))) else (halberdlaw16_Exts.j0 k a0 t349 bt353.1 true))))))) = some r := H
  have A3 := Aside0.mk A30
  clear A30
  replace H := Option.bind_eq_some_iff.mp H
  obtain ⟨⟨t353, t354⟩, A40, H⟩ := H
  replace H : ((halberdlaw0_LendExts.f l1).bind fun t357 => ((ext_Put.f k t357).bind fun bt360 => ((halberdref16_PutExts.f k l1).bind fun bt362 => ((halberdlaw0_SameExts.f k t349 t353).bind fun t364 => (if t364 = true then ((halberdlaw0_Num.f t350).bind fun t365 => (if t365 = t354 then (if bt360.1.toList = bt362.1.toList then ((halberdlaw0_Num.f bt360.2).bind fun t366 => (if t366 = bt362.2 then ((halberdlaw0_KeptExts2.f k t357 l1).bind fun t367 => (halberdlaw16_Exts.j0 k a0 t349 t353 (!t367))) else (halberdlaw16_Exts.j0 k a0 t349 t353 true))) else (halberdlaw16_Exts.j0 k a0 t349 t353 true)) else (halberdlaw16_Exts.j0 k a0 t349 t353 true))) else (halberdlaw16_Exts.j0 k a0 t349 t353 true)))))) = some r := H
  have A4 := Aside0.mk A40
  clear A40
  replace H := Option.bind_eq_some_iff.mp H
  obtain ⟨t357, A50, H⟩ := H
  replace H : ((ext_Put.f k t357).bind fun bt360 => ((halberdref16_PutExts.f k l1).bind fun bt362 => ((halberdlaw0_SameExts.f k t349 t353).bind fun t364 => (if t364 = true then ((halberdlaw0_Num.f t350).bind fun t365 => (if t365 = t354 then (if bt360.1.toList = bt362.1.toList then ((halberdlaw0_Num.f bt360.2).bind fun t366 => (if t366 = bt362.2 then ((halberdlaw0_KeptExts2.f k t357 l1).bind fun t367 => (halberdlaw16_Exts.j0 k a0 t349 t353 (!t367))) else (halberdlaw16_Exts.j0 k a0 t349 t353 true))) else (halberdlaw16_Exts.j0 k a0 t349 t353 true)) else (halberdlaw16_Exts.j0 k a0 t349 t353 true))) else (halberdlaw16_Exts.j0 k a0 t349 t353 true))))) = some r := H
  have A5 := Aside0.mk A50
  clear A50
  replace H := Option.bind_eq_some_iff.mp H
  obtain ⟨⟨t360, t361⟩, A60, H⟩ := H
  replace H : ((halberdref16_PutExts.f k l1).bind fun bt362 => ((halberdlaw0_SameExts.f k t349 t353).bind fun t364 => (if t364 = true then ((halberdlaw0_Num.f t350).bind fun t365 => (if t365 = t354 then (if t360.toList = bt362.1.toList then ((halberdlaw0_Num.f t361).bind fun t366 => (if t366 = bt362.2 then ((halberdlaw0_KeptExts2.f k t357 l1).bind fun t367 => (halberdlaw16_Exts.j0 k a0 t349 t353 (!t367))) else (halberdlaw16_Exts.j0 k a0 t349 t353 true))) else (halberdlaw16_Exts.j0 k a0 t349 t353 true)) else (halberdlaw16_Exts.j0 k a0 t349 t353 true))) else (halberdlaw16_Exts.j0 k a0 t349 t353 true)))) = some r := H
  have A6 := Aside0.mk A60
  clear A60
  replace H := Option.bind_eq_some_iff.mp H
  obtain ⟨⟨t362, t363⟩, A70, H⟩ := H
  replace H : ((halberdlaw0_SameExts.f k t349 t353).bind fun t364 => (if t364 = true then ((halberdlaw0_Num.f t350).bind fun t365 => (if t365 = t354 then (if t360.toList = t362.toList then ((halberdlaw0_Num.f t361).bind fun t366 => (if t366 = t363 then ((halberdlaw0_KeptExts2.f k t357 l1).bind fun t367 => (halberdlaw16_Exts.j0 k a0 t349 t353 (!t367))) else (halberdlaw16_Exts.j0 k a0 t349 t353 true))) else (halberdlaw16_Exts.j0 k a0 t349 t353 true)) else (halberdlaw16_Exts.j0 k a0 t349 t353 true))) else (halberdlaw16_Exts.j0 k a0 t349 t353 true))) = some r := H
  have A7 := Aside0.mk A70
  clear A70
  have HC8 := Aside0.mk H
  clear H
  go_enter Try.func3, Try.ntmps3
  go_upto_region 6 with (first | ((with_reducible refine gate_callee (f := 12) rfl ?_); refine goesL_ (some 18) rfl rfl Try.func12 (by kernel_rfl) rfl #[.string a0] rfl (by (try simp only [List.map_toArray, List.map_cons, List.map_nil]); first | done | rfl | (simp only [List.length_drop, List.length_take]; rfl)) ?_; (with_reducible refine (ext_Get.calls k a0 t349 t350 _ A3.out).mono ?_); rintro e w9 ⟨v351, rfl, ho0, hb⟩; refine ⟨_, rfl, ?_⟩; have n0_ := Aside0.mk (Kd.R_lower ho0 (below_size (by repeat (first | (with_reducible first | exact HB.out | apply below_alloc | apply pw_below_drewN | apply below_drew1) | exact HB.out)))); have n1_ := Aside0.mk (below_step (by repeat (first | (with_reducible first | exact HB.out | apply below_alloc | apply pw_below_drewN | apply below_drew1) | exact HB.out)) hb); clear HB; have HO352 := n0_; have HB := n1_; clear n0_ n1_; (try clear hb); (try clear hb2); (try clear hk); (try clear hi); (try clear ho0)) | ((with_reducible refine gate_callee (f := 13) rfl ?_); refine goesL_ (some 23) rfl rfl Try.func13 (by kernel_rfl) rfl #[.string a0] rfl (by (try simp only [List.map_toArray, List.map_cons, List.map_nil]); first | done | rfl | (simp only [List.length_drop, List.length_take]; rfl)) ?_; (with_reducible refine (halberdref16_Exts.calls k a0 t353 t354 _ A4.out).mono ?_); rintro e w10 ⟨v355, rfl, ho0, hb⟩; refine ⟨_, rfl, ?_⟩; have n0_ := Aside0.mk (Kd.R_elder' (by (with_reducible repeat (first | apply Kd.R_alloc | apply Kd.R_drewN | apply Kd.R_drew)); exact HO352.out) (Kd.R_base ho0) hb); have n1_ := Aside0.mk (Kd.R_lower (Kd.R_new' ho0 (Kd.R_lt (by (with_reducible repeat (first | apply Kd.R_alloc | apply Kd.R_drewN | apply Kd.R_drew)); exact HO352.out))) (below_size (by repeat (first | (with_reducible first | exact HB.out | apply below_alloc | apply pw_below_drewN | apply below_drew1) | exact HB.out)))); have n2_ := Aside0.mk (below_step (by repeat (first | (with_reducible first | exact HB.out | apply below_alloc | apply pw_below_drewN | apply below_drew1) | exact HB.out)) hb); clear HO352; clear HB; have HO352 := n0_; have HO356 := n1_; have HB := n2_; clear n0_ n1_ n2_; (try clear hb); (try clear hb2); (try clear hk); (try clear hi); (try clear ho0)) | ((with_reducible refine gate_callee (f := 14) rfl ?_); refine goesL_ (some 27) rfl rfl Try.func14 (by kernel_rfl) rfl #[.slice A1 l1.length c1] rfl (by (try simp only [List.map_toArray, List.map_cons, List.map_nil]); first | done | rfl | (simp only [List.length_drop, List.length_take]; rfl)) ?_; (with_reducible refine (halberdlaw0_LendExts2.calls _ _ l1 t357 _ ?side1 ?side2 A5.out).mono ?_); (case side1 => repeat (first | exact (Kd.C_below HR1.out HB.out) | (with_reducible refine Kd.C_alloc ?_ _) | (with_reducible refine Kd.C_drewN ?_ _) | (with_reducible refine Kd.C_drew ?_))); (case side2 => exact HC1.out); rintro e w11 ⟨Ao12, co12, rfl, ho0, hb⟩; refine ⟨_, rfl, ?_⟩; have n0_ := Aside0.mk (Kd.R_elder' (by (with_reducible repeat (first | apply Kd.R_alloc | apply Kd.R_drewN | apply Kd.R_drew)); exact HO352.out) (Kd.R_base ho0) hb); have n1_ := Aside0.mk (Kd.R_elder' (by (with_reducible repeat (first | apply Kd.R_alloc | apply Kd.R_drewN | apply Kd.R_drew)); exact HO356.out) (Kd.R_base ho0) hb); have n2_ := Aside0.mk (Kd.R_lower (Kd.R_new' (Kd.R_new' ho0 (Kd.R_lt (by (with_reducible repeat (first | apply Kd.R_alloc | apply Kd.R_drewN | apply Kd.R_drew)); exact HO352.out))) (Kd.R_lt (by (with_reducible repeat (first | apply Kd.R_alloc | apply Kd.R_drewN | apply Kd.R_drew)); exact HO356.out))) (below_size (by repeat (first | (with_reducible first | exact HB.out | apply below_alloc | apply pw_below_drewN | apply below_drew1) | exact HB.out)))); have n3_ := Aside0.mk (below_step (by repeat (first | (with_reducible first | exact HB.out | apply below_alloc | apply pw_below_drewN | apply below_drew1) | exact HB.out)) hb); clear HO352; clear HO356; clear HB; have HO352 := n0_; have HO356 := n1_; have HO359 := n2_; have HB := n3_; clear n0_ n1_ n2_ n3_; (try clear hb); (try clear hb2); (try clear hk); (try clear hi); (try clear ho0); skip) | ((with_reducible refine gate_callee (f := 15) rfl ?_); refine goesL_ (some 30) rfl rfl Try.func15 (by kernel_rfl) rfl #[.slice Ao12 t357.length co12] rfl (by (try simp only [List.map_toArray, List.map_cons, List.map_nil]); first | done | rfl | (simp only [List.length_drop, List.length_take]; rfl)) ?_; (with_reducible refine (ext_Put.calls k _ _ t357 t360 t361 _ ?side1 ?side2 A6.out).mono ?_); (case side1 => repeat (first | exact long_C HO359.out | (with_reducible refine Kd.C_alloc ?_ _) | (with_reducible refine Kd.C_drewN ?_ _) | (with_reducible refine Kd.C_drew ?_))); (case side2 => exact long_c HO359.out); rintro e w13 ⟨rfl, hb⟩; refine ⟨_, rfl, ?_⟩; have n0_ := Aside0.mk (Kd.R_below (by (with_reducible repeat (first | apply Kd.R_alloc | apply Kd.R_drewN | apply Kd.R_drew)); exact HO352.out) hb); have n1_ := Aside0.mk (Kd.R_below (by (with_reducible repeat (first | apply Kd.R_alloc | apply Kd.R_drewN | apply Kd.R_drew)); exact HO356.out) hb); have n2_ := Aside0.mk (Kd.R_below (by (with_reducible repeat (first | apply Kd.R_alloc | apply Kd.R_drewN | apply Kd.R_drew)); exact HO359.out) hb); have n3_ := Aside0.mk (below_step (by repeat (first | (with_reducible first | exact HB.out | apply below_alloc | apply pw_below_drewN | apply below_drew1) | exact HB.out)) hb); clear HO352; clear HO356; clear HO359; clear HB; have HO352 := n0_; have HO356 := n1_; have HO359 := n2_; have HB := n3_; clear n0_ n1_ n2_ n3_; (try clear hb); (try clear hb2); (try clear hk); (try clear hi)) | ((with_reducible refine gate_callee (f := 16) rfl ?_); refine goesL_ (some 35) rfl rfl Try.func16 (by kernel_rfl) rfl #[.slice A1 l1.length c1] rfl (by (try simp only [List.map_toArray, List.map_cons, List.map_nil]); first | done | rfl | (simp only [List.length_drop, List.length_take]; rfl)) ?_; (with_reducible refine (halberdref16_PutExts.calls k _ _ l1 t362 t363 _ ?side1 ?side2 A7.out).mono ?_); (case side1 => repeat (first | exact (Kd.C_below HR1.out HB.out) | (with_reducible refine Kd.C_alloc ?_ _) | (with_reducible refine Kd.C_drewN ?_ _) | (with_reducible refine Kd.C_drew ?_))); (case side2 => exact HC1.out); rintro e w14 ⟨rfl, hb⟩; refine ⟨_, rfl, ?_⟩; have n0_ := Aside0.mk (Kd.R_below (by (with_reducible repeat (first | apply Kd.R_alloc | apply Kd.R_drewN | apply Kd.R_drew)); exact HO352.out) hb); have n1_ := Aside0.mk (Kd.R_below (by (with_reducible repeat (first | apply Kd.R_alloc | apply Kd.R_drewN | apply Kd.R_drew)); exact HO356.out) hb); have n2_ := Aside0.mk (Kd.R_below (by (with_reducible repeat (first | apply Kd.R_alloc | apply Kd.R_drewN | apply Kd.R_drew)); exact HO359.out) hb); have n3_ := Aside0.mk (below_step (by repeat (first | (with_reducible first | exact HB.out | apply below_alloc | apply pw_below_drewN | apply below_drew1) | exact HB.out)) hb); clear HO352; clear HO356; clear HO359; clear HB; have HO352 := n0_; have HO356 := n1_; have HO359 := n2_; have HB := n3_; clear n0_ n1_ n2_ n3_; (try clear hb); (try clear hb2); (try clear hk); (try clear hi)))
  (try simp only [Act.put, List.setIfInBounds_toArray, List.set_cons_zero, List.set_cons_succ])
  go_cut [64] (fun v64 wc => ∃ (kq : Nat) (x64_7 : Bool), v64 = .bool x64_7 ∧ Aside0 (halberdlaw16_Exts.j0 kq a0 t349 t353 x64_7 = some r) ∧ Aside0 (kq ≤ k) ∧ Aside0 (Kd.R k41 41 wc w.heap.size (fun k_ => some k_ ≠ (v355 : Value).ownBlock) v351 t349) ∧ Aside0 (Kd.R k41 41 wc w.heap.size (fun k_ => some k_ ≠ (v351 : Value).ownBlock) v355 t353) ∧ Aside0 (Below w.heap.size w wc))
  case first =>
    have H := HC8.out
    clear HC8
    replace H := Option.bind_eq_some_iff.mp H
    obtain ⟨t364, A150, H⟩ := H
    replace H : (if t364 = true then ((halberdlaw0_Num.f t350).bind fun t365 => (if t365 = t354 then (if t360.toList = t362.toList then ((halberdlaw0_Num.f t361).bind fun t366 => (if t366 = t363 then ((halberdlaw0_KeptExts2.f k t357 l1).bind fun t367 => (halberdlaw16_Exts.j0 k a0 t349 t353 (!t367))) else (halberdlaw16_Exts.j0 k a0 t349 t353 true))) else (halberdlaw16_Exts.j0 k a0 t349 t353 true)) else (halberdlaw16_Exts.j0 k a0 t349 t353 true))) else (halberdlaw16_Exts.j0 k a0 t349 t353 true)) = some r := H
    have A15 := Aside0.mk A150
    clear A150
    by_cases c16 : t364 = true
    · subst c16
      have H1 : ((halberdlaw0_Num.f t350).bind fun t365 => (if t365 = t354 then (if t360.toList = t362.toList then ((halberdlaw0_Num.f t361).bind fun t366 => (if t366 = t363 then ((halberdlaw0_KeptExts2.f k t357 l1).bind fun t367 => (halberdlaw16_Exts.j0 k a0 t349 t353 (!t367))) else (halberdlaw16_Exts.j0 k a0 t349 t353 true))) else (halberdlaw16_Exts.j0 k a0 t349 t353 true)) else (halberdlaw16_Exts.j0 k a0 t349 t353 true))) = some r := by rw [if_pos rfl] at H; exact H
      clear H
      have H := H1
      clear H1
      replace H := Option.bind_eq_some_iff.mp H
      obtain ⟨t365, A170, H⟩ := H
      replace H : (if t365 = t354 then (if t360.toList = t362.toList then ((halberdlaw0_Num.f t361).bind fun t366 => (if t366 = t363 then ((halberdlaw0_KeptExts2.f k t357 l1).bind fun t367 => (halberdlaw16_Exts.j0 k a0 t349 t353 (!t367))) else (halberdlaw16_Exts.j0 k a0 t349 t353 true))) else (halberdlaw16_Exts.j0 k a0 t349 t353 true)) else (halberdlaw16_Exts.j0 k a0 t349 t353 true)) = some r := H
      have A17 := Aside0.mk A170
      clear A170
      by_cases c18 : t365 = t354
      · rw [if_pos c18] at H
        have c18b0 : (t365 == t354) = true := beq_iff_eq.mpr c18
        have c18b1 : (t365 != t354) = false := bne_eq_false_iff_eq.mpr c18
        clear c18
        (first | rw [c18b0] | (simp only [i64_w, i32_w]; rw [c18b0]) | skip)
        by_cases c19 : t360.toList = t362.toList
        · rw [if_pos c19] at H
          have c19b0 : (t360.toList == t362.toList) = true := beq_iff_eq.mpr c19
          have c19b1 : (t360.toList != t362.toList) = false := bne_eq_false_iff_eq.mpr c19
          clear c19
          replace H := Option.bind_eq_some_iff.mp H
          obtain ⟨t366, A200, H⟩ := H
          replace H : (if t366 = t363 then ((halberdlaw0_KeptExts2.f k t357 l1).bind fun t367 => (halberdlaw16_Exts.j0 k a0 t349 t353 (!t367))) else (halberdlaw16_Exts.j0 k a0 t349 t353 true)) = some r := H
          have A20 := Aside0.mk A200
          clear A200
          by_cases c21 : t366 = t363
          · rw [if_pos c21] at H
            have c21b0 : (t366 == t363) = true := beq_iff_eq.mpr c21
            have c21b1 : (t366 != t363) = false := bne_eq_false_iff_eq.mpr c21
            clear c21
            replace H := Option.bind_eq_some_iff.mp H
            obtain ⟨t367, A220, H⟩ := H
            replace H : (halberdlaw16_Exts.j0 k a0 t349 t353 (!t367)) = some r := H
            have A22 := Aside0.mk A220
            clear A220
            have H' := Aside0.mk H
            clear H
            obtain ⟨Ao23, co23, eo23⟩ := Kd.R_slice HO352.out
            subst eo23
            obtain ⟨Ao24, co24, eo24⟩ := Kd.R_slice HO356.out
            subst eo24
            go_wp2_with (first | ((with_reducible refine gate_callee (f := 17) rfl ?_); refine goesL_ (some 40) rfl rfl Try.func17 (by kernel_rfl) rfl #[.slice Ao23 t349.length co23, .slice Ao24 t353.length co24] rfl (by (try simp only [List.map_toArray, List.map_cons, List.map_nil]); first | done | rfl | (simp only [List.length_drop, List.length_take]; rfl)) ?_; (with_reducible refine (halberdlaw0_SameExts.calls k _ _ t349 _ _ t353 true _ ?side1 ?side2 ?side3 ?side4 A15.out).mono ?_); (case side1 => repeat (first | exact (Kd.R_reads' HO352.out).2.2 | (with_reducible refine Kd.C_alloc ?_ _) | (with_reducible refine Kd.C_drewN ?_ _) | (with_reducible refine Kd.C_drew ?_))); (case side2 => exact (Kd.R_reads' HO352.out).2.1); (case side3 => repeat (first | exact (Kd.R_reads' HO356.out).2.2 | (with_reducible refine Kd.C_alloc ?_ _) | (with_reducible refine Kd.C_drewN ?_ _) | (with_reducible refine Kd.C_drew ?_))); (case side4 => exact (Kd.R_reads' HO356.out).2.1); rintro e w' ⟨rfl, ⟨nd, rfl⟩⟩; refine ⟨_, rfl, ?_⟩) | (go_at_call 18; (with_reducible refine (halberdlaw0_Num.calls t350 t365 _ A17.out).mono ?_); rintro e w' ⟨rfl, ⟨nd, rfl⟩⟩) | (go_at_call 18; (with_reducible refine (halberdlaw0_Num.calls t361 t366 _ A20.out).mono ?_); rintro e w' ⟨rfl, ⟨nd, rfl⟩⟩) | (go_at_call 19; (with_reducible refine (halberdlaw0_KeptExts2.calls k _ _ t357 _ _ l1 t367 _ ?side1 ?side2 ?side3 ?side4 A22.out).mono ?_); (case side1 => repeat (first | exact (Kd.R_reads' HO359.out).2.2 | (with_reducible refine Kd.C_alloc ?_ _) | (with_reducible refine Kd.C_drewN ?_ _) | (with_reducible refine Kd.C_drew ?_))); (case side2 => exact (long_c2 HO359.out)); (case side3 => repeat (first | exact (Kd.C_below HR1.out (by repeat (first | (with_reducible first | exact HB.out | apply below_alloc | apply pw_below_drewN | apply below_drew1) | exact HB.out))) | (with_reducible refine Kd.C_alloc ?_ _) | (with_reducible refine Kd.C_drewN ?_ _) | (with_reducible refine Kd.C_drew ?_))); (case side4 => exact HC1.out); rintro e w' ⟨rfl, ⟨nd, rfl⟩⟩))
            go_meet
            case rel => exact ⟨_, (!t367), (by first | rfl | (simp; done) | (simp [*]; done)), H', ⟨by first | omega | exact Nat.le_refl _⟩, ⟨by (with_reducible repeat (first | apply Kd.R_alloc | apply Kd.R_drewN | apply Kd.R_drew)); exact Kd.R_mono HO352.out (fun _ hk => hk.1.2)⟩, ⟨by (with_reducible repeat (first | apply Kd.R_alloc | apply Kd.R_drewN | apply Kd.R_drew)); exact Kd.R_mono HO356.out (fun _ hk => hk.1.2)⟩, ⟨by repeat (first | (with_reducible first | exact HB.out | apply below_alloc | apply pw_below_drewN | apply below_drew1) | exact HB.out)⟩⟩
          · rw [if_neg c21] at H
            have c21b0 : (t366 == t363) = false := beq_eq_false_iff_ne.mpr c21
            have c21b1 : (t366 != t363) = true := bne_iff_ne.mpr c21
            have H' := Aside0.mk H
            clear H
            obtain ⟨Ao25, co25, eo25⟩ := Kd.R_slice HO352.out
            subst eo25
            obtain ⟨Ao26, co26, eo26⟩ := Kd.R_slice HO356.out
            subst eo26
            go_wp2_with (first | ((with_reducible refine gate_callee (f := 17) rfl ?_); refine goesL_ (some 40) rfl rfl Try.func17 (by kernel_rfl) rfl #[.slice Ao25 t349.length co25, .slice Ao26 t353.length co26] rfl (by (try simp only [List.map_toArray, List.map_cons, List.map_nil]); first | done | rfl | (simp only [List.length_drop, List.length_take]; rfl)) ?_; (with_reducible refine (halberdlaw0_SameExts.calls k _ _ t349 _ _ t353 true _ ?side1 ?side2 ?side3 ?side4 A15.out).mono ?_); (case side1 => repeat (first | exact (Kd.R_reads' HO352.out).2.2 | (with_reducible refine Kd.C_alloc ?_ _) | (with_reducible refine Kd.C_drewN ?_ _) | (with_reducible refine Kd.C_drew ?_))); (case side2 => exact (Kd.R_reads' HO352.out).2.1); (case side3 => repeat (first | exact (Kd.R_reads' HO356.out).2.2 | (with_reducible refine Kd.C_alloc ?_ _) | (with_reducible refine Kd.C_drewN ?_ _) | (with_reducible refine Kd.C_drew ?_))); (case side4 => exact (Kd.R_reads' HO356.out).2.1); rintro e w' ⟨rfl, ⟨nd, rfl⟩⟩; refine ⟨_, rfl, ?_⟩) | (go_at_call 18; (with_reducible refine (halberdlaw0_Num.calls t350 t365 _ A17.out).mono ?_); rintro e w' ⟨rfl, ⟨nd, rfl⟩⟩) | (go_at_call 18; (with_reducible refine (halberdlaw0_Num.calls t361 t366 _ A20.out).mono ?_); rintro e w' ⟨rfl, ⟨nd, rfl⟩⟩))
            go_meet
            case rel => exact ⟨_, (true), (by first | rfl | (simp; done) | (simp [*]; done)), H', ⟨by first | omega | exact Nat.le_refl _⟩, ⟨by (with_reducible repeat (first | apply Kd.R_alloc | apply Kd.R_drewN | apply Kd.R_drew)); exact Kd.R_mono HO352.out (fun _ hk => hk.1.2)⟩, ⟨by (with_reducible repeat (first | apply Kd.R_alloc | apply Kd.R_drewN | apply Kd.R_drew)); exact Kd.R_mono HO356.out (fun _ hk => hk.1.2)⟩, ⟨by repeat (first | (with_reducible first | exact HB.out | apply below_alloc | apply pw_below_drewN | apply below_drew1) | exact HB.out)⟩⟩
        · rw [if_neg c19] at H
          have c19b0 : (t360.toList == t362.toList) = false := beq_eq_false_iff_ne.mpr c19
          have c19b1 : (t360.toList != t362.toList) = true := bne_iff_ne.mpr c19
          have H' := Aside0.mk H
          clear H
          obtain ⟨Ao27, co27, eo27⟩ := Kd.R_slice HO352.out
          subst eo27
          obtain ⟨Ao28, co28, eo28⟩ := Kd.R_slice HO356.out
          subst eo28
          go_wp2_with (first | ((with_reducible refine gate_callee (f := 17) rfl ?_); refine goesL_ (some 40) rfl rfl Try.func17 (by kernel_rfl) rfl #[.slice Ao27 t349.length co27, .slice Ao28 t353.length co28] rfl (by (try simp only [List.map_toArray, List.map_cons, List.map_nil]); first | done | rfl | (simp only [List.length_drop, List.length_take]; rfl)) ?_; (with_reducible refine (halberdlaw0_SameExts.calls k _ _ t349 _ _ t353 true _ ?side1 ?side2 ?side3 ?side4 A15.out).mono ?_); (case side1 => repeat (first | exact (Kd.R_reads' HO352.out).2.2 | (with_reducible refine Kd.C_alloc ?_ _) | (with_reducible refine Kd.C_drewN ?_ _) | (with_reducible refine Kd.C_drew ?_))); (case side2 => exact (Kd.R_reads' HO352.out).2.1); (case side3 => repeat (first | exact (Kd.R_reads' HO356.out).2.2 | (with_reducible refine Kd.C_alloc ?_ _) | (with_reducible refine Kd.C_drewN ?_ _) | (with_reducible refine Kd.C_drew ?_))); (case side4 => exact (Kd.R_reads' HO356.out).2.1); rintro e w' ⟨rfl, ⟨nd, rfl⟩⟩; refine ⟨_, rfl, ?_⟩) | (go_at_call 18; (with_reducible refine (halberdlaw0_Num.calls t350 t365 _ A17.out).mono ?_); rintro e w' ⟨rfl, ⟨nd, rfl⟩⟩))
          go_meet
          case rel => exact ⟨_, (true), (by first | rfl | (simp; done) | (simp [*]; done)), H', ⟨by first | omega | exact Nat.le_refl _⟩, ⟨by (with_reducible repeat (first | apply Kd.R_alloc | apply Kd.R_drewN | apply Kd.R_drew)); exact Kd.R_mono HO352.out (fun _ hk => hk.1.2)⟩, ⟨by (with_reducible repeat (first | apply Kd.R_alloc | apply Kd.R_drewN | apply Kd.R_drew)); exact Kd.R_mono HO356.out (fun _ hk => hk.1.2)⟩, ⟨by repeat (first | (with_reducible first | exact HB.out | apply below_alloc | apply pw_below_drewN | apply below_drew1) | exact HB.out)⟩⟩
      · rw [if_neg c18] at H
        have c18b0 : (t365 == t354) = false := beq_eq_false_iff_ne.mpr c18
        have c18b1 : (t365 != t354) = true := bne_iff_ne.mpr c18
        (first | rw [c18b0] | (simp only [i64_w, i32_w]; rw [c18b0]) | skip)
        have H' := Aside0.mk H
        clear H
        obtain ⟨Ao29, co29, eo29⟩ := Kd.R_slice HO352.out
        subst eo29
        obtain ⟨Ao30, co30, eo30⟩ := Kd.R_slice HO356.out
        subst eo30
        go_wp2_with (first | ((with_reducible refine gate_callee (f := 17) rfl ?_); refine goesL_ (some 40) rfl rfl Try.func17 (by kernel_rfl) rfl #[.slice Ao29 t349.length co29, .slice Ao30 t353.length co30] rfl (by (try simp only [List.map_toArray, List.map_cons, List.map_nil]); first | done | rfl | (simp only [List.length_drop, List.length_take]; rfl)) ?_; (with_reducible refine (halberdlaw0_SameExts.calls k _ _ t349 _ _ t353 true _ ?side1 ?side2 ?side3 ?side4 A15.out).mono ?_); (case side1 => repeat (first | exact (Kd.R_reads' HO352.out).2.2 | (with_reducible refine Kd.C_alloc ?_ _) | (with_reducible refine Kd.C_drewN ?_ _) | (with_reducible refine Kd.C_drew ?_))); (case side2 => exact (Kd.R_reads' HO352.out).2.1); (case side3 => repeat (first | exact (Kd.R_reads' HO356.out).2.2 | (with_reducible refine Kd.C_alloc ?_ _) | (with_reducible refine Kd.C_drewN ?_ _) | (with_reducible refine Kd.C_drew ?_))); (case side4 => exact (Kd.R_reads' HO356.out).2.1); rintro e w' ⟨rfl, ⟨nd, rfl⟩⟩; refine ⟨_, rfl, ?_⟩) | (go_at_call 18; (with_reducible refine (halberdlaw0_Num.calls t350 t365 _ A17.out).mono ?_); rintro e w' ⟨rfl, ⟨nd, rfl⟩⟩))
        go_meet
        case rel => exact ⟨_, (true), (by first | rfl | (simp; done) | (simp [*]; done)), H', ⟨by first | omega | exact Nat.le_refl _⟩, ⟨by (with_reducible repeat (first | apply Kd.R_alloc | apply Kd.R_drewN | apply Kd.R_drew)); exact Kd.R_mono HO352.out (fun _ hk => hk.1.2)⟩, ⟨by (with_reducible repeat (first | apply Kd.R_alloc | apply Kd.R_drewN | apply Kd.R_drew)); exact Kd.R_mono HO356.out (fun _ hk => hk.1.2)⟩, ⟨by repeat (first | (with_reducible first | exact HB.out | apply below_alloc | apply pw_below_drewN | apply below_drew1) | exact HB.out)⟩⟩
    · replace c16 := Bool.eq_false_iff.mpr c16
      subst c16
      have H1 : (halberdlaw16_Exts.j0 k a0 t349 t353 true) = some r := by rw [if_neg (show ¬ (false = true) by decide)] at H; exact H
      clear H
      have H := H1
      clear H1
      have H' := Aside0.mk H
      clear H
      obtain ⟨Ao31, co31, eo31⟩ := Kd.R_slice HO352.out
      subst eo31
      obtain ⟨Ao32, co32, eo32⟩ := Kd.R_slice HO356.out
      subst eo32
      go_wp2_with (first | ((with_reducible refine gate_callee (f := 17) rfl ?_); refine goesL_ (some 40) rfl rfl Try.func17 (by kernel_rfl) rfl #[.slice Ao31 t349.length co31, .slice Ao32 t353.length co32] rfl (by (try simp only [List.map_toArray, List.map_cons, List.map_nil]); first | done | rfl | (simp only [List.length_drop, List.length_take]; rfl)) ?_; (with_reducible refine (halberdlaw0_SameExts.calls k _ _ t349 _ _ t353 false _ ?side1 ?side2 ?side3 ?side4 A15.out).mono ?_); (case side1 => repeat (first | exact (Kd.R_reads' HO352.out).2.2 | (with_reducible refine Kd.C_alloc ?_ _) | (with_reducible refine Kd.C_drewN ?_ _) | (with_reducible refine Kd.C_drew ?_))); (case side2 => exact (Kd.R_reads' HO352.out).2.1); (case side3 => repeat (first | exact (Kd.R_reads' HO356.out).2.2 | (with_reducible refine Kd.C_alloc ?_ _) | (with_reducible refine Kd.C_drewN ?_ _) | (with_reducible refine Kd.C_drew ?_))); (case side4 => exact (Kd.R_reads' HO356.out).2.1); rintro e w' ⟨rfl, ⟨nd, rfl⟩⟩; refine ⟨_, rfl, ?_⟩))
      go_meet
      case rel => exact ⟨_, (true), (by first | rfl | (simp; done) | (simp [*]; done)), H', ⟨by first | omega | exact Nat.le_refl _⟩, ⟨by (with_reducible repeat (first | apply Kd.R_alloc | apply Kd.R_drewN | apply Kd.R_drew)); exact Kd.R_mono HO352.out (fun _ hk => hk.1.2)⟩, ⟨by (with_reducible repeat (first | apply Kd.R_alloc | apply Kd.R_drewN | apply Kd.R_drew)); exact Kd.R_mono HO356.out (fun _ hk => hk.1.2)⟩, ⟨by repeat (first | (with_reducible first | exact HB.out | apply below_alloc | apply pw_below_drewN | apply below_drew1) | exact HB.out)⟩⟩
  case rest =>
    clear HC8
    try clear c1
    try clear c2
    try clear p2
    try clear c3
    try clear c12
    try clear c13
    try clear c14
    try clear c15
    try clear c16
    try clear c17
    try clear c18
    try clear c18b0
    try clear c18b1
    try clear c19
    try clear c19b0
    try clear c19b1
    try clear c21
    try clear c21b0
    try clear c21b1
    obtain ⟨kq, x64_7, rfl, HA, HJ7, HO_5, HO_7, HB⟩ := hcut
    cases kq with
    | zero => exact absurd HA.out (by simp [halberdlaw16_Exts.j0])
    | succ kj7 =>
      have H := HA.out
      clear HA
      simp only [halberdlaw16_Exts.j0] at H
      by_cases c33 : x64_7 = true
      · subst c33
        have H1 : (some false) = some r := by rw [if_pos rfl] at H; exact H
        clear H
        have H := H1
        clear H1
        exact absurd ((Option.some.inj H).trans hr.out) (by decide)
      · replace c33 := Bool.eq_false_iff.mpr c33
        subst c33
        have H1 : ((halberdlaw0_SpoilExts.f kj7 t349).bind fun t368 => ((ext_Get.f kj7 a0).bind fun bt369 => ((halberdlaw0_SameExts.f kj7 bt369.1 t353).bind fun t373 => (if t373 = true then ((halberdlaw16_awake.f).bind fun t374 => (some t374)) else (some false))))) = some r := by rw [if_neg (show ¬ (false = true) by decide)] at H; exact H
        clear H
        have H := H1
        clear H1
        replace H := Option.bind_eq_some_iff.mp H
        obtain ⟨t368, A340, H⟩ := H
        replace H : ((ext_Get.f kj7 a0).bind fun bt369 => ((halberdlaw0_SameExts.f kj7 bt369.1 t353).bind fun t373 => (if t373 = true then ((halberdlaw16_awake.f).bind fun t374 => (some t374)) else (some false)))) = some r := H
        have A34 := Aside0.mk A340
        clear A340
        replace H := Option.bind_eq_some_iff.mp H
        obtain ⟨⟨t369, t370⟩, A350, H⟩ := H
        replace H : ((halberdlaw0_SameExts.f kj7 t369 t353).bind fun t373 => (if t373 = true then ((halberdlaw16_awake.f).bind fun t374 => (some t374)) else (some false))) = some r := H
        have A35 := Aside0.mk A350
        clear A350
        replace H := Option.bind_eq_some_iff.mp H
        obtain ⟨t373, A360, H⟩ := H
        replace H : (if t373 = true then ((halberdlaw16_awake.f).bind fun t374 => (some t374)) else (some false)) = some r := H
        have A36 := Aside0.mk A360
        clear A360
        by_cases c37 : t373 = true
        · subst c37
          have H1 : ((halberdlaw16_awake.f).bind fun t374 => (some t374)) = some r := by rw [if_pos rfl] at H; exact H
          clear H
          have H := H1
          clear H1
          replace H := Option.bind_eq_some_iff.mp H
          obtain ⟨t374, A380, H⟩ := H
          replace H : (some t374) = some r := H
          have A38 := Aside0.mk A380
          clear A380
          obtain rfl := Option.some.inj H
          obtain ⟨Ao39, co39, eo39⟩ := Kd.R_slice HO_5.out
          subst eo39
          go_wp2_with (first | ((with_reducible refine gate_callee (f := 20) rfl ?_); refine goesL_ (some 66) rfl rfl Try.func20 (by kernel_rfl) rfl #[.slice Ao39 t349.length co39] rfl (by (try simp only [List.map_toArray, List.map_cons, List.map_nil]); first | done | rfl | (simp only [List.length_drop, List.length_take]; rfl)) ?_; (with_reducible refine (halberdlaw0_SpoilExts.calls kj7 (fun k_ => some k_ = (.slice Ao39 t349.length co39 : Value).ownBlock) (.slice Ao39 t349.length co39) t349 t368 w _ ?side1 ?side2 A34.out).mono ?_); (case side1 => repeat (first | (with_reducible first | exact HB.out | apply below_alloc | apply pw_below_drewN | apply below_drew1) | exact HB.out)); (case side2 => exact Kd.R_tight rfl HO_5.out); rintro e w40 ⟨rfl, hy0, hb, hkp⟩; refine ⟨_, rfl, ?_⟩; have n0_ := Aside0.mk (Kd.R_reok rfl hy0 (fun k_ e_ => HO_5.out.1 k_ e_)); have n1_ := Aside0.mk (Kd.R_mono (ok' := fun k_ => some k_ ≠ (.slice Ao39 t349.length co39 : Value).ownBlock) (Kd.R_keptB (HO_7.out) hkp (fun k_ hk_ hs_ => (hk_) hs_)) (fun k_ hk_ => hk_.1)); have n2_ := Aside0.mk (hb); clear HO_5; clear HO_7; clear HB; have HO_5 := n0_; have HO_7 := n1_; have HB := n2_; clear n0_ n1_ n2_; (try clear hb); (try clear hkp); (try clear hy0)) | ((with_reducible refine gate_callee (f := 12) rfl ?_); refine goesL_ (some 69) rfl rfl Try.func12 (by kernel_rfl) rfl #[.string a0] rfl (by (try simp only [List.map_toArray, List.map_cons, List.map_nil]); first | done | rfl | (simp only [List.length_drop, List.length_take]; rfl)) ?_; (with_reducible refine (ext_Get.calls kj7 a0 t369 t370 _ A35.out).mono ?_); rintro e w41 ⟨v371, rfl, ho0, hb⟩; refine ⟨_, rfl, ?_⟩; have n0_ := Aside0.mk (Kd.R_elder' (by (with_reducible repeat (first | apply Kd.R_alloc | apply Kd.R_drewN | apply Kd.R_drew)); exact HO_5.out) (Kd.R_base ho0) hb); have n1_ := Aside0.mk (Kd.R_elder' (by (with_reducible repeat (first | apply Kd.R_alloc | apply Kd.R_drewN | apply Kd.R_drew)); exact HO_7.out) (Kd.R_base ho0) hb); have n2_ := Aside0.mk (Kd.R_lower (Kd.R_new' (Kd.R_new' ho0 (Kd.R_lt (by (with_reducible repeat (first | apply Kd.R_alloc | apply Kd.R_drewN | apply Kd.R_drew)); exact HO_5.out))) (Kd.R_lt (by (with_reducible repeat (first | apply Kd.R_alloc | apply Kd.R_drewN | apply Kd.R_drew)); exact HO_7.out))) (below_size (by repeat (first | (with_reducible first | exact HB.out | apply below_alloc | apply pw_below_drewN | apply below_drew1) | exact HB.out)))); have n3_ := Aside0.mk (below_step (by repeat (first | (with_reducible first | exact HB.out | apply below_alloc | apply pw_below_drewN | apply below_drew1) | exact HB.out)) hb); clear HO_5; clear HO_7; clear HB; have HO_5 := n0_; have HO_7 := n1_; have HO372 := n2_; have HB := n3_; clear n0_ n1_ n2_ n3_; (try clear hb); (try clear hb2); (try clear hk); (try clear hi); (try clear ho0); obtain ⟨Ao42, co42, eo42⟩ := Kd.R_slice HO372.out; subst eo42; obtain ⟨Ao43, co43, eo43⟩ := Kd.R_slice HO_7.out; subst eo43) | ((with_reducible refine gate_callee (f := 17) rfl ?_); refine goesL_ (some 74) rfl rfl Try.func17 (by kernel_rfl) rfl #[.slice Ao42 t369.length co42, .slice Ao43 t353.length co43] rfl (by (try simp only [List.map_toArray, List.map_cons, List.map_nil]); first | done | rfl | (simp only [List.length_drop, List.length_take]; rfl)) ?_; (with_reducible refine (halberdlaw0_SameExts.calls kj7 _ _ t369 _ _ t353 true _ ?side1 ?side2 ?side3 ?side4 A36.out).mono ?_); (case side1 => repeat (first | exact (Kd.R_reads' HO372.out).2.2 | (with_reducible refine Kd.C_alloc ?_ _) | (with_reducible refine Kd.C_drewN ?_ _) | (with_reducible refine Kd.C_drew ?_))); (case side2 => exact (Kd.R_reads' HO372.out).2.1); (case side3 => repeat (first | exact (Kd.R_reads' HO_7.out).2.2 | (with_reducible refine Kd.C_alloc ?_ _) | (with_reducible refine Kd.C_drewN ?_ _) | (with_reducible refine Kd.C_drew ?_))); (case side4 => exact (Kd.R_reads' HO_7.out).2.1); rintro e w' ⟨rfl, ⟨nd, rfl⟩⟩; refine ⟨_, rfl, ?_⟩) | (go_at_call 21; (with_reducible refine (halberdlaw16_awake.calls  t374 _ A38.out).mono ?_); rintro e w44 ⟨rfl, hb⟩; have n0_ := Aside0.mk (Kd.R_below (by (with_reducible repeat (first | apply Kd.R_alloc | apply Kd.R_drewN | apply Kd.R_drew)); exact HO_5.out) hb); have n1_ := Aside0.mk (Kd.R_below (by (with_reducible repeat (first | apply Kd.R_alloc | apply Kd.R_drewN | apply Kd.R_drew)); exact HO_7.out) hb); have n2_ := Aside0.mk (Kd.R_below (by (with_reducible repeat (first | apply Kd.R_alloc | apply Kd.R_drewN | apply Kd.R_drew)); exact HO372.out) hb); have n3_ := Aside0.mk (below_step (by repeat (first | (with_reducible first | exact HB.out | apply below_alloc | apply pw_below_drewN | apply below_drew1) | exact HB.out)) hb); clear HO_5; clear HO_7; clear HO372; clear HB; have HO_5 := n0_; have HO_7 := n1_; have HO372 := n2_; have HB := n3_; clear n0_ n1_ n2_ n3_; (try clear hb); (try clear hb2); (try clear hk); (try clear hi)))
          go_ret
          exact ⟨by first | rfl | (simp [errW_none, errW_some] <;> rfl) | (simp [*, errW_none, errW_some] <;> rfl), by repeat (first | (with_reducible first | exact HB.out | apply below_alloc | apply pw_below_drewN | apply below_drew1) | exact HB.out)⟩
        · replace c37 := Bool.eq_false_iff.mpr c37
          subst c37
          have H1 : (some false) = some r := by rw [if_neg (show ¬ (false = true) by decide)] at H; exact H
          clear H
          have H := H1
          clear H1
          exact absurd ((Option.some.inj H).trans hr.out) (by decide)


end Go.Proofs.Ytlkebjkpmiehcaa.E
