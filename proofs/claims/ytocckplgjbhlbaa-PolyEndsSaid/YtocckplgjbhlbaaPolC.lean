/- The document's carried and product, walked. Conditions: five limbs. -/
import Derived.Test.YtocckplgjbhlbaaPolB
namespace Go.Proofs.Ytocckplgjbhlbaa.Pol
open Go.RowKit Go.Proofs.YtocckplgjbhlbaaW.PrintWords Go.Proofs.Ytocckplgjbhlbaa.Cha Go.Proofs.Ytocckplgjbhlbaa.X
set_option linter.unusedVariables false
theorem ix67 (g i : Nat) (h : i < 5) (W : World) : (Instr.indexAt 67 (.pointer (some ⟨g, 0, none⟩)) (.int .i64 (i : Int))).run Try.prog W = .ok (.pointer (some ⟨g, i, none⟩)) W := by
  have hl : Try.prog.arrayLen 67 = 5 := by kernel_rfl
  have he : Try.prog.elem 67 = 66 := by kernel_rfl
  have hs : (sizeOf 66).run Try.prog W = .ok 1 W := by kernel_rfl
  rw [run_indexAt_array (P := Try.prog) (w := W) 67 ⟨g, 0, none⟩ .i64 i (by rw [hl, he]; exact Try.underlying67)]
  rw [hl, he, if_pos (by omega), hs]
  simp [Addr.add, Result.andThen]
  omega
theorem info67 : (Try.prog.info? 67).map (fun i => i.size) = some 5 := by kernel_rfl
theorem gx_set (y : List Int) (i : Nat) (v : Int) (h : i < y.length) : gx (y.set i v) i = v := by simp [gx, List.getD_eq_getElem?_getD, h]
/-- The document's limbs of 26 bits, i of them, and what is carried on. -/
def rcs (d : List Int) : Nat → List Int × Int
  | 0 => (d, 0)
  | i + 1 => (((rcs d i).1.set i (IntKind.u64.wrap (gx (rcs d i).1 i + (rcs d i).2))).set i (Go.bits .and .u64 (IntKind.u64.wrap (gx (rcs d i).1 i + (rcs d i).2)) 67108863), IntKind.u64.wrap (gx (rcs d i).1 i + (rcs d i).2) / 67108864)
theorem rcs_length (d : List Int) : ∀ i, (rcs d i).1.length = d.length
  | 0 => rfl
  | i + 1 => by rw [rcs]; simp only [List.length_set]; exact rcs_length d i
def rcarried (d : List Int) : List Int := (rcs d 5).1.set 0 (IntKind.u64.wrap (gx (rcs d 5).1 0 + IntKind.u64.wrap (5 * (rcs d 5).2)))
theorem rcarried_length (d : List Int) : (rcarried d).length = d.length := by rw [rcarried, List.length_set, rcs_length]
set_option maxRecDepth 100000 in
set_option maxHeartbeats 4000000 in
theorem carried_calls (d : List Int) (hd : d.length = 5) (w : World) :
    Calls Try.prog 55 #[agg .u64 d] w fun e w' => e = .returned (agg .u64 (rcarried d)) ∧ Below w.heap.size w w' := by
  have HL0 := Aside0.mk hd
  clear hd
  go_enter Try.func55, Try.ntmps55
  go_wp2_with (first | ((with_reducible refine gate_dst (N := 1) rfl ?_); refine Arr.box (k := .u64) (xs := d) rfl 67 _ rfl rfl ?_; intro g eg w1 k1 b1; have HX1 := Aside0.mk (show Arr .u64 w1 g 67 (rcs d 0).1 from k1); have HB1 := Aside0.mk b1; have HMG := Aside0.mk (show w.heap.size ≤ g from by rw [eg]; exact Nat.le_refl _); clear k1 b1 eg) | ((with_reducible refine gate_dst (N := 2) rfl ?_); refine box_event ?hg (N := 2) ?hd (cs := ((List.replicate 5 (0 : Int)).map (Value.int .u64)).toArray) (t := 67) ?hr ?_; (case hd => rfl); (case hg => rfl); (case hr => first | (go_simp; done) | (go_simp; rfl)); intro gr eg w2 k2 b2; have HR2 := Aside0.mk (show Arr .u64 w2 gr 67 (List.replicate 5 0) from k2); have HX2 := Aside0.mk (HX1.out.below b2); have HB2 := Aside0.mk (below_step HB1.out b2); have HMR := Aside0.mk (show w.heap.size ≤ gr ∧ g < gr from (by rw [eg]; exact ⟨below_size HB1.out, HX1.out.lt⟩)); clear k2 b2 eg))
  go_loopw [4, 3] (fun v u wr => ∃ i : Nat, i ≤ 5 ∧ v = .int .i64 i ∧ u = .int .u64 (rcs d i).2 ∧ Aside0 (Arr .u64 wr g 67 (rcs d i).1) ∧ Aside0 (Below w.heap.size w wr) ∧ Aside0 (Arr .u64 wr gr 67 (List.replicate 5 0))) (fun v _ _ => 5 - (intOf v).toNat)
  case atStart => exact ⟨0, by omega, rfl, rfl, HX2, HB2, HR2⟩
  case round =>
  obtain ⟨i, hi, rfl, rfl, HXi, HBi, HR2i⟩ := hrel
  by_cases hlt : i < 5
  · have t1 : decide ((i : Int) < 5) = true := decide_eq_true (by omega)
    obtain ⟨y, hy⟩ : ∃ y, y = (rcs d i).1 := ⟨_, rfl⟩
    obtain ⟨cc, hcc⟩ : ∃ cc, cc = (rcs d i).2 := ⟨_, rfl⟩
    have hyl : y.length = 5 := by rw [hy, rcs_length]; exact HL0.out
    rw [← hy] at HXi
    rw [← hcc]
    have HYE := Aside0.mk hy
    have HCE := Aside0.mk hcc
    clear hy hcc
    have ia := ix67 g i hlt
    have ca := HXi.out.cell i (by omega)
    have fa := HXi.out.frozen i
    obtain ⟨v, hv⟩ : ∃ v, IntKind.u64.wrap (gx y i + cc) = v := ⟨_, rfl⟩
    have HVE := Aside0.mk hv
    go_wp2_with (first
      | ((with_reducible refine gate_store (t := 66) (p := 15) rfl ?_); refine Arr.store (g := g) (k := .u64) (xs := y) (t := 67) rfl rfl i v ?hs HXi.out ?_; (case hs => (first | (go_simp; done) | (go_simp; rfl))); intro w5 k5 g5; have HX5 := Aside0.mk k5; have HB5 := Aside0.mk (HBi.out.grown g5 (below_size HBi.out) (fun k hk => by rw [← Option.some.inj hk]; exact HMG.out)); clear ca fa hv; have ca : w5.cell? ⟨g, i, none⟩ = some (.int .u64 v) := (by have := k5.cell i (by rw [List.length_set]; omega); rw [gx_set y i v (by omega)] at this; exact this); have fa := k5.frozen i; have HR25 := Aside0.mk (HR2i.out.grown g5 (fun e => by have := Option.some.inj e; have := HMR.out.2; omega)); clear k5 g5)
      | ((with_reducible refine gate_store (t := 66) (p := 25) rfl ?_); refine Arr.store (g := g) (k := .u64) (xs := y.set i v) (t := 67) rfl rfl i (Go.bits .and .u64 v 67108863) ?hs HX5.out ?_; (case hs => (first | (go_simp; done) | (go_simp; rfl))); intro w7 k7 g7; have HX7 := Aside0.mk (show Arr .u64 w7 g 67 (rcs d (i + 1)).1 from (by rw [rcs, ← HYE.out, ← HCE.out, HVE.out]; exact k7)); have HB7 := Aside0.mk (HB5.out.grown g7 (below_size HB5.out) (fun k hk => by rw [← Option.some.inj hk]; exact HMG.out)); have HR27 := Aside0.mk (HR25.out.grown g7 (fun e => by have := Option.some.inj e; have := HMR.out.2; omega)); clear k7 g7 ca fa ia))
    have hc2 : (rcs d (i + 1)).2 = v / 67108864 := by rw [rcs, ← HYE.out, ← HCE.out, HVE.out]
    go_roundw
    case rel => first | exact ⟨i + 1, by omega, by go_num, by rw [hc2], HX7, HB7, HR27⟩ | ((repeat apply Exists.intro); exact ⟨⟨i + 1, by omega, by go_num, by rw [hc2], HX7, HB7, HR27⟩, rfl⟩)
    case measure => simp [intOf]; omega
  obtain rfl : i = 5 := by omega
  clear hi hlt
  obtain ⟨y, hy⟩ : ∃ y, y = (rcs d 5).1 := ⟨_, rfl⟩
  obtain ⟨cc, hcc⟩ : ∃ cc, cc = (rcs d 5).2 := ⟨_, rfl⟩
  have hyl : y.length = 5 := by rw [hy, rcs_length]; exact HL0.out
  rw [← hy] at HXi
  rw [← hcc]
  have HRE := Aside0.mk (show rcarried d = y.set 0 (IntKind.u64.wrap (gx y 0 + IntKind.u64.wrap (5 * cc))) from by rw [rcarried, ← hy, ← hcc])
  clear hy hcc
  have ia : ∀ W, (Instr.indexAt 67 (.pointer (some ⟨g, 0, none⟩)) (.int .i64 0)).run Try.prog W = .ok (.pointer (some ⟨g, 0, none⟩)) W := fun W => ix67 g 0 (by omega) W
  have ca := HXi.out.cell 0 (by omega)
  have fa := HXi.out.frozen 0
  have hzl : (y.set 0 (IntKind.u64.wrap (gx y 0 + IntKind.u64.wrap (5 * cc)))).length = 5 := by rw [List.length_set]; exact hyl
  go_wp2_with (first
    | ((with_reducible refine gate_store (t := 66) (p := 31) rfl ?_); refine Arr.store (g := g) (k := .u64) (xs := y) (t := 67) rfl rfl 0 (IntKind.u64.wrap (gx y 0 + IntKind.u64.wrap (5 * cc))) ?hs HXi.out ?_; (case hs => (first | (go_simp; done) | (go_simp; rfl))); intro w5 k5 g5; have HX5 := Aside0.mk k5; have HR5 := Aside0.mk (HR2i.out.grown g5 (fun e => by have := Option.some.inj e; have := HMR.out.2; omega)); have HB5 := Aside0.mk (HBi.out.grown g5 (below_size HBi.out) (fun k hk => by rw [← Option.some.inj hk]; exact HMG.out)); clear k5 g5 ia ca fa)
    | ((with_reducible refine gate_dst (N := 32) rfl ?_); refine Arr.load (k := .u64) (xs := y.set 0 (IntKind.u64.wrap (gx y 0 + IntKind.u64.wrap (5 * cc)))) (g := g) (t := 67) rfl 67 _ rfl rfl HX5.out _ Try.underlying67 rfl 5 (by kernel_rfl) hzl ?_)
    | ((with_reducible refine gate_store (t := 67) (p := 2) rfl ?_); refine Arr.put (k := .u64) (g := gr) (t := 67) (xs := List.replicate 5 0) (ys := y.set 0 (IntKind.u64.wrap (gx y 0 + IntKind.u64.wrap (5 * cc)))) rfl 67 _ _ rfl rfl rfl HR5.out 5 (by kernel_rfl) rfl hzl ?_; intro w9 k9 g9; have H9 := Aside0.mk k9; have G9 := Aside0.mk g9; clear k9 g9))
  rw [HRE.out]
  refine bodyPost_ret (v := agg .u64 (y.set 0 (IntKind.u64.wrap (gx y 0 + IntKind.u64.wrap (5 * cc))))) (results_cell_row rfl _ _ gr 67 _ _ _ rfl H9.out Try.underlying67 rfl ?_) rfl ⟨rfl, ?_⟩
  · rw [info67]
    simp [hyl]
  · exact HB5.out.grown G9.out (below_size HB5.out) (fun k hk => by rw [← Option.some.inj hk]; exact HMR.out.1)
/-- One product of limbs, the document's. -/
def rlimb (h r : List Int) (i k : Nat) : Int :=
  if i + k > 4 then IntKind.u64.wrap (5 * IntKind.u64.wrap (gx h i * gx r k)) else IntKind.u64.wrap (gx h i * gx r k)
def rrow (h r y : List Int) (i : Nat) : Nat → List Int
  | 0 => y
  | k + 1 => (rrow h r y i k).set ((i + k) % 5) (IntKind.u64.wrap (gx (rrow h r y i k) ((i + k) % 5) + rlimb h r i k))
def rmul (h r : List Int) : Nat → List Int
  | 0 => List.replicate 5 0
  | i + 1 => rrow h r (rmul h r i) i 5
theorem rrow_length (h r y : List Int) (i : Nat) : ∀ k, (rrow h r y i k).length = y.length
  | 0 => rfl
  | k + 1 => by rw [rrow, List.length_set, rrow_length h r y i k]
theorem rmul_length (h r : List Int) : ∀ i, (rmul h r i).length = 5
  | 0 => rfl
  | i + 1 => by rw [rmul, rrow_length, rmul_length h r i]
def rproduct (h r : List Int) : List Int := rcarried (rcarried (rmul h r 5))
theorem rproduct_length (h r : List Int) : (rproduct h r).length = 5 := by rw [rproduct, rcarried_length, rcarried_length, rmul_length]
set_option maxRecDepth 100000 in
set_option maxHeartbeats 4000000 in
theorem product_calls (h r : List Int) (hh : h.length = 5) (hr : r.length = 5) (w : World) :
    Calls Try.prog 45 #[agg .u64 h, agg .u64 r] w fun e w' => e = .returned (agg .u64 (rproduct h r)) ∧ Below w.heap.size w w' := by
  have HLH := Aside0.mk hh
  have HLR := Aside0.mk hr
  clear hh hr
  go_enter Try.func45, Try.ntmps45
  go_wp2_with (first | ((with_reducible refine gate_dst (N := 2) rfl ?_); refine Arr.box (k := .u64) (xs := h) rfl 67 _ rfl rfl ?_; intro gh eg w1 k1 b1; have HH1 := Aside0.mk k1; have HB1 := Aside0.mk b1; have HMH := Aside0.mk (show w.heap.size ≤ gh from by rw [eg]; exact Nat.le_refl _); clear k1 b1 eg) | ((with_reducible refine gate_dst (N := 3) rfl ?_); refine Arr.box (k := .u64) (xs := r) rfl 67 _ rfl rfl ?_; intro gq eg w2 k1 b1; have HQ2 := Aside0.mk k1; have HH2 := Aside0.mk (HH1.out.below b1); have HB2 := Aside0.mk (below_step HB1.out b1); have HMQ := Aside0.mk (show w.heap.size ≤ gq ∧ gh < gq from (by rw [eg]; exact ⟨below_size HB1.out, HH1.out.lt⟩)); clear k1 b1 eg) | ((with_reducible refine gate_dst (N := 4) rfl ?_); refine box_event ?hg (N := 4) ?hd (cs := ((List.replicate 5 (0 : Int)).map (Value.int .u64)).toArray) (t := 67) ?hr ?_; (case hd => rfl); (case hg => rfl); (case hr => first | (go_simp; done) | (go_simp; rfl)); intro gr eg w3 k2 b2; have HR3 := Aside0.mk (show Arr .u64 w3 gr 67 (List.replicate 5 0) from k2); have HH3 := Aside0.mk (HH2.out.below b2); have HQ3 := Aside0.mk (HQ2.out.below b2); have HB3 := Aside0.mk (below_step HB2.out b2); have HMR := Aside0.mk (show w.heap.size ≤ gr ∧ gh < gr ∧ gq < gr from (by rw [eg]; exact ⟨below_size HB2.out, HH2.out.lt, HQ2.out.lt⟩)); clear k2 b2 eg) | ((with_reducible refine gate_dst (N := 5) rfl ?_); refine box_event ?hg (N := 5) ?hd (cs := ((List.replicate 5 (0 : Int)).map (Value.int .u64)).toArray) (t := 67) ?hr ?_; (case hd => rfl); (case hg => rfl); (case hr => first | (go_simp; done) | (go_simp; rfl)); intro gd eg w4 k2 b2; have HD4 := Aside0.mk (show Arr .u64 w4 gd 67 (rmul h r 0) from k2); have HR4 := Aside0.mk (HR3.out.below b2); have HH4 := Aside0.mk (HH3.out.below b2); have HQ4 := Aside0.mk (HQ3.out.below b2); have HB4 := Aside0.mk (below_step HB3.out b2); have HMD := Aside0.mk (show w.heap.size ≤ gd ∧ gh < gd ∧ gq < gd ∧ gr < gd from (by rw [eg]; exact ⟨below_size HB3.out, HH3.out.lt, HQ3.out.lt, HR3.out.lt⟩)); clear k2 b2 eg))
  go_loopw [6] (fun v wr => ∃ i : Nat, i ≤ 5 ∧ v = .int .i64 i ∧ Aside0 (Arr .u64 wr gh 67 h) ∧ Aside0 (Arr .u64 wr gq 67 r) ∧ Aside0 (Arr .u64 wr gr 67 (List.replicate 5 0)) ∧ Aside0 (Arr .u64 wr gd 67 (rmul h r i)) ∧ Aside0 (Below w.heap.size w wr)) (fun v _ => 5 - (intOf v).toNat)
  case atStart => exact ⟨0, by omega, rfl, HH4, HQ4, HR4, HD4, HB4⟩
  case round =>
  obtain ⟨i, hi, rfl, HHi, HQi, HRi, HDi, HBi⟩ := hrel
  by_cases hlt : i < 5
  · have t1 : decide ((i : Int) < 5) = true := decide_eq_true (by omega)
    go_wp2
    go_loopw [7] (fun v wr => ∃ k : Nat, k ≤ 5 ∧ v = .int .i64 k ∧ Aside0 (Arr .u64 wr gh 67 h) ∧ Aside0 (Arr .u64 wr gq 67 r) ∧ Aside0 (Arr .u64 wr gr 67 (List.replicate 5 0)) ∧ Aside0 (Arr .u64 wr gd 67 (rrow h r (rmul h r i) i k)) ∧ Aside0 (Below w.heap.size w wr)) (fun v _ => 5 - (intOf v).toNat)
    case atStart => exact ⟨0, by omega, rfl, HHi, HQi, HRi, HDi, HBi⟩
    case round =>
    obtain ⟨k, hk, rfl, HHk, HQk, HRk, HDk, HBk⟩ := hrel
    by_cases hlk : k < 5
    · have t2 : decide ((k : Int) < 5) = true := decide_eq_true (by omega)
      obtain ⟨y, hy⟩ : ∃ y, y = rrow h r (rmul h r i) i k := ⟨_, rfl⟩
      have HYE := Aside0.mk hy
      have hyl : y.length = 5 := by rw [hy, rrow_length, rmul_length]
      rw [← hy] at HDk
      clear hy
      obtain ⟨m, hm⟩ : ∃ m, m = (i + k) % 5 := ⟨_, rfl⟩
      have HME := Aside0.mk hm
      have hm5 : m < 5 := by omega
      have z1 : IntKind.i64.wrap ((i : Int) + (k : Int)) = (i : Int) + (k : Int) := IntWalk.i64_in _ (by omega)
      have z2 : ((i : Int) + (k : Int)).tmod 5 = (m : Int) := by rw [Int.tmod_eq_emod_of_nonneg (by omega)]; omega
      have z2' : ((i : Int) + (k : Int)) % 5 = (m : Int) := by omega
      have z3 : IntKind.i64.wrap (m : Int) = (m : Int) := IntWalk.i64_in _ (by omega)
      clear hm
      have ia := ix67 gh i hlt
      have ib := ix67 gq k hlk
      have ca := HHk.out.cell i (by rw [HLH.out]; exact hlt)
      have cb := HQk.out.cell k (by rw [HLR.out]; exact hlk)
      go_wp2
      go_quiet (fail)
      clear ia ib ca cb
      have HHq := Aside0.mk (HHk.out.drewN nq)
      have HQq := Aside0.mk (HQk.out.drewN nq)
      have HRq := Aside0.mk (HRk.out.drewN nq)
      have HDq := Aside0.mk (HDk.out.drewN nq)
      have HBq := Aside0.mk (pw_below_drewN HBk.out nq)
      have io := ix67 gd m hm5
      have co := HDq.out.cell m (by omega)
      have fo := HDq.out.frozen m
      by_cases hge : i + k > 4
      · have t3 : decide ((i : Int) + (k : Int) > 4) = true := decide_eq_true (by omega)
        have t3' : decide ((4 : Int) < (i : Int) + (k : Int)) = true := decide_eq_true (by omega)
        have hlb : rlimb h r i k = IntKind.u64.wrap (5 * IntKind.u64.wrap (gx h i * gx r k)) := if_pos hge
        go_wp2_with ((with_reducible refine gate_store (t := 66) (p := 42) rfl ?_); refine Arr.store (g := gd) (k := .u64) (xs := y) (t := 67) rfl rfl m (IntKind.u64.wrap (gx y m + rlimb h r i k)) ?hs HDq.out ?_; (case hs => (rw [hlb]; first | (go_simp; done) | (go_simp; rfl))); intro w5 k5 g5; have HD5 := Aside0.mk (show Arr .u64 w5 gd 67 (rrow h r (rmul h r i) i (k + 1)) from (by rw [rrow, ← HYE.out, ← HME.out]; exact k5)); have HH5 := Aside0.mk (HHq.out.grown g5 (fun e => by have := Option.some.inj e; have := HMD.out.2.1; omega)); have HQ5 := Aside0.mk (HQq.out.grown g5 (fun e => by have := Option.some.inj e; have := HMD.out.2.2.1; omega)); have HR5 := Aside0.mk (HRq.out.grown g5 (fun e => by have := Option.some.inj e; have := HMD.out.2.2.2; omega)); have HB5 := Aside0.mk (HBq.out.grown g5 (below_size HBq.out) (fun k hk => by rw [← Option.some.inj hk]; exact HMD.out.1)); clear k5 g5)
        go_roundw
        case rel => first | exact ⟨k + 1, by omega, by go_num, HH5, HQ5, HR5, HD5, HB5⟩ | ((repeat apply Exists.intro); exact ⟨⟨k + 1, by omega, by go_num, HH5, HQ5, HR5, HD5, HB5⟩, rfl⟩)
        case measure => simp [intOf]; omega
      · have t3 : decide ((i : Int) + (k : Int) > 4) = false := decide_eq_false (by omega)
        have t3' : decide ((4 : Int) < (i : Int) + (k : Int)) = false := decide_eq_false (by omega)
        have hlb : rlimb h r i k = IntKind.u64.wrap (gx h i * gx r k) := if_neg hge
        go_wp2_with ((with_reducible refine gate_store (t := 66) (p := 42) rfl ?_); refine Arr.store (g := gd) (k := .u64) (xs := y) (t := 67) rfl rfl m (IntKind.u64.wrap (gx y m + rlimb h r i k)) ?hs HDq.out ?_; (case hs => (rw [hlb]; first | (go_simp; done) | (go_simp; rfl))); intro w5 k5 g5; have HD5 := Aside0.mk (show Arr .u64 w5 gd 67 (rrow h r (rmul h r i) i (k + 1)) from (by rw [rrow, ← HYE.out, ← HME.out]; exact k5)); have HH5 := Aside0.mk (HHq.out.grown g5 (fun e => by have := Option.some.inj e; have := HMD.out.2.1; omega)); have HQ5 := Aside0.mk (HQq.out.grown g5 (fun e => by have := Option.some.inj e; have := HMD.out.2.2.1; omega)); have HR5 := Aside0.mk (HRq.out.grown g5 (fun e => by have := Option.some.inj e; have := HMD.out.2.2.2; omega)); have HB5 := Aside0.mk (HBq.out.grown g5 (below_size HBq.out) (fun k hk => by rw [← Option.some.inj hk]; exact HMD.out.1)); clear k5 g5)
        go_roundw
        case rel => first | exact ⟨k + 1, by omega, by go_num, HH5, HQ5, HR5, HD5, HB5⟩ | ((repeat apply Exists.intro); exact ⟨⟨k + 1, by omega, by go_num, HH5, HQ5, HR5, HD5, HB5⟩, rfl⟩)
        case measure => simp [intOf]; omega
    obtain rfl : k = 5 := by omega
    clear hk hlk
    have HDf := Aside0.mk (show Arr .u64 wr gd 67 (rmul h r (i + 1)) from HDk.out)
    go_wp2
    go_roundw
    case rel => first | exact ⟨i + 1, by omega, by go_num, HHk, HQk, HRk, HDf, HBk⟩ | ((repeat apply Exists.intro); exact ⟨⟨i + 1, by omega, by go_num, HHk, HQk, HRk, HDf, HBk⟩, rfl⟩)
    case measure => simp [intOf]; omega
  obtain rfl : i = 5 := by omega
  clear hi hlt
  have HLm := Aside0.mk (rmul_length h r 5)
  have HL1 := Aside0.mk (show (rcarried (rmul h r 5)).length = 5 from by rw [rcarried_length]; exact rmul_length h r 5)
  have HL2 := Aside0.mk (show (rproduct h r).length = 5 from rproduct_length h r)
  have HC1 := Aside0.mk (fun W => carried_calls (rmul h r 5) HLm.out W)
  have HC2 := Aside0.mk (fun W => carried_calls (rcarried (rmul h r 5)) HL1.out W)
  go_wp2_with (first
    | ((with_reducible refine gate_dst (N := 43) rfl ?_); refine Arr.load (k := .u64) (xs := rmul h r 5) (g := gd) (t := 67) rfl 67 _ rfl rfl HDi.out _ Try.underlying67 rfl 5 (by kernel_rfl) HLm.out ?_)
    | (go_at_call 55; first
        | ((with_reducible refine (HC2.out _).mono ?_); rintro e w7 ⟨rfl, b7⟩; have HB7 := Aside0.mk (below_step HB6.out b7); have HR7 := Aside0.mk (HR6.out.below b7); clear b7)
        | ((with_reducible refine (HC1.out _).mono ?_); rintro e w6 ⟨rfl, b6⟩; have HB6 := Aside0.mk (below_step HBi.out b6); have HR6 := Aside0.mk (HRi.out.below b6); clear b6))
    | ((with_reducible refine gate_store (t := 67) (p := 4) rfl ?_); refine Arr.put (k := .u64) (g := gr) (t := 67) (xs := List.replicate 5 0) (ys := rproduct h r) rfl 67 _ _ rfl rfl rfl HR7.out 5 (by kernel_rfl) rfl HL2.out ?_; intro w9 k9 g9; have H9 := Aside0.mk k9; have G9 := Aside0.mk g9; clear k9 g9))
  refine bodyPost_ret (v := agg .u64 (rproduct h r)) (results_cell_row rfl _ _ gr 67 _ _ _ rfl H9.out Try.underlying67 rfl ?_) rfl ⟨rfl, ?_⟩
  · rw [info67]
    simp [HL2.out]
  · exact HB7.out.grown G9.out (below_size HB7.out) (fun k hk => by rw [← Option.some.inj hk]; exact HMR.out.1)
end Go.Proofs.Ytocckplgjbhlbaa.Pol

/- The document's finish, walked. Conditions: five limbs, sixteen bytes. -/
namespace Go.Proofs.Ytocckplgjbhlbaa.Pol
open Go.RowKit Go.Proofs.YtocckplgjbhlbaaW.PrintWords Go.Proofs.Ytocckplgjbhlbaa.Cha Go.Proofs.Ytocckplgjbhlbaa.X
set_option linter.unusedVariables false
def rfull (h : List Int) : List Int := rcarried (rcarried h)
theorem rfull_length (h : List Int) : (rfull h).length = h.length := by rw [rfull, rcarried_length, rcarried_length]
/-- The number less the modulus, if that is not below nought. -/
def rless (h : List Int) : List Int := (rfull h).set 0 (IntKind.u64.wrap (gx (rfull h) 0 + 5))
theorem rless_length (h : List Int) : (rless h).length = h.length := by rw [rless, List.length_set, rfull_length]
def rleast (h : List Int) : List Int := if (rcs (rless h) 5).2 > 0 then (rcs (rless h) 5).1 else rfull h
def rbit (z : List Int) (j k : Nat) : Int := wrap64 (wrap64 (Go.bits .and .u64 (gx z (j / 26) / 2 ^ (j % 26)) 1) * 2 ^ k)
/-- A byte of the number, k bits of it. -/
def rbyte (z : List Int) (i : Nat) : Nat → Int
  | 0 => 0
  | k + 1 => Go.bits .or .i64 (rbyte z i k) (rbit z (8 * i + k) k)
def rsum (z : List Int) (s : ByteArray) (c : Int) (i : Nat) : Int := wrap64 (wrap64 (c + rbyte z i 8) + bt s (i : Int))
def rcar (z : List Int) (s : ByteArray) : Nat → Int
  | 0 => 0
  | i + 1 => rsum z s (rcar z s i) i / 256
def rout (z : List Int) (s : ByteArray) : Nat → List Int
  | 0 => List.replicate 16 0
  | i + 1 => (rout z s i).set i (IntKind.u8.wrap (Go.bits .and .i64 (rsum z s (rcar z s i) i) 255))
theorem rout_length (z : List Int) (s : ByteArray) : ∀ i, (rout z s i).length = 16
  | 0 => rfl
  | i + 1 => by rw [rout, List.length_set, rout_length z s i]
def rfinish (h : List Int) (s : ByteArray) : ByteArray := strOfNums (rout (rleast h) s 16)
set_option maxRecDepth 100000 in
set_option maxHeartbeats 4000000 in
theorem finish_calls (h : List Int) (hh : h.length = 5) (s : ByteArray) (hs : s.size = 16) (w : World) :
    Calls Try.prog 46 #[agg .u64 h, .string s] w fun e w' => e = .returned (.string (rfinish h s)) ∧ Below w.heap.size w w' := by
  have HLH := Aside0.mk hh
  have HSZ := Aside0.mk hs
  have HL1 := Aside0.mk (show (rcarried h).length = 5 from by rw [rcarried_length]; exact hh)
  have HC1 := Aside0.mk (fun W => carried_calls h HLH.out W)
  have HC2 := Aside0.mk (fun W => carried_calls (rcarried h) HL1.out W)
  obtain ⟨f, hf⟩ : ∃ f, f = rcarried (rcarried h) := ⟨_, rfl⟩
  have HFE := Aside0.mk (show f = rfull h from hf)
  have HFL := Aside0.mk (show f.length = 5 from by rw [hf, rcarried_length]; exact HL1.out)
  rw [← hf] at HC2
  obtain ⟨g0, hg0⟩ : ∃ g0, g0 = f.set 0 (IntKind.u64.wrap (gx f 0 + 5)) := ⟨_, rfl⟩
  have HL0 := Aside0.mk (show g0.length = 5 from by rw [hg0, List.length_set]; exact HFL.out)
  have HG0 := Aside0.mk (show g0 = rless h from by rw [hg0, HFE.out, rless])
  have HGS := Aside0.mk hg0
  obtain ⟨ii, hi0, hz0, hz1, hz2⟩ := info_parts info5
  have HMK := Aside0.mk (fun W => run_make_u8 (P := Try.prog) 32 5 ii Try.underlying32 hi0 hz0 hz1 hz2 16 (by omega) W)
  clear hi0 hz0 hz1 hz2 hg0 hf hh hs
  go_enter Try.func46, Try.ntmps46
  go_wp2_with (first | ((with_reducible refine gate_dst (N := 2) rfl ?_); refine Arr.box (k := .u64) (xs := h) rfl 67 _ rfl rfl ?_; intro gh eg w1 k1 b1; have HH1 := Aside0.mk k1; have HB1 := Aside0.mk b1; have HMH := Aside0.mk (show w.heap.size ≤ gh from by rw [eg]; exact Nat.le_refl _); clear k1 b1 eg) | ((with_reducible refine gate_dst (N := 14) rfl ?_); refine Arr.load (k := .u64) (xs := h) (g := gh) (t := 67) rfl 67 _ rfl rfl HH1.out _ Try.underlying67 rfl 5 (by kernel_rfl) HLH.out ?_) | (go_at_call 55; first | ((with_reducible refine (HC2.out _).mono ?_); rintro e w3 ⟨rfl, b3⟩; have HB3 := Aside0.mk (below_step HB2.out b3); have HH3 := Aside0.mk (HH2.out.below b3); clear b3) | ((with_reducible refine (HC1.out _).mono ?_); rintro e w2 ⟨rfl, b2⟩; have HB2 := Aside0.mk (below_step HB1.out b2); have HH2 := Aside0.mk (HH1.out.below b2); clear b2)) | ((with_reducible refine gate_store (t := 67) (p := 2) rfl ?_); refine Arr.put (k := .u64) (g := gh) (t := 67) (xs := h) (ys := f) rfl 67 _ _ rfl rfl rfl HH3.out 5 (by kernel_rfl) HLH.out HFL.out ?_; intro w4 k4 g4; have HH4 := Aside0.mk k4; have HB4 := Aside0.mk (HB3.out.grown g4 (below_size HB3.out) (fun k hk => by rw [← Option.some.inj hk]; exact HMH.out)); clear k4 g4) | ((with_reducible refine gate_dst (N := 17) rfl ?_); refine Arr.load (k := .u64) (xs := f) (g := gh) (t := 67) rfl 67 _ rfl rfl HH4.out _ Try.underlying67 rfl 5 (by kernel_rfl) HFL.out ?_) | ((with_reducible refine gate_dst (N := 5) rfl ?_); refine box_event ?hg (N := 5) ?hd (cs := ((List.replicate 5 (0 : Int)).map (Value.int .u64)).toArray) (t := 67) ?hr ?_; (case hd => rfl); (case hg => rfl); (case hr => first | (go_simp; done) | (go_simp; rfl)); intro gg eg w5 k2 b2; have HX5 := Aside0.mk (show Arr .u64 w5 gg 67 (List.replicate 5 0) from k2); have HH5 := Aside0.mk (HH4.out.below b2); have HB5 := Aside0.mk (below_step HB4.out b2); have HMG := Aside0.mk (show w.heap.size ≤ gg from (by rw [eg]; exact below_size HB4.out)); have HNE := Aside0.mk (show gh < gg from (by rw [eg]; exact HH4.out.lt)); clear k2 b2 eg) | ((with_reducible refine gate_store (t := 67) (p := 5) rfl ?_); refine Arr.put (k := .u64) (g := gg) (t := 67) (xs := List.replicate 5 0) (ys := f) rfl 67 _ _ rfl rfl rfl HX5.out 5 (by kernel_rfl) rfl HFL.out ?_; intro w6 k6 g6; have HX6 := Aside0.mk k6; have HH6 := Aside0.mk (HH5.out.grown g6 (fun e => by have := Option.some.inj e; have := HNE.out; omega)); have HB6 := Aside0.mk (HB5.out.grown g6 (below_size HB5.out) (fun k hk => by rw [← Option.some.inj hk]; exact HMG.out)); have ia : ∀ W, (Instr.indexAt 67 (.pointer (some ⟨gg, 0, none⟩)) (.int .i64 0)).run Try.prog W = .ok (.pointer (some ⟨gg, 0, none⟩)) W := (fun W => ix67 gg 0 (by omega) W); have ca := k6.cell 0 (by rw [HFL.out]; omega); have fa := k6.frozen 0; clear k6 g6) | ((with_reducible refine gate_store (t := 66) (p := 21) rfl ?_); refine Arr.store (g := gg) (k := .u64) (xs := f) (t := 67) rfl rfl 0 (IntKind.u64.wrap (gx f 0 + 5)) ?hs HX6.out ?_; (case hs => (first | (go_simp; done) | (go_simp; rfl))); intro w7 k7 g7; have HX7 := Aside0.mk (show Arr .u64 w7 gg 67 (rcs g0 0).1 from (by rw [rcs, HGS.out]; exact k7)); have HH7 := Aside0.mk (HH6.out.grown g7 (fun e => by have := Option.some.inj e; have := HNE.out; omega)); have HB7 := Aside0.mk (HB6.out.grown g7 (below_size HB6.out) (fun k hk => by rw [← Option.some.inj hk]; exact HMG.out)); clear k7 g7 ca fa ia))
  go_loopw [7, 6] (fun v u wr => ∃ i : Nat, i ≤ 5 ∧ v = .int .i64 i ∧ u = .int .u64 (rcs g0 i).2 ∧ Aside0 (Arr .u64 wr gg 67 (rcs g0 i).1) ∧ Aside0 (Below w.heap.size w wr) ∧ Aside0 (Arr .u64 wr gh 67 f)) (fun v _ _ => 5 - (intOf v).toNat)
  case atStart => exact ⟨0, by omega, rfl, rfl, HX7, HB7, HH7⟩
  case round =>
  obtain ⟨i, hi, rfl, rfl, HXi, HBi, HH7i⟩ := hrel
  by_cases hlt : i < 5
  · have t1 : decide ((i : Int) < 5) = true := decide_eq_true (by omega)
    obtain ⟨y, hy⟩ : ∃ y, y = (rcs g0 i).1 := ⟨_, rfl⟩
    obtain ⟨cc, hcc⟩ : ∃ cc, cc = (rcs g0 i).2 := ⟨_, rfl⟩
    have hyl : y.length = 5 := by rw [hy, rcs_length]; exact HL0.out
    rw [← hy] at HXi
    rw [← hcc]
    have HYE := Aside0.mk hy
    have HCE := Aside0.mk hcc
    clear hy hcc
    have ia := ix67 gg i hlt
    have ca := HXi.out.cell i (by omega)
    have fa := HXi.out.frozen i
    obtain ⟨v, hv⟩ : ∃ v, IntKind.u64.wrap (gx y i + cc) = v := ⟨_, rfl⟩
    have HVE := Aside0.mk hv
    go_wp2_with (first
      | ((with_reducible refine gate_store (t := 66) (p := 32) rfl ?_); refine Arr.store (g := gg) (k := .u64) (xs := y) (t := 67) rfl rfl i v ?hs HXi.out ?_; (case hs => (first | (go_simp; done) | (go_simp; rfl))); intro w5 k5 g5; have HX5 := Aside0.mk k5; have HB5 := Aside0.mk (HBi.out.grown g5 (below_size HBi.out) (fun k hk => by rw [← Option.some.inj hk]; exact HMG.out)); clear ca fa hv; have ca : w5.cell? ⟨gg, i, none⟩ = some (.int .u64 v) := (by have := k5.cell i (by rw [List.length_set]; omega); rw [gx_set y i v (by omega)] at this; exact this); have fa := k5.frozen i; have HH75 := Aside0.mk (HH7i.out.grown g5 (fun e => by have := Option.some.inj e; have := HNE.out; omega)); clear k5 g5)
      | ((with_reducible refine gate_store (t := 66) (p := 42) rfl ?_); refine Arr.store (g := gg) (k := .u64) (xs := y.set i v) (t := 67) rfl rfl i (Go.bits .and .u64 v 67108863) ?hs HX5.out ?_; (case hs => (first | (go_simp; done) | (go_simp; rfl))); intro w7 k7 g7; have HX7 := Aside0.mk (show Arr .u64 w7 gg 67 (rcs g0 (i + 1)).1 from (by rw [rcs, ← HYE.out, ← HCE.out, HVE.out]; exact k7)); have HB7 := Aside0.mk (HB5.out.grown g7 (below_size HB5.out) (fun k hk => by rw [← Option.some.inj hk]; exact HMG.out)); have HH77 := Aside0.mk (HH75.out.grown g7 (fun e => by have := Option.some.inj e; have := HNE.out; omega)); clear k7 g7 ca fa ia))
    have hc2 : (rcs g0 (i + 1)).2 = v / 67108864 := by rw [rcs, ← HYE.out, ← HCE.out, HVE.out]
    go_roundw
    case rel => first | exact ⟨i + 1, by omega, by go_num, by rw [hc2], HX7, HB7, HH77⟩ | ((repeat apply Exists.intro); exact ⟨⟨i + 1, by omega, by go_num, by rw [hc2], HX7, HB7, HH77⟩, rfl⟩)
    case measure => simp [intOf]; omega
  obtain rfl : i = 5 := by omega
  clear hi hlt
  obtain ⟨y, hy⟩ : ∃ y, y = (rcs g0 5).1 := ⟨_, rfl⟩
  obtain ⟨cc, hcc⟩ : ∃ cc, cc = (rcs g0 5).2 := ⟨_, rfl⟩
  have hyl : y.length = 5 := by rw [hy, rcs_length]; exact HL0.out
  have HRE := Aside0.mk (show rleast h = if cc > 0 then y else f from by rw [rleast, ← HG0.out, ← hy, ← hcc, HFE.out])
  rw [← hy] at HXi
  rw [← hcc]
  clear hy hcc
  by_cases hgt : cc > 0
  · have t2 : decide (cc > 0) = true := decide_eq_true hgt
    have t2' : decide (0 < cc) = true := decide_eq_true hgt
    have hzl : y.length = 5 := hyl
    have HZE := Aside0.mk (show rleast h = y from by rw [HRE.out, if_pos hgt])
    go_wp2_with (first | ((with_reducible refine gate_dst (N := 45) rfl ?_); refine Arr.load (k := .u64) (xs := y) (g := gg) (t := 67) rfl 67 _ rfl rfl HXi.out _ Try.underlying67 rfl 5 (by kernel_rfl) hyl ?_) | ((with_reducible refine gate_store (t := 67) (p := 2) rfl ?_); refine Arr.put (k := .u64) (g := gh) (t := 67) (xs := f) (ys := y) rfl 67 _ _ rfl rfl rfl HH7i.out 5 (by kernel_rfl) HFL.out hyl ?_; intro w8 k8 g8; have HH8 := Aside0.mk k8; have HB8 := Aside0.mk (HBi.out.grown g8 (below_size HBi.out) (fun k hk => by rw [← Option.some.inj hk]; exact HMH.out)); clear k8 g8) | ((with_reducible refine gate_dst (N := 46) rfl ?_); refine Arr.make (k := .u8) rfl 32 5 16 _ _ rfl rfl rfl HMK.out ?_; intro go eg w9 k9 b9; have HO := Aside0.mk (show Arr .u8 w9 go 5 (rout y s 0) from k9); have HB9 := Aside0.mk (below_step HB8.out b9); have HH9 := Aside0.mk (HH8.out.below b9); have HMO := Aside0.mk (show w.heap.size ≤ go from (by rw [eg]; exact below_size HB8.out)); have HNO := Aside0.mk (show gh < go from (by rw [eg]; exact HH8.out.lt)); clear k9 b9 eg))
    clear t2 t2'
    go_loopw [10, 9] (fun v u wr => ∃ i : Nat, i ≤ 16 ∧ v = .int .i64 i ∧ u = .int .i64 (rcar y s i) ∧ Aside0 (Arr .u8 wr go 5 (rout y s i)) ∧ Aside0 (Arr .u64 wr gh 67 y) ∧ Aside0 (Below w.heap.size w wr)) (fun v _ _ => 16 - (intOf v).toNat)
    case atStart => exact ⟨0, by omega, rfl, rfl, HO, HH9, HB9⟩
    case round =>
    obtain ⟨i, hi_, rfl, rfl, HOi, HHi, HBi⟩ := hrel
    by_cases hlt : i < 16
    · have t1 : decide ((i : Int) < 16) = true := decide_eq_true (by omega)
      obtain ⟨sm, hsm⟩ : ∃ sm, sm = rcar y s i := ⟨_, rfl⟩
      rw [← hsm]
      have HSM := Aside0.mk hsm
      clear hsm
      go_wp2
      go_loopw [12, 11] (fun v u wr => ∃ k : Nat, k ≤ 8 ∧ v = .int .i64 k ∧ u = .int .i64 (rbyte y i k) ∧ Aside0 (Arr .u8 wr go 5 (rout y s i)) ∧ Aside0 (Arr .u64 wr gh 67 y) ∧ Aside0 (Below w.heap.size w wr)) (fun v _ _ => 8 - (intOf v).toNat)
      case atStart => exact ⟨0, by omega, rfl, rfl, HOi, HHi, HBi⟩
      case round =>
      obtain ⟨k, hk_, rfl, rfl, HOk, HHk, HBk⟩ := hrel
      by_cases hlk : k < 8
      · have t3 : decide ((k : Int) < 8) = true := decide_eq_true (by omega)
        obtain ⟨bb, hbb⟩ : ∃ bb, bb = rbyte y i k := ⟨_, rfl⟩
        rw [← hbb]
        have HBB := Aside0.mk hbb
        clear hbb
        obtain ⟨j, hj⟩ : ∃ j, j = 8 * i + k := ⟨_, rfl⟩
        have HJE := Aside0.mk hj
        have z1 : IntKind.i64.wrap (8 * (i : Int)) = 8 * (i : Int) := IntWalk.i64_in _ (by omega)
        have ej : 8 * (i : Int) + (k : Int) = (j : Int) := by omega
        have z2 : IntKind.i64.wrap (8 * (i : Int) + (k : Int)) = (j : Int) := by rw [ej]; exact IntWalk.i64_in _ (by omega)
        have z2j : IntKind.i64.wrap (j : Int) = (j : Int) := IntWalk.i64_in _ (by omega)
        have hj128 : j < 128 := by omega
        clear hj
        obtain ⟨q, hq⟩ : ∃ q, q = j / 26 := ⟨_, rfl⟩
        obtain ⟨m, hm⟩ : ∃ m, m = j % 26 := ⟨_, rfl⟩
        have HQE := Aside0.mk hq
        have HME := Aside0.mk hm
        have z3 : IntKind.i64.wrap ((j : Int) / 26) = (q : Int) := by rw [IntWalk.i64_in _ (by omega)]; omega
        have z3' : (j : Int) / 26 = (q : Int) := by omega
        have z3q : IntKind.i64.wrap (q : Int) = (q : Int) := IntWalk.i64_in _ (by omega)
        have z3t : (j : Int).tdiv 26 = (q : Int) := by rw [Int.tdiv_eq_ediv_of_nonneg (by omega)]; omega
        have z4 : (j : Int).tmod 26 = (m : Int) := by rw [Int.tmod_eq_emod_of_nonneg (by omega)]; omega
        have z4' : (j : Int) % 26 = (m : Int) := by omega
        have z5 : IntKind.i64.wrap (m : Int) = (m : Int) := IntWalk.i64_in _ (by omega)
        have hq5 : q < 5 := by omega
        have hm26 : m < 26 := by omega
        have p0 : ((0 : Int) ≤ (m : Int)) = True := eq_true (by omega)
        have p1 : ((m : Int) ≤ 64) = True := eq_true (by omega)
        have p2 : ((0 : Int) ≤ (k : Int)) = True := eq_true (by omega)
        have p3 : ((k : Int) ≤ 64) = True := eq_true (by omega)
        clear hq hm
        have ia := ix67 gh q hq5
        have ca := HHk.out.cell q (by omega)
        obtain ⟨nb, hnb⟩ : ∃ nb, Go.bits .or .i64 bb (wrap64 (wrap64 (Go.bits .and .u64 (gx y q / 2 ^ m) 1) * 2 ^ k)) = nb := ⟨_, rfl⟩
        have HNB := Aside0.mk (show rbyte y i (k + 1) = nb from by rw [rbyte, rbit, ← HBB.out, ← HJE.out, ← HQE.out, ← HME.out]; exact hnb)
        go_wp2
        clear ia ca hnb
        go_roundw
        case rel => first | exact ⟨k + 1, by omega, by go_num, by rw [HNB.out], HOk, HHk, HBk⟩ | ((repeat apply Exists.intro); exact ⟨⟨k + 1, by omega, by go_num, by rw [HNB.out], HOk, HHk, HBk⟩, rfl⟩)
        case measure => simp [intOf]; omega
      obtain rfl : k = 8 := by omega
      clear hk_ hlk
      obtain ⟨bb, hbb⟩ : ∃ bb, bb = rbyte y i 8 := ⟨_, rfl⟩
      rw [← hbb]
      obtain ⟨v, hv⟩ : ∃ v, wrap64 (wrap64 (sm + bb) + bt s (i : Int)) = v := ⟨_, rfl⟩
      have HV := Aside0.mk (show rsum y s (rcar y s i) i = v from by rw [rsum, ← HSM.out, ← hbb]; exact hv)
      clear hbb
      have zb : IntKind.i64.wrap (bt s (i : Int)) = bt s (i : Int) := IntWalk.i64_in _ (by have := bt_range s (i : Int); omega)
      have p2 : ((0 : Int) ≤ (i : Int)) = True := eq_true (by omega)
      have p3 : ((i : Int) < (s.size : Int)) = True := eq_true (by have := HSZ.out; omega)
      have hxb : ∀ h : i < s.size, ((s[i]'h).toNat : Int) = bt s (i : Int) := fun h => bt_at s (i : Int) h
      have zb2 : wrap64 (bt s (i : Int)) = bt s (i : Int) := by have := bt_range s (i : Int); unfold wrap64; omega
      have ia := ixs16 go i hlt
      have ca := HOk.out.cell i (by rw [rout_length]; exact hlt)
      have fa := HOk.out.frozen i
      have hcr := Aside0.mk (show rcar y s (i + 1) = v / 256 from by rw [rcar, HV.out])
      obtain ⟨ro, hro⟩ : ∃ ro, ro = rout y s i := ⟨_, rfl⟩
      rw [← hro] at HOk
      have HRO := Aside0.mk hro
      clear hro
      go_wp2_with ((with_reducible refine gate_store (t := 5) (p := 85) rfl ?_); refine Arr.store (g := go) (k := .u8) (xs := ro) (t := 5) rfl rfl i (IntKind.u8.wrap (Go.bits .and .i64 v 255)) ?hs HOk.out ?_; (case hs => (first | (go_simp; done) | (go_simp; rfl))); intro w10 k10 g10; have HO10 := Aside0.mk (show Arr .u8 w10 go 5 (rout y s (i + 1)) from (by rw [rout, ← HRO.out, HV.out]; exact k10)); have HH10 := Aside0.mk (HHk.out.grown g10 (fun e => by have := Option.some.inj e; have := HNO.out; omega)); have HB10 := Aside0.mk (HBk.out.grown g10 (below_size HBk.out) (fun k hk => by rw [← Option.some.inj hk]; exact HMO.out)); clear k10 g10 ca fa ia)
      go_roundw
      case rel => first | exact ⟨i + 1, by omega, by go_num, by rw [hcr.out], HO10, HH10, HB10⟩ | ((repeat apply Exists.intro); exact ⟨⟨i + 1, by omega, by go_num, by rw [hcr.out], HO10, HH10, HB10⟩, rfl⟩)
      case measure => simp [intOf]; omega
    obtain rfl : i = 16 := by omega
    clear hi_ hlt
    have ht := HOi.out.text (P := Try.prog) (n := 16) (rout_length y s 16) 32 5 9 Try.underlying32 Try.underlying5 Try.underlying9 16
    go_wp2
    go_ret
    rw [rfinish, HZE.out]
    exact ⟨rfl, HBi.out⟩
  · have t2 : decide (cc > 0) = false := decide_eq_false hgt
    have t2' : decide (0 < cc) = false := decide_eq_false hgt
    have hzl : f.length = 5 := HFL.out
    have HZE := Aside0.mk (show rleast h = f from by rw [HRE.out, if_neg hgt])
    go_wp2_with (first | ((with_reducible refine gate_dst (N := 46) rfl ?_); refine Arr.make (k := .u8) rfl 32 5 16 _ _ rfl rfl rfl HMK.out ?_; intro go eg w9 k9 b9; have HO := Aside0.mk (show Arr .u8 w9 go 5 (rout f s 0) from k9); have HB9 := Aside0.mk (below_step HBi.out b9); have HH9 := Aside0.mk (HH7i.out.below b9); have HMO := Aside0.mk (show w.heap.size ≤ go from (by rw [eg]; exact below_size HBi.out)); have HNO := Aside0.mk (show gh < go from (by rw [eg]; exact HH7i.out.lt)); clear k9 b9 eg))
    clear t2 t2'
    go_loopw [10, 9] (fun v u wr => ∃ i : Nat, i ≤ 16 ∧ v = .int .i64 i ∧ u = .int .i64 (rcar f s i) ∧ Aside0 (Arr .u8 wr go 5 (rout f s i)) ∧ Aside0 (Arr .u64 wr gh 67 f) ∧ Aside0 (Below w.heap.size w wr)) (fun v _ _ => 16 - (intOf v).toNat)
    case atStart => exact ⟨0, by omega, rfl, rfl, HO, HH9, HB9⟩
    case round =>
    obtain ⟨i, hi_, rfl, rfl, HOi, HHi, HBi⟩ := hrel
    by_cases hlt : i < 16
    · have t1 : decide ((i : Int) < 16) = true := decide_eq_true (by omega)
      obtain ⟨sm, hsm⟩ : ∃ sm, sm = rcar f s i := ⟨_, rfl⟩
      rw [← hsm]
      have HSM := Aside0.mk hsm
      clear hsm
      go_wp2
      go_loopw [12, 11] (fun v u wr => ∃ k : Nat, k ≤ 8 ∧ v = .int .i64 k ∧ u = .int .i64 (rbyte f i k) ∧ Aside0 (Arr .u8 wr go 5 (rout f s i)) ∧ Aside0 (Arr .u64 wr gh 67 f) ∧ Aside0 (Below w.heap.size w wr)) (fun v _ _ => 8 - (intOf v).toNat)
      case atStart => exact ⟨0, by omega, rfl, rfl, HOi, HHi, HBi⟩
      case round =>
      obtain ⟨k, hk_, rfl, rfl, HOk, HHk, HBk⟩ := hrel
      by_cases hlk : k < 8
      · have t3 : decide ((k : Int) < 8) = true := decide_eq_true (by omega)
        obtain ⟨bb, hbb⟩ : ∃ bb, bb = rbyte f i k := ⟨_, rfl⟩
        rw [← hbb]
        have HBB := Aside0.mk hbb
        clear hbb
        obtain ⟨j, hj⟩ : ∃ j, j = 8 * i + k := ⟨_, rfl⟩
        have HJE := Aside0.mk hj
        have z1 : IntKind.i64.wrap (8 * (i : Int)) = 8 * (i : Int) := IntWalk.i64_in _ (by omega)
        have ej : 8 * (i : Int) + (k : Int) = (j : Int) := by omega
        have z2 : IntKind.i64.wrap (8 * (i : Int) + (k : Int)) = (j : Int) := by rw [ej]; exact IntWalk.i64_in _ (by omega)
        have z2j : IntKind.i64.wrap (j : Int) = (j : Int) := IntWalk.i64_in _ (by omega)
        have hj128 : j < 128 := by omega
        clear hj
        obtain ⟨q, hq⟩ : ∃ q, q = j / 26 := ⟨_, rfl⟩
        obtain ⟨m, hm⟩ : ∃ m, m = j % 26 := ⟨_, rfl⟩
        have HQE := Aside0.mk hq
        have HME := Aside0.mk hm
        have z3 : IntKind.i64.wrap ((j : Int) / 26) = (q : Int) := by rw [IntWalk.i64_in _ (by omega)]; omega
        have z3' : (j : Int) / 26 = (q : Int) := by omega
        have z3q : IntKind.i64.wrap (q : Int) = (q : Int) := IntWalk.i64_in _ (by omega)
        have z3t : (j : Int).tdiv 26 = (q : Int) := by rw [Int.tdiv_eq_ediv_of_nonneg (by omega)]; omega
        have z4 : (j : Int).tmod 26 = (m : Int) := by rw [Int.tmod_eq_emod_of_nonneg (by omega)]; omega
        have z4' : (j : Int) % 26 = (m : Int) := by omega
        have z5 : IntKind.i64.wrap (m : Int) = (m : Int) := IntWalk.i64_in _ (by omega)
        have hq5 : q < 5 := by omega
        have hm26 : m < 26 := by omega
        have p0 : ((0 : Int) ≤ (m : Int)) = True := eq_true (by omega)
        have p1 : ((m : Int) ≤ 64) = True := eq_true (by omega)
        have p2 : ((0 : Int) ≤ (k : Int)) = True := eq_true (by omega)
        have p3 : ((k : Int) ≤ 64) = True := eq_true (by omega)
        clear hq hm
        have ia := ix67 gh q hq5
        have ca := HHk.out.cell q (by omega)
        obtain ⟨nb, hnb⟩ : ∃ nb, Go.bits .or .i64 bb (wrap64 (wrap64 (Go.bits .and .u64 (gx f q / 2 ^ m) 1) * 2 ^ k)) = nb := ⟨_, rfl⟩
        have HNB := Aside0.mk (show rbyte f i (k + 1) = nb from by rw [rbyte, rbit, ← HBB.out, ← HJE.out, ← HQE.out, ← HME.out]; exact hnb)
        go_wp2
        clear ia ca hnb
        go_roundw
        case rel => first | exact ⟨k + 1, by omega, by go_num, by rw [HNB.out], HOk, HHk, HBk⟩ | ((repeat apply Exists.intro); exact ⟨⟨k + 1, by omega, by go_num, by rw [HNB.out], HOk, HHk, HBk⟩, rfl⟩)
        case measure => simp [intOf]; omega
      obtain rfl : k = 8 := by omega
      clear hk_ hlk
      obtain ⟨bb, hbb⟩ : ∃ bb, bb = rbyte f i 8 := ⟨_, rfl⟩
      rw [← hbb]
      obtain ⟨v, hv⟩ : ∃ v, wrap64 (wrap64 (sm + bb) + bt s (i : Int)) = v := ⟨_, rfl⟩
      have HV := Aside0.mk (show rsum f s (rcar f s i) i = v from by rw [rsum, ← HSM.out, ← hbb]; exact hv)
      clear hbb
      have zb : IntKind.i64.wrap (bt s (i : Int)) = bt s (i : Int) := IntWalk.i64_in _ (by have := bt_range s (i : Int); omega)
      have p2 : ((0 : Int) ≤ (i : Int)) = True := eq_true (by omega)
      have p3 : ((i : Int) < (s.size : Int)) = True := eq_true (by have := HSZ.out; omega)
      have hxb : ∀ h : i < s.size, ((s[i]'h).toNat : Int) = bt s (i : Int) := fun h => bt_at s (i : Int) h
      have zb2 : wrap64 (bt s (i : Int)) = bt s (i : Int) := by have := bt_range s (i : Int); unfold wrap64; omega
      have ia := ixs16 go i hlt
      have ca := HOk.out.cell i (by rw [rout_length]; exact hlt)
      have fa := HOk.out.frozen i
      have hcr := Aside0.mk (show rcar f s (i + 1) = v / 256 from by rw [rcar, HV.out])
      obtain ⟨ro, hro⟩ : ∃ ro, ro = rout f s i := ⟨_, rfl⟩
      rw [← hro] at HOk
      have HRO := Aside0.mk hro
      clear hro
      go_wp2_with ((with_reducible refine gate_store (t := 5) (p := 85) rfl ?_); refine Arr.store (g := go) (k := .u8) (xs := ro) (t := 5) rfl rfl i (IntKind.u8.wrap (Go.bits .and .i64 v 255)) ?hs HOk.out ?_; (case hs => (first | (go_simp; done) | (go_simp; rfl))); intro w10 k10 g10; have HO10 := Aside0.mk (show Arr .u8 w10 go 5 (rout f s (i + 1)) from (by rw [rout, ← HRO.out, HV.out]; exact k10)); have HH10 := Aside0.mk (HHk.out.grown g10 (fun e => by have := Option.some.inj e; have := HNO.out; omega)); have HB10 := Aside0.mk (HBk.out.grown g10 (below_size HBk.out) (fun k hk => by rw [← Option.some.inj hk]; exact HMO.out)); clear k10 g10 ca fa ia)
      go_roundw
      case rel => first | exact ⟨i + 1, by omega, by go_num, by rw [hcr.out], HO10, HH10, HB10⟩ | ((repeat apply Exists.intro); exact ⟨⟨i + 1, by omega, by go_num, by rw [hcr.out], HO10, HH10, HB10⟩, rfl⟩)
      case measure => simp [intOf]; omega
    obtain rfl : i = 16 := by omega
    clear hi_ hlt
    have ht := HOi.out.text (P := Try.prog) (n := 16) (rout_length f s 16) 32 5 9 Try.underlying32 Try.underlying5 Try.underlying9 16
    go_wp2
    go_ret
    rw [rfinish, HZE.out]
    exact ⟨rfl, HBi.out⟩
end Go.Proofs.Ytocckplgjbhlbaa.Pol

/- The document's poly, walked. Conditions: a key of 32 bytes. -/
namespace Go.Proofs.Ytocckplgjbhlbaa.Pol
open Go.RowKit Go.Proofs.YtocckplgjbhlbaaW.PrintWords Go.Proofs.YtocckplgjbhlbaaW.PrintLast Go.Proofs.YtocckplgjbhlbaaW.PrintMore Go.Proofs.Ytocckplgjbhlbaa.Cha Go.Proofs.Ytocckplgjbhlbaa.X
attribute [local go_sem] min2_int min_two
set_option linter.unusedVariables false
theorem buildL {ops : Array Oper} {rest : List Oper} {o : Oper} {a : Act} {Q : Exit → Act → World → Prop} {w : World} (hgd : o.guard = none) (T : TypeId) (parts : Array (Nat × Operand)) (ho : o.op = .build T parts) (cells : Array Value) (hb : Try.prog.built T (parts.map fun (i, x) => (i, a.eval x)).toList = some cells)
    (H : wpList Try.prog ops Q rest (a.put o.dst (.agg cells)) w) : wpList Try.prog ops Q (o :: rest) a w := by
  refine wpList_plain hgd fun K hK => ?_
  unfold Oper.wp execOp
  have hr := run_build (P := Try.prog) w T (parts.map fun (i, x) => (i, a.eval x)) _ hb
  simp only [ho, Sem.run_bind]
  rw [hr]
  exact hK _ _ H
theorem ix73 (g i : Nat) (h : i < 16) (W : World) : (Instr.indexAt 73 (.pointer (some ⟨g, 0, none⟩)) (.int .i64 (i : Int))).run Try.prog W = .ok (.pointer (some ⟨g, i, none⟩)) W := by
  have hl : Try.prog.arrayLen 73 = 16 := by kernel_rfl
  have he : Try.prog.elem 73 = 5 := by kernel_rfl
  have hs : (sizeOf 5).run Try.prog W = .ok 1 W := by kernel_rfl
  rw [run_indexAt_array (P := Try.prog) (w := W) 73 ⟨g, 0, none⟩ .i64 i (by rw [hl, he]; exact Try.underlying73)]
  rw [hl, he, if_pos (by omega), hs]
  simp [Addr.add, Result.andThen]
  omega
theorem five (z : List Int) (h : z.length = 5) : ∃ z0 z1 z2 z3 z4, z = [z0, z1, z2, z3, z4] := by
  match z, h with
  | [a, b, c, d, e], _ => exact ⟨a, b, c, d, e, rfl⟩
def kmask : List Int := [255, 255, 255, 15, 252, 255, 255, 15, 252, 255, 255, 15, 252, 255, 255, 15]
/-- A bit set in a number's limbs. -/
def setbit (y : List Int) (i : Nat) : List Int := y.set (i / 26) (Go.bits .or .u64 (gx y (i / 26)) (IntKind.u64.wrap (1 * 2 ^ (i % 26))))
theorem setbit_length (y : List Int) (i : Nat) : (setbit y i).length = y.length := by rw [setbit, List.length_set]
def kbit (key : ByteArray) (i : Nat) : Int := Go.bits .and .u8 (Go.bits .and .u8 (bt key ((i / 8 : Nat) : Int)) (gx kmask (i / 8)) / 2 ^ (i % 8)) 1
def rkey (key : ByteArray) : Nat → List Int
  | 0 => List.replicate 5 0
  | i + 1 => if kbit key i = 1 then setbit (rkey key i) i else rkey key i
theorem rkey_length (key : ByteArray) : ∀ i, (rkey key i).length = 5
  | 0 => rfl
  | i + 1 => by
    rw [rkey]
    split
    · rw [setbit_length]; exact rkey_length key i
    · exact rkey_length key i
def tbit (s : ByteArray) (A i : Nat) : Int := Go.bits .and .u8 (bt s ((A : Int) + ((i / 8 : Nat) : Int)) / 2 ^ (i % 8)) 1
def rlow (s : ByteArray) (A : Nat) : Nat → List Int
  | 0 => List.replicate 5 0
  | i + 1 => if tbit s A i = 1 then setbit (rlow s A i) i else rlow s A i
theorem rlow_length (s : ByteArray) (A : Nat) : ∀ i, (rlow s A i).length = 5
  | 0 => rfl
  | i + 1 => by
    rw [rlow]
    split
    · rw [setbit_length]; exact rlow_length s A i
    · exact rlow_length s A i
def rone (s : ByteArray) (A c : Nat) : List Int := setbit (rlow s A (8 * c)) (8 * c)
theorem rone_length (s : ByteArray) (A c : Nat) : (rone s A c).length = 5 := by rw [rone, setbit_length, rlow_length]
def rplus (h y : List Int) : Nat → List Int
  | 0 => h
  | i + 1 => (rplus h y i).set i (IntKind.u64.wrap (gx (rplus h y i) i + gx y i))
theorem rplus_length (h y : List Int) : ∀ i, (rplus h y i).length = h.length
  | 0 => rfl
  | i + 1 => by rw [rplus, List.length_set, rplus_length h y i]
def rsteps (key s : ByteArray) : Nat → List Int
  | 0 => List.replicate 5 0
  | q + 1 => rproduct (rplus (rsteps key s q) (rone s (16 * q) (min (s.size - 16 * q) 16)) 5) (rkey key 128)
theorem rsteps_length (key s : ByteArray) : ∀ q, (rsteps key s q).length = 5
  | 0 => rfl
  | q + 1 => by rw [rsteps, rproduct_length]
def rpoly (key s : ByteArray) : ByteArray := rfinish (rsteps key s ((s.size + 15) / 16)) (key.extract 16 key.size)
set_option maxRecDepth 100000 in
set_option maxHeartbeats 8000000 in
theorem rpoly_calls (key s : ByteArray) (hk : key.size = 32) (hs : s.size ≤ 140737488355328) (w : World) :
    Calls Try.prog 34 #[.string key, .string s] w fun e w' => e = .returned (.string (rpoly key s)) ∧ Below w.heap.size w w' := by
  have HK := Aside0.mk hk
  have HSZ := Aside0.mk hs
  clear hk hs
  go_enter Try.func34, Try.ntmps34
  go_wp2_with (first | ((with_reducible refine gate_dst (N := 5) rfl ?_); refine box_event ?hg (N := 5) ?hd (cs := ((List.replicate 5 (0 : Int)).map (Value.int .u64)).toArray) (t := 67) ?hr ?_; (case hd => rfl); (case hg => rfl); (case hr => first | (go_simp; done) | (go_simp; rfl)); intro gq eg w1 k2 b2; have HQ1 := Aside0.mk (show Arr .u64 w1 gq 67 (rkey key 0) from k2); have HB1 := Aside0.mk b2; have HMQ := Aside0.mk (show w.heap.size ≤ gq from (by rw [eg]; exact Nat.le_refl _)); clear k2 b2 eg) | ((with_reducible refine gate_dst (N := 6) rfl ?_); refine box_event ?hg (N := 6) ?hd (cs := ((List.replicate 5 (0 : Int)).map (Value.int .u64)).toArray) (t := 67) ?hr ?_; (case hd => rfl); (case hg => rfl); (case hr => first | (go_simp; done) | (go_simp; rfl)); intro gh eg w2 k2 b2; have HH2 := Aside0.mk (show Arr .u64 w2 gh 67 (rsteps key s 0) from k2); have HQ2 := Aside0.mk (HQ1.out.below b2); have HB2 := Aside0.mk (below_step HB1.out b2); have HMH := Aside0.mk (show w.heap.size ≤ gh ∧ gq < gh from (by rw [eg]; exact ⟨below_size HB1.out, HQ1.out.lt⟩)); clear k2 b2 eg) | ((with_reducible refine gate_dst (N := 15) rfl ?_); refine buildL rfl 67 #[] rfl (((List.replicate 5 (0 : Int)).map (Value.int .u64)).toArray) (by kernel_rfl) ?_) | ((with_reducible refine gate_dst (N := 7) rfl ?_); refine box_event ?hg (N := 7) ?hd (cs := ((List.replicate 5 (0 : Int)).map (Value.int .u64)).toArray) (t := 67) ?hr ?_; (case hd => rfl); (case hg => rfl); (case hr => first | (go_simp; done) | (go_simp; rfl)); intro gl eg w3 k2 b2; have HL3 := Aside0.mk (show Arr .u64 w3 gl 67 (List.replicate 5 0) from k2); have HH3 := Aside0.mk (HH2.out.below b2); have HQ3 := Aside0.mk (HQ2.out.below b2); have HB3 := Aside0.mk (below_step HB2.out b2); have HML := Aside0.mk (show w.heap.size ≤ gl ∧ gq < gl ∧ gh < gl from (by rw [eg]; exact ⟨below_size HB2.out, HQ2.out.lt, HH2.out.lt⟩)); clear k2 b2 eg) | ((with_reducible refine gate_store (t := 67) (p := 7) rfl ?_); refine Arr.put (k := .u64) (g := gl) (t := 67) (xs := List.replicate 5 0) (ys := List.replicate 5 0) rfl 67 _ _ rfl rfl rfl HL3.out 5 (by kernel_rfl) rfl rfl ?_; intro w4 k9 g9; have HL4 := Aside0.mk k9; have HH4 := Aside0.mk (HH3.out.grown g9 (fun e => by have := Option.some.inj e; have := HML.out.2.2; omega)); have HQ4 := Aside0.mk (HQ3.out.grown g9 (fun e => by have := Option.some.inj e; have := HML.out.2.1; omega)); have HB4 := Aside0.mk (HB3.out.grown g9 (below_size HB3.out) (fun k hk => by rw [← Option.some.inj hk]; exact HML.out.1)); clear k9 g9) | ((with_reducible refine gate_dst (N := 16) rfl ?_); refine buildL rfl 73 _ rfl ((kmask.map (Value.int .u8)).toArray) (by kernel_rfl) ?_) | ((with_reducible refine gate_dst (N := 8) rfl ?_); refine box_event ?hg (N := 8) ?hd (cs := ((List.replicate 16 (0 : Int)).map (Value.int .u8)).toArray) (t := 73) ?hr ?_; (case hd => rfl); (case hg => rfl); (case hr => first | (go_simp; done) | (go_simp; rfl)); intro gm eg w5 k2 b2; have HM5 := Aside0.mk (show Arr .u8 w5 gm 73 (List.replicate 16 0) from k2); have HL5 := Aside0.mk (HL4.out.below b2); have HH5 := Aside0.mk (HH4.out.below b2); have HQ5 := Aside0.mk (HQ4.out.below b2); have HB5 := Aside0.mk (below_step HB4.out b2); have HMM := Aside0.mk (show w.heap.size ≤ gm ∧ gq < gm ∧ gh < gm ∧ gl < gm from (by rw [eg]; exact ⟨below_size HB4.out, HQ4.out.lt, HH4.out.lt, HL4.out.lt⟩)); clear k2 b2 eg) | ((with_reducible refine gate_store (t := 73) (p := 8) rfl ?_); refine Arr.put (k := .u8) (g := gm) (t := 73) (xs := List.replicate 16 0) (ys := kmask) rfl 73 _ _ rfl rfl rfl HM5.out 16 (by kernel_rfl) rfl rfl ?_; intro w6 k9 g9; have HM6 := Aside0.mk k9; have HL6 := Aside0.mk (HL5.out.grown g9 (fun e => by have := Option.some.inj e; have := HMM.out.2.2.2; omega)); have HH6 := Aside0.mk (HH5.out.grown g9 (fun e => by have := Option.some.inj e; have := HMM.out.2.2.1; omega)); have HQ6 := Aside0.mk (HQ5.out.grown g9 (fun e => by have := Option.some.inj e; have := HMM.out.2.1; omega)); have HB6 := Aside0.mk (HB5.out.grown g9 (below_size HB5.out) (fun k hk => by rw [← Option.some.inj hk]; exact HMM.out.1)); clear k9 g9))
  go_loopw [9] (fun v wr => ∃ i : Nat, i ≤ 128 ∧ v = .int .i64 i ∧ Aside0 (Arr .u64 wr gq 67 (rkey key i)) ∧ Aside0 (Arr .u64 wr gh 67 (rsteps key s 0)) ∧ Aside0 (Arr .u64 wr gl 67 (List.replicate 5 0)) ∧ Aside0 (Arr .u8 wr gm 73 kmask) ∧ Aside0 (Below w.heap.size w wr)) (fun v _ => 128 - (intOf v).toNat)
  case atStart => exact ⟨0, by omega, rfl, HQ6, HH6, HL6, HM6, HB6⟩
  case round =>
  obtain ⟨i, hi, rfl, HQi, HHi, HLi, HMi, HBi⟩ := hrel
  by_cases hlt : i < 128
  · have t1 : decide ((i : Int) < 128) = true := decide_eq_true (by omega)
    obtain ⟨y, hy⟩ : ∃ y, y = rkey key i := ⟨_, rfl⟩
    have hyl : y.length = 5 := by rw [hy, rkey_length]
    rw [← hy] at HQi
    have HYE := Aside0.mk hy
    clear hy
    obtain ⟨q8, hq8⟩ : ∃ q8, q8 = i / 8 := ⟨_, rfl⟩
    obtain ⟨m8, hm8⟩ : ∃ m8, m8 = i % 8 := ⟨_, rfl⟩
    have HQ8 := Aside0.mk hq8
    have HM8 := Aside0.mk hm8
    have zq8 : IntKind.i64.wrap ((i : Int) / 8) = (q8 : Int) := by rw [IntWalk.i64_in _ (by omega)]; omega
    have zq8' : (i : Int) / 8 = (q8 : Int) := by omega
    have zq8t : (i : Int).tdiv 8 = (q8 : Int) := by rw [Int.tdiv_eq_ediv_of_nonneg (by omega)]; omega
    have zq8w : IntKind.i64.wrap (q8 : Int) = (q8 : Int) := IntWalk.i64_in _ (by omega)
    have zm8 : (i : Int).tmod 8 = (m8 : Int) := by rw [Int.tmod_eq_emod_of_nonneg (by omega)]; omega
    have zm8' : (i : Int) % 8 = (m8 : Int) := by omega
    have zm8w : IntKind.i64.wrap (m8 : Int) = (m8 : Int) := IntWalk.i64_in _ (by omega)
    have pm0 : ((0 : Int) ≤ (m8 : Int)) = True := eq_true (by omega)
    have pm1 : ((m8 : Int) ≤ 64) = True := eq_true (by omega)
    have hm8l : m8 < 8 := by omega
    have p2 : ((0 : Int) ≤ (q8 : Int)) = True := eq_true (by omega)
    have p3 : ((q8 : Int) < (key.size : Int)) = True := eq_true (by have := HK.out; omega)
    have p3' : (q8 < key.size) = True := eq_true (by have := HK.out; omega)
    have hxb : ∀ h : q8 < key.size, ((key[q8]'h).toNat : Int) = bt key (q8 : Int) := fun h => bt_at key (q8 : Int) h
    have ia := ix73 gm q8 (by omega)
    have ca := HMi.out.cell q8 (show q8 < 16 from by omega)
    obtain ⟨x, hx⟩ : ∃ x, Go.bits .and .u8 (Go.bits .and .u8 (bt key (q8 : Int)) (gx kmask q8) / 2 ^ m8) 1 = x := ⟨_, rfl⟩
    have HXE := Aside0.mk (show kbit key i = x from by rw [kbit, ← HQ8.out, ← HM8.out]; exact hx)
    clear hq8 hm8
    go_wp2
    go_quiet (fail)
    clear ia ca hx
    have HQq := Aside0.mk (HQi.out.drewN nq)
    have HHq := Aside0.mk (HHi.out.drewN nq)
    have HLq := Aside0.mk (HLi.out.drewN nq)
    have HMq := Aside0.mk (HMi.out.drewN nq)
    have HBq := Aside0.mk (pw_below_drewN HBi.out nq)
    generalize wr.drewN nq = wq at HQq HHq HLq HMq HBq ⊢
    by_cases hx1 : x = 1
    · have t2 : (x == 1) = true := beq_iff_eq.mpr hx1
      have t2' : decide (x = 1) = true := decide_eq_true hx1
      obtain ⟨q26, hq26⟩ : ∃ q26, q26 = i / 26 := ⟨_, rfl⟩
      obtain ⟨m26, hm26⟩ : ∃ m26, m26 = i % 26 := ⟨_, rfl⟩
      have HQ26 := Aside0.mk hq26
      have HM26 := Aside0.mk hm26
      have zq26 : IntKind.i64.wrap ((i : Int) / 26) = (q26 : Int) := by rw [IntWalk.i64_in _ (by omega)]; omega
      have zq26' : (i : Int) / 26 = (q26 : Int) := by omega
      have zq26t : (i : Int).tdiv 26 = (q26 : Int) := by rw [Int.tdiv_eq_ediv_of_nonneg (by omega)]; omega
      have zq26w : IntKind.i64.wrap (q26 : Int) = (q26 : Int) := IntWalk.i64_in _ (by omega)
      have zm26 : (i : Int).tmod 26 = (m26 : Int) := by rw [Int.tmod_eq_emod_of_nonneg (by omega)]; omega
      have zm26' : (i : Int) % 26 = (m26 : Int) := by omega
      have zm26w : IntKind.i64.wrap (m26 : Int) = (m26 : Int) := IntWalk.i64_in _ (by omega)
      have pn0 : ((0 : Int) ≤ (m26 : Int)) = True := eq_true (by omega)
      have pn1 : ((m26 : Int) ≤ 64) = True := eq_true (by omega)
      have hq5 : q26 < 5 := by omega
      have ia := ix67 gq q26 hq5
      have ca := HQq.out.cell q26 (by omega)
      have fa := HQq.out.frozen q26
      clear hq26 hm26
      go_wp2
      refine wp_region_quiet_tail 11 (by kernel_rfl) (by kernel_rfl) ?_
      simp only [List.take_succ_cons, List.take_zero, List.drop_succ_cons, List.drop_zero]
      repeat (quiet_step (fail))
      refine wpQuiet_nil ?_
      intro nq
      refine Arr.store (g := gq) (k := .u64) (xs := y) (t := 67) rfl rfl q26 (Go.bits .or .u64 (gx y q26) (IntKind.u64.wrap (1 * 2 ^ m26))) ?hs (HQq.out.drewN nq) ?_
      case hs => (first | (go_simp; done) | (go_simp; rfl))
      intro w8 k8 g8
      have HQ9 := Aside0.mk (show Arr .u64 w8 gq 67 (rkey key (i + 1)) from (by rw [rkey, if_pos (by rw [HXE.out]; exact hx1), setbit, ← HYE.out, ← HQ26.out, ← HM26.out]; exact k8))
      have HH9 := Aside0.mk ((HHq.out.drewN nq).grown g8 (fun e => by have := Option.some.inj e; have := HMH.out.2; omega))
      have HL9 := Aside0.mk ((HLq.out.drewN nq).grown g8 (fun e => by have := Option.some.inj e; have := HML.out.2.1; omega))
      have HB9 := Aside0.mk ((pw_below_drewN HBq.out nq).grown g8 (below_size (pw_below_drewN HBq.out nq)) (fun k hk => by rw [← Option.some.inj hk]; exact HMQ.out))
      have HM9 := Aside0.mk ((HMq.out.drewN nq).grown g8 (fun e => by have := Option.some.inj e; have := HMM.out.2.1; omega))
      clear k8 g8 ia ca fa
      go_wp2
      go_roundw
      case rel => first | exact ⟨i + 1, by omega, by go_num, HQ9, HH9, HL9, HM9, HB9⟩ | ((repeat apply Exists.intro); exact ⟨⟨i + 1, by omega, by go_num, HQ9, HH9, HL9, HM9, HB9⟩, rfl⟩)
      case measure => simp [intOf]; omega
    · have t2 : (x == 1) = false := beq_eq_false_iff_ne.mpr hx1
      have t2' : decide (x = 1) = false := decide_eq_false hx1
      have HQ9 := Aside0.mk (show Arr .u64 _ gq 67 (rkey key (i + 1)) from (by rw [rkey, if_neg (by rw [HXE.out]; exact hx1), ← HYE.out]; exact HQq.out))
      go_wp2
      go_roundw
      case rel => first | exact ⟨i + 1, by omega, by go_num, HQ9, HHq, HLq, HMq, HBq⟩ | ((repeat apply Exists.intro); exact ⟨⟨i + 1, by omega, by go_num, HQ9, HHq, HLq, HMq, HBq⟩, rfl⟩)
      case measure => simp [intOf]; omega
  obtain rfl : i = 128 := by omega
  clear hi hlt
  obtain ⟨kr, hkr⟩ : ∃ kr, kr = rkey key 128 := ⟨_, rfl⟩
  have HKR := Aside0.mk hkr
  have HKL := Aside0.mk (show kr.length = 5 from by rw [hkr, rkey_length])
  rw [← hkr] at HQi
  clear hkr
  have HNL := Aside0.mk HSZ.out
  go_wp2
  go_loopw [10] (fun v wr => ∃ (q A : Nat) (ly : List Int), A = 16 * q ∧ q ≤ (s.size + 15) / 16 ∧ ly.length = 5 ∧ v = .int .i64 A ∧ Aside0 (Arr .u64 wr gq 67 (kr)) ∧ Aside0 (Arr .u64 wr gh 67 (rsteps key s q)) ∧ Aside0 (Arr .u64 wr gl 67 (ly)) ∧ Aside0 (Below w.heap.size w wr)) (fun v _ => s.size + 16 - (intOf v).toNat)
  case atStart => exact ⟨0, 0, List.replicate 5 0, rfl, by omega, rfl, rfl, HQi, HHi, HLi, HBi⟩
  case round =>
  obtain ⟨q, A, ly, hA, hqn, hly, rfl, HQa, HHa, HLa, HBa⟩ := hrel
  have HAE := Aside0.mk hA
  have HAQ : Aside0 (A < s.size → q + 1 ≤ (s.size + 15) / 16) := ⟨fun h => by omega⟩
  have HAR : Aside0 (¬ A < s.size → q = (s.size + 15) / 16) := ⟨fun h => by omega⟩
  clear hA hqn
  have hnl := HNL.out
  by_cases hlt : A < s.size
  · have t1 : decide ((A : Int) < (s.size : Int)) = true := decide_eq_true (by omega)
    obtain ⟨e, he⟩ : ∃ e, e = min (A + 16) s.size := ⟨_, rfl⟩
    have z1 : IntKind.i64.wrap ((A : Int) + 16) = (A : Int) + 16 := IntWalk.i64_in _ (by omega)
    have hif : (if (s.size : Int) < (A : Int) + 16 then (s.size : Int) else (A : Int) + 16) = (e : Int) := by split <;> omega
    obtain ⟨c, hc⟩ : ∃ c, c = e - A := ⟨_, rfl⟩
    have hc16 : c ≤ 16 := by omega
    have hce : e = A + c := by omega
    have hcm : c = min (s.size - A) 16 := by omega
    have hcn : A + c ≤ s.size := by omega
    have HCM := Aside0.mk hcm
    have HCE := Aside0.mk hce
    have HCN := Aside0.mk hcn
    have zc : IntKind.i64.wrap ((e : Int) - (A : Int)) = (c : Int) := by rw [IntWalk.i64_in _ (by omega)]; omega
    have zc' : (e : Int) - (A : Int) = (c : Int) := by omega
    have zcw : IntKind.i64.wrap (c : Int) = (c : Int) := IntWalk.i64_in _ (by omega)
    have zc8 : IntKind.i64.wrap (8 * (c : Int)) = 8 * (c : Int) := IntWalk.i64_in _ (by omega)
    obtain ⟨h0, hh0⟩ : ∃ h0, h0 = rsteps key s q := ⟨_, rfl⟩
    rw [← hh0] at HHa
    have HH0E := Aside0.mk hh0
    have hh0l : h0.length = 5 := by rw [hh0, rsteps_length]
    have HH0L := Aside0.mk hh0l
    have HLY := Aside0.mk hly
    clear hh0 hc he hcm hce hcn
    go_wp2_with (first
      | ((with_reducible refine gate_dst (N := 57) rfl ?_); refine buildL rfl 67 #[] rfl (((List.replicate 5 (0 : Int)).map (Value.int .u64)).toArray) (by kernel_rfl) ?_)
      | ((with_reducible refine gate_store (t := 67) (p := 7) rfl ?_); refine Arr.put (k := .u64) (g := gl) (t := 67) (xs := ly) (ys := List.replicate 5 0) rfl 67 _ _ rfl rfl rfl HLa.out 5 (by kernel_rfl) HLY.out rfl ?_; intro w7 k9 g9; have HL7 := Aside0.mk (show Arr .u64 w7 gl 67 (rlow s A 0) from k9); have HQ7 := Aside0.mk (HQa.out.grown g9 (fun e => by have := Option.some.inj e; have := HML.out.2.1; omega)); have HH7 := Aside0.mk (HHa.out.grown g9 (fun e => by have := Option.some.inj e; have := HML.out.2.2; omega)); have HB7 := Aside0.mk (HBa.out.grown g9 (below_size HBa.out) (fun k hk => by rw [← Option.some.inj hk]; exact HML.out.1)); clear k9 g9))
    clear hif z1
    go_loopw [12] (fun v wr => ∃ i : Nat, i ≤ 8 * c ∧ v = .int .i64 i ∧ Aside0 (Arr .u64 wr gq 67 (kr)) ∧ Aside0 (Arr .u64 wr gh 67 (h0)) ∧ Aside0 (Arr .u64 wr gl 67 (rlow s A i)) ∧ Aside0 (Below w.heap.size w wr)) (fun v _ => 8 * c - (intOf v).toNat)
    case atStart => exact ⟨0, by omega, rfl, HQ7, HH7, HL7, HB7⟩
    case round =>
    obtain ⟨i, hi, rfl, HQi, HHi, HLi, HBi⟩ := hrel
    by_cases hlt2 : i < 8 * c
    · have t2 : decide ((i : Int) < 8 * (c : Int)) = true := decide_eq_true (by omega)
      obtain ⟨y, hy⟩ : ∃ y, y = rlow s A i := ⟨_, rfl⟩
      have hyl : y.length = 5 := by rw [hy, rlow_length]
      rw [← hy] at HLi
      have HYE := Aside0.mk hy
      clear hy
      obtain ⟨q8, hq8⟩ : ∃ q8, q8 = i / 8 := ⟨_, rfl⟩
      obtain ⟨m8, hm8⟩ : ∃ m8, m8 = i % 8 := ⟨_, rfl⟩
      have HQ8 := Aside0.mk hq8
      have HM8 := Aside0.mk hm8
      have zq8 : IntKind.i64.wrap ((i : Int) / 8) = (q8 : Int) := by rw [IntWalk.i64_in _ (by omega)]; omega
      have zq8' : (i : Int) / 8 = (q8 : Int) := by omega
      have zq8t : (i : Int).tdiv 8 = (q8 : Int) := by rw [Int.tdiv_eq_ediv_of_nonneg (by omega)]; omega
      have zq8w : IntKind.i64.wrap (q8 : Int) = (q8 : Int) := IntWalk.i64_in _ (by omega)
      have zm8 : (i : Int).tmod 8 = (m8 : Int) := by rw [Int.tmod_eq_emod_of_nonneg (by omega)]; omega
      have zm8' : (i : Int) % 8 = (m8 : Int) := by omega
      have zm8w : IntKind.i64.wrap (m8 : Int) = (m8 : Int) := IntWalk.i64_in _ (by omega)
      have pm0 : ((0 : Int) ≤ (m8 : Int)) = True := eq_true (by omega)
      have pm1 : ((m8 : Int) ≤ 64) = True := eq_true (by omega)
      have hm8l : m8 < 8 := by omega
      have hcn := HCN.out
      have zp : IntKind.i64.wrap ((A : Int) + (q8 : Int)) = (A : Int) + (q8 : Int) := IntWalk.i64_in _ (by omega)
      have p2 : ((0 : Int) ≤ (A : Int) + (q8 : Int)) = True := eq_true (by omega)
      have p3 : ((A : Int) + (q8 : Int) < (s.size : Int)) = True := eq_true (by omega)
      have hxb := bt_at s ((A : Int) + (q8 : Int))
      obtain ⟨x, hx⟩ : ∃ x, Go.bits .and .u8 (bt s ((A : Int) + (q8 : Int)) / 2 ^ m8) 1 = x := ⟨_, rfl⟩
      have HXE := Aside0.mk (show tbit s A i = x from by rw [tbit, ← HQ8.out, ← HM8.out]; exact hx)
      clear hq8 hm8 hcn
      by_cases hx1 : x = 1
      · have t3 : (x == 1) = true := beq_iff_eq.mpr hx1
        have t3' : decide (x = 1) = true := decide_eq_true hx1
        obtain ⟨q26, hq26⟩ : ∃ q26, q26 = i / 26 := ⟨_, rfl⟩
        obtain ⟨m26, hm26⟩ : ∃ m26, m26 = i % 26 := ⟨_, rfl⟩
        have HQ26 := Aside0.mk hq26
        have HM26 := Aside0.mk hm26
        have zq26 : IntKind.i64.wrap ((i : Int) / 26) = (q26 : Int) := by rw [IntWalk.i64_in _ (by omega)]; omega
        have zq26' : (i : Int) / 26 = (q26 : Int) := by omega
        have zq26t : (i : Int).tdiv 26 = (q26 : Int) := by rw [Int.tdiv_eq_ediv_of_nonneg (by omega)]; omega
        have zq26w : IntKind.i64.wrap (q26 : Int) = (q26 : Int) := IntWalk.i64_in _ (by omega)
        have zm26 : (i : Int).tmod 26 = (m26 : Int) := by rw [Int.tmod_eq_emod_of_nonneg (by omega)]; omega
        have zm26' : (i : Int) % 26 = (m26 : Int) := by omega
        have zm26w : IntKind.i64.wrap (m26 : Int) = (m26 : Int) := IntWalk.i64_in _ (by omega)
        have pn0 : ((0 : Int) ≤ (m26 : Int)) = True := eq_true (by omega)
        have pn1 : ((m26 : Int) ≤ 64) = True := eq_true (by omega)
        have hq5 : q26 < 5 := by omega
        have ia := ix67 gl q26 hq5
        have ca := HLi.out.cell q26 (by omega)
        have fa := HLi.out.frozen q26
        clear hq26 hm26
        go_wp2
        refine wp_region_quiet_tail 11 (by kernel_rfl) (by kernel_rfl) ?_
        simp only [List.take_succ_cons, List.take_zero, List.drop_succ_cons, List.drop_zero]
        repeat (quiet_step (fail))
        refine wpQuiet_nil ?_
        intro nq
        refine Arr.store (g := gl) (k := .u64) (xs := y) (t := 67) rfl rfl q26 (Go.bits .or .u64 (gx y q26) (IntKind.u64.wrap (1 * 2 ^ m26))) ?hs (HLi.out.drewN nq) ?_
        case hs => (first | (go_simp; done) | (go_simp; rfl))
        intro w8 k8 g8
        have HL9 := Aside0.mk (show Arr .u64 w8 gl 67 (rlow s A (i + 1)) from (by rw [rlow, if_pos (by rw [HXE.out]; exact hx1), setbit, ← HYE.out, ← HQ26.out, ← HM26.out]; exact k8))
        have HQ9 := Aside0.mk ((HQi.out.drewN nq).grown g8 (fun e => by have := Option.some.inj e; have := HML.out.2.1; omega))
        have HH9 := Aside0.mk ((HHi.out.drewN nq).grown g8 (fun e => by have := Option.some.inj e; have := HML.out.2.2; omega))
        have HB9 := Aside0.mk ((pw_below_drewN HBi.out nq).grown g8 (below_size (pw_below_drewN HBi.out nq)) (fun k hk => by rw [← Option.some.inj hk]; exact HML.out.1))
        clear k8 g8 ia ca fa
        go_wp2
        go_roundw
        case rel => first | exact ⟨i + 1, by omega, by go_num, HQ9, HH9, HL9, HB9⟩ | ((repeat apply Exists.intro); exact ⟨⟨i + 1, by omega, by go_num, HQ9, HH9, HL9, HB9⟩, rfl⟩)
        case measure => simp [intOf]; omega
      · have t3 : (x == 1) = false := beq_eq_false_iff_ne.mpr hx1
        have t3' : decide (x = 1) = false := decide_eq_false hx1
        have HL9 := Aside0.mk (show Arr .u64 wr gl 67 (rlow s A (i + 1)) from (by rw [rlow, if_neg (by rw [HXE.out]; exact hx1), ← HYE.out]; exact HLi.out))
        go_wp2
        go_roundw
        case rel => first | exact ⟨i + 1, by omega, by go_num, HQi, HHi, HL9, HBi⟩ | ((repeat apply Exists.intro); exact ⟨⟨i + 1, by omega, by go_num, HQi, HHi, HL9, HBi⟩, rfl⟩)
        case measure => simp [intOf]; omega
    obtain rfl : i = 8 * c := by omega
    clear hi hlt2
    have t2 : decide (((8 * c : Nat) : Int) < 8 * (c : Int)) = false := decide_eq_false (by omega)
    obtain ⟨y, hy⟩ : ∃ y, y = rlow s A (8 * c) := ⟨_, rfl⟩
    have hyl : y.length = 5 := by rw [hy, rlow_length]
    rw [← hy] at HLi
    have HYE := Aside0.mk hy
    clear hy
    have e8 : 8 * (c : Int) = ((8 * c : Nat) : Int) := by omega
    obtain ⟨o8, ho8⟩ : ∃ o8, o8 = 8 * c := ⟨_, rfl⟩
    have HO8 := Aside0.mk ho8
    have eo8 : 8 * (c : Int) = (o8 : Int) := by omega
    have hob : o8 ≤ 128 := by omega
    have zo8w : IntKind.i64.wrap (o8 : Int) = (o8 : Int) := IntWalk.i64_in _ (by omega)
    have zo8 : IntKind.i64.wrap (8 * (c : Int)) = (o8 : Int) := by rw [eo8]; exact IntWalk.i64_in _ (by omega)
    rw [← ho8] at t2 ⊢
    rw [eo8] at t2
    clear zc8 e8 ho8
    obtain ⟨q26, hq26⟩ : ∃ q26, q26 = o8 / 26 := ⟨_, rfl⟩
    obtain ⟨m26, hm26⟩ : ∃ m26, m26 = o8 % 26 := ⟨_, rfl⟩
    have HQ26 := Aside0.mk hq26
    have HM26 := Aside0.mk hm26
    have zq26 : IntKind.i64.wrap ((o8 : Int) / 26) = (q26 : Int) := by rw [IntWalk.i64_in _ (by omega)]; omega
    have zq26' : (o8 : Int) / 26 = (q26 : Int) := by omega
    have zq26t : (o8 : Int).tdiv 26 = (q26 : Int) := by rw [Int.tdiv_eq_ediv_of_nonneg (by omega)]; omega
    have zq26w : IntKind.i64.wrap (q26 : Int) = (q26 : Int) := IntWalk.i64_in _ (by omega)
    have zm26 : (o8 : Int).tmod 26 = (m26 : Int) := by rw [Int.tmod_eq_emod_of_nonneg (by omega)]; omega
    have zm26' : (o8 : Int) % 26 = (m26 : Int) := by omega
    have zm26w : IntKind.i64.wrap (m26 : Int) = (m26 : Int) := IntWalk.i64_in _ (by omega)
    have pn0 : ((0 : Int) ≤ (m26 : Int)) = True := eq_true (by omega)
    have pn1 : ((m26 : Int) ≤ 64) = True := eq_true (by omega)
    have hq5 : q26 < 5 := by omega
    have ia := ix67 gl q26 hq5
    have ca := HLi.out.cell q26 (by omega)
    have fa := HLi.out.frozen q26
    clear hq26 hm26
    go_wp2
    refine wp_region_quiet_tail 11 (by kernel_rfl) (by kernel_rfl) ?_
    simp only [List.take_succ_cons, List.take_zero, List.drop_succ_cons, List.drop_zero]
    repeat (quiet_step (fail))
    refine wpQuiet_nil ?_
    intro nq
    refine Arr.store (g := gl) (k := .u64) (xs := y) (t := 67) rfl rfl q26 (Go.bits .or .u64 (gx y q26) (IntKind.u64.wrap (1 * 2 ^ m26))) ?hs (HLi.out.drewN nq) ?_
    case hs => (first | (go_simp; done) | (go_simp; rfl))
    intro w8 k8 g8
    have HL9 := Aside0.mk (show Arr .u64 w8 gl 67 (rone s A c) from (by rw [rone, ← HO8.out, setbit, ← HQ26.out, ← HM26.out, HO8.out, ← HYE.out]; exact k8))
    have HQ9 := Aside0.mk ((HQi.out.drewN nq).grown g8 (fun e => by have := Option.some.inj e; have := HML.out.2.1; omega))
    have HH9 := Aside0.mk ((HHi.out.drewN nq).grown g8 (fun e => by have := Option.some.inj e; have := HML.out.2.2; omega))
    have HB9 := Aside0.mk ((pw_below_drewN HBi.out nq).grown g8 (below_size (pw_below_drewN HBi.out nq)) (fun k hk => by rw [← Option.some.inj hk]; exact HML.out.1))
    clear k8 g8 ia ca fa
    obtain ⟨lo, hlo⟩ : ∃ lo, lo = rone s A c := ⟨_, rfl⟩
    have HLOL := Aside0.mk (show lo.length = 5 from by rw [hlo, rone_length])
    rw [← hlo] at HL9
    have HLOE := Aside0.mk hlo
    clear hlo zo8 zo8w eo8 hq5
    go_wp2
    go_loopw [14] (fun v wr => ∃ i : Nat, i ≤ 5 ∧ v = .int .i64 i ∧ Aside0 (Arr .u64 wr gq 67 (kr)) ∧ Aside0 (Arr .u64 wr gh 67 (rplus h0 lo i)) ∧ Aside0 (Arr .u64 wr gl 67 (lo)) ∧ Aside0 (Below w.heap.size w wr)) (fun v _ => 5 - (intOf v).toNat)
    case atStart => exact ⟨0, by omega, rfl, HQ9, HH9, HL9, HB9⟩
    case round =>
    obtain ⟨i, hi, rfl, HQj, HHj, HLj, HBj⟩ := hrel
    by_cases hlt2 : i < 5
    · have t2 : decide ((i : Int) < 5) = true := decide_eq_true (by omega)
      obtain ⟨y, hy⟩ : ∃ y, y = rplus h0 lo i := ⟨_, rfl⟩
      have hyl : y.length = 5 := by rw [hy, rplus_length]; exact HH0L.out
      rw [← hy] at HHj
      have HYE := Aside0.mk hy
      clear hy
      have ia := ix67 gh i hlt2
      have ib := ix67 gl i hlt2
      have ca := HHj.out.cell i (by omega)
      have fa := HHj.out.frozen i
      have cb := HLj.out.cell i (by rw [HLOL.out]; exact hlt2)
      go_wp2
      refine wp_region_quiet_tail 9 (by kernel_rfl) (by kernel_rfl) ?_
      simp only [List.take_succ_cons, List.take_zero, List.drop_succ_cons, List.drop_zero]
      repeat (quiet_step (fail))
      refine wpQuiet_nil ?_
      intro nq
      refine Arr.store (g := gh) (k := .u64) (xs := y) (t := 67) rfl rfl i (IntKind.u64.wrap (gx y i + gx lo i)) ?hs (HHj.out.drewN nq) ?_
      case hs => (first | (go_simp; done) | (go_simp; rfl))
      intro w8 k8 g8
      have HH10 := Aside0.mk (show Arr .u64 w8 gh 67 (rplus h0 lo (i + 1)) from (by rw [rplus, ← HYE.out]; exact k8))
      have HQ10 := Aside0.mk ((HQj.out.drewN nq).grown g8 (fun e => by have := Option.some.inj e; have := HMH.out.2; omega))
      have HL10 := Aside0.mk ((HLj.out.drewN nq).grown g8 (fun e => by have := Option.some.inj e; have := HML.out.2.2; omega))
      have HB10 := Aside0.mk ((pw_below_drewN HBj.out nq).grown g8 (below_size (pw_below_drewN HBj.out nq)) (fun k hk => by rw [← Option.some.inj hk]; exact HMH.out.1))
      clear k8 g8 ia ib ca cb fa
      go_wp2
      go_roundw
      case rel => first | exact ⟨i + 1, by omega, by go_num, HQ10, HH10, HL10, HB10⟩ | ((repeat apply Exists.intro); exact ⟨⟨i + 1, by omega, by go_num, HQ10, HH10, HL10, HB10⟩, rfl⟩)
      case measure => simp [intOf]; omega
    obtain rfl : i = 5 := by omega
    clear hi hlt2
    obtain ⟨hp, hhp⟩ : ∃ hp, hp = rplus h0 lo 5 := ⟨_, rfl⟩
    have HPL := Aside0.mk (show hp.length = 5 from by rw [hhp, rplus_length]; exact HH0L.out)
    rw [← hhp] at HHj
    have HPC := Aside0.mk (fun W => product_calls hp kr HPL.out HKL.out W)
    have HNX := Aside0.mk (show rsteps key s (q + 1) = rproduct hp kr from by rw [rsteps, ← HH0E.out, ← HAE.out, ← HCM.out, ← HLOE.out, ← hhp, ← HKR.out])
    have HNXL := Aside0.mk (rproduct_length hp kr)
    clear hhp
    have zA : IntKind.i64.wrap ((A : Int) + 16) = (A : Int) + 16 := IntWalk.i64_in _ (by omega)
    go_wp2_with (first
      | ((with_reducible refine gate_dst (N := 116) rfl ?_); refine Arr.load (k := .u64) (xs := hp) (g := gh) (t := 67) rfl 67 _ rfl rfl HHj.out _ Try.underlying67 rfl 5 (by kernel_rfl) HPL.out ?_)
      | ((with_reducible refine gate_dst (N := 117) rfl ?_); refine Arr.load (k := .u64) (xs := kr) (g := gq) (t := 67) rfl 67 _ rfl rfl HQj.out _ Try.underlying67 rfl 5 (by kernel_rfl) HKL.out ?_)
      | (go_at_call 45; (with_reducible refine (HPC.out _).mono ?_); rintro e w11 ⟨rfl, b11⟩; have HH11 := Aside0.mk (HHj.out.below b11); have HQ11 := Aside0.mk (HQj.out.below b11); have HL11 := Aside0.mk (HLj.out.below b11); have HB11 := Aside0.mk (below_step HBj.out b11); clear b11)
      | ((with_reducible refine gate_store (t := 67) (p := 6) rfl ?_); refine Arr.put (k := .u64) (g := gh) (t := 67) (xs := hp) (ys := rproduct hp kr) rfl 67 _ _ rfl rfl rfl HH11.out 5 (by kernel_rfl) HPL.out HNXL.out ?_; intro w12 k9 g9; have HH12 := Aside0.mk (show Arr .u64 w12 gh 67 (rsteps key s (q + 1)) from (by rw [HNX.out]; exact k9)); have HQ12 := Aside0.mk (HQ11.out.grown g9 (fun e => by have := Option.some.inj e; have := HMH.out.2; omega)); have HL12 := Aside0.mk (HL11.out.grown g9 (fun e => by have := Option.some.inj e; have := HML.out.2.2; omega)); have HB12 := Aside0.mk (HB11.out.grown g9 (below_size HB11.out) (fun k hk => by rw [← Option.some.inj hk]; exact HMH.out.1)); clear k9 g9))
    go_roundw
    case rel => first | exact ⟨q + 1, A + 16, lo, by have := HAE.out; omega, HAQ.out hlt, HLOL.out, by go_num, HQ12, HH12, HL12, HB12⟩ | ((repeat apply Exists.intro); exact ⟨⟨q + 1, A + 16, lo, by have := HAE.out; omega, HAQ.out hlt, HLOL.out, by go_num, HQ12, HH12, HL12, HB12⟩, rfl⟩)
    case measure => simp [intOf]; omega
  obtain rfl : q = (s.size + 15) / 16 := HAR.out hlt
  have t1 : decide ((A : Int) < (s.size : Int)) = false := decide_eq_false (by omega)
  obtain ⟨z, hz⟩ : ∃ z, z = rsteps key s ((s.size + 15) / 16) := ⟨_, rfl⟩
  have HZL := Aside0.mk (show z.length = 5 from by rw [hz, rsteps_length])
  rw [← hz] at HHa
  obtain ⟨b, hb⟩ : ∃ b, b = key.extract 16 key.size := ⟨_, rfl⟩
  have hbs : b.size = 16 := by rw [hb, ByteArray.size_extract]; have := HK.out; omega
  have HFC := Aside0.mk (fun W => finish_calls z HZL.out b hbs W)
  have HRE := Aside0.mk (show rpoly key s = rfinish z b from by rw [rpoly, ← hz, ← hb])
  have x2 : key.extract 16 key.size = b := hb.symm
  have p2 : ((16 : Int) ≤ (key.size : Int)) = True := eq_true (by have := HK.out; omega)
  have e16 : ((16 : Int)).toNat = 16 := rfl
  obtain ⟨z0, z1, z2, z3, z4, hzz⟩ := five z HZL.out
  have HLD := Aside0.mk (fun W (hW : Arr .u64 W gh 67 z) => (show W.cell? ⟨gh, 0, none⟩ = some (.int .u64 z0) ∧ W.cell? ⟨gh, 1, none⟩ = some (.int .u64 z1) ∧ W.cell? ⟨gh, 2, none⟩ = some (.int .u64 z2) ∧ W.cell? ⟨gh, 3, none⟩ = some (.int .u64 z3) ∧ W.cell? ⟨gh, 4, none⟩ = some (.int .u64 z4) from by
    rw [hzz] at hW
    exact ⟨hW.cell 0 (by simp), hW.cell 1 (by simp), hW.cell 2 (by simp), hW.cell 3 (by simp), hW.cell 4 (by simp)⟩))
  have HZZ := Aside0.mk (show (Value.agg #[.int .u64 z0, .int .u64 z1, .int .u64 z2, .int .u64 z3, .int .u64 z4]) = agg .u64 z from by rw [hzz]; rfl)
  clear hzz
  clear hz hb hbs
  go_wp2
  have hHeld0 := HLD.out _ (show Arr .u64 wr.drew gh 67 z from HHa.out)
  refine start_ (n := 5) (S := fun w' => w'.cell? ⟨gh, 0, none⟩ = some (.int .u64 z0) ∧ w'.cell? ⟨gh, 1, none⟩ = some (.int .u64 z1) ∧ w'.cell? ⟨gh, 2, none⟩ = some (.int .u64 z2) ∧ w'.cell? ⟨gh, 3, none⟩ = some (.int .u64 z3) ∧ w'.cell? ⟨gh, 4, none⟩ = some (.int .u64 z4)) (ds := []) #[false, false, false, false, false] (by kernel_rfl) rfl rfl hHeld0 (fun hHeld => ?_)
  have HB13 := Aside0.mk (below_drew HBa.out)
  have HH13 := Aside0.mk (show Arr .u64 wr.drew gh 67 z from HHa.out)
  generalize wr.drew = w13 at HB13 HH13 hHeld ⊢
  clear hHeld0
  refine take_ (i := 0) (N := (some 119)) (v := ?_) (a' := ?_) #[true, false, false, false, false] rfl rfl (by kernel_rfl) (fun _ _ _ h => h) (Or.inl ⟨by rfl, ?_⟩) hHeld ?_ ?_
  rotate_left
  · rintro w' ⟨s0_, s1_, s2_, s3_, s4_⟩
    go_simp
    with_reducible rfl
  rotate_left
  · simp only [Act.put, List.setIfInBounds_toArray, List.set_cons_zero, List.set_cons_succ]
    rfl
  rw [HZZ.out]
  refine pure_ (i := 1) (N := (some 120)) (v := ?_) (a' := ?_) #[true, true, false, false, false] rfl rfl (by kernel_rfl) (fun _ _ _ h => h) (Or.inl ⟨by rfl, ?_⟩) ?_ ?_
  rotate_left
  · intro w'
    go_simp
    with_reducible rfl
  rotate_left
  · simp only [Act.put, List.setIfInBounds_toArray, List.set_cons_zero, List.set_cons_succ]
    rfl
  refine pure_ (i := 2) (N := (some 121)) (v := ?_) (a' := ?_) #[true, true, true, false, false] rfl rfl (by kernel_rfl) (fun _ _ _ h => h) (Or.inl ⟨by rfl, ?_⟩) ?_ ?_
  rotate_left
  · intro w'
    go_simp
    with_reducible rfl
  rotate_left
  · simp only [Act.put, List.setIfInBounds_toArray, List.set_cons_zero, List.set_cons_succ]
    rfl
  refine one_ (i := 3) (N := (some 122)) #[true, true, true, true, false] rfl rfl (by kernel_rfl) (by decide) (fun K hK => ?_)
  refine goes_ (f := 46) Try.func46 (by kernel_rfl) rfl #[agg .u64 z, .string b] (by rfl) rfl rfl (by (try simp only [List.map_toArray, List.map_cons, List.map_nil]); first | done | rfl) ?_
  refine (HFC.out _).mono ?_
  rintro e w8 ⟨rfl, hb⟩
  refine ⟨_, rfl, ?_⟩
  have HB14 := Aside0.mk (below_step HB13.out hb)
  have HH14 := Aside0.mk (HH13.out.below hb)
  clear hb
  refine hK.out _ _ (HLD.out _ HH14.out) (fun hHeld => ?_)
  clear hK K
  refine norm_ (a' := ?_) ?_ ?_
  rotate_left
  · show Act.put _ (some 122) _ = _
    simp only [Act.put, List.setIfInBounds_toArray, List.set_cons_zero, List.set_cons_succ]
    rfl
  refine pure_ (i := 4) (N := (some 4)) (v := ?_) (a' := ?_) #[true, true, true, true, true] rfl rfl (by kernel_rfl) (fun _ _ _ h => h) (Or.inl ⟨by rfl, ?_⟩) ?_ ?_
  rotate_left
  · intro w'
    go_simp
    with_reducible rfl
  rotate_left
  · simp only [Act.put, List.setIfInBounds_toArray, List.set_cons_zero, List.set_cons_succ]
    rfl
  refine done_ (by kernel_rfl) ?_
  clear hHeld
  go_wp2
  go_ret
  rw [HRE.out]
  exact ⟨rfl, HB14.out⟩
end Go.Proofs.Ytocckplgjbhlbaa.Pol

/- The document's filled, walked. Conditions: a text of at most 2^47 bytes. -/
namespace Go.Proofs.Ytocckplgjbhlbaa.Pol
open Go.RowKit Go.Proofs.YtocckplgjbhlbaaW.PrintWords Go.Proofs.Ytocckplgjbhlbaa.Cha Go.Proofs.Ytocckplgjbhlbaa.X
set_option linter.unusedVariables false
set_option maxRecDepth 100000 in
set_option maxHeartbeats 4000000 in
theorem filled_calls (s : ByteArray) (hs : s.size ≤ 140737488355328) (w : World) :
    Calls Try.prog 49 #[.string s] w fun e w' => e = .returned (.string (s ++ pad s.size)) ∧ Below w.heap.size w w' := by
  obtain ⟨r, hr⟩ : ∃ r, r = s.size % 16 := ⟨_, rfl⟩
  obtain ⟨k, hk⟩ : ∃ k, k = 16 - r := ⟨_, rfl⟩
  obtain ⟨m, hm⟩ : ∃ m, m = k % 16 := ⟨_, rfl⟩
  have z2 : (s.size : Int).tmod 16 = (r : Int) := by rw [Int.tmod_eq_emod_of_nonneg (by omega)]; omega
  have z2' : (s.size : Int) % 16 = (r : Int) := by omega
  have z3 : IntKind.i64.wrap (r : Int) = (r : Int) := IntWalk.i64_in _ (by omega)
  have z4 : IntKind.i64.wrap (16 - (r : Int)) = (k : Int) := by rw [IntWalk.i64_in _ (by omega)]; omega
  have z4' : 16 - (r : Int) = (k : Int) := by omega
  have z5 : (k : Int).tmod 16 = (m : Int) := by rw [Int.tmod_eq_emod_of_nonneg (by omega)]; omega
  have z5' : (k : Int) % 16 = (m : Int) := by omega
  have z6 : IntKind.i64.wrap (k : Int) = (k : Int) := IntWalk.i64_in _ (by omega)
  have z7 : IntKind.i64.wrap (m : Int) = (m : Int) := IntWalk.i64_in _ (by omega)
  have hml : m ≤ 16 := by omega
  have HPE := Aside0.mk (show pad s.size = strOfNums (List.replicate m 0) from by rw [pad, hm, hk, hr])
  obtain ⟨ii, hi0, hz0, hz1, hz2⟩ := info_parts info5
  have HMK := Aside0.mk (fun W => run_make_u8 (P := Try.prog) 32 5 ii Try.underlying32 hi0 hz0 hz1 hz2 m (by omega) W)
  have HRL := Aside0.mk (show (List.replicate m (0 : Int)).length = m from by simp)
  obtain ⟨p, hp⟩ : ∃ p, p = strOfNums (List.replicate m (0 : Int)) := ⟨_, rfl⟩
  have hps : p.size = m := by rw [hp, strOfNums_size_, List.length_replicate]
  have HP := Aside0.mk hp
  have q1 : (s.size + p.size ≤ 9223372036854775807) = True := eq_true (by omega)
  have q1b : decide (s.size + p.size ≤ 9223372036854775807) = true := decide_eq_true (by omega)
  have q1c : (9223372036854775807 < s.size + p.size) = False := eq_false (by omega)
  obtain ⟨o, ho⟩ : ∃ o, s ++ p = o := ⟨_, rfl⟩
  have HO := Aside0.mk ho
  clear hr hk hm hi0 hz0 hz1 hz2 hp hps hml hs
  go_enter Try.func49, Try.ntmps49
  go_wp2_with (first
    | ((with_reducible refine gate_dst (N := 9) rfl ?_); refine Arr.make (k := .u8) rfl 32 5 m _ _ rfl rfl rfl HMK.out ?_; intro g eg w1 k1 b1; have HB1 := Aside0.mk b1; have ht : (convert 32 9 (.slice (some ⟨g, 0, none⟩) m m)).run Try.prog w1 = .ok (.string p) w1 := (by rw [HP.out]; exact k1.text (P := Try.prog) (n := m) HRL.out 32 5 9 Try.underlying32 Try.underlying5 Try.underlying9 m); clear k1 b1 eg))
  go_ret
  rw [HPE.out, ← HP.out, HO.out]
  exact ⟨rfl, HB1.out⟩
end Go.Proofs.Ytocckplgjbhlbaa.Pol
