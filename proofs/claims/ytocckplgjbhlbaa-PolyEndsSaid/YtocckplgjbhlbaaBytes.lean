/- A block of chacha's out of what it begins with, walked. Conditions: it begins with sixteen words. -/
import Derived.Test.YtocckplgjbhlbaaBegin
import Derived.IntWalk
namespace Go.Proofs.Ytocckplgjbhlbaa.Cha
open Go.RowKit Go.Proofs.YtocckplgjbhlbaaW.PrintWords Go.Proofs.Ytocckplgjbhlbaa.X
set_option linter.unusedVariables false
theorem Q_length (x : List Int) (a b c d : Nat) : (Q x a b c d).length = x.length := by simp [Q, xorRo, addTo]
def cols (y : List Int) : Nat → List Int
  | 0 => y
  | i + 1 => Q (cols y i) i (4 + i) (8 + i) (12 + i)
def diags (y : List Int) : Nat → List Int
  | 0 => y
  | i + 1 => Q (diags y i) i (4 + (i + 1) % 4) (8 + (i + 2) % 4) (12 + (i + 3) % 4)
def twenty (y : List Int) : Nat → List Int
  | 0 => y
  | r + 1 => diags (cols (twenty y r) 4) 4
theorem cols_length (y : List Int) : ∀ i, (cols y i).length = y.length
  | 0 => rfl
  | i + 1 => by rw [cols, Q_length, cols_length y i]
theorem diags_length (y : List Int) : ∀ i, (diags y i).length = y.length
  | 0 => rfl
  | i + 1 => by rw [diags, Q_length, diags_length y i]
theorem twenty_length (y : List Int) : ∀ r, (twenty y r).length = y.length
  | 0 => rfl
  | r + 1 => by rw [twenty, diags_length, cols_length, twenty_length y r]
def outByte (x y : List Int) (i : Nat) : Int := ((gx x (i / 4) + gx y (i / 4)) % 4294967296 / 2 ^ (8 * (i % 4))) % 256
def outs (x y : List Int) : Nat → List Int
  | 0 => List.replicate 64 0
  | i + 1 => (outs x y i).set i (outByte x y i)
theorem outs_length (x y : List Int) : ∀ i, (outs x y i).length = 64
  | 0 => rfl
  | i + 1 => by rw [outs, List.length_set, outs_length x y i]
theorem ix45 (g i : Nat) (h : i < 64) (W : World) : (Instr.indexAt 45 (.pointer (some ⟨g, 0, none⟩)) (.int .i64 (i : Int))).run Try.prog W = .ok (.pointer (some ⟨g, i, none⟩)) W := by
  have hl : Try.prog.arrayLen 45 = 64 := by kernel_rfl
  have he : Try.prog.elem 45 = 5 := by kernel_rfl
  have hs : (sizeOf 5).run Try.prog W = .ok 1 W := by kernel_rfl
  rw [run_indexAt_array (P := Try.prog) (w := W) 45 ⟨g, 0, none⟩ .i64 i (by rw [hl, he]; exact Try.underlying45)]
  rw [he, hl, if_pos (by omega), hs]
  simp [Addr.add, Result.andThen]
  omega
theorem info45 : (Try.prog.info? 45).map (fun i => i.size) = some 64 := by kernel_rfl
set_option maxRecDepth 100000 in
set_option maxHeartbeats 4000000 in
theorem bytes_calls (x0 : List Int) (hl : x0.length = 16) (w : World) :
    Calls Try.prog 27 #[agg .u32 x0] w fun e w' => e = .returned (agg .u8 (outs x0 (twenty x0 10) 64)) ∧ Below w.heap.size w w' := by
  have HL := Aside0.mk hl
  clear hl
  go_enter Try.func27, Try.ntmps27
  go_wp2_with (first | ((with_reducible refine gate_dst (N := 1) rfl ?_); refine Arr.box (k := .u32) (xs := x0) rfl 48 _ rfl rfl ?_; intro g1 e1 w1 k1 b1; have HX := Aside0.mk k1; have HB := Aside0.mk b1; have HM1 := Aside0.mk (show w.heap.size ≤ g1 from by rw [e1]; exact Nat.le_refl _); clear k1 b1 e1) | ((with_reducible refine gate_dst (N := 2) rfl ?_); refine box_event ?hg (N := 2) ?hd (cs := ((List.replicate 64 (0 : Int)).map (Value.int .u8)).toArray) (t := 45) ?hr ?_; (case hd => rfl); (case hg => rfl); (case hr => first | (go_simp; done) | (go_simp; rfl)); intro gr eg w2 k2 b2; have HR := Aside0.mk (show Arr .u8 w2 gr 45 (List.replicate 64 0) from k2); have HX2 := Aside0.mk (HX.out.below b2); have HB2 := Aside0.mk (below_step HB.out b2); have HMR := Aside0.mk (show w.heap.size ≤ gr from by rw [eg]; exact below_size HB.out); have H1R := Aside0.mk (show g1 < gr from by rw [eg]; exact HX.out.lt); clear HX HB; have HX := HX2; have HB := HB2; clear HX2 HB2; clear k2 b2 eg) | ((with_reducible refine gate_dst (N := 8) rfl ?_); refine Arr.load (k := .u32) (xs := x0) (g := g1) (t := 48) rfl 48 _ rfl rfl HX.out _ Try.underlying48 rfl 16 (by kernel_rfl) HL.out ?_) | ((with_reducible refine gate_dst (N := 3) rfl ?_); refine box_event ?hg (N := 3) ?hd (cs := ((List.replicate 16 (0 : Int)).map (Value.int .u32)).toArray) (t := 48) ?hr ?_; (case hd => rfl); (case hg => rfl); (case hr => first | (go_simp; done) | (go_simp; rfl)); intro gy eg w2 k2 b2; have HY0 := Aside0.mk (show Arr .u32 w2 gy 48 (List.replicate 16 0) from k2); have HX2 := Aside0.mk (HX.out.below b2); have HR2 := Aside0.mk (HR.out.below b2); have HB2 := Aside0.mk (below_step HB.out b2); have HMY := Aside0.mk (show w.heap.size ≤ gy from by rw [eg]; exact below_size HB.out); have HRY := Aside0.mk (show gr < gy from by rw [eg]; exact HR.out.lt); clear HX HB HR; have HX := HX2; have HB := HB2; have HR := HR2; clear HX2 HB2 HR2; clear k2 b2 eg) | ((with_reducible refine gate_store (t := 48) (p := 3) rfl ?_); refine Arr.put (k := .u32) (g := gy) (t := 48) (xs := List.replicate 16 0) (ys := x0) rfl 48 _ _ rfl rfl rfl HY0.out 16 (by kernel_rfl) rfl HL.out ?_; intro w3 k3 g3; have HY := Aside0.mk k3; have HX3 := Aside0.mk (HX.out.grown g3 (fun e => by have := Option.some.inj e; have := H1R.out; have := HRY.out; omega)); have HR3 := Aside0.mk (HR.out.grown g3 (fun e => by have := Option.some.inj e; have := HRY.out; omega)); have HB3 := Aside0.mk (HB.out.grown g3 (below_size HB.out) (fun k hk => by rw [← Option.some.inj hk]; exact HMY.out)); clear k3 g3 HX HR HB HY0))
  go_loopw [9] (fun v wr => ∃ r : Nat, r ≤ 10 ∧ v = .int .i64 r ∧ Aside0 (Arr .u32 wr g1 48 x0) ∧ Aside0 (Arr .u8 wr gr 45 (List.replicate 64 0)) ∧ Aside0 (Arr .u32 wr gy 48 (twenty x0 r)) ∧ Aside0 (Below w.heap.size w wr)) (fun v _ => 10 - (intOf v).toNat)
  case atStart => exact ⟨0, by omega, rfl, HX3, HR3, HY, HB3⟩
  case round =>
  obtain ⟨r, hr, rfl, HXo, HRo, HYo, HBo⟩ := hrel
  by_cases hlt : r < 10
  · have t1 : decide ((r : Int) < 10) = true := decide_eq_true (by omega)
    go_wp2
    go_loopw [11] (fun v wr => ∃ i : Nat, i ≤ 4 ∧ v = .int .i64 i ∧ Aside0 (Arr .u32 wr g1 48 x0) ∧ Aside0 (Arr .u8 wr gr 45 (List.replicate 64 0)) ∧ Aside0 (Arr .u32 wr gy 48 (cols (twenty x0 r) i)) ∧ Aside0 (Below w.heap.size w wr)) (fun v _ => 4 - (intOf v).toNat)
    case atStart => exact ⟨0, by omega, rfl, HXo, HRo, HYo, HBo⟩
    case round =>
    obtain ⟨i, hi, rfl, HXa, HRa, HYa, HBa⟩ := hrel
    by_cases hla : i < 4
    · have t2 : decide ((i : Int) < 4) = true := decide_eq_true (by omega)
      have hQ := Aside0.mk (fun W hW => quarter_calls gy (cols (twenty x0 r) i) (by rw [cols_length, twenty_length]; exact HL.out) i (4 + i) (8 + i) (12 + i) (by omega) (by omega) (by omega) (by omega) W hW)
      have c1 : ((4 + i : Nat) : Int) = 4 + (i : Int) := by omega
      have c2 : ((8 + i : Nat) : Int) = 8 + (i : Int) := by omega
      have c3 : ((12 + i : Nat) : Int) = 12 + (i : Int) := by omega
      rw [c1, c2, c3] at hQ
      clear c1 c2 c3
      go_wp2_with (go_at_call 39; (with_reducible refine (hQ.out _ HYa.out).mono ?_); rintro e w4 ⟨rfl, k4, g4⟩; have HY4 := Aside0.mk k4; have HX4 := Aside0.mk (HXa.out.grown g4 (fun e => by have := Option.some.inj e; have := H1R.out; have := HRY.out; omega)); have HR4 := Aside0.mk (HRa.out.grown g4 (fun e => by have := Option.some.inj e; have := HRY.out; omega)); have HB4 := Aside0.mk (HBa.out.grown g4 (below_size HBa.out) (fun k hk => by rw [← Option.some.inj hk]; exact HMY.out)); clear k4 g4)
      go_roundw
      case rel => first | exact ⟨i + 1, by omega, by go_num, HX4, HR4, HY4, HB4⟩ | ((repeat apply Exists.intro); exact ⟨⟨i + 1, by omega, by go_num, HX4, HR4, HY4, HB4⟩, rfl⟩)
      case measure => simp [intOf]; omega
    obtain rfl : i = 4 := by omega
    clear hi hla
    go_wp2
    go_loopw [23] (fun v wr => ∃ i : Nat, i ≤ 4 ∧ v = .int .i64 i ∧ Aside0 (Arr .u32 wr g1 48 x0) ∧ Aside0 (Arr .u8 wr gr 45 (List.replicate 64 0)) ∧ Aside0 (Arr .u32 wr gy 48 (diags (cols (twenty x0 r) 4) i)) ∧ Aside0 (Below w.heap.size w wr)) (fun v _ => 4 - (intOf v).toNat)
    case atStart => exact ⟨0, by omega, rfl, HXa, HRa, HYa, HBa⟩
    case round =>
    obtain ⟨i, hi, rfl, HXb, HRb, HYb, HBb⟩ := hrel
    by_cases hlb : i < 4
    · have t2 : decide ((i : Int) < 4) = true := decide_eq_true (by omega)
      have hQ := Aside0.mk (fun W hW => quarter_calls gy (diags (cols (twenty x0 r) 4) i) (by rw [diags_length, cols_length, twenty_length]; exact HL.out) i (4 + (i + 1) % 4) (8 + (i + 2) % 4) (12 + (i + 3) % 4) (by omega) (by omega) (by omega) (by omega) W hW)
      have c1 : ((4 + (i + 1) % 4 : Nat) : Int) = 4 + ((i : Int) + 1) % 4 := by omega
      have c2 : ((8 + (i + 2) % 4 : Nat) : Int) = 8 + ((i : Int) + 2) % 4 := by omega
      have c3 : ((12 + (i + 3) % 4 : Nat) : Int) = 12 + ((i : Int) + 3) % 4 := by omega
      rw [c1, c2, c3] at hQ
      clear c1 c2 c3
      go_wp2_with (go_at_call 39; (with_reducible refine (hQ.out _ HYb.out).mono ?_); rintro e w4 ⟨rfl, k4, g4⟩; have HY4 := Aside0.mk k4; have HX4 := Aside0.mk (HXb.out.grown g4 (fun e => by have := Option.some.inj e; have := H1R.out; have := HRY.out; omega)); have HR4 := Aside0.mk (HRb.out.grown g4 (fun e => by have := Option.some.inj e; have := HRY.out; omega)); have HB4 := Aside0.mk (HBb.out.grown g4 (below_size HBb.out) (fun k hk => by rw [← Option.some.inj hk]; exact HMY.out)); clear k4 g4)
      go_roundw
      case rel => first | exact ⟨i + 1, by omega, by go_num, HX4, HR4, HY4, HB4⟩ | ((repeat apply Exists.intro); exact ⟨⟨i + 1, by omega, by go_num, HX4, HR4, HY4, HB4⟩, rfl⟩)
      case measure => simp [intOf]; omega
    obtain rfl : i = 4 := by omega
    clear hi hlb
    go_wp2
    go_roundw
    case rel => exact ⟨r + 1, by omega, by go_num, HXb, HRb, HYb, HBb⟩
    case measure => simp [intOf]; omega
  obtain rfl : r = 10 := by omega
  clear hr hlt
  go_wp2_with ((with_reducible refine gate_dst (N := 6) rfl ?_); refine box_event ?hg (N := 6) ?hd (cs := ((List.replicate 64 (0 : Int)).map (Value.int .u8)).toArray) (t := 45) ?hr ?_; (case hd => rfl); (case hg => rfl); (case hr => first | (go_simp; done) | (go_simp; rfl)); intro go eg w2 k2 b2; have HO := Aside0.mk (show Arr .u8 w2 go 45 (List.replicate 64 0) from k2); have HX2 := Aside0.mk (HXo.out.below b2); have HR2 := Aside0.mk (HRo.out.below b2); have HY2 := Aside0.mk (HYo.out.below b2); have HB2 := Aside0.mk (below_step HBo.out b2); have HMO := Aside0.mk (show w.heap.size ≤ go from by rw [eg]; exact below_size HBo.out); have HYO := Aside0.mk (show gy < go from by rw [eg]; exact HYo.out.lt); clear HXo HBo HRo HYo; clear k2 b2 eg)
  obtain ⟨y, hy⟩ : ∃ y, y = twenty x0 10 := ⟨_, rfl⟩
  rw [← hy] at HY2
  have HYL := Aside0.mk (show y.length = 16 from by rw [hy, twenty_length]; exact HL.out)
  have HYE := Aside0.mk hy
  clear hy
  go_loopw [42] (fun v wr => ∃ i : Nat, i ≤ 64 ∧ v = .int .i64 i ∧ Aside0 (Arr .u32 wr g1 48 x0) ∧ Aside0 (Arr .u8 wr gr 45 (List.replicate 64 0)) ∧ Aside0 (Arr .u32 wr gy 48 y) ∧ Aside0 (Arr .u8 wr go 45 (outs x0 y i)) ∧ Aside0 (Below w.heap.size w wr)) (fun v _ => 64 - (intOf v).toNat)
  case atStart => exact ⟨0, by omega, rfl, HX2, HR2, HY2, HO, HB2⟩
  case round =>
  obtain ⟨i, hi, rfl, HXc, HRc, HYc, HOc, HBc⟩ := hrel
  by_cases hlt : i < 64
  · have t1 : decide ((i : Int) < 64) = true := decide_eq_true (by omega)
    have ia := ix48 g1 (i / 4) (by omega)
    have ib := ix48 gy (i / 4) (by omega)
    have ic := ix45 go i hlt
    have e1 : ((i / 4 : Nat) : Int) = (i : Int) / 4 := by omega
    rw [e1] at ia ib
    have ca := HXc.out.cell (i / 4) (by rw [HL.out]; omega)
    have cb := HYc.out.cell (i / 4) (by rw [HYL.out]; omega)
    have co := HOc.out.cell i (by rw [outs_length]; exact hlt)
    have fo := HOc.out.frozen i
    have p0 : ((0 : Int) ≤ 8 * ((i : Int) % 4)) = True := eq_true (by omega)
    have p1 : (8 * ((i : Int) % 4) ≤ 32) = True := eq_true (by omega)
    clear e1
    go_wp2
    have z1 : IntKind.i64.wrap ((i : Int) / 4) = (i : Int) / 4 := IntWalk.i64_in _ (by omega)
    have z2 : (i : Int).tmod 4 = (i : Int) % 4 := Int.tmod_eq_emod_of_nonneg (by omega)
    have z3 : IntKind.i64.wrap ((i : Int) % 4) = (i : Int) % 4 := IntWalk.i64_in _ (by omega)
    have z4 : IntKind.i64.wrap (8 * ((i : Int) % 4)) = 8 * ((i : Int) % 4) := IntWalk.i64_in _ (by omega)
    refine wp_region_quiet_tail 16 (by kernel_rfl) (by kernel_rfl) ?_
    simp only [List.take_succ_cons, List.take_zero, List.drop_succ_cons, List.drop_zero]
    repeat (quiet_step (fail))
    refine wpQuiet_nil ?_
    intro nq
    refine Arr.store (g := go) (k := .u8) (xs := outs x0 y i) (t := 45) rfl rfl i (outByte x0 y i) ?hs (HOc.out.drewN nq) ?_
    case hs => (unfold outByte; first | (go_simp; done) | (go_simp; rfl))
    intro w5 k5 g5
    have HO5 := Aside0.mk k5
    have HX5 := Aside0.mk ((HXc.out.drewN nq).grown g5 (fun e => by have := Option.some.inj e; have := H1R.out; have := HRY.out; have := HYO.out; omega))
    have HR5 := Aside0.mk ((HRc.out.drewN nq).grown g5 (fun e => by have := Option.some.inj e; have := HRY.out; have := HYO.out; omega))
    have HY5 := Aside0.mk ((HYc.out.drewN nq).grown g5 (fun e => by have := Option.some.inj e; have := HYO.out; omega))
    have HB5 := Aside0.mk ((pw_below_drewN HBc.out nq).grown g5 (below_size (pw_below_drewN HBc.out nq)) (fun k hk => by rw [← Option.some.inj hk]; exact HMO.out))
    clear k5 g5 z1 z2 z3 z4 ia ib ic ca cb co fo p0 p1
    go_wp2
    go_roundw
    case rel => first | exact ⟨i + 1, by omega, by go_num, HX5, HR5, HY5, HO5, HB5⟩ | ((repeat apply Exists.intro); exact ⟨⟨i + 1, by omega, by go_num, HX5, HR5, HY5, HO5, HB5⟩, rfl⟩)
    case measure => simp [intOf]; omega
  obtain rfl : i = 64 := by omega
  clear hi hlt
  have HOL := Aside0.mk (outs_length x0 y 64)
  go_wp2_with (first | ((with_reducible refine gate_dst (N := 62) rfl ?_); refine Arr.load (k := .u8) (xs := outs x0 y 64) (g := go) (t := 45) rfl 45 _ rfl rfl HOc.out _ Try.underlying45 rfl 64 (by kernel_rfl) HOL.out ?_) | ((with_reducible refine gate_store (t := 45) (p := 2) rfl ?_); refine Arr.put (k := .u8) (g := gr) (t := 45) (xs := List.replicate 64 0) (ys := outs x0 y 64) rfl 45 _ _ rfl rfl rfl HRc.out 64 (by kernel_rfl) rfl HOL.out ?_; intro w9 k9 g9; have H9 := Aside0.mk k9; have G9 := Aside0.mk g9; clear k9 g9))
  rw [← HYE.out]
  refine bodyPost_ret (v := agg .u8 (outs x0 y 64)) (results_cell_row rfl _ _ gr 45 _ _ _ rfl H9.out Try.underlying45 rfl ?_) rfl ⟨rfl, ?_⟩
  · rw [info45]
    simp [HOL.out]
  · exact HBc.out.grown G9.out (below_size HBc.out) (fun k hk => by rw [← Option.some.inj hk]; exact HMR.out)
end Go.Proofs.Ytocckplgjbhlbaa.Cha
