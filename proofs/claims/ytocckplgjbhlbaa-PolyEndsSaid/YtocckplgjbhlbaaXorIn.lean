/- chacha's XorIn, walked. Conditions: a key of 32 bytes, a nonce of 12. -/
import Derived.Test.YtocckplgjbhlbaaBts
namespace Go.Proofs.Ytocckplgjbhlbaa.Cha
open Go.RowKit Go.Proofs.YtocckplgjbhlbaaW.PrintWords Go.Proofs.Ytocckplgjbhlbaa.X
set_option linter.unusedVariables false
theorem ixo (g o r cr i : Nat) (h : i < r) (W : World) : (Instr.indexAt 32 (.slice (some ⟨g, o, none⟩) r cr) (.int .i64 (i : Int))).run Try.prog W = .ok (.pointer (some ⟨g, o + i, none⟩)) W := by
  have he : Try.prog.elem 32 = 5 := by kernel_rfl
  have hs : (sizeOf 5).run Try.prog W = .ok 1 W := by kernel_rfl
  rw [run_indexAt_slice (P := Try.prog) (w := W) 32 ⟨g, o, none⟩ r cr .i64 i (by rw [he]; exact Try.underlying32)]
  rw [he, if_pos (by omega), hs]
  simp [Addr.add, Result.andThen]
theorem slo (g o r cr m : Nat) (h : m ≤ r) (W : World) : (Instr.slice 32 (.slice (some ⟨g, o, none⟩) r cr) (some (.int .i64 (m : Int))) none none).run Try.prog W = .ok (.slice (some ⟨g, if cr = m then o else o + m, none⟩) (r - m) (cr - m)) W := by
  have he : Try.prog.elem 32 = 5 := by kernel_rfl
  have hs : (sizeOf 5).run Try.prog W = .ok 1 W := by kernel_rfl
  rw [run_slice_l (P := Try.prog) (w := W) 32 (some ⟨g, o, none⟩) r cr (by rw [he]; exact Try.underlying32) .i64 m (by omega) (by omega)]
  rw [he, hs]
  simp only [Result.andThen, sliced, Int.toNat_natCast, Option.map, Addr.add, Nat.mul_one]
  by_cases hz : cr = m
  · simp [hz]
  · by_cases h0 : m = 0
    · subst h0; simp [hz]
    · simp [hz, h0]
set_option maxRecDepth 100000 in
set_option maxHeartbeats 4000000 in
theorem xorin_calls (key nonce : ByteArray) (count : Int) (hk : key.size = 32) (hn : nonce.size = 12) (xs : List Int) (hxs : xs.length ≤ 1000000) (g c : Nat) (hc : xs.length ≤ c) (w : World) (hb : Bts w g xs) :
    Calls Try.prog 29 #[.string key, .int .i64 count, .string nonce, .slice (some ⟨g, 0, none⟩) xs.length c] w fun e w' => e = .returned (.tuple #[]) ∧ Bts w' g (xr key nonce (count % 4294967296) xs xs.length) ∧ w.grownBy w' (some g) := by
  have HK := Aside0.mk hk
  have HN := Aside0.mk hn
  have HX := Aside0.mk hb
  have HC := Aside0.mk hc
  have HM := Aside0.mk hxs
  obtain ⟨N, hN⟩ : ∃ N, N = xs.length := ⟨_, rfl⟩
  rw [← hN]
  have HNE := Aside0.mk hN
  clear hk hn hb hc hxs hN
  obtain ⟨cc, hcc⟩ : ∃ cc, cc = count % 4294967296 := ⟨_, rfl⟩
  have hcw : IntKind.u32.wrap count = cc := by rw [hcc]; simp [IntKind.wrap, IntKind.bits, IntKind.signed]
  rw [← hcc]
  have HC0 := Aside0.mk (show 0 ≤ cc ∧ cc < 4294967296 from by omega)
  clear hcc
  go_enter Try.func29, Try.ntmps29
  go_wp2
  go_loopw [3, 8] (fun v u wr => ∃ q o p r cr : Nat, o + r = N ∧ o + cr = c ∧ v = .slice (some ⟨g, p, none⟩) r cr ∧ u = .int .u32 ((cc + (q : Int)) % 4294967296) ∧ Aside0 (0 < r → o = 64 * q ∧ p = o) ∧ Aside0 (Bts wr g (xr key nonce cc xs o)) ∧ Aside0 (w.grownBy wr (some g))) (fun v _ _ => match v with | .slice _ r _ => r | _ => 0)
  case atStart =>
    have e0 : cc = (cc + ((0 : Nat) : Int)) % 4294967296 := by have := HC0.out; omega
    exact ⟨0, 0, 0, N, c, by omega, by omega, rfl, congrArg (Value.int .u32) e0, ⟨fun _ => ⟨rfl, rfl⟩⟩, ⟨by rw [xr_zero]; exact HX.out⟩, ⟨grown_refl _ _⟩⟩
  case round =>
  obtain ⟨q, o, p, r, cr, ho, hcr, rfl, rfl, HO, HXo, HGo⟩ := hrel
  by_cases hlt : 0 < r
  · have t1 : decide ((r : Int) > 0) = true := decide_eq_true (by omega)
    have t1' : decide ((0 : Int) < (r : Int)) = true := decide_eq_true (by omega)
    obtain ⟨ho1, hp⟩ := HO.out hlt
    subst hp
    subst ho1
    have hNN := HNE.out
    have hcc2 : N ≤ c := by have := HC.out; omega
    have hNM : N ≤ 1000000 := by have := HM.out; omega
    by_cases h64 : r ≤ 64
    · have t3 : ((r : Int) ≤ 64) = True := eq_true (by omega)
      have t4 : (r ≤ 64) = True := eq_true (by omega)
      have HB := Aside0.mk (fun W => bytes_calls (begun key nonce ((cc + (q : Int)) % 4294967296)) (begun_length key nonce _) W)
      have HBe := Aside0.mk (fun W => begin_calls key nonce ((cc + (q : Int)) % 4294967296) HK.out HN.out W)
      go_wp2_with (first | (go_at_call 26; (with_reducible refine (HBe.out _).mono ?_); rintro e w1 ⟨rfl, b1⟩; have HG1 := Aside0.mk (grown_below HGo.out b1); have HX1 := Aside0.mk (HXo.out.below b1); clear b1) | (go_at_call 27; (with_reducible refine (HB.out _).mono ?_); rintro e w2 ⟨rfl, b2⟩; have HG2 := Aside0.mk (grown_below HG1.out b2); have HX2 := Aside0.mk (HX1.out.below b2); clear b2) | ((with_reducible refine gate_dst (N := 9) rfl ?_); refine box_event ?hg (N := 9) ?hd (cs := ((List.replicate 64 (0 : Int)).map (Value.int .u8)).toArray) (t := 45) ?hr ?_; (case hd => rfl); (case hg => rfl); (case hr => first | (go_simp; done) | (go_simp; rfl)); intro gk eg w3 k3 b3; have HA := Aside0.mk (show Arr .u8 w3 gk 45 (List.replicate 64 0) from k3); have HG3 := Aside0.mk (grown_below HG2.out b3); have HX3 := Aside0.mk (HX2.out.below b3); have HGK := Aside0.mk (show w.heap.size ≤ gk ∧ g < gk from by rw [eg]; exact ⟨HG2.out.size, HX2.out.1⟩); clear k3 b3 eg) | ((with_reducible refine gate_store (t := 45) (p := 9) rfl ?_); refine Arr.put (k := .u8) (g := gk) (t := 45) (xs := List.replicate 64 0) (ys := strm key nonce cc q) rfl 45 _ _ rfl rfl rfl HA.out 64 (by kernel_rfl) rfl (strm_length key nonce cc q) ?_; intro w4 k4 g4; have HK4 := Aside0.mk k4; have HG4 := Aside0.mk (grown_new HG3.out g4 HGK.out.1); have HX4 := Aside0.mk (HX3.out.grown g4 (fun e => by have := Option.some.inj e; have := HGK.out.2; omega)); clear k4 g4))
      clear HB HBe
      go_loopw [28] (fun v wr2 => ∃ i : Nat, i ≤ r ∧ v = .int .i64 i ∧ Aside0 (Arr .u8 wr2 gk 45 (strm key nonce cc q)) ∧ Aside0 (Bts wr2 g (xr key nonce cc xs (64 * q + i))) ∧ Aside0 (w.grownBy wr2 (some g))) (fun v _ => r - (intOf v).toNat)
      case atStart => exact ⟨0, by omega, rfl, HK4, HX4, HG4⟩
      case round =>
      obtain ⟨i, hi, rfl, HKi, HXi, HGi⟩ := hrel
      by_cases hl : i < r
      · have t2 : decide ((i : Int) < (r : Int)) = true := decide_eq_true (by omega)
        have ia := ixo g (64 * q) r cr i (by omega)
        have ib := ix45 gk i (by omega)
        have ca := HXi.out.cell (64 * q + i) (by rw [xr_length]; omega)
        rw [xr_at key nonce cc xs _ _ (by omega) (Nat.le_refl _)] at ca
        have cb := HKi.out.cell i (by rw [strm_length]; omega)
        have fa := HXi.out.frozen (64 * q + i) (by rw [xr_length]; omega)
        have hv := Aside0.mk (xr_step key nonce cc xs (64 * q + i) (by omega))
        rw [kb_at key nonce cc q i (by omega)] at hv
        go_wp2
        refine wp_region_quiet_tail 9 (by kernel_rfl) (by kernel_rfl) ?_
        simp only [List.take_succ_cons, List.take_zero, List.drop_succ_cons, List.drop_zero]
        repeat (quiet_step (fail))
        refine wpQuiet_nil ?_
        intro nq
        refine Bts.store (g := g) (xs := xr key nonce cc xs (64 * q + i)) rfl rfl (64 * q + i) (Go.bits .xor .u8 (gx xs (64 * q + i)) (gx (strm key nonce cc q) i)) ?hs (HXi.out.drewN nq) ?_
        case hs => (first | (go_simp; done) | (go_simp; rfl))
        intro w5 k5 g5
        rw [hv.out] at k5
        have HX5 := Aside0.mk k5
        have HK5 := Aside0.mk ((HKi.out.drewN nq).grown g5 (fun e => by have := Option.some.inj e; have := HGK.out.2; omega))
        have HG5 := Aside0.mk (grown_trans (grown_trans HGi.out (grown_drewN _ nq _)) g5)
        clear k5 g5 ia ib ca cb fa hv
        go_wp2
        go_roundw
        case rel => first | exact ⟨i + 1, by omega, by go_num, HK5, HX5, HG5⟩ | ((repeat apply Exists.intro); exact ⟨⟨i + 1, by omega, by go_num, HK5, HX5, HG5⟩, rfl⟩)
        case measure => simp [intOf]; omega
      obtain rfl : r = i := by omega
      clear hi hl
      have sl : ∀ W, (Instr.slice 32 (.slice (some ⟨g, 64 * q, none⟩) r cr) (some (.int .i64 (r : Int))) none none).run Try.prog W = .ok (.slice (some ⟨g, if cr = r then 64 * q else 64 * q + r, none⟩) (r - r) (cr - r)) W := fun W => slo g (64 * q) r cr r (by omega) W
      have hw : IntKind.u32.wrap ((cc + (q : Int)) % 4294967296 + 1) = (cc + ((q + 1 : Nat) : Int)) % 4294967296 := by simp [IntKind.wrap, IntKind.bits, IntKind.signed]; omega
      go_wp2
      go_roundw
      case rel => first | exact ⟨q + 1, 64 * q + r, _, 0, cr - r, by omega, by omega, rfl, rfl, ⟨fun h => absurd h (by omega)⟩, HXi, HGi⟩ | exact ⟨q + 1, 64 * q + r, _, _, _, by omega, by omega, rfl, by first | rfl | rw [hw], ⟨fun h => ⟨by omega, by first | rfl | exact if_neg (by omega)⟩⟩, HXi, HGi⟩ | ((repeat apply Exists.intro); exact ⟨⟨q + 1, 64 * q + r, _, _, _, by omega, by omega, rfl, by first | rfl | rw [hw], ⟨fun h => ⟨by omega, by first | rfl | exact if_neg (by omega)⟩⟩, HXi, HGi⟩, rfl⟩)
      case measure => (first | (show r - r < r; omega) | (simp; omega))
    · have t3 : ((r : Int) ≤ 64) = False := eq_false (by omega)
      have t4 : (r ≤ 64) = False := eq_false (by omega)
      have HB := Aside0.mk (fun W => bytes_calls (begun key nonce ((cc + (q : Int)) % 4294967296)) (begun_length key nonce _) W)
      have HBe := Aside0.mk (fun W => begin_calls key nonce ((cc + (q : Int)) % 4294967296) HK.out HN.out W)
      go_wp2_with (first | (go_at_call 26; (with_reducible refine (HBe.out _).mono ?_); rintro e w1 ⟨rfl, b1⟩; have HG1 := Aside0.mk (grown_below HGo.out b1); have HX1 := Aside0.mk (HXo.out.below b1); clear b1) | (go_at_call 27; (with_reducible refine (HB.out _).mono ?_); rintro e w2 ⟨rfl, b2⟩; have HG2 := Aside0.mk (grown_below HG1.out b2); have HX2 := Aside0.mk (HX1.out.below b2); clear b2) | ((with_reducible refine gate_dst (N := 9) rfl ?_); refine box_event ?hg (N := 9) ?hd (cs := ((List.replicate 64 (0 : Int)).map (Value.int .u8)).toArray) (t := 45) ?hr ?_; (case hd => rfl); (case hg => rfl); (case hr => first | (go_simp; done) | (go_simp; rfl)); intro gk eg w3 k3 b3; have HA := Aside0.mk (show Arr .u8 w3 gk 45 (List.replicate 64 0) from k3); have HG3 := Aside0.mk (grown_below HG2.out b3); have HX3 := Aside0.mk (HX2.out.below b3); have HGK := Aside0.mk (show w.heap.size ≤ gk ∧ g < gk from by rw [eg]; exact ⟨HG2.out.size, HX2.out.1⟩); clear k3 b3 eg) | ((with_reducible refine gate_store (t := 45) (p := 9) rfl ?_); refine Arr.put (k := .u8) (g := gk) (t := 45) (xs := List.replicate 64 0) (ys := strm key nonce cc q) rfl 45 _ _ rfl rfl rfl HA.out 64 (by kernel_rfl) rfl (strm_length key nonce cc q) ?_; intro w4 k4 g4; have HK4 := Aside0.mk k4; have HG4 := Aside0.mk (grown_new HG3.out g4 HGK.out.1); have HX4 := Aside0.mk (HX3.out.grown g4 (fun e => by have := Option.some.inj e; have := HGK.out.2; omega)); clear k4 g4))
      clear HB HBe
      go_loopw [28] (fun v wr2 => ∃ i : Nat, i ≤ 64 ∧ v = .int .i64 i ∧ Aside0 (Arr .u8 wr2 gk 45 (strm key nonce cc q)) ∧ Aside0 (Bts wr2 g (xr key nonce cc xs (64 * q + i))) ∧ Aside0 (w.grownBy wr2 (some g))) (fun v _ => 64 - (intOf v).toNat)
      case atStart => exact ⟨0, by omega, rfl, HK4, HX4, HG4⟩
      case round =>
      obtain ⟨i, hi, rfl, HKi, HXi, HGi⟩ := hrel
      by_cases hl : i < 64
      · have t2 : decide ((i : Int) < 64) = true := decide_eq_true (by omega)
        have ia := ixo g (64 * q) r cr i (by omega)
        have ib := ix45 gk i (by omega)
        have ca := HXi.out.cell (64 * q + i) (by rw [xr_length]; omega)
        rw [xr_at key nonce cc xs _ _ (by omega) (Nat.le_refl _)] at ca
        have cb := HKi.out.cell i (by rw [strm_length]; omega)
        have fa := HXi.out.frozen (64 * q + i) (by rw [xr_length]; omega)
        have hv := Aside0.mk (xr_step key nonce cc xs (64 * q + i) (by omega))
        rw [kb_at key nonce cc q i (by omega)] at hv
        go_wp2
        refine wp_region_quiet_tail 9 (by kernel_rfl) (by kernel_rfl) ?_
        simp only [List.take_succ_cons, List.take_zero, List.drop_succ_cons, List.drop_zero]
        repeat (quiet_step (fail))
        refine wpQuiet_nil ?_
        intro nq
        refine Bts.store (g := g) (xs := xr key nonce cc xs (64 * q + i)) rfl rfl (64 * q + i) (Go.bits .xor .u8 (gx xs (64 * q + i)) (gx (strm key nonce cc q) i)) ?hs (HXi.out.drewN nq) ?_
        case hs => (first | (go_simp; done) | (go_simp; rfl))
        intro w5 k5 g5
        rw [hv.out] at k5
        have HX5 := Aside0.mk k5
        have HK5 := Aside0.mk ((HKi.out.drewN nq).grown g5 (fun e => by have := Option.some.inj e; have := HGK.out.2; omega))
        have HG5 := Aside0.mk (grown_trans (grown_trans HGi.out (grown_drewN _ nq _)) g5)
        clear k5 g5 ia ib ca cb fa hv
        go_wp2
        go_roundw
        case rel => first | exact ⟨i + 1, by omega, by go_num, HK5, HX5, HG5⟩ | ((repeat apply Exists.intro); exact ⟨⟨i + 1, by omega, by go_num, HK5, HX5, HG5⟩, rfl⟩)
        case measure => simp [intOf]; omega
      obtain rfl : i = 64 := by omega
      clear hi hl
      have sl : ∀ W, (Instr.slice 32 (.slice (some ⟨g, 64 * q, none⟩) r cr) (some (.int .i64 64)) none none).run Try.prog W = .ok (.slice (some ⟨g, if cr = 64 then 64 * q else 64 * q + 64, none⟩) (r - 64) (cr - 64)) W := fun W => slo g (64 * q) r cr 64 (by omega) W
      have hw : IntKind.u32.wrap ((cc + (q : Int)) % 4294967296 + 1) = (cc + ((q + 1 : Nat) : Int)) % 4294967296 := by simp [IntKind.wrap, IntKind.bits, IntKind.signed]; omega
      go_wp2
      go_roundw
      case rel => first | exact ⟨q + 1, 64 * q + r, _, 0, cr - r, by omega, by omega, rfl, rfl, ⟨fun h => absurd h (by omega)⟩, HXi, HGi⟩ | exact ⟨q + 1, 64 * q + 64, _, _, _, by omega, by omega, rfl, by first | rfl | rw [hw], ⟨fun h => ⟨by omega, by first | rfl | exact if_neg (by omega)⟩⟩, HXi, HGi⟩ | ((repeat apply Exists.intro); exact ⟨⟨q + 1, 64 * q + 64, _, _, _, by omega, by omega, rfl, by first | rfl | rw [hw], ⟨fun h => ⟨by omega, by first | rfl | exact if_neg (by omega)⟩⟩, HXi, HGi⟩, rfl⟩)
      case measure => (first | (show r - 64 < r; omega) | (simp; omega))
  · obtain rfl : r = 0 := by omega
    obtain rfl : o = N := by omega
    go_wp2
    first
    | (go_end0
       exact ⟨rfl, HXo.out, HGo.out⟩)
    | (go_ret
       exact ⟨rfl, HXo.out, HGo.out⟩)
   
end Go.Proofs.Ytocckplgjbhlbaa.Cha
