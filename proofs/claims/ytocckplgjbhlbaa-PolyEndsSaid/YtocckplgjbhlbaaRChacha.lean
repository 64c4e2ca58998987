/- The document's block of chacha's, walked. Conditions: a key of 32 bytes, a nonce of 12. -/
import Derived.Test.YtocckplgjbhlbaaBytes
namespace Go.Proofs.Ytocckplgjbhlbaa.Cha
open Go.RowKit Go.Proofs.YtocckplgjbhlbaaW.PrintWords Go.Proofs.Ytocckplgjbhlbaa.X
set_option linter.unusedVariables false
theorem le_calls (s : ByteArray) (i : Nat) (h : 4 * i + 4 ≤ s.size) (hz : s.size ≤ 1000) (w : World) :
    Calls Try.prog 40 #[.string s, .int .i64 (4 * (i : Int))] w fun e w' => e = .returned (.int .u32 (wordAt s (4 * i))) ∧ Drawn0 w w' := by
  refine halberdref4_le.calls s (4 * (i : Int)) (wordAt s (4 * i)) w ?_
  have w1 : wrap64 (4 * (i : Int) + 1) = ((4 * i + 1 : Nat) : Int) := by unfold wrap64; omega
  have w2 : wrap64 (4 * (i : Int) + 2) = ((4 * i + 2 : Nat) : Int) := by unfold wrap64; omega
  have w3 : wrap64 (4 * (i : Int) + 3) = ((4 * i + 3 : Nat) : Int) := by unfold wrap64; omega
  have w0 : 4 * (i : Int) = ((4 * i : Nat) : Int) := by omega
  unfold halberdref4_le.f
  rw [w1, w2, w3, w0, if_pos (by omega), if_pos (by omega), if_pos (by omega), if_pos (by omega), if_pos (by omega), if_pos (by omega), if_pos (by omega), if_pos (by omega)]
  rfl
theorem ixs (g i : Nat) (h : i < 64) (W : World) : (Instr.indexAt 32 (.slice (some ⟨g, 0, none⟩) 64 64) (.int .i64 (i : Int))).run Try.prog W = .ok (.pointer (some ⟨g, i, none⟩)) W := by
  have he : Try.prog.elem 32 = 5 := by kernel_rfl
  have hs : (sizeOf 5).run Try.prog W = .ok 1 W := by kernel_rfl
  rw [run_indexAt_slice (P := Try.prog) (w := W) 32 ⟨g, 0, none⟩ 64 64 .i64 i (by rw [he]; exact Try.underlying32)]
  rw [he, if_pos (by omega), hs]
  simp [Addr.add, Result.andThen]
  omega
theorem and255_u32 (z : Int) (h0 : 0 ≤ z) (h1 : z < 4294967296) : (Go.bits .and .u32 z 255) % 256 = z % 256 := by
  have h := Go.bits_mask .u32 32 (by decide) (fun n a b => by simp [IntKind.wrap, IntKind.bits, IntKind.signed]; omega) 8 (by decide) z h0 (by omega)
  have h' : Go.bits .and .u32 z 255 = z % 256 := h
  rw [h']
  omega
set_option maxRecDepth 100000 in
set_option maxHeartbeats 8000000 in
theorem rchacha_calls (key nonce : ByteArray) (n : Int) (hk : key.size = 32) (hn : nonce.size = 12) (w : World) :
    Calls Try.prog 28 #[.string key, .int .u32 n, .string nonce] w fun e w' => e = .returned (.string (strOfNums (outs (begun key nonce n) (twenty (begun key nonce n) 10) 64))) ∧ Below w.heap.size w w' := by
  have HK := Aside0.mk hk
  have HN := Aside0.mk hn
  clear hk hn
  go_enter Try.func28, Try.ntmps28
  go_wp2_with (first | ((with_reducible refine gate_dst (N := 7) rfl ?_); refine box_event ?hg (N := 7) ?hd (cs := ((List.replicate 16 (0 : Int)).map (Value.int .u32)).toArray) (t := 47) ?hr ?_; (case hd => rfl); (case hg => rfl); (case hr => first | (go_simp; done) | (go_simp; rfl)); intro g eg w2 k2 b2; have HA := Aside0.mk (show Arr .u32 w2 g 47 (List.replicate 16 0) from k2); have HB := Aside0.mk b2; have HG := Aside0.mk (show w.heap.size ≤ g from by rw [eg]; exact Nat.le_refl _); clear k2 b2 eg) | ((with_reducible refine gate_store (t := 47) (p := 7) rfl ?_); refine Arr.put (k := .u32) (g := g) (t := 47) (xs := List.replicate 16 0) (ys := [1634760805, 857760878, 2036477234, 1797285236] ++ List.replicate 12 0) rfl 47 _ _ rfl rfl rfl HA.out 16 (by kernel_rfl) rfl rfl ?_; intro w3 k3 g3; have HA3 := Aside0.mk k3; have HB3 := Aside0.mk (HB.out.grown g3 (below_size HB.out) (fun k hk => by rw [← Option.some.inj hk]; exact HG.out)); clear k3 g3 HA HB))
  go_loopw [8] (fun v wr => ∃ i : Nat, i ≤ 8 ∧ v = .int .i64 i ∧ Aside0 (Arr .u32 wr g 47 (layWords ([1634760805, 857760878, 2036477234, 1797285236] ++ List.replicate 12 0) 4 key i)) ∧ Aside0 (Below w.heap.size w wr)) (fun v _ => 8 - (intOf v).toNat)
  case atStart => exact ⟨0, by omega, rfl, HA3, HB3⟩
  case round =>
  obtain ⟨i, hi, rfl, HA8, HB8⟩ := hrel
  by_cases hlt : i < 8
  · have t1 : decide ((i : Int) < 8) = true := decide_eq_true (by omega)
    have ix := ix47 g (4 + i) (by omega)
    have e2 : ((4 + i : Nat) : Int) = 4 + (i : Int) := by omega
    rw [e2] at ix
    have hL : (layWords ([1634760805, 857760878, 2036477234, 1797285236] ++ List.replicate 12 0) 4 key i).length = 16 := by rw [layWords_length]; rfl
    have cp := HA8.out.cell (4 + i) (by rw [hL]; omega)
    have fp := HA8.out.frozen (4 + i)
    have hw := Aside0.mk (fun W => le_calls key i (by rw [HK.out]; omega) (by rw [HK.out]; omega) W)
    clear e2 hL
    go_wp2_with (first | (go_at_call 40; (with_reducible refine (hw.out _).mono ?_); rintro e w' ⟨rfl, ⟨nd, rfl⟩⟩) | ((with_reducible refine gate_store (t := 46) (p := 29) rfl ?_); refine Arr.store (g := g) (k := .u32) (xs := layWords ([1634760805, 857760878, 2036477234, 1797285236] ++ List.replicate 12 0) 4 key i) (t := 47) rfl rfl (4 + i) (wordAt key (4 * i)) ?hs (HA8.out.drewN _) ?_; (case hs => first | (go_simp; done) | (go_simp; rfl)); intro w4 k4 g4; have HA4 := Aside0.mk k4; have HB4 := Aside0.mk ((pw_below_drewN HB8.out _).grown g4 (below_size (pw_below_drewN HB8.out _)) (fun k hk => by rw [← Option.some.inj hk]; exact HG.out)); clear k4 g4))
    go_roundw
    case rel => first | exact ⟨i + 1, by omega, by go_num, HA4, HB4⟩ | ((repeat apply Exists.intro); exact ⟨⟨i + 1, by omega, by go_num, HA4, HB4⟩, rfl⟩)
    case measure => simp [intOf]; omega
  obtain rfl : i = 8 := by omega
  clear hi hlt
  have ix12 : ∀ W, (Instr.indexAt 47 (.pointer (some ⟨g, 0, none⟩)) (.int .i64 12)).run Try.prog W = .ok (.pointer (some ⟨g, 12, none⟩)) W := fun W => ix47 g 12 (by omega) W
  have cp := HA8.out.cell 12 (by rw [layWords_length]; decide)
  have fp := HA8.out.frozen 12
  go_wp2_with ((with_reducible refine gate_store (t := 46) (p := 31) rfl ?_); refine Arr.store (g := g) (k := .u32) (xs := layWords ([1634760805, 857760878, 2036477234, 1797285236] ++ List.replicate 12 0) 4 key 8) (t := 47) rfl rfl 12 n ?hs HA8.out ?_; (case hs => first | (go_simp; done) | (go_simp; rfl)); intro w5 k5 g5; have HA5 := Aside0.mk k5; have HB5 := Aside0.mk (HB8.out.grown g5 (below_size HB8.out) (fun k hk => by rw [← Option.some.inj hk]; exact HG.out)); clear k5 g5)
  clear ix12 cp fp
  go_loopw [9] (fun v wr => ∃ i : Nat, i ≤ 3 ∧ v = .int .i64 i ∧ Aside0 (Arr .u32 wr g 47 (layWords ((layWords ([1634760805, 857760878, 2036477234, 1797285236] ++ List.replicate 12 0) 4 key 8).set 12 n) 13 nonce i)) ∧ Aside0 (Below w.heap.size w wr)) (fun v _ => 3 - (intOf v).toNat)
  case atStart => exact ⟨0, by omega, rfl, HA5, HB5⟩
  case round =>
  obtain ⟨i, hi, rfl, HA9, HB9⟩ := hrel
  by_cases hlt : i < 3
  · have t1 : decide ((i : Int) < 3) = true := decide_eq_true (by omega)
    have ix := ix47 g (13 + i) (by omega)
    have e2 : ((13 + i : Nat) : Int) = 13 + (i : Int) := by omega
    rw [e2] at ix
    have hL : (layWords ((layWords ([1634760805, 857760878, 2036477234, 1797285236] ++ List.replicate 12 0) 4 key 8).set 12 n) 13 nonce i).length = 16 := by rw [layWords_length]; rw [List.length_set, layWords_length]; rfl
    have cp := HA9.out.cell (13 + i) (by rw [hL]; omega)
    have fp := HA9.out.frozen (13 + i)
    have hw := Aside0.mk (fun W => le_calls nonce i (by rw [HN.out]; omega) (by rw [HN.out]; omega) W)
    clear e2 hL
    go_wp2_with (first | (go_at_call 40; (with_reducible refine (hw.out _).mono ?_); rintro e w' ⟨rfl, ⟨nd, rfl⟩⟩) | ((with_reducible refine gate_store (t := 46) (p := 42) rfl ?_); refine Arr.store (g := g) (k := .u32) (xs := layWords ((layWords ([1634760805, 857760878, 2036477234, 1797285236] ++ List.replicate 12 0) 4 key 8).set 12 n) 13 nonce i) (t := 47) rfl rfl (13 + i) (wordAt nonce (4 * i)) ?hs (HA9.out.drewN _) ?_; (case hs => first | (go_simp; done) | (go_simp; rfl)); intro w4 k4 g4; have HA4 := Aside0.mk k4; have HB4 := Aside0.mk ((pw_below_drewN HB9.out _).grown g4 (below_size (pw_below_drewN HB9.out _)) (fun k hk => by rw [← Option.some.inj hk]; exact HG.out)); clear k4 g4))
    go_roundw
    case rel => first | exact ⟨i + 1, by omega, by go_num, HA4, HB4⟩ | ((repeat apply Exists.intro); exact ⟨⟨i + 1, by omega, by go_num, HA4, HB4⟩, rfl⟩)
    case measure => simp [intOf]; omega
  obtain rfl : i = 3 := by omega
  clear hi hlt
  obtain ⟨x0, hx0⟩ : ∃ x, x = begun key nonce n := ⟨_, rfl⟩
  have HL := Aside0.mk (show x0.length = 16 from by rw [hx0]; exact begun_length key nonce n)
  have HX := Aside0.mk (show Arr .u32 wr g 47 x0 from by rw [hx0]; exact HA9.out)
  have HXE := Aside0.mk hx0
  clear hx0 HA9 HA8 HA3 HA5
  go_wp2_with (first | ((with_reducible refine gate_dst (N := 43) rfl ?_); refine Arr.load (k := .u32) (xs := x0) (g := g) (t := 47) rfl 47 _ rfl rfl HX.out _ Try.underlying47 rfl 16 (by kernel_rfl) HL.out ?_) | ((with_reducible refine gate_dst (N := 10) rfl ?_); refine box_event ?hg (N := 10) ?hd (cs := ((List.replicate 16 (0 : Int)).map (Value.int .u32)).toArray) (t := 47) ?hr ?_; (case hd => rfl); (case hg => rfl); (case hr => first | (go_simp; done) | (go_simp; rfl)); intro gy eg w2 k2 b2; have HY0 := Aside0.mk (show Arr .u32 w2 gy 47 (List.replicate 16 0) from k2); have HX2 := Aside0.mk (HX.out.below b2); have HB2 := Aside0.mk (below_step HB9.out b2); have HMY := Aside0.mk (show w.heap.size ≤ gy from by rw [eg]; exact below_size HB9.out); have HGY := Aside0.mk (show g < gy from by rw [eg]; exact HX.out.lt); clear k2 b2 eg) | ((with_reducible refine gate_store (t := 47) (p := 10) rfl ?_); refine Arr.put (k := .u32) (g := gy) (t := 47) (xs := List.replicate 16 0) (ys := x0) rfl 47 _ _ rfl rfl rfl HY0.out 16 (by kernel_rfl) rfl HL.out ?_; intro w3 k3 g3; have HY := Aside0.mk k3; have HX3 := Aside0.mk (HX2.out.grown g3 (fun e => by have := Option.some.inj e; have := HGY.out; omega)); have HB3 := Aside0.mk (HB2.out.grown g3 (below_size HB2.out) (fun k hk => by rw [← Option.some.inj hk]; exact HMY.out)); clear k3 g3 HX HB2 HX2 HY0))
  go_loopw [11] (fun v wr => ∃ r : Nat, r ≤ 10 ∧ v = .int .i64 r ∧ Aside0 (Arr .u32 wr g 47 x0) ∧ Aside0 (Arr .u32 wr gy 47 (twenty x0 r)) ∧ Aside0 (Below w.heap.size w wr)) (fun v _ => 10 - (intOf v).toNat)
  case atStart => exact ⟨0, by omega, rfl, HX3, HY, HB3⟩
  case round =>
  obtain ⟨r, hr, rfl, HXo, HYo, HBo⟩ := hrel
  by_cases hlt : r < 10
  · have t1 : decide ((r : Int) < 10) = true := decide_eq_true (by omega)
    go_wp2
    go_loopw [12] (fun v wr => ∃ i : Nat, i ≤ 4 ∧ v = .int .i64 i ∧ Aside0 (Arr .u32 wr g 47 x0) ∧ Aside0 (Arr .u32 wr gy 47 (cols (twenty x0 r) i)) ∧ Aside0 (Below w.heap.size w wr)) (fun v _ => 4 - (intOf v).toNat)
    case atStart => exact ⟨0, by omega, rfl, HXo, HYo, HBo⟩
    case round =>
    obtain ⟨i, hi, rfl, HXa, HYa, HBa⟩ := hrel
    by_cases hla : i < 4
    · have t2 : decide ((i : Int) < 4) = true := decide_eq_true (by omega)
      have hQ := Aside0.mk (fun W => rquarter_calls (cols (twenty x0 r) i) (by rw [cols_length, twenty_length]; exact HL.out) i (4 + i) (8 + i) (12 + i) (by omega) (by omega) (by omega) (by omega) W)
      have hLf := Aside0.mk (show (cols (twenty x0 r) i).length = 16 from by rw [cols_length, twenty_length]; exact HL.out)
      have hLg := Aside0.mk (show (cols (twenty x0 r) (i + 1)).length = 16 from by rw [cols_length, twenty_length]; exact HL.out)
      have c1 : ((4 + i : Nat) : Int) = 4 + (i : Int) := by omega
      have c2 : ((8 + i : Nat) : Int) = 8 + (i : Int) := by omega
      have c3 : ((12 + i : Nat) : Int) = 12 + (i : Int) := by omega
      rw [c1, c2, c3] at hQ
      clear c1 c2 c3
      go_wp2_with (first | ((with_reducible refine gate_dst (N := 52) rfl ?_); refine Arr.load (k := .u32) (xs := cols (twenty x0 r) i) (g := gy) (t := 47) rfl 47 _ rfl rfl HYa.out _ Try.underlying47 rfl 16 (by kernel_rfl) hLf.out ?_) | (go_at_call 41; (with_reducible refine (hQ.out _).mono ?_); rintro e w4 ⟨rfl, b4⟩; have HY4 := Aside0.mk (HYa.out.below b4); have HX4 := Aside0.mk (HXa.out.below b4); have HB4 := Aside0.mk (below_step HBa.out b4); clear b4) | ((with_reducible refine gate_store (t := 47) (p := 10) rfl ?_); refine Arr.put (k := .u32) (g := gy) (t := 47) (xs := cols (twenty x0 r) i) (ys := cols (twenty x0 r) (i + 1)) rfl 47 _ _ rfl rfl rfl HY4.out 16 (by kernel_rfl) hLf.out hLg.out ?_; intro w5 k5 g5; have HY5 := Aside0.mk k5; have HX5 := Aside0.mk (HX4.out.grown g5 (fun e => by have := Option.some.inj e; have := HGY.out; omega)); have HB5 := Aside0.mk (HB4.out.grown g5 (below_size HB4.out) (fun k hk => by rw [← Option.some.inj hk]; exact HMY.out)); clear k5 g5))
      go_roundw
      case rel => first | exact ⟨i + 1, by omega, by go_num, HX5, HY5, HB5⟩ | ((repeat apply Exists.intro); exact ⟨⟨i + 1, by omega, by go_num, HX5, HY5, HB5⟩, rfl⟩)
      case measure => simp [intOf]; omega
    obtain rfl : i = 4 := by omega
    clear hi hla
    go_wp2
    go_loopw [13] (fun v wr => ∃ i : Nat, i ≤ 4 ∧ v = .int .i64 i ∧ Aside0 (Arr .u32 wr g 47 x0) ∧ Aside0 (Arr .u32 wr gy 47 (diags (cols (twenty x0 r) 4) i)) ∧ Aside0 (Below w.heap.size w wr)) (fun v _ => 4 - (intOf v).toNat)
    case atStart => exact ⟨0, by omega, rfl, HXa, HYa, HBa⟩
    case round =>
    obtain ⟨i, hi, rfl, HXb, HYb, HBb⟩ := hrel
    by_cases hlb : i < 4
    · have t2 : decide ((i : Int) < 4) = true := decide_eq_true (by omega)
      have hQ := Aside0.mk (fun W => rquarter_calls (diags (cols (twenty x0 r) 4) i) (by rw [diags_length, cols_length, twenty_length]; exact HL.out) i (4 + (i + 1) % 4) (8 + (i + 2) % 4) (12 + (i + 3) % 4) (by omega) (by omega) (by omega) (by omega) W)
      have hLf := Aside0.mk (show (diags (cols (twenty x0 r) 4) i).length = 16 from by rw [diags_length, cols_length, twenty_length]; exact HL.out)
      have hLg := Aside0.mk (show (diags (cols (twenty x0 r) 4) (i + 1)).length = 16 from by rw [diags_length, cols_length, twenty_length]; exact HL.out)
      have c1 : ((4 + (i + 1) % 4 : Nat) : Int) = 4 + ((i : Int) + 1) % 4 := by omega
      have c2 : ((8 + (i + 2) % 4 : Nat) : Int) = 8 + ((i : Int) + 2) % 4 := by omega
      have c3 : ((12 + (i + 3) % 4 : Nat) : Int) = 12 + ((i : Int) + 3) % 4 := by omega
      rw [c1, c2, c3] at hQ
      clear c1 c2 c3
      go_wp2_with (first | ((with_reducible refine gate_dst (N := 65) rfl ?_); refine Arr.load (k := .u32) (xs := diags (cols (twenty x0 r) 4) i) (g := gy) (t := 47) rfl 47 _ rfl rfl HYb.out _ Try.underlying47 rfl 16 (by kernel_rfl) hLf.out ?_) | (go_at_call 41; (with_reducible refine (hQ.out _).mono ?_); rintro e w4 ⟨rfl, b4⟩; have HY4 := Aside0.mk (HYb.out.below b4); have HX4 := Aside0.mk (HXb.out.below b4); have HB4 := Aside0.mk (below_step HBb.out b4); clear b4) | ((with_reducible refine gate_store (t := 47) (p := 10) rfl ?_); refine Arr.put (k := .u32) (g := gy) (t := 47) (xs := diags (cols (twenty x0 r) 4) i) (ys := diags (cols (twenty x0 r) 4) (i + 1)) rfl 47 _ _ rfl rfl rfl HY4.out 16 (by kernel_rfl) hLf.out hLg.out ?_; intro w5 k5 g5; have HY5 := Aside0.mk k5; have HX5 := Aside0.mk (HX4.out.grown g5 (fun e => by have := Option.some.inj e; have := HGY.out; omega)); have HB5 := Aside0.mk (HB4.out.grown g5 (below_size HB4.out) (fun k hk => by rw [← Option.some.inj hk]; exact HMY.out)); clear k5 g5))
      go_roundw
      case rel => first | exact ⟨i + 1, by omega, by go_num, HX5, HY5, HB5⟩ | ((repeat apply Exists.intro); exact ⟨⟨i + 1, by omega, by go_num, HX5, HY5, HB5⟩, rfl⟩)
      case measure => simp [intOf]; omega
    obtain rfl : i = 4 := by omega
    clear hi hlb
    go_wp2
    go_roundw
    case rel => first | exact ⟨r + 1, by omega, by go_num, HXb, HYb, HBb⟩ | ((repeat apply Exists.intro); exact ⟨⟨r + 1, by omega, by go_num, HXb, HYb, HBb⟩, rfl⟩)
    case measure => simp [intOf]; omega
  obtain rfl : r = 10 := by omega
  clear hr hlt
  obtain ⟨y, hy⟩ : ∃ y, y = twenty x0 10 := ⟨_, rfl⟩
  rw [← hy] at HYo
  have HYL := Aside0.mk (show y.length = 16 from by rw [hy, twenty_length]; exact HL.out)
  have HYE := Aside0.mk hy
  clear hy
  obtain ⟨i0, hi0, hz0, hz1, hz2⟩ := info_parts info5
  have HMK := Aside0.mk (fun W => run_make_u8 (P := Try.prog) 32 5 i0 Try.underlying32 hi0 hz0 hz1 hz2 64 (by omega) W)
  clear hi0 hz0 hz1 hz2
  go_wp2_with ((with_reducible refine gate_dst (N := 80) rfl ?_); refine Arr.make (k := .u8) rfl 32 5 64 _ _ rfl rfl rfl HMK.out ?_; intro go eg w2 k2 b2; have HO := Aside0.mk (show Arr .u8 w2 go 5 (outs x0 y (4 * 0)) from k2); have HX2 := Aside0.mk (HXo.out.below b2); have HY2 := Aside0.mk (HYo.out.below b2); have HB2 := Aside0.mk (below_step HBo.out b2); have HMO := Aside0.mk (show w.heap.size ≤ go from by rw [eg]; exact below_size HBo.out); have HYO := Aside0.mk (show gy < go from by rw [eg]; exact HYo.out.lt); clear k2 b2 eg HXo HYo HBo)
  go_loopw [15] (fun v wr => ∃ i : Nat, i ≤ 16 ∧ v = .int .i64 i ∧ Aside0 (Arr .u32 wr g 47 x0) ∧ Aside0 (Arr .u32 wr gy 47 y) ∧ Aside0 (Arr .u8 wr go 5 (outs x0 y (4 * i))) ∧ Aside0 (Below w.heap.size w wr)) (fun v _ => 16 - (intOf v).toNat)
  case atStart => exact ⟨0, by omega, rfl, HX2, HY2, HO, HB2⟩
  case round =>
  obtain ⟨i, hi, rfl, HXc, HYc, HOc, HBc⟩ := hrel
  by_cases hlt : i < 16
  · have t1 : decide ((i : Int) < 16) = true := decide_eq_true (by omega)
    have ia := ix47 g i hlt
    have ib := ix47 gy i hlt
    have ca := HXc.out.cell i (by rw [HL.out]; exact hlt)
    have cb := HYc.out.cell i (by rw [HYL.out]; exact hlt)
    obtain ⟨z, hz⟩ : ∃ z, z = (gx x0 i + gx y i) % 4294967296 := ⟨_, rfl⟩
    have hzw : IntKind.u32.wrap (gx x0 i + gx y i) = z := by rw [hz]; simp [IntKind.wrap, IntKind.bits, IntKind.signed]
    have hz0 : 0 ≤ z := by omega
    have hz1 : z < 4294967296 := by omega
    have HZ := Aside0.mk hz
    clear hz
    go_wp2
    go_quiet (fail)
    clear ia ib ca cb hzw
    have HXd := Aside0.mk (HXc.out.drewN nq)
    have HYd := Aside0.mk (HYc.out.drewN nq)
    have HOd := Aside0.mk (HOc.out.drewN nq)
    have HBd := Aside0.mk (pw_below_drewN HBc.out nq)
    go_wp2
    go_loopw [17] (fun v wr => ∃ j : Nat, j ≤ 4 ∧ v = .int .i64 j ∧ Aside0 (Arr .u32 wr g 47 x0) ∧ Aside0 (Arr .u32 wr gy 47 y) ∧ Aside0 (Arr .u8 wr go 5 (outs x0 y (4 * i + j))) ∧ Aside0 (Below w.heap.size w wr)) (fun v _ => 4 - (intOf v).toNat)
    case atStart => exact ⟨0, by omega, rfl, HXd, HYd, HOd, HBd⟩
    case round =>
    obtain ⟨j, hj, rfl, HXe, HYe, HOe, HBe⟩ := hrel
    by_cases hlj : j < 4
    · have t2 : decide ((j : Int) < 4) = true := decide_eq_true (by omega)
      have ic := ixs go (4 * i + j) (by omega)
      have e1 : ((4 * i + j : Nat) : Int) = 4 * (i : Int) + (j : Int) := by omega
      rw [e1] at ic
      have co := HOe.out.cell (4 * i + j) (by rw [outs_length]; omega)
      have fo := HOe.out.frozen (4 * i + j)
      have p0 : ((0 : Int) ≤ 8 * (j : Int)) = True := eq_true (by omega)
      have p1 : (8 * (j : Int) ≤ 32) = True := eq_true (by omega)
      have hv : (Go.bits .and .u32 (z / 2 ^ (8 * j)) 255) % 256 = outByte x0 y (4 * i + j) := by
        have h4 : (4 * i + j) / 4 = i := by omega
        have h5 : (4 * i + j) % 4 = j := by omega
        unfold outByte
        rw [h4, h5, ← HZ.out]
        have : j = 0 ∨ j = 1 ∨ j = 2 ∨ j = 3 := by omega
        rcases this with rfl | rfl | rfl | rfl <;> exact and255_u32 _ (by omega) (by omega)
      have HV := Aside0.mk hv
      clear e1 hv
      go_wp2_with ((with_reducible refine gate_store (t := 5) (p := 107) rfl ?_); refine Arr.store (g := go) (k := .u8) (xs := outs x0 y (4 * i + j)) (t := 5) rfl rfl (4 * i + j) (outByte x0 y (4 * i + j)) ?hs HOe.out ?_; (case hs => (rw [← HV.out]; first | (go_simp; done) | (go_simp; rfl))); intro w5 k5 g5; have HO5 := Aside0.mk k5; have HX5 := Aside0.mk (HXe.out.grown g5 (fun e => by have := Option.some.inj e; have := HGY.out; have := HYO.out; omega)); have HY5 := Aside0.mk (HYe.out.grown g5 (fun e => by have := Option.some.inj e; have := HYO.out; omega)); have HB5 := Aside0.mk (HBe.out.grown g5 (below_size HBe.out) (fun k hk => by rw [← Option.some.inj hk]; exact HMO.out)); clear k5 g5)
      go_roundw
      case rel => first | exact ⟨j + 1, by omega, by go_num, HX5, HY5, HO5, HB5⟩ | ((repeat apply Exists.intro); exact ⟨⟨j + 1, by omega, by go_num, HX5, HY5, HO5, HB5⟩, rfl⟩)
      case measure => simp [intOf]; omega
    obtain rfl : j = 4 := by omega
    clear hj hlj
    have HOf := Aside0.mk (show Arr .u8 wr go 5 (outs x0 y (4 * (i + 1))) from HOe.out)
    go_wp2
    go_roundw
    case rel => first | exact ⟨i + 1, by omega, by go_num, HXe, HYe, HOf, HBe⟩ | ((repeat apply Exists.intro); exact ⟨⟨i + 1, by omega, by go_num, HXe, HYe, HOf, HBe⟩, rfl⟩)
    case measure => simp [intOf]; omega
  obtain rfl : i = 16 := by omega
  clear hi hlt
  have ht := HOc.out.text (P := Try.prog) (n := 64) (outs_length x0 y 64) 32 5 9 Try.underlying32 Try.underlying5 Try.underlying9 64
  go_wp2
  go_ret
  rw [← HXE.out, ← HYE.out]
  exact ⟨rfl, HBc.out⟩
end Go.Proofs.Ytocckplgjbhlbaa.Cha
