/- What chacha begins a block with, walked. Conditions: a key of 32 bytes, a nonce of 12. -/
import Derived.Test.YtocckplgjbhlbaaQuarter
namespace Go.Proofs.Ytocckplgjbhlbaa.Cha
open Go.RowKit Go.Proofs.YtocckplgjbhlbaaW.PrintWords Go.Proofs.Ytocckplgjbhlbaa.X
set_option linter.unusedVariables false
/-- Four bytes as a word, the lowest first. -/
def wordAt (s : ByteArray) (i : Nat) : Int := Go.bits .or .u32 (Go.bits .or .u32 (Go.bits .or .u32 ((bt s i) % 4294967296) ((((bt s (i + 1 : Nat)) % 4294967296) * 256) % 4294967296)) ((((bt s (i + 2 : Nat)) % 4294967296) * 65536) % 4294967296)) ((((bt s (i + 3 : Nat)) % 4294967296) * 16777216) % 4294967296)
theorem bt_extract (s : ByteArray) (i n j : Nat) (hj : j < n - i) (hn : n ≤ s.size) : bt (s.extract i n) (j : Int) = bt s ((i + j : Nat) : Int) := by
  have h1 : j < (s.extract i n).size := by rw [ByteArray.size_extract]; omega
  have h2 : i + j < s.size := by omega
  unfold bt
  rw [dif_pos (by rw [Int.toNat_natCast]; exact h1), dif_pos (by rw [Int.toNat_natCast]; exact h2)]
  simp only [Int.toNat_natCast, ByteArray.getElem_extract]
theorem word_calls (s : ByteArray) (i : Nat) (h : i + 4 ≤ s.size) (w : World) :
    Calls Try.prog 38 #[.string (s.extract i s.size)] w fun e w' => e = .returned (.int .u32 (wordAt s i)) ∧ Drawn0 w w' := by
  have hz : (s.extract i s.size).size = s.size - i := by rw [ByteArray.size_extract]; omega
  refine chacha_word.calls (s.extract i s.size) (wordAt s i) w ?_
  unfold chacha_word.f
  rw [hz, if_pos (by omega), if_pos (by omega), if_pos (by omega), if_pos (by omega)]
  have b0 := bt_extract s i s.size 0 (by omega) (by omega)
  have b1 := bt_extract s i s.size 1 (by omega) (by omega)
  have b2 := bt_extract s i s.size 2 (by omega) (by omega)
  have b3 := bt_extract s i s.size 3 (by omega) (by omega)
  have b0' : bt (s.extract i s.size) 0 = bt s ((i + 0 : Nat) : Int) := b0
  have b1' : bt (s.extract i s.size) 1 = bt s ((i + 1 : Nat) : Int) := b1
  have b2' : bt (s.extract i s.size) 2 = bt s ((i + 2 : Nat) : Int) := b2
  have b3' : bt (s.extract i s.size) 3 = bt s ((i + 3 : Nat) : Int) := b3
  rw [b0', b1', b2', b3']
  rfl
/-- The words of a text are laid into a list, from a place on. -/
def layWords (x : List Int) (p : Nat) (s : ByteArray) : Nat → List Int
  | 0 => x
  | n + 1 => (layWords x p s n).set (p + n) (wordAt s (4 * n))
theorem layWords_length (x : List Int) (p : Nat) (s : ByteArray) : ∀ n, (layWords x p s n).length = x.length
  | 0 => rfl
  | n + 1 => by rw [layWords, List.length_set, layWords_length x p s n]
def begun (key nonce : ByteArray) (n : Int) : List Int := layWords ((layWords ([1634760805, 857760878, 2036477234, 1797285236] ++ List.replicate 12 0) 4 key 8).set 12 n) 13 nonce 3
theorem begun_length (key nonce : ByteArray) (n : Int) : (begun key nonce n).length = 16 := by
  unfold begun
  rw [layWords_length, List.length_set, layWords_length]
  rfl
theorem info48 : (Try.prog.info? 48).map (fun i => i.size) = some 16 := by kernel_rfl
set_option maxRecDepth 100000 in
set_option maxHeartbeats 2000000 in
theorem begin_calls (key nonce : ByteArray) (n : Int) (hk : key.size = 32) (hn : nonce.size = 12) (w : World) :
    Calls Try.prog 26 #[.string key, .string nonce, .int .u32 n] w fun e w' => e = .returned (agg .u32 (begun key nonce n)) ∧ Below w.heap.size w w' := by
  have HK := Aside0.mk hk
  have HN := Aside0.mk hn
  clear hk hn
  go_enter Try.func26, Try.ntmps26
  go_wp2_with (first | ((with_reducible refine gate_dst (N := 6) rfl ?_); refine box_event ?hg (N := 6) ?hd (cs := ((List.replicate 16 (0 : Int)).map (Value.int .u32)).toArray) (t := 48) ?hr ?_; (case hd => rfl); (case hg => rfl); (case hr => first | (go_simp; done) | (go_simp; rfl)); intro gr er w1 kr br; have HR := Aside0.mk (show Arr .u32 w1 gr 48 (List.replicate 16 0) from kr); have HB := Aside0.mk br; have HM := Aside0.mk (show w.heap.size ≤ gr from by rw [er]; exact Nat.le_refl _); clear kr br er) | ((with_reducible refine gate_dst (N := 7) rfl ?_); refine box_event ?hg (N := 7) ?hd (cs := ((List.replicate 16 (0 : Int)).map (Value.int .u32)).toArray) (t := 48) ?hr ?_; (case hd => rfl); (case hg => rfl); (case hr => first | (go_simp; done) | (go_simp; rfl)); intro g eg w2 k2 b2; have HA := Aside0.mk (show Arr .u32 w2 g 48 (List.replicate 16 0) from k2); have HR2 := Aside0.mk (HR.out.below b2); have HB2 := Aside0.mk (below_step HB.out b2); have HG := Aside0.mk (show w.heap.size ≤ g from by rw [eg]; exact below_size HB.out); have HD := Aside0.mk (show g ≠ gr from by have := HR.out.lt; omega); clear k2 b2 eg) | ((with_reducible refine gate_store (t := 48) (p := 7) rfl ?_); refine Arr.put (k := .u32) (g := g) (t := 48) (xs := List.replicate 16 0) (ys := [1634760805, 857760878, 2036477234, 1797285236] ++ List.replicate 12 0) rfl 48 _ _ rfl rfl rfl HA.out 16 (by kernel_rfl) rfl rfl ?_; intro w3 k3 g3; have HA3 := Aside0.mk k3; have HR3 := Aside0.mk (HR2.out.grown g3 (fun e => HD.out (Option.some.inj e).symm)); have HB3 := Aside0.mk (HB2.out.grown g3 (below_size HB2.out) (fun k hk => by rw [← Option.some.inj hk]; exact HG.out)); clear k3 g3))
  go_loopw [11] (fun v wr => ∃ i : Nat, i ≤ 8 ∧ v = .int .i64 i ∧ Aside0 (Arr .u32 wr g 48 (layWords ([1634760805, 857760878, 2036477234, 1797285236] ++ List.replicate 12 0) 4 key i)) ∧ Aside0 (Arr .u32 wr gr 48 (List.replicate 16 0)) ∧ Aside0 (Below w.heap.size w wr)) (fun v _ => 8 - (intOf v).toNat)
  case atStart => exact ⟨0, by omega, rfl, HA3, HR3, HB3⟩
  case round =>
  obtain ⟨i, hi, rfl, HA11, HR11, HB11⟩ := hrel
  by_cases hlt : i < 8
  · have t1 : decide ((i : Int) < 8) = true := decide_eq_true (by omega)
    have f1 : ((0 : Int) ≤ 4 * (i : Int)) = True := eq_true (by omega)
    have f2 : (4 * (i : Int) ≤ (key.size : Int)) = True := eq_true (by rw [HK.out]; omega)
    have ix := ix48 g (4 + i) (by omega)
    have e2 : ((4 + i : Nat) : Int) = 4 + (i : Int) := by omega
    rw [e2] at ix
    have hL : (layWords ([1634760805, 857760878, 2036477234, 1797285236] ++ List.replicate 12 0) 4 key i).length = 16 := by rw [layWords_length]; rfl
    have cp := HA11.out.cell (4 + i) (by rw [hL]; omega)
    have fp := HA11.out.frozen (4 + i)
    have hw := Aside0.mk (fun W => word_calls key (4 * i) (by rw [HK.out]; omega) W)
    clear e2 hL
    go_wp2_with (first | (go_at_call 38; (with_reducible refine (hw.out _).mono ?_); rintro e w' ⟨rfl, ⟨nd, rfl⟩⟩) | ((with_reducible refine gate_store (t := 46) (p := 21) rfl ?_); refine Arr.store (g := g) (k := .u32) (xs := layWords ([1634760805, 857760878, 2036477234, 1797285236] ++ List.replicate 12 0) 4 key i) (t := 48) rfl rfl (4 + i) (wordAt key (4 * i)) ?hs (HA11.out.drewN _) ?_; (case hs => first | (go_simp; done) | (go_simp; rfl)); intro w4 k4 g4; have HA4 := Aside0.mk k4; have HR4 := Aside0.mk ((HR11.out.drewN _).grown g4 (fun e => HD.out (Option.some.inj e).symm)); have HB4 := Aside0.mk ((pw_below_drewN HB11.out _).grown g4 (below_size (pw_below_drewN HB11.out _)) (fun k hk => by rw [← Option.some.inj hk]; exact HG.out)); clear k4 g4))
    go_roundw
    case rel => exact ⟨i + 1, by omega, by go_num, HA4, HR4, HB4⟩
    case measure => simp [intOf]; omega
  obtain rfl : i = 8 := by omega
  clear hi hlt
  have ix12 : ∀ W, (Instr.indexAt 48 (.pointer (some ⟨g, 0, none⟩)) (.int .i64 12)).run Try.prog W = .ok (.pointer (some ⟨g, 12, none⟩)) W := fun W => ix48 g 12 (by omega) W
  have cp := HA11.out.cell 12 (by rw [layWords_length]; decide)
  have fp := HA11.out.frozen 12
  go_wp2_with ((with_reducible refine gate_store (t := 46) (p := 24) rfl ?_); refine Arr.store (g := g) (k := .u32) (xs := layWords ([1634760805, 857760878, 2036477234, 1797285236] ++ List.replicate 12 0) 4 key 8) (t := 48) rfl rfl 12 n ?hs HA11.out ?_; (case hs => first | (go_simp; done) | (go_simp; rfl)); intro w5 k5 g5; have HA5 := Aside0.mk k5; have HR5 := Aside0.mk (HR11.out.grown g5 (fun e => HD.out (Option.some.inj e).symm)); have HB5 := Aside0.mk (HB11.out.grown g5 (below_size HB11.out) (fun k hk => by rw [← Option.some.inj hk]; exact HG.out)); clear k5 g5)
  clear ix12 cp fp
  go_loopw [25] (fun v wr => ∃ i : Nat, i ≤ 3 ∧ v = .int .i64 i ∧ Aside0 (Arr .u32 wr g 48 (layWords ((layWords ([1634760805, 857760878, 2036477234, 1797285236] ++ List.replicate 12 0) 4 key 8).set 12 n) 13 nonce i)) ∧ Aside0 (Arr .u32 wr gr 48 (List.replicate 16 0)) ∧ Aside0 (Below w.heap.size w wr)) (fun v _ => 3 - (intOf v).toNat)
  case atStart => exact ⟨0, by omega, rfl, HA5, HR5, HB5⟩
  case round =>
  obtain ⟨i, hi, rfl, HA25, HR25, HB25⟩ := hrel
  by_cases hlt : i < 3
  · have t1 : decide ((i : Int) < 3) = true := decide_eq_true (by omega)
    have f1 : ((0 : Int) ≤ 4 * (i : Int)) = True := eq_true (by omega)
    have f2 : (4 * (i : Int) ≤ (nonce.size : Int)) = True := eq_true (by rw [HN.out]; omega)
    have ix := ix48 g (13 + i) (by omega)
    have e2 : ((13 + i : Nat) : Int) = 13 + (i : Int) := by omega
    rw [e2] at ix
    have hL : (layWords ((layWords ([1634760805, 857760878, 2036477234, 1797285236] ++ List.replicate 12 0) 4 key 8).set 12 n) 13 nonce i).length = 16 := by rw [layWords_length]; rw [List.length_set, layWords_length]; rfl
    have cp := HA25.out.cell (13 + i) (by rw [hL]; omega)
    have fp := HA25.out.frozen (13 + i)
    have hw := Aside0.mk (fun W => word_calls nonce (4 * i) (by rw [HN.out]; omega) W)
    clear e2 hL
    go_wp2_with (first | (go_at_call 38; (with_reducible refine (hw.out _).mono ?_); rintro e w' ⟨rfl, ⟨nd, rfl⟩⟩) | ((with_reducible refine gate_store (t := 46) (p := 35) rfl ?_); refine Arr.store (g := g) (k := .u32) (xs := layWords ((layWords ([1634760805, 857760878, 2036477234, 1797285236] ++ List.replicate 12 0) 4 key 8).set 12 n) 13 nonce i) (t := 48) rfl rfl (13 + i) (wordAt nonce (4 * i)) ?hs (HA25.out.drewN _) ?_; (case hs => first | (go_simp; done) | (go_simp; rfl)); intro w4 k4 g4; have HA4 := Aside0.mk k4; have HR4 := Aside0.mk ((HR25.out.drewN _).grown g4 (fun e => HD.out (Option.some.inj e).symm)); have HB4 := Aside0.mk ((pw_below_drewN HB25.out _).grown g4 (below_size (pw_below_drewN HB25.out _)) (fun k hk => by rw [← Option.some.inj hk]; exact HG.out)); clear k4 g4))
    go_roundw
    case rel => exact ⟨i + 1, by omega, by go_num, HA4, HR4, HB4⟩
    case measure => simp [intOf]; omega
  obtain rfl : i = 3 := by omega
  clear hi hlt
  have hL : (begun key nonce n).length = 16 := begun_length key nonce n
  have HL := Aside0.mk hL
  clear hL
  have HAZ := Aside0.mk (show Arr .u32 wr g 48 (begun key nonce n) from HA25.out)
  go_wp2_with (first | ((with_reducible refine gate_dst (N := 37) rfl ?_); refine Arr.load (k := .u32) (xs := begun key nonce n) (g := g) (t := 48) rfl 48 _ rfl rfl HAZ.out _ Try.underlying48 rfl 16 (by kernel_rfl) HL.out ?_) | ((with_reducible refine gate_store (t := 48) (p := 6) rfl ?_); refine Arr.put (k := .u32) (g := gr) (t := 48) (xs := List.replicate 16 0) (ys := begun key nonce n) rfl 48 _ _ rfl rfl rfl HR25.out 16 (by kernel_rfl) rfl HL.out ?_; intro w9 k9 g9; have H9 := Aside0.mk k9; have G9 := Aside0.mk g9; clear k9 g9))
  refine bodyPost_ret (v := agg .u32 (begun key nonce n)) (results_cell_row rfl _ _ gr 48 _ _ _ rfl H9.out Try.underlying48 rfl ?_) rfl ⟨rfl, ?_⟩
  · rw [info48]
    simp [HL.out]
  · exact HB25.out.grown G9.out (below_size HB25.out) (fun k hk => by rw [← Option.some.inj hk]; exact HM.out)
end Go.Proofs.Ytocckplgjbhlbaa.Cha
