/- poly's tag, walked. Conditions: the sum lies in one block, the key has 32 bytes. -/
import Derived.Test.YtocckplgjbhlbaaMid
namespace Go.Proofs.Ytocckplgjbhlbaa.Pol
open Go.RowKit Go.Proofs.YtocckplgjbhlbaaW.PrintWords Go.Proofs.Ytocckplgjbhlbaa.Cha Go.Proofs.Ytocckplgjbhlbaa.X
set_option linter.unusedVariables false
/-- The words of a whole number. -/
def lo64 (y : List Int) : Int := Go.bits .or .u64 (Go.bits .or .u64 (gx y 0) (IntKind.u64.wrap (gx y 1 * 67108864))) (IntKind.u64.wrap (gx y 2 * 4503599627370496))
def hi64 (y : List Int) : Int := Go.bits .or .u64 (Go.bits .or .u64 (gx y 2 / 4096) (IntKind.u64.wrap (gx y 3 * 16384))) (IntKind.u64.wrap (gx y 4 * 1099511627776))
def half (y : List Int) (i : Nat) : Int := if i ≥ 8 then hi64 y else lo64 y
/-- A byte of the sum, with what was carried. -/
def tsum (y : List Int) (key : ByteArray) (c : Int) (i : Nat) : Int := IntKind.u64.wrap (c + IntKind.u64.wrap (Go.bits .and .u64 (half y i / 2 ^ (8 * (i % 8))) 255 + IntKind.u64.wrap (bt key (16 + (i : Int)))))
def tcar (y : List Int) (key : ByteArray) : Nat → Int
  | 0 => 0
  | i + 1 => tsum y key (tcar y key i) i / 256
def tout (y : List Int) (key : ByteArray) : Nat → List Int
  | 0 => List.replicate 16 0
  | i + 1 => (tout y key i).set i (IntKind.u8.wrap (tsum y key (tcar y key i) i))
theorem tout_length (y : List Int) (key : ByteArray) : ∀ i, (tout y key i).length = 16
  | 0 => rfl
  | i + 1 => by rw [tout, List.length_set, tout_length y key i]
/-- The tag of a sum. -/
def tagged (xs : List Int) (key : ByteArray) : ByteArray := strOfNums (tout (wholed ((xs.drop 5).take 5)) key 16)
theorem ixs16 (g i : Nat) (h : i < 16) (W : World) : (Instr.indexAt 32 (.slice (some ⟨g, 0, none⟩) 16 16) (.int .i64 (i : Int))).run Try.prog W = .ok (.pointer (some ⟨g, i, none⟩)) W := by
  have := ixo g 0 16 16 i h W
  rw [Nat.zero_add] at this
  exact this
set_option maxRecDepth 100000 in
set_option maxHeartbeats 4000000 in
theorem tag_calls (g t : Nat) (xs : List Int) (hx : xs.length = 10) (key : ByteArray) (hk : key.size = 32) (w : World) (h : Arr .u64 w g t xs) :
    Calls Try.prog 33 #[.pointer (some ⟨g, 0, none⟩), .string key] w fun e w' => e = .returned (.string (tagged xs key)) ∧ Below w.heap.size w w' := by
  have HX := Aside0.mk h
  have HK := Aside0.mk hk
  clear h hk
  have HL := Aside0.mk (show ((xs.drop 5).take 5).length = 5 from by simp [hx])
  have HLo := Aside0.mk (show 5 + 5 ≤ xs.length from by omega)
  obtain ⟨y, hy⟩ : ∃ y, y = wholed ((xs.drop 5).take 5) := ⟨_, rfl⟩
  have HYL := Aside0.mk (show y.length = 5 from by rw [hy, wholed_length]; exact HL.out)
  have HW := Aside0.mk (fun W => whole_calls ((xs.drop 5).take 5) HL.out W)
  rw [← hy] at HW
  have HYE := Aside0.mk hy
  clear hy hx
  obtain ⟨lo, hlo⟩ : ∃ lo, Go.bits .or .u64 (Go.bits .or .u64 (gx y 0) (IntKind.u64.wrap (gx y 1 * 67108864))) (IntKind.u64.wrap (gx y 2 * 4503599627370496)) = lo := ⟨_, rfl⟩
  obtain ⟨hi, hhi⟩ : ∃ hi, Go.bits .or .u64 (Go.bits .or .u64 (gx y 2 / 4096) (IntKind.u64.wrap (gx y 3 * 16384))) (IntKind.u64.wrap (gx y 4 * 1099511627776)) = hi := ⟨_, rfl⟩
  have HLE := Aside0.mk (show lo64 y = lo from hlo)
  have HHE := Aside0.mk (show hi64 y = hi from hhi)
  obtain ⟨ii, hi0, hz0, hz1, hz2⟩ := info_parts info5
  have HMK := Aside0.mk (fun W => run_make_u8 (P := Try.prog) 32 5 ii Try.underlying32 hi0 hz0 hz1 hz2 16 (by omega) W)
  clear hi0 hz0 hz1 hz2
  go_enter Try.func33, Try.ntmps33
  go_wp2_with (first | ((with_reducible refine gate_dst (N := 15) rfl ?_); refine Arr.loadMid (k := .u64) (xs := xs) (g := g) (t := t) rfl 68 _ rfl 5 rfl HX.out _ Try.underlying68 rfl 5 (by kernel_rfl) HLo.out ?_) | (go_at_call 44; (with_reducible refine (HW.out _).mono ?_); rintro e w1 ⟨rfl, b1⟩; have HB1 := Aside0.mk b1; clear b1) | ((with_reducible refine gate_dst (N := 5) rfl ?_); refine box_event ?hg (N := 5) ?hd (cs := ((List.replicate 5 (0 : Int)).map (Value.int .u64)).toArray) (t := 68) ?hr ?_; (case hd => rfl); (case hg => rfl); (case hr => first | (go_simp; done) | (go_simp; rfl)); intro gy eg w2 k2 b2; have HY2 := Aside0.mk (show Arr .u64 w2 gy 68 (List.replicate 5 0) from k2); have HB2 := Aside0.mk (below_step HB1.out b2); have HGY := Aside0.mk (show w.heap.size ≤ gy from by rw [eg]; exact below_size HB1.out); clear k2 b2 eg) | ((with_reducible refine gate_store (t := 68) (p := 5) rfl ?_); refine Arr.put (k := .u64) (g := gy) (t := 68) (xs := List.replicate 5 0) (ys := y) rfl 68 _ _ rfl rfl rfl HY2.out 5 (by kernel_rfl) rfl HYL.out ?_; intro w4 k4 g4; have i0 : ∀ W, (Instr.indexAt 68 (.pointer (some ⟨gy, 0, none⟩)) (.int .i64 0)).run Try.prog W = .ok (.pointer (some ⟨gy, 0, none⟩)) W := fun W => (by have := ix68 gy 0 0 (by omega) W; rw [Nat.zero_add] at this; exact this); have c0 := k4.cell 0 (by rw [HYL.out]; omega); have i1 : ∀ W, (Instr.indexAt 68 (.pointer (some ⟨gy, 0, none⟩)) (.int .i64 1)).run Try.prog W = .ok (.pointer (some ⟨gy, 1, none⟩)) W := fun W => (by have := ix68 gy 0 1 (by omega) W; rw [Nat.zero_add] at this; exact this); have c1 := k4.cell 1 (by rw [HYL.out]; omega); have i2 : ∀ W, (Instr.indexAt 68 (.pointer (some ⟨gy, 0, none⟩)) (.int .i64 2)).run Try.prog W = .ok (.pointer (some ⟨gy, 2, none⟩)) W := fun W => (by have := ix68 gy 0 2 (by omega) W; rw [Nat.zero_add] at this; exact this); have c2 := k4.cell 2 (by rw [HYL.out]; omega); have i3 : ∀ W, (Instr.indexAt 68 (.pointer (some ⟨gy, 0, none⟩)) (.int .i64 3)).run Try.prog W = .ok (.pointer (some ⟨gy, 3, none⟩)) W := fun W => (by have := ix68 gy 0 3 (by omega) W; rw [Nat.zero_add] at this; exact this); have c3 := k4.cell 3 (by rw [HYL.out]; omega); have i4 : ∀ W, (Instr.indexAt 68 (.pointer (some ⟨gy, 0, none⟩)) (.int .i64 4)).run Try.prog W = .ok (.pointer (some ⟨gy, 4, none⟩)) W := fun W => (by have := ix68 gy 0 4 (by omega) W; rw [Nat.zero_add] at this; exact this); have c4 := k4.cell 4 (by rw [HYL.out]; omega); have HY4 := Aside0.mk k4; have HB4 := Aside0.mk (HB2.out.grown g4 (below_size HB2.out) (fun k hk => by rw [← Option.some.inj hk]; exact HGY.out)); clear k4 g4) | ((with_reducible refine gate_dst (N := 38) rfl ?_); refine Arr.make (k := .u8) rfl 32 5 16 _ _ rfl rfl rfl HMK.out ?_; intro go eg w5 k5 b5; have HO := Aside0.mk (show Arr .u8 w5 go 5 (tout y key 0) from k5); have HB5 := Aside0.mk (below_step HB4.out b5); have HGO := Aside0.mk (show w.heap.size ≤ go from by rw [eg]; exact below_size HB4.out); clear k5 b5 eg i0 i1 i2 i3 i4 c0 c1 c2 c3 c4))
  clear hlo hhi
  go_loopw [41, 9] (fun v u wr => ∃ i : Nat, i ≤ 16 ∧ v = .int .i64 i ∧ u = .int .u64 (tcar y key i) ∧ Aside0 (Arr .u8 wr go 5 (tout y key i)) ∧ Aside0 (Below w.heap.size w wr)) (fun v _ _ => 16 - (intOf v).toNat)
  case atStart => exact ⟨0, by omega, rfl, rfl, HO, HB5⟩
  case round =>
  obtain ⟨i, hi_, rfl, rfl, HOi, HBi⟩ := hrel
  by_cases hlt : i < 16
  · have t1 : decide ((i : Int) < 16) = true := decide_eq_true (by omega)
    obtain ⟨c, hc⟩ : ∃ c, c = tcar y key i := ⟨_, rfl⟩
    obtain ⟨z, hz⟩ : ∃ z, z = tout y key i := ⟨_, rfl⟩
    rw [← hz] at HOi
    rw [← hc]
    have HCE := Aside0.mk hc
    have HZE := Aside0.mk hz
    have hzl : z.length = 16 := by rw [hz, tout_length]
    clear hc hz
    obtain ⟨m, hm⟩ : ∃ m, m = i % 8 := ⟨_, rfl⟩
    have HME := Aside0.mk hm
    have hm8 : m < 8 := by omega
    have z2 : (i : Int).tmod 8 = (m : Int) := by rw [Int.tmod_eq_emod_of_nonneg (by omega)]; omega
    have z2' : (i : Int) % 8 = (m : Int) := by omega
    have z3 : IntKind.i64.wrap (m : Int) = (m : Int) := IntWalk.i64_in _ (by omega)
    have z4 : IntKind.i64.wrap (8 * (m : Int)) = 8 * (m : Int) := IntWalk.i64_in _ (by omega)
    have z6 : IntKind.i64.wrap (16 + (i : Int)) = 16 + (i : Int) := IntWalk.i64_in _ (by omega)
    have p0 : ((0 : Int) ≤ 8 * (m : Int)) = True := eq_true (by omega)
    have p1 : (8 * (m : Int) ≤ 64) = True := eq_true (by omega)
    have z5 : (8 * (m : Int)).toNat = 8 * m := by omega
    have p2 : ((0 : Int) ≤ 16 + (i : Int)) = True := eq_true (by omega)
    have p3 : (16 + (i : Int) < (key.size : Int)) = True := eq_true (by have := HK.out; omega)
    have hxb := bt_at key (16 + (i : Int))
    have ia := ixs16 go i hlt
    have ca := HOi.out.cell i (by omega)
    have fa := HOi.out.frozen i
    clear hm
    by_cases hge : i ≥ 8
    · have t3 : decide ((i : Int) ≥ 8) = true := decide_eq_true (by omega)
      have t3' : decide ((8 : Int) ≤ (i : Int)) = true := decide_eq_true (by omega)
      obtain ⟨s, hs⟩ : ∃ s, IntKind.u64.wrap (c + IntKind.u64.wrap (Go.bits .and .u64 (hi / 2 ^ (8 * m)) 255 + IntKind.u64.wrap (bt key (16 + (i : Int))))) = s := ⟨_, rfl⟩
      have HSE := Aside0.mk (show tsum y key (tcar y key i) i = s from by rw [tsum, ← HCE.out, ← HME.out, half, if_pos hge, HHE.out]; exact hs)
      go_wp2
      go_quiet (fail)
      have HOq := Aside0.mk (HOi.out.drewN nq)
      have HBq := Aside0.mk (pw_below_drewN HBi.out nq)
      have ca := HOq.out.cell i (by omega)
      have fa := HOq.out.frozen i
      have hcr : tcar y key (i + 1) = s / 256 := by rw [tcar, HSE.out]
      have HCR := Aside0.mk hcr
      clear hcr
      go_wp2_with ((with_reducible refine gate_store (t := 5) (p := 66) rfl ?_); refine Arr.store (g := go) (k := .u8) (xs := z) (t := 5) rfl rfl i (IntKind.u8.wrap s) ?hs HOq.out ?_; (case hs => (first | (go_simp; done) | (go_simp; rfl))); intro w6 k6 g6; have HO6 := Aside0.mk (show Arr .u8 w6 go 5 (tout y key (i + 1)) from by rw [tout, ← HZE.out, HSE.out]; exact k6); have HB6 := Aside0.mk (HBq.out.grown g6 (below_size HBq.out) (fun k hk => by rw [← Option.some.inj hk]; exact HGO.out)); clear k6 g6)
      go_roundw
      case rel => first | exact ⟨i + 1, by omega, by go_num, by rw [HCR.out], HO6, HB6⟩ | ((repeat apply Exists.intro); exact ⟨⟨i + 1, by omega, by go_num, by rw [HCR.out], HO6, HB6⟩, rfl⟩)
      case measure => simp [intOf]; omega
    · have t3 : decide ((i : Int) ≥ 8) = false := decide_eq_false (by omega)
      have t3' : decide ((8 : Int) ≤ (i : Int)) = false := decide_eq_false (by omega)
      obtain ⟨s, hs⟩ : ∃ s, IntKind.u64.wrap (c + IntKind.u64.wrap (Go.bits .and .u64 (lo / 2 ^ (8 * m)) 255 + IntKind.u64.wrap (bt key (16 + (i : Int))))) = s := ⟨_, rfl⟩
      have HSE := Aside0.mk (show tsum y key (tcar y key i) i = s from by rw [tsum, ← HCE.out, ← HME.out, half, if_neg hge, HLE.out]; exact hs)
      go_wp2
      go_quiet (fail)
      have HOq := Aside0.mk (HOi.out.drewN nq)
      have HBq := Aside0.mk (pw_below_drewN HBi.out nq)
      have ca := HOq.out.cell i (by omega)
      have fa := HOq.out.frozen i
      have hcr : tcar y key (i + 1) = s / 256 := by rw [tcar, HSE.out]
      have HCR := Aside0.mk hcr
      clear hcr
      go_wp2_with ((with_reducible refine gate_store (t := 5) (p := 66) rfl ?_); refine Arr.store (g := go) (k := .u8) (xs := z) (t := 5) rfl rfl i (IntKind.u8.wrap s) ?hs HOq.out ?_; (case hs => (first | (go_simp; done) | (go_simp; rfl))); intro w6 k6 g6; have HO6 := Aside0.mk (show Arr .u8 w6 go 5 (tout y key (i + 1)) from by rw [tout, ← HZE.out, HSE.out]; exact k6); have HB6 := Aside0.mk (HBq.out.grown g6 (below_size HBq.out) (fun k hk => by rw [← Option.some.inj hk]; exact HGO.out)); clear k6 g6)
      go_roundw
      case rel => first | exact ⟨i + 1, by omega, by go_num, by rw [HCR.out], HO6, HB6⟩ | ((repeat apply Exists.intro); exact ⟨⟨i + 1, by omega, by go_num, by rw [HCR.out], HO6, HB6⟩, rfl⟩)
      case measure => simp [intOf]; omega
  obtain rfl : i = 16 := by omega
  clear hi_ hlt
  have ht := HOi.out.text (P := Try.prog) (n := 16) (tout_length y key 16) 32 5 9 Try.underlying32 Try.underlying5 Try.underlying9 16
  go_wp2
  go_ret
  rw [tagged, ← HYE.out]
  exact ⟨rfl, HBi.out⟩
end Go.Proofs.Ytocckplgjbhlbaa.Pol
