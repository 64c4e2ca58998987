/- poly's all, walked. Conditions: the sum lies in one block, the bytes in another. -/
import Derived.Test.YtocckplgjbhlbaaAdd
namespace Go.Proofs.Ytocckplgjbhlbaa.Pol
open Go.RowKit Go.Proofs.YtocckplgjbhlbaaW.PrintWords Go.Proofs.Ytocckplgjbhlbaa.Cha
set_option linter.unusedVariables false
theorem slh (g o r cr m : Nat) (h : m ≤ cr) (W : World) : (Instr.slice 32 (.slice (some ⟨g, o, none⟩) r cr) none (some (.int .i64 (m : Int))) none).run Try.prog W = .ok (.slice (some ⟨g, o, none⟩) m cr) W := by
  have he : Try.prog.elem 32 = 5 := by kernel_rfl
  have hs : (sizeOf 5).run Try.prog W = .ok 1 W := by kernel_rfl
  rw [run_slice_h (P := Try.prog) (w := W) 32 (some ⟨g, o, none⟩) r cr (by rw [he]; exact Try.underlying32) .i64 m (by omega) (by omega)]
  rw [he, hs]
  simp only [Result.andThen, sliced, Int.toNat_natCast, Option.map, Nat.zero_mul, Nat.sub_zero]
  have : (⟨g, o, none⟩ : Addr).add 0 = ⟨g, o, none⟩ := by simp [Addr.add]
  rw [this]
  split <;> rfl
/-- The sum behind q blocks of n bytes. -/
def alled (xs bs : List Int) (o n : Nat) : Nat → List Int
  | 0 => xs
  | q + 1 => added (alled xs bs o n q) bs (o + 16 * q) (min (n - 16 * q) 16)
theorem alled_length (xs bs : List Int) (o n : Nat) : ∀ q, (alled xs bs o n q).length = xs.length
  | 0 => rfl
  | q + 1 => by rw [alled, added_length, alled_length xs bs o n q]
set_option maxRecDepth 100000 in
set_option maxHeartbeats 4000000 in
theorem all_calls (g t : Nat) (xs : List Int) (hx : xs.length = 10) (gb o n c : Nat) (bs : List Int) (ho : o + n ≤ bs.length) (hc : n ≤ c) (hne : gb ≠ g) (w : World) (h : Arr .u64 w g t xs) (hb : Bts w gb bs) :
    Calls Try.prog 32 #[.pointer (some ⟨g, 0, none⟩), .slice (some ⟨gb, o, none⟩) n c] w fun e w' => e = .returned (.tuple #[]) ∧ Arr .u64 w' g t (alled xs bs o n ((n + 15) / 16)) ∧ w.grownBy w' (some g) := by
  have HX := Aside0.mk h
  have HB := Aside0.mk hb
  clear h hb
  go_enter Try.func32, Try.ntmps32
  go_wp2
  go_loopw [1] (fun v wr => ∃ q d p r cr : Nat, d + r = n ∧ d + cr = c ∧ v = .slice (some ⟨gb, p, none⟩) r cr ∧ Aside0 (0 < r → d = 16 * q ∧ p = o + d) ∧ Aside0 (r = 0 → q = (n + 15) / 16) ∧ Aside0 (Bts wr gb bs) ∧ Aside0 (Arr .u64 wr g t (alled xs bs o n q)) ∧ Aside0 (w.grownBy wr (some g))) (fun v _ => match v with | .slice _ r _ => r | _ => 0)
  case atStart => exact ⟨0, 0, o, n, c, by omega, by omega, rfl, ⟨fun _ => ⟨rfl, rfl⟩⟩, ⟨fun _ => by omega⟩, HB, HX, ⟨grown_refl _ _⟩⟩
  case round =>
  obtain ⟨q, d, p, r, cr, hd, hcr, rfl, HD, HQ, HBi, HXi, HGi⟩ := hrel
  by_cases hlt : 0 < r
  · have t1 : decide ((r : Int) > 0) = true := decide_eq_true (by omega)
    have t1' : decide ((0 : Int) < (r : Int)) = true := decide_eq_true (by omega)
    obtain ⟨hd1, hp⟩ := HD.out hlt
    subst hp
    subst hd1
    have hlz := alled_length xs bs o n q
    rw [hx] at hlz
    obtain ⟨z, hz⟩ : ∃ z, z = alled xs bs o n q := ⟨_, rfl⟩
    rw [← hz] at HXi hlz
    have HZE := Aside0.mk hz
    clear hz
    by_cases h16 : r ≤ 16
    · have t3 : ((r : Int) ≤ 16) = True := eq_true (by omega)
      have t4 : (r ≤ 16) = True := eq_true (by omega)
      have HA := Aside0.mk (fun W hW hb => add_calls g t z hlz gb (o + 16 * q) r cr bs (by omega) (by omega) hne W hW hb)
      have sh : ∀ W, (Instr.slice 32 (.slice (some ⟨gb, o + 16 * q, none⟩) r cr) none (some (.int .i64 (r : Int))) none).run Try.prog W = .ok (.slice (some ⟨gb, o + 16 * q, none⟩) r cr) W := fun W => slh gb (o + 16 * q) r cr r (by omega) W
      have sl : ∀ W, (Instr.slice 32 (.slice (some ⟨gb, o + 16 * q, none⟩) r cr) (some (.int .i64 (r : Int))) none none).run Try.prog W = .ok (.slice (some ⟨gb, if cr = r then o + 16 * q else o + 16 * q + r, none⟩) (r - r) (cr - r)) W := fun W => slo gb (o + 16 * q) r cr r (by omega) W
      go_wp2_with (go_at_call 43; (with_reducible refine (HA.out _ HXi.out HBi.out).mono ?_); rintro e w6 ⟨rfl, k6, g6⟩; have HX6 := Aside0.mk (show Arr .u64 w6 g t (alled xs bs o n (q + 1)) from by rw [alled, ← HZE.out, show min (n - 16 * q) 16 = r by omega]; exact k6); have HB6 := Aside0.mk (HBi.out.grown g6 (fun e => hne (Option.some.inj e))); have HG6 := Aside0.mk (grown_trans HGi.out g6); clear k6 g6)
      go_roundw
      case rel => first | exact ⟨q + 1, 16 * q + r, _, 0, cr - r, by omega, by omega, rfl, ⟨fun h => ⟨by omega, by first | omega | (exfalso; omega) | (rw [if_neg (by omega)]; omega)⟩⟩, ⟨fun h => by omega⟩, HB6, HX6, HG6⟩ | ((repeat apply Exists.intro); exact ⟨⟨q + 1, 16 * q + r, _, 0, cr - r, by omega, by omega, rfl, ⟨fun h => ⟨by omega, by first | omega | (exfalso; omega) | (rw [if_neg (by omega)]; omega)⟩⟩, ⟨fun h => by omega⟩, HB6, HX6, HG6⟩, rfl⟩)
      case measure => (first | (show r - r < r; omega) | (simp; omega))
    · have t3 : ((r : Int) ≤ 16) = False := eq_false (by omega)
      have t4 : (r ≤ 16) = False := eq_false (by omega)
      have HA := Aside0.mk (fun W hW hb => add_calls g t z hlz gb (o + 16 * q) 16 cr bs (by omega) (by omega) hne W hW hb)
      have sh : ∀ W, (Instr.slice 32 (.slice (some ⟨gb, o + 16 * q, none⟩) r cr) none (some (.int .i64 16)) none).run Try.prog W = .ok (.slice (some ⟨gb, o + 16 * q, none⟩) 16 cr) W := fun W => slh gb (o + 16 * q) r cr 16 (by omega) W
      have sl : ∀ W, (Instr.slice 32 (.slice (some ⟨gb, o + 16 * q, none⟩) r cr) (some (.int .i64 16)) none none).run Try.prog W = .ok (.slice (some ⟨gb, if cr = 16 then o + 16 * q else o + 16 * q + 16, none⟩) (r - 16) (cr - 16)) W := fun W => slo gb (o + 16 * q) r cr 16 (by omega) W
      go_wp2_with (go_at_call 43; (with_reducible refine (HA.out _ HXi.out HBi.out).mono ?_); rintro e w6 ⟨rfl, k6, g6⟩; have HX6 := Aside0.mk (show Arr .u64 w6 g t (alled xs bs o n (q + 1)) from by rw [alled, ← HZE.out, show min (n - 16 * q) 16 = 16 by omega]; exact k6); have HB6 := Aside0.mk (HBi.out.grown g6 (fun e => hne (Option.some.inj e))); have HG6 := Aside0.mk (grown_trans HGi.out g6); clear k6 g6)
      go_roundw
      case rel => first | exact ⟨q + 1, 16 * q + 16, _, r - 16, cr - 16, by omega, by omega, rfl, ⟨fun h => ⟨by omega, by first | omega | (exfalso; omega) | (rw [if_neg (by omega)]; omega)⟩⟩, ⟨fun h => by omega⟩, HB6, HX6, HG6⟩ | ((repeat apply Exists.intro); exact ⟨⟨q + 1, 16 * q + 16, _, r - 16, cr - 16, by omega, by omega, rfl, ⟨fun h => ⟨by omega, by first | omega | (exfalso; omega) | (rw [if_neg (by omega)]; omega)⟩⟩, ⟨fun h => by omega⟩, HB6, HX6, HG6⟩, rfl⟩)
      case measure => (first | (show r - 16 < r; omega) | (simp; omega))
  · obtain rfl : r = 0 := by omega
    have hqe := HQ.out rfl
    subst hqe
    go_wp2
    first
    | (go_end0
       exact ⟨rfl, HXi.out, HGi.out⟩)
    | (go_ret
       exact ⟨rfl, HXi.out, HGi.out⟩)
end Go.Proofs.Ytocckplgjbhlbaa.Pol
