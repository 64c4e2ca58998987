/- poly's Mac, walked. Conditions: none. -/
import Derived.Test.YtocckplgjbhlbaaNewS
namespace Go.Proofs.Ytocckplgjbhlbaa.Pol
open Go.RowKit Go.Proofs.YtocckplgjbhlbaaW.PrintWords Go.Proofs.Ytocckplgjbhlbaa.Cha Go.Proofs.Ytocckplgjbhlbaa.X
set_option linter.unusedVariables false
/-- A text's tag. -/
def macOf (key s : ByteArray) : ByteArray := tagged (alled (sum0 key) (bytesOf s) 0 s.size ((s.size + 15) / 16)) key
theorem below_own {w w1 w2 : World} {g : Nat} (h : Below w.heap.size w w1) (hg : w.heap.size ≤ g) (g2 : w1.grownBy w2 (some g)) : Below w.heap.size w w2 :=
  h.grown g2 (below_size h) (fun k hk => by rw [← Option.some.inj hk]; exact hg)
set_option maxRecDepth 100000 in
set_option maxHeartbeats 4000000 in
theorem mac_yes (key s : ByteArray) (hk : key.size = 32) (w : World) :
    Calls Try.prog 18 #[.string key, .string s] w fun e w' => e = .returned (.tuple #[.string (macOf key s), .int .i64 0]) ∧ Below w.heap.size w w' := by
  have HK := Aside0.mk hk
  have t1 : (!((key.size : Int) == 32)) = false := by rw [hk]; rfl
  have t2 : ((key.size : Int) != 32) = false := by rw [hk]; rfl
  have HN := Aside0.mk (fun W => newSum_calls key hk W)
  have HSL := Aside0.mk (sum0_length key)
  have HA := Aside0.mk (fun g (gb c : Nat) (hc : s.size ≤ c) (hne : gb ≠ g) W hW hb => all_calls g 71 (sum0 key) HSL.out gb 0 s.size c (bytesOf s) (by rw [bytesOf_length]; omega) hc hne W hW hb)
  obtain ⟨z, hz⟩ : ∃ z, z = alled (sum0 key) (bytesOf s) 0 s.size ((s.size + 15) / 16) := ⟨_, rfl⟩
  have hzl : z.length = 10 := by rw [hz, alled_length]; exact HSL.out
  rw [← hz] at HA
  have HZE := Aside0.mk hz
  have HT := Aside0.mk (fun g W hW => tag_calls g 71 z hzl key HK.out W hW)
  clear hz hk hzl
  go_enter Try.func18, Try.ntmps18
  go_wp2_with (first
    | (go_at_call 31; (with_reducible refine (HN.out _).mono ?_); rintro e w1 ⟨g, rfl, hg, k1, b1⟩; have HX1 := Aside0.mk k1; have HB1 := Aside0.mk b1; have HG := Aside0.mk hg; clear k1 b1 hg)
    | ((with_reducible refine gate_dst (N := 14) rfl ?_); refine conv_event rfl 9 32 5 _ s rfl rfl Try.underlying9 Try.underlying32 Try.underlying5 ?hc ?_; (case hc => exact grownCap_ge _ _ _ _); intro gb eg c hc w2 k2 b2; have HB2 := Aside0.mk (below_step HB1.out b2); have HS2 := Aside0.mk k2; have HC := Aside0.mk hc; have HX2 := Aside0.mk (HX1.out.below b2); have HNE := Aside0.mk (show gb ≠ g from by rw [eg]; exact Nat.ne_of_gt HX1.out.lt); clear k2 b2 hc eg)
    | (go_at_call 32; (with_reducible refine (HA.out g gb c HC.out HNE.out _ HX2.out HS2.out).mono ?_); rintro e w3 ⟨rfl, k3, g3⟩; have HX3 := Aside0.mk k3; have HB3 := Aside0.mk (below_own HB2.out HG.out g3); clear k3 g3)
    | (go_at_call 33; (with_reducible refine (HT.out g _ HX3.out).mono ?_); rintro e w4 ⟨rfl, b4⟩; have HB4 := Aside0.mk (below_step HB3.out b4); clear b4))
  rw [macOf, ← HZE.out]
  first
  | (go_ret2
     exact ⟨rfl, HB4.out⟩)
 
set_option maxRecDepth 100000 in
set_option maxHeartbeats 4000000 in
theorem mac_no (key s : ByteArray) (hk : ¬ key.size = 32) (w : World) :
    Calls Try.prog 18 #[.string key, .string s] w fun e w' => e = .returned (.tuple #[.string ByteArray.empty, .int .i64 700]) ∧ Below w.heap.size w w' := by
  have t1 : (!((key.size : Int) == 32)) = true := by simp; omega
  have t2 : ((key.size : Int) != 32) = true := by simp; omega
  go_enter Try.func18, Try.ntmps18
  go_wp2
  first
  | (go_ret2
     exact ⟨rfl, Below.refl _ _⟩)
 
end Go.Proofs.Ytocckplgjbhlbaa.Pol
