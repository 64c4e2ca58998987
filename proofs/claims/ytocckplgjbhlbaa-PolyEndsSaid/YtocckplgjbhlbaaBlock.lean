/- chacha's Block, walked: a block's 64 bytes, or the error. Conditions: none. -/
import Derived.Test.YtocckplgjbhlbaaRChacha
namespace Go.Proofs.Ytocckplgjbhlbaa.Cha
open Go.RowKit Go.Proofs.YtocckplgjbhlbaaW.PrintWords Go.Proofs.Ytocckplgjbhlbaa.X
set_option linter.unusedVariables false
def May (key : ByteArray) (c : Int) (nonce : ByteArray) : Prop := key.size = 32 ∧ 0 ≤ c ∧ c ≤ 4294967295 ∧ nonce.size = 12
instance (key : ByteArray) (c : Int) (nonce : ByteArray) : Decidable (May key c nonce) := by unfold May; infer_instance
def blkNums (key : ByteArray) (c : Int) (nonce : ByteArray) : List Int := outs (begun key nonce c) (twenty (begun key nonce c) 10) 64
theorem may_yes {key : ByteArray} {c : Int} {nonce : ByteArray} (h : May key c nonce) : chacha_may.f key c nonce = some true := by
  obtain ⟨h1, h2, h3, h4⟩ := h
  unfold chacha_may.f
  rw [if_pos (by omega), if_pos (by omega), if_pos (by omega), h4]
  rfl
theorem may_no {key : ByteArray} {c : Int} {nonce : ByteArray} (h : ¬ May key c nonce) : chacha_may.f key c nonce = some false := by
  unfold chacha_may.f
  by_cases h1 : (key.size : Int) = 32
  · rw [if_pos h1]
    by_cases h2 : c ≥ 0
    · rw [if_pos h2]
      by_cases h3 : c ≤ 4294967295
      · rw [if_pos h3]
        have h4 : ¬ nonce.size = 12 := fun e => h ⟨by omega, by omega, h3, e⟩
        congr 1
        simp
        omega
      · rw [if_neg h3]
    · rw [if_neg h2]
  · rw [if_neg h1]
set_option maxRecDepth 100000 in
set_option maxHeartbeats 2000000 in
theorem block_yes (key : ByteArray) (c : Int) (nonce : ByteArray) (h : May key c nonce) (w : World) :
    Calls Try.prog 12 #[.string key, .int .i64 c, .string nonce] w fun e w' => e = .returned (.tuple #[.string (strOfNums (blkNums key c nonce)), .int .i64 0]) ∧ Below w.heap.size w w' := by
  have hm := Aside0.mk (may_yes h)
  obtain ⟨hk, h0, h1, hn⟩ := h
  have HK := Aside0.mk hk
  have HN := Aside0.mk hn
  clear hk hn
  have hc : c % 4294967296 = c := by omega
  have HL := Aside0.mk (outs_length (begun key nonce c) (twenty (begun key nonce c) 10) 64)
  go_enter Try.func12, Try.ntmps12
  go_wp2_with (first | (go_at_call 25; (with_reducible refine (chacha_may.calls _ _ _ true _ hm.out).mono ?_); rintro e w' ⟨rfl, ⟨nd, rfl⟩⟩) | (go_at_call 26; (with_reducible refine (begin_calls key nonce _ HK.out HN.out _).mono ?_); rintro e w1 ⟨rfl, b1⟩; have HB1 := Aside0.mk (below_step (pw_below_drewN (Below.refl _ _) _) b1); clear b1) | (go_at_call 27; (with_reducible refine (bytes_calls (begun key nonce c) (begun_length key nonce c) _).mono ?_); rintro e w2 ⟨rfl, b2⟩; have HB2 := Aside0.mk (below_step HB1.out b2); clear b2) | ((with_reducible refine gate_dst (N := 8) rfl ?_); refine box_event ?hg (N := 8) ?hd (cs := ((List.replicate 64 (0 : Int)).map (Value.int .u8)).toArray) (t := 45) ?hr ?_; (case hd => rfl); (case hg => rfl); (case hr => first | (go_simp; done) | (go_simp; rfl)); intro g eg w3 k3 b3; have HA := Aside0.mk (show Arr .u8 w3 g 45 (List.replicate 64 0) from k3); have HB3 := Aside0.mk (below_step HB2.out b3); have HG := Aside0.mk (show w.heap.size ≤ g from by rw [eg]; exact below_size HB2.out); clear k3 b3 eg) | ((with_reducible refine gate_store (t := 45) (p := 8) rfl ?_); refine Arr.put (k := .u8) (g := g) (t := 45) (xs := List.replicate 64 0) (ys := blkNums key c nonce) rfl 45 _ _ rfl rfl rfl HA.out 64 (by kernel_rfl) rfl HL.out ?_; intro w4 k4 g4; have HB4 := Aside0.mk (HB3.out.grown g4 (below_size HB3.out) (fun k hk => by rw [← Option.some.inj hk]; exact HG.out)); have ht := Arr.text (P := Try.prog) k4 (n := 64) HL.out 32 5 9 Try.underlying32 Try.underlying5 Try.underlying9 64; clear k4 g4))
  first
  | (go_ret2
     exact ⟨rfl, HB4.out⟩)
 
set_option maxRecDepth 100000 in
set_option maxHeartbeats 2000000 in
theorem block_no (key : ByteArray) (c : Int) (nonce : ByteArray) (h : ¬ May key c nonce) (w : World) :
    Calls Try.prog 12 #[.string key, .int .i64 c, .string nonce] w fun e w' => e = .returned (.tuple #[.string ByteArray.empty, .int .i64 600]) ∧ Below w.heap.size w w' := by
  have hm := Aside0.mk (may_no h)
  go_enter Try.func12, Try.ntmps12
  go_wp2_with (first | (go_at_call 25; (with_reducible refine (chacha_may.calls _ _ _ false _ hm.out).mono ?_); rintro e w' ⟨rfl, ⟨nd, rfl⟩⟩))
  first
  | (go_ret2
     exact ⟨rfl, pw_below_drewN (Below.refl _ _) _⟩)
 
end Go.Proofs.Ytocckplgjbhlbaa.Cha
