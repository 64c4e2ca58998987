/- Chachas, the plain law. Conditions: none. -/
import Derived.Test.YtocckplgjbhlbaaPu1
namespace Go.Proofs.Ytocckplgjbhlbaa.Pure
open Go.RowKit Go.Proofs.Ytocckplgjbhlbaa.Z Go.Proofs.Ytocckplgjbhlbaa.Cha Go.Proofs.YtocckplgjbhlbaaW.PrintWords Go.Proofs.YtocckplgjbhlbaaW.PrintLast
theorem chachas_of {k : Nat} {key nonce s x y : ByteArray} {c e e2 : Int} (h1 : chacha_Block.f key c nonce = some (x, e)) (h2 : halberdref4_ChachaBlock.f key c nonce = some (x, e))
    (h3 : chacha_Xor.f key c nonce s = some (y, e2)) (h4 : halberdref4_Xor.f k key c nonce s = some (y, e2)) : halberdlaw6_Chachas.f k key c nonce s = some true := by
  unfold halberdlaw6_Chachas.f
  rw [h1, h2, h3, h4]
  simp only [Option.bind_some, num_f, aw, if_true]
theorem Chachas : halberdlaw6_Chachas.Pure := by
  intro key c nonce s _ _ _ _
  by_cases hM : May key c nonce
  · by_cases hs : s.size ≤ 65536
    · obtain ⟨k, hk⟩ := rxor_yes key nonce c s hM hs
      exact ⟨k, chachas_of (blk_yes key nonce c hM) (rblk_yes key nonce c hM) (xor_fyes key nonce c s hM hs) hk⟩
    · exact ⟨0, chachas_of (blk_yes key nonce c hM) (rblk_yes key nonce c hM) (xor_fno key nonce c s (fun h => hs h.2)) (rxor_no key nonce c s (fun h => hs h.2))⟩
  · exact ⟨0, chachas_of (blk_no key nonce c hM) (rblk_no key nonce c hM) (xor_fno key nonce c s (fun h => hM h.1)) (rxor_no key nonce c s (fun h => hM h.1))⟩
end Go.Proofs.Ytocckplgjbhlbaa.Pure
