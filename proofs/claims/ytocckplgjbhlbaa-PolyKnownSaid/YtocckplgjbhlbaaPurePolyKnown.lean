/- PolyKnown, the plain law. Conditions: none. -/
import Derived.Test.YtocckplgjbhlbaaPx4
import Derived.Test.YtocckplgjbhlbaaPuA
namespace Go.Proofs.Ytocckplgjbhlbaa.Pure
open Go.RowKit Go.Proofs.Ytocckplgjbhlbaa.P Go.Proofs.YtocckplgjbhlbaaW.PrintWords Go.Proofs.YtocckplgjbhlbaaW.PrintLast Go.Proofs.Ytocckplgjbhlbaa.PureP
set_option linter.unusedVariables false
def kKey : ByteArray := ⟨#[133, 214, 190, 120, 87, 85, 109, 51, 127, 68, 82, 254, 66, 213, 6, 168, 1, 3, 128, 138, 251, 13, 178, 253, 74, 191, 246, 175, 65, 73, 245, 27]⟩
def kText : ByteArray := ⟨#[67, 114, 121, 112, 116, 111, 103, 114, 97, 112, 104, 105, 99, 32, 70, 111, 114, 117, 109, 32, 82, 101, 115, 101, 97, 114, 99, 104, 32, 71, 114, 111, 117, 112]⟩
def kTag : ByteArray := ⟨#[168, 6, 29, 193, 48, 81, 54, 198, 194, 43, 139, 175, 12, 1, 39, 169]⟩
theorem known_tag : poly_Mac.f kKey kText = some (kTag, 0) := by decide +kernel
theorem nought_tag : poly_Mac.f (strOfNums (List.replicate 32 0)) (⟨#[97, 98, 99]⟩ : ByteArray) = some (strOfNums (List.replicate 16 0), 0) := by decide +kernel
theorem other_tag (n : Nat) (h : n ≠ 32) (s : ByteArray) : poly_Mac.f (strOfNums (List.replicate n 0)) s = some (ByteArray.empty, 700) := by
  unfold poly_Mac.f
  rw [if_neg (by rw [Pol.strOfNums_size_, List.length_replicate]; exact h)]
theorem num_f (n : Int) : halberdlaw0_Num.f n = some n := by rfl
theorem PolyKnown : halberdlaw7_PolyKnown.Pure := by
  intro a0 wf
  have h0 : 0 ≤ a0 % 64 ∧ a0 % 64 < 64 := by omega
  unfold halberdlaw7_PolyKnown.f
  rw [and_63]
  generalize a0 % 64 = k at h0
  obtain ⟨n, rfl⟩ : ∃ n : Nat, (n : Int) = k := ⟨k.toNat, by omega⟩
  refine bindE rfl ?_
  rw [if_pos rfl]
  refine bindE known_tag ?_
  rw [if_pos (by omega), if_pos (by omega), Int.toNat_natCast]
  by_cases h : n = 32
  · subst h
    refine bindE nought_tag ?_
    rw [if_pos (by decide +kernel)]
    refine bindE (num_f 0) ?_
    rw [if_pos rfl]
    refine bindE (num_f 0) ?_
    rw [if_pos rfl, if_pos (by decide), if_pos (by decide), beq_self_eq_true]
  · refine bindE (other_tag n h _) ?_
    rw [if_pos (by decide +kernel)]
    refine bindE (num_f 0) ?_
    rw [if_pos rfl]
    refine bindE (num_f 700) ?_
    rw [if_neg (by decide), if_neg (by omega)]
end Go.Proofs.Ytocckplgjbhlbaa.Pure
