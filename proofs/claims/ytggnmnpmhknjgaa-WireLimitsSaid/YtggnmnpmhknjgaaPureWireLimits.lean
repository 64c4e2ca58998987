/- Proved: which numbers fit so many bytes, and which lengths there are, in wire's Put, PutVec and Vec (halberdlaw1.WireLimits answers true at every input). Conditions: none beside the given statement's own. -/
import Derived.Test.YtggnmnpmhknjgaaXx12
import Derived.Test.YtggnmnpmhknjgaaXx14
import Derived.Test.YtggnmnpmhknjgaaPureLib
namespace Go.Proofs.Ytggnmnpmhknjgaa.Pure
open Go.RowKit Go.Proofs.Ytggnmnpmhknjgaa.X Go.Proofs.YtggnmnpmhknjgaaW.PrintWords Go.Proofs.YtggnmnpmhknjgaaW.PrintLast Go.Proofs.YtggnmnpmhknjgaaW.PrintMore
set_option linter.unusedVariables false
set_option linter.unusedSimpArgs false

theorem width {a : Int} : ∃ n : Nat, 1 ≤ n ∧ n ≤ 4 ∧ wrap64 (1 + wrap64 (Int.tmod (IntKind.u64.wrap a) 4)) = n := by
  rw [u64_wrap, Int.tmod_eq_emod_of_nonneg (by omega)]
  refine ⟨(1 + a % 18446744073709551616 % 4).toNat, by omega, by omega, ?_⟩
  unfold wrap64
  omega
theorem top {n : Nat} (h0 : 1 ≤ n) (h1 : n ≤ 4) : shl .i64 1 (wrap64 (8 * (n : Int))) = 256 ^ n ∧ (0 : Int) ≤ wrap64 (8 * (n : Int)) ∧ (256 : Int) ≤ 256 ^ n ∧ (256 : Int) ^ n ≤ 4294967296 := by
  have : n = 1 ∨ n = 2 ∨ n = 3 ∨ n = 4 := by omega
  rcases this with rfl | rfl | rfl | rfl <;> simp [shl, wrap64, IntKind.bits, IntKind.wrap_i64]
/-- The given statement's pure form. -/
theorem WireLimits : halberdlaw1_WireLimits.Pure := by
  intro a b c ha hb hc
  obtain ⟨n, h1, h4, hn⟩ := width (a := a)
  obtain ⟨t0, t1, t2, t3⟩ := top h1 h4
  obtain ⟨V, v⟩ := vec_no (s := (⟨#[0, 0, 0, 0, 0]⟩ : ByteArray)) (a := 0) (n := 4 + c % 8) (by omega)
  replace v : ∀ k, V ≤ k → wire_Vec.f k (⟨#[0, 0, 0, 0, 0]⟩ : ByteArray) 0 (4 + c % 8) = some ((⟨#[]⟩ : ByteArray), 0, 101) := v
  refine ⟨V, ?_⟩
  have p1 := put_ok (256 ^ n - 1 - b % 256) n h1 h4 (by omega)
  have p2 := put_ok (256 ^ n + b % 256) n h1 h4 (by omega)
  unfold putOf at p1 p2
  rw [if_pos (by omega)] at p1
  rw [if_neg (by omega)] at p2
  have p3 := put_no (-1 - b % 256) n (by omega)
  have p4 := put_no 0 (5 + c % 8) (by omega)
  have p5 := putVec_no (⟨#[]⟩ : ByteArray) (4 + c % 8) (by omega)
  have sz : (strOfNums (List.replicate (256 + b % 256 : Int).toNat 0)).size = (256 + b % 256 : Int).toNat := by rw [strOf_size, List.length_replicate]
  have p6 := putVec_ok (strOfNums (List.replicate (256 + b % 256 : Int).toNat 0)) 1 (by omega) (by omega) (by rw [sz]; omega)
  unfold putVecOf at p6
  rw [if_neg (by rw [sz]; omega)] at p6
  unfold halberdlaw1_WireLimits.f
  rw [hn, aw, and_255, and_7, t0, Option.bind_some, if_pos rfl, if_pos t1, w64 (a := 256 ^ n - 1) (by omega) (by omega), w64 (a := 256 ^ n - 1 - b % 256) (by omega) (by omega), w64 (a := 256 ^ n + b % 256) (by omega) (by omega), w64 (a := -1 - b % 256) (by omega) (by omega), w64 (a := 5 + c % 8) (by omega) (by omega), w64 (a := 4 + c % 8) (by omega) (by omega), w64 (a := 256 + b % 256) (by omega) (by omega)]
  refine bindE p1 ?_
  refine bindE p2 ?_
  refine bindE p3 ?_
  refine bindE p4 ?_
  refine bindE p5 ?_
  refine bindE (v _ (by omega)) ?_
  rw [if_pos (by omega), if_pos (by omega)]
  have p6x : wire_PutVec.f (strOfNums (List.replicate (256 + b % 256 : Int).toNat 0)) 1 = some (⟨#[]⟩, 101) := p6
  refine bindE p6x ?_
  simp [num_f]

end Go.Proofs.Ytggnmnpmhknjgaa.Pure
