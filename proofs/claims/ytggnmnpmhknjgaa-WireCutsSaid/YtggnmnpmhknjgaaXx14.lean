-- Written by a program of this session (wip/tools/xprint.py), over the kit's printer.
import Derived.Test.YtggnmnpmhknjgaaXx0
import Derived.Test.YtggnmnpmhknjgaaXx1
import Derived.Test.YtggnmnpmhknjgaaXx5
import Derived.Test.YtggnmnpmhknjgaaXx11
import Derived.Test.YtggnmnpmhknjgaaXx12
import Derived.Test.YtggnmnpmhknjgaaXx13
namespace Go.Proofs.Ytggnmnpmhknjgaa.X
open Go.RowKit Go.Proofs.YtggnmnpmhknjgaaW.PrintWords Go.Proofs.YtggnmnpmhknjgaaW.PrintLast Go.Proofs.YtggnmnpmhknjgaaW.PrintMore
attribute [local go_sem] max2_int min2_int max_two min_two max_three min_three max_four min_four   -- for this text's walks alone
set_option linter.unusedVariables false
set_option linter.unusedSimpArgs false

/-! ### halberdlaw1_WireLimits: function 8 -/
def halberdlaw1_WireLimits.f (k : Nat) (a0 : Int) (a1 : Int) (a2 : Int) : Option (Bool) := (halberdlaw1_awake.f).bind fun t451 => (if t451 = true then (if 0 ≤ (wrap64 (8 * (wrap64 (1 + (wrap64 (Int.tmod (IntKind.u64.wrap (a0)) 4)))))) then ((wire_Put.f (wrap64 ((wrap64 ((shl .i64 1 (wrap64 (8 * (wrap64 (1 + (wrap64 (Int.tmod (IntKind.u64.wrap (a0)) 4))))))) - 1)) - (Go.bits .and .i64 a1 255))) (wrap64 (1 + (wrap64 (Int.tmod (IntKind.u64.wrap (a0)) 4))))).bind fun bt452 => ((wire_Put.f (wrap64 ((shl .i64 1 (wrap64 (8 * (wrap64 (1 + (wrap64 (Int.tmod (IntKind.u64.wrap (a0)) 4))))))) + (Go.bits .and .i64 a1 255))) (wrap64 (1 + (wrap64 (Int.tmod (IntKind.u64.wrap (a0)) 4))))).bind fun bt454 => ((wire_Put.f (wrap64 ((-1) - (Go.bits .and .i64 a1 255))) (wrap64 (1 + (wrap64 (Int.tmod (IntKind.u64.wrap (a0)) 4))))).bind fun bt456 => ((wire_Put.f 0 (wrap64 (5 + (Go.bits .and .i64 a2 7)))).bind fun bt458 => ((wire_PutVec.f (⟨#[]⟩ : ByteArray) (wrap64 (4 + (Go.bits .and .i64 a2 7)))).bind fun bt460 => ((wire_Vec.f k (⟨#[0, 0, 0, 0, 0]⟩ : ByteArray) 0 (wrap64 (4 + (Go.bits .and .i64 a2 7)))).bind fun bt462 => (if 0 ≤ (wrap64 (256 + (Go.bits .and .i64 a1 255))) then (if (wrap64 (256 + (Go.bits .and .i64 a1 255)) : Int).toNat ≤ 281474976710656 then ((wire_PutVec.f (strOfNums (List.replicate (wrap64 (256 + (Go.bits .and .i64 a1 255)) : Int).toNat 0)) 1).bind fun bt468 => ((halberdlaw0_Num.f bt452.2).bind fun t470 => (if t470 = 0 then ((halberdlaw0_Num.f bt454.2).bind fun t471 => (if t471 = 101 then ((halberdlaw0_Num.f bt456.2).bind fun t472 => (if t472 = 101 then ((halberdlaw0_Num.f bt458.2).bind fun t473 => (if t473 = 101 then ((halberdlaw0_Num.f bt460.2).bind fun t474 => (if t474 = 101 then ((halberdlaw0_Num.f bt462.2.2).bind fun t475 => (if t475 = 101 then (if bt468.1.toList = ([] : List UInt8) then ((halberdlaw0_Num.f bt468.2).bind fun t476 => (some (t476 == 101))) else (some false)) else (some false))) else (some false))) else (some false))) else (some false))) else (some false))) else (some false)))) else (none)) else (none)))))))) else (none)) else (some false))
theorem halberdlaw1_WireLimits.mono : ∀ a0 a1 a2 k, LeO (halberdlaw1_WireLimits.f k a0 a1 a2) (halberdlaw1_WireLimits.f (k + 1) a0 a1 a2) := by
  intro a0 a1 a2 k
  unfold halberdlaw1_WireLimits.f
  repeat' first
      | (with_reducible exact wire_Vec.mono _ _ _ _)
      | (with_reducible exact LeO.refl _)
      | (with_reducible exact LeO.none _)
      | (with_reducible refine LeO.ite ?_ ?_)
      | (with_reducible refine LeO.bind ?_ (fun _ => ?_))
      | exact wire_Vec.mono _ _ _ _
      | exact LeO.none _
      | refine LeO.ite ?_ ?_
      | refine LeO.bind ?_ (fun _ => ?_)
set_option maxHeartbeats 8000000 in
set_option maxRecDepth 100000 in
theorem halberdlaw1_WireLimits.calls (k : Nat) (a0 : Int) (a1 : Int) (a2 : Int) (r : Bool) (w : World) (h : halberdlaw1_WireLimits.f k a0 a1 a2 = some r) (hr : Aside0 (r = true)) :
    Calls Try.prog 8 #[.int .i64 a0, .int .i64 a1, .int .i64 a2] w fun e w' => e = .returned (.bool r) ∧ Below w.heap.size w w' := by
  have HB := Aside0.mk (Below.refl w.heap.size w)
  have H : ((halberdlaw1_awake.f).bind fun t451 => (if t451 = true then (if 0 ≤ (wrap64 (8 * (wrap64 (1 + (wrap64 (Int.tmod (IntKind.u64.wrap (a0)) 4)))))) then ((wire_Put.f (wrap64 ((wrap64 ((shl .i64 1 (wrap64 (8 * (wrap64 (1 + (wrap64 (Int.tmod (IntKind.u64.wrap (a0)) 4))))))) - 1)) - (Go.bits .and .i64 a1 255))) (wrap64 (1 + (wrap64 (Int.tmod (IntKind.u64.wrap (a0)) 4))))).bind fun bt452 => ((wire_Put.f (wrap64 ((shl .i64 1 (wrap64 (8 * (wrap64 (1 + (wrap64 (Int.tmod (IntKind.u64.wrap (a0)) 4))))))) + (Go.bits .and .i64 a1 255))) (wrap64 (1 + (wrap64 (Int.tmod (IntKind.u64.wrap (a0)) 4))))).bind fun bt454 => ((wire_Put.f (wrap64 ((-1) - (Go.bits .and .i64 a1 255))) (wrap64 (1 + (wrap64 (Int.tmod (IntKind.u64.wrap (a0)) 4))))).bind fun bt456 => ((wire_Put.f 0 (wrap64 (5 + (Go.bits .and .i64 a2 7)))).bind fun bt458 => ((wire_PutVec.f (⟨#[]⟩ : ByteArray) (wrap64 (4 + (Go.bits .and .i64 a2 7)))).bind fun bt460 => ((wire_Vec.f k (⟨#[0, 0, 0, 0, 0]⟩ : ByteArray) 0 (wrap64 (4 + (Go.bits .and .i64 a2 7)))).bind fun bt462 => (if 0 ≤ (wrap64 (256 + (Go.bits .and .i64 a1 255))) then (if (wrap64 (256 + (Go.bits .and .i64 a1 255)) : Int).toNat ≤ 281474976710656 then ((wire_PutVec.f (strOfNums (List.replicate (wrap64 (256 + (Go.bits .and .i64 a1 255)) : Int).toNat 0)) 1).bind fun bt468 => ((halberdlaw0_Num.f bt452.2).bind fun t470 => (if t470 = 0 then ((halberdlaw0_Num.f bt454.2).bind fun t471 => (if t471 = 101 then ((halberdlaw0_Num.f bt456.2).bind fun t472 => (if t472 = 101 then ((halberdlaw0_Num.f bt458.2).bind fun t473 => (if t473 = 101 then ((halberdlaw0_Num.f bt460.2).bind fun t474 => (if t474 = 101 then ((halberdlaw0_Num.f bt462.2.2).bind fun t475 => (if t475 = 101 then (if bt468.1.toList = ([] : List UInt8) then ((halberdlaw0_Num.f bt468.2).bind fun t476 => (some (t476 == 101))) else (some false)) else (some false))) else (some false))) else (some false))) else (some false))) else (some false))) else (some false)))) else (none)) else (none)))))))) else (none)) else (some false))) = some r := h
  clear h
  replace H := Option.bind_eq_some_iff.mp H
  obtain ⟨t451, A40, H⟩ := H
  replace H : (if t451 = true then (if 0 ≤ (wrap64 (8 * (wrap64 (1 + (wrap64 (Int.tmod (IntKind.u64.wrap (a0)) 4)))))) then ((wire_Put.f (wrap64 ((wrap64 ((shl .i64 1 (wrap64 (8 * (wrap64 (1 + (wrap64 (Int.tmod (IntKind.u64.wrap (a0)) 4))))))) - 1)) - (Go.bits .and .i64 a1 255))) (wrap64 (1 + (wrap64 (Int.tmod (IntKind.u64.wrap (a0)) 4))))).bind fun bt452 => ((wire_Put.f (wrap64 ((shl .i64 1 (wrap64 (8 * (wrap64 (1 + (wrap64 (Int.tmod (IntKind.u64.wrap (a0)) 4))))))) + (Go.bits .and .i64 a1 255))) (wrap64 (1 + (wrap64 (Int.tmod (IntKind.u64.wrap (a0)) 4))))).bind fun bt454 => ((wire_Put.f (wrap64 ((-1) - (Go.bits .and .i64 a1 255))) (wrap64 (1 + (wrap64 (Int.tmod (IntKind.u64.wrap (a0)) 4))))).bind fun bt456 => ((wire_Put.f 0 (wrap64 (5 + (Go.bits .and .i64 a2 7)))).bind fun bt458 => ((wire_PutVec.f (⟨#[]⟩ : ByteArray) (wrap64 (4 + (Go.bits .and .i64 a2 7)))).bind fun bt460 => ((wire_Vec.f k (⟨#[0, 0, 0, 0, 0]⟩ : ByteArray) 0 (wrap64 (4 + (Go.bits .and .i64 a2 7)))).bind fun bt462 => (if 0 ≤ (wrap64 (256 + (Go.bits .and .i64 a1 255))) then (if (wrap64 (256 + (Go.bits .and .i64 a1 255)) : Int).toNat ≤ 281474976710656 then ((wire_PutVec.f (strOfNums (List.replicate (wrap64 (256 + (Go.bits .and .i64 a1 255)) : Int).toNat 0)) 1).bind fun bt468 => ((halberdlaw0_Num.f bt452.2).bind fun t470 => (if t470 = 0 then ((halberdlaw0_Num.f bt454.2).bind fun t471 => (if t471 = 101 then ((halberdlaw0_Num.f bt456.2).bind fun t472 => (if t472 = 101 then ((halberdlaw0_Num.f bt458.2).bind fun t473 => (if t473 = 101 then ((halberdlaw0_Num.f bt460.2).bind fun t474 => (if t474 = 101 then ((halberdlaw0_Num.f bt462.2.2).bind fun t475 => (if t475 = 101 then (if bt468.1.toList = ([] : List UInt8) then ((halberdlaw0_Num.f bt468.2).bind fun t476 => (some (t476 == 101))) else (some false)) else (some false))) else (some false))) else (some false))) else (some false))) else (some false))) else (some false)))) else (none)) else (none)))))))) else (none)) else (some false)) = some r := H
  have A4 := Aside0.mk A40
  clear A40
  by_cases c5 : t451 = true
  · subst c5
    have H1 : (if 0 ≤ (wrap64 (8 * (wrap64 (1 + (wrap64 (Int.tmod (IntKind.u64.wrap (a0)) 4)))))) then ((wire_Put.f (wrap64 ((wrap64 ((shl .i64 1 (wrap64 (8 * (wrap64 (1 + (wrap64 (Int.tmod (IntKind.u64.wrap (a0)) 4))))))) - 1)) - (Go.bits .and .i64 a1 255))) (wrap64 (1 + (wrap64 (Int.tmod (IntKind.u64.wrap (a0)) 4))))).bind fun bt452 => ((wire_Put.f (wrap64 ((shl .i64 1 (wrap64 (8 * (wrap64 (1 + (wrap64 (Int.tmod (IntKind.u64.wrap (a0)) 4))))))) + (Go.bits .and .i64 a1 255))) (wrap64 (1 + (wrap64 (Int.tmod (IntKind.u64.wrap (a0)) 4))))).bind fun bt454 => ((wire_Put.f (wrap64 ((-1) - (Go.bits .and .i64 a1 255))) (wrap64 (1 + (wrap64 (Int.tmod (IntKind.u64.wrap (a0)) 4))))).bind fun bt456 => ((wire_Put.f 0 (wrap64 (5 + (Go.bits .and .i64 a2 7)))).bind fun bt458 => ((wire_PutVec.f (⟨#[]⟩ : ByteArray) (wrap64 (4 + (Go.bits .and .i64 a2 7)))).bind fun bt460 => ((wire_Vec.f k (⟨#[0, 0, 0, 0, 0]⟩ : ByteArray) 0 (wrap64 (4 + (Go.bits .and .i64 a2 7)))).bind fun bt462 => (if 0 ≤ (wrap64 (256 + (Go.bits .and .i64 a1 255))) then (if (wrap64 (256 + (Go.bits .and .i64 a1 255)) : Int).toNat ≤ 281474976710656 then ((wire_PutVec.f (strOfNums (List.replicate (wrap64 (256 + (Go.bits .and .i64 a1 255)) : Int).toNat 0)) 1).bind fun bt468 => ((halberdlaw0_Num.f bt452.2).bind fun t470 => (if t470 = 0 then ((halberdlaw0_Num.f bt454.2).bind fun t471 => (if t471 = 101 then ((halberdlaw0_Num.f bt456.2).bind fun t472 => (if t472 = 101 then ((halberdlaw0_Num.f bt458.2).bind fun t473 => (if t473 = 101 then ((halberdlaw0_Num.f bt460.2).bind fun t474 => (if t474 = 101 then ((halberdlaw0_Num.f bt462.2.2).bind fun t475 => (if t475 = 101 then (if bt468.1.toList = ([] : List UInt8) then ((halberdlaw0_Num.f bt468.2).bind fun t476 => (some (t476 == 101))) else (some false)) else (some false))) else (some false))) else (some false))) else (some false))) else (some false))) else (some false)))) else (none)) else (none)))))))) else (none)) = some r := by rw [if_pos rfl] at H; exact H
    clear H
    have H := H1
    clear H1
    obtain ⟨ji6, hji6⟩ : ∃ j_ : Int, (wrap64 (8 * (wrap64 (1 + (wrap64 (Int.tmod (IntKind.u64.wrap (a0)) 4)))))) = j_ := ⟨_, rfl⟩
    replace H : (if 0 ≤ (ji6) then ((wire_Put.f (wrap64 ((wrap64 ((shl .i64 1 (ji6)) - 1)) - (Go.bits .and .i64 a1 255))) (wrap64 (1 + (wrap64 (Int.tmod (IntKind.u64.wrap (a0)) 4))))).bind fun bt452 => ((wire_Put.f (wrap64 ((shl .i64 1 (ji6)) + (Go.bits .and .i64 a1 255))) (wrap64 (1 + (wrap64 (Int.tmod (IntKind.u64.wrap (a0)) 4))))).bind fun bt454 => ((wire_Put.f (wrap64 ((-1) - (Go.bits .and .i64 a1 255))) (wrap64 (1 + (wrap64 (Int.tmod (IntKind.u64.wrap (a0)) 4))))).bind fun bt456 => ((wire_Put.f 0 (wrap64 (5 + (Go.bits .and .i64 a2 7)))).bind fun bt458 => ((wire_PutVec.f (⟨#[]⟩ : ByteArray) (wrap64 (4 + (Go.bits .and .i64 a2 7)))).bind fun bt460 => ((wire_Vec.f k (⟨#[0, 0, 0, 0, 0]⟩ : ByteArray) 0 (wrap64 (4 + (Go.bits .and .i64 a2 7)))).bind fun bt462 => (if 0 ≤ (wrap64 (256 + (Go.bits .and .i64 a1 255))) then (if (wrap64 (256 + (Go.bits .and .i64 a1 255)) : Int).toNat ≤ 281474976710656 then ((wire_PutVec.f (strOfNums (List.replicate (wrap64 (256 + (Go.bits .and .i64 a1 255)) : Int).toNat 0)) 1).bind fun bt468 => ((halberdlaw0_Num.f bt452.2).bind fun t470 => (if t470 = 0 then ((halberdlaw0_Num.f bt454.2).bind fun t471 => (if t471 = 101 then ((halberdlaw0_Num.f bt456.2).bind fun t472 => (if t472 = 101 then ((halberdlaw0_Num.f bt458.2).bind fun t473 => (if t473 = 101 then ((halberdlaw0_Num.f bt460.2).bind fun t474 => (if t474 = 101 then ((halberdlaw0_Num.f bt462.2.2).bind fun t475 => (if t475 = 101 then (if bt468.1.toList = ([] : List UInt8) then ((halberdlaw0_Num.f bt468.2).bind fun t476 => (some (t476 == 101))) else (some false)) else (some false))) else (some false))) else (some false))) else (some false))) else (some false))) else (some false)))) else (none)) else (none)))))))) else (none)) = some r := by first | (rw [hji6] at H; exact H) | (simp only [hji6] at H ⊢; exact H)
    (try rw [hji6] at A4)
    have hji6w : (IntKind.i64.wrap (8 * (wrap64 (1 + (wrap64 (Int.tmod (IntKind.u64.wrap (a0)) 4)))))) = ji6 := (i64_w _).trans hji6
    by_cases c7 : 0 ≤ (ji6)
    · rw [if_pos c7] at H
      have c7b0 := eq_true c7
      have c7b1 : decide (0 ≤ (ji6)) = true := decide_eq_true c7
      clear c7
      obtain ⟨ji8, hji8⟩ : ∃ j_ : Int, (shl .i64 1 (ji6)) = j_ := ⟨_, rfl⟩
      replace H : ((wire_Put.f (wrap64 ((wrap64 ((ji8) - 1)) - (Go.bits .and .i64 a1 255))) (wrap64 (1 + (wrap64 (Int.tmod (IntKind.u64.wrap (a0)) 4))))).bind fun bt452 => ((wire_Put.f (wrap64 ((ji8) + (Go.bits .and .i64 a1 255))) (wrap64 (1 + (wrap64 (Int.tmod (IntKind.u64.wrap (a0)) 4))))).bind fun bt454 => ((wire_Put.f (wrap64 ((-1) - (Go.bits .and .i64 a1 255))) (wrap64 (1 + (wrap64 (Int.tmod (IntKind.u64.wrap (a0)) 4))))).bind fun bt456 => ((wire_Put.f 0 (wrap64 (5 + (Go.bits .and .i64 a2 7)))).bind fun bt458 => ((wire_PutVec.f (⟨#[]⟩ : ByteArray) (wrap64 (4 + (Go.bits .and .i64 a2 7)))).bind fun bt460 => ((wire_Vec.f k (⟨#[0, 0, 0, 0, 0]⟩ : ByteArray) 0 (wrap64 (4 + (Go.bits .and .i64 a2 7)))).bind fun bt462 => (if 0 ≤ (wrap64 (256 + (Go.bits .and .i64 a1 255))) then (if (wrap64 (256 + (Go.bits .and .i64 a1 255)) : Int).toNat ≤ 281474976710656 then ((wire_PutVec.f (strOfNums (List.replicate (wrap64 (256 + (Go.bits .and .i64 a1 255)) : Int).toNat 0)) 1).bind fun bt468 => ((halberdlaw0_Num.f bt452.2).bind fun t470 => (if t470 = 0 then ((halberdlaw0_Num.f bt454.2).bind fun t471 => (if t471 = 101 then ((halberdlaw0_Num.f bt456.2).bind fun t472 => (if t472 = 101 then ((halberdlaw0_Num.f bt458.2).bind fun t473 => (if t473 = 101 then ((halberdlaw0_Num.f bt460.2).bind fun t474 => (if t474 = 101 then ((halberdlaw0_Num.f bt462.2.2).bind fun t475 => (if t475 = 101 then (if bt468.1.toList = ([] : List UInt8) then ((halberdlaw0_Num.f bt468.2).bind fun t476 => (some (t476 == 101))) else (some false)) else (some false))) else (some false))) else (some false))) else (some false))) else (some false))) else (some false)))) else (none)) else (none)))))))) = some r := by first | (rw [hji8] at H; exact H) | (simp only [hji8] at H ⊢; exact H)
      (try rw [hji8] at A4)
      have hji8_ : (IntKind.i64.wrap (1 * 2 ^ min (ji6).toNat 64)) = ji8 := hji8
      have hji8z : (ji6) ≤ 64 → (IntKind.i64.wrap (1 * 2 ^ (ji6).toNat)) = ji8 := shl_small hji8
      have hji8u : (IntKind.i64.wrap (2 ^ min (ji6).toNat 64)) = ji8 := by have h_ := hji8_; rw [Int.one_mul] at h_; exact h_
      have hji8v : (ji6) ≤ 64 → (IntKind.i64.wrap (2 ^ (ji6).toNat)) = ji8 := fun hle_ => by have h_ := hji8z hle_; rw [Int.one_mul] at h_; exact h_
      have hji8y : (wrap64 (1 * 2 ^ min (ji6).toNat 64)) = ji8 := (i64_w _).symm.trans hji8_
      have hji8x : (ji6) ≤ 64 → (wrap64 (1 * 2 ^ (ji6).toNat)) = ji8 := fun h_ => (i64_w _).symm.trans (hji8z h_)
      replace H := Option.bind_eq_some_iff.mp H
      obtain ⟨⟨t452, t453⟩, A90, H⟩ := H
      replace H : ((wire_Put.f (wrap64 ((ji8) + (Go.bits .and .i64 a1 255))) (wrap64 (1 + (wrap64 (Int.tmod (IntKind.u64.wrap (a0)) 4))))).bind fun bt454 => ((wire_Put.f (wrap64 ((-1) - (Go.bits .and .i64 a1 255))) (wrap64 (1 + (wrap64 (Int.tmod (IntKind.u64.wrap (a0)) 4))))).bind fun bt456 => ((wire_Put.f 0 (wrap64 (5 + (Go.bits .and .i64 a2 7)))).bind fun bt458 => ((wire_PutVec.f (⟨#[]⟩ : ByteArray) (wrap64 (4 + (Go.bits .and .i64 a2 7)))).bind fun bt460 => ((wire_Vec.f k (⟨#[0, 0, 0, 0, 0]⟩ : ByteArray) 0 (wrap64 (4 + (Go.bits .and .i64 a2 7)))).bind fun bt462 => (if 0 ≤ (wrap64 (256 + (Go.bits .and .i64 a1 255))) then (if (wrap64 (256 + (Go.bits .and .i64 a1 255)) : Int).toNat ≤ 281474976710656 then ((wire_PutVec.f (strOfNums (List.replicate (wrap64 (256 + (Go.bits .and .i64 a1 255)) : Int).toNat 0)) 1).bind fun bt468 => ((halberdlaw0_Num.f t453).bind fun t470 => (if t470 = 0 then ((halberdlaw0_Num.f bt454.2).bind fun t471 => (if t471 = 101 then ((halberdlaw0_Num.f bt456.2).bind fun t472 => (if t472 = 101 then ((halberdlaw0_Num.f bt458.2).bind fun t473 => (if t473 = 101 then ((halberdlaw0_Num.f bt460.2).bind fun t474 => (if t474 = 101 then ((halberdlaw0_Num.f bt462.2.2).bind fun t475 => (if t475 = 101 then (if bt468.1.toList = ([] : List UInt8) then ((halberdlaw0_Num.f bt468.2).bind fun t476 => (some (t476 == 101))) else (some false)) else (some false))) else (some false))) else (some false))) else (some false))) else (some false))) else (some false)))) else (none)) else (none))))))) = some r := H
      have A9 := Aside0.mk A90
      clear A90
      replace H := Option.bind_eq_some_iff.mp H
      obtain ⟨⟨t454, t455⟩, A100, H⟩ := H
      replace H : ((wire_Put.f (wrap64 ((-1) - (Go.bits .and .i64 a1 255))) (wrap64 (1 + (wrap64 (Int.tmod (IntKind.u64.wrap (a0)) 4))))).bind fun bt456 => ((wire_Put.f 0 (wrap64 (5 + (Go.bits .and .i64 a2 7)))).bind fun bt458 => ((wire_PutVec.f (⟨#[]⟩ : ByteArray) (wrap64 (4 + (Go.bits .and .i64 a2 7)))).bind fun bt460 => ((wire_Vec.f k (⟨#[0, 0, 0, 0, 0]⟩ : ByteArray) 0 (wrap64 (4 + (Go.bits .and .i64 a2 7)))).bind fun bt462 => (if 0 ≤ (wrap64 (256 + (Go.bits .and .i64 a1 255))) then (if (wrap64 (256 + (Go.bits .and .i64 a1 255)) : Int).toNat ≤ 281474976710656 then ((wire_PutVec.f (strOfNums (List.replicate (wrap64 (256 + (Go.bits .and .i64 a1 255)) : Int).toNat 0)) 1).bind fun bt468 => ((halberdlaw0_Num.f t453).bind fun t470 => (if t470 = 0 then ((halberdlaw0_Num.f t455).bind fun t471 => (if t471 = 101 then ((halberdlaw0_Num.f bt456.2).bind fun t472 => (if t472 = 101 then ((halberdlaw0_Num.f bt458.2).bind fun t473 => (if t473 = 101 then ((halberdlaw0_Num.f bt460.2).bind fun t474 => (if t474 = 101 then ((halberdlaw0_Num.f bt462.2.2).bind fun t475 => (if t475 = 101 then (if bt468.1.toList = ([] : List UInt8) then ((halberdlaw0_Num.f bt468.2).bind fun t476 => (some (t476 == 101))) else (some false)) else (some false))) else (some false))) else (some false))) else (some false))) else (some false))) else (some false)))) else (none)) else (none)))))) = some r := H
      have A10 := Aside0.mk A100
      clear A100
      replace H := Option.bind_eq_some_iff.mp H
      obtain ⟨⟨t456, t457⟩, A110, H⟩ := H
      replace H : ((wire_Put.f 0 (wrap64 (5 + (Go.bits .and .i64 a2 7)))).bind fun bt458 => ((wire_PutVec.f (⟨#[]⟩ : ByteArray) (wrap64 (4 + (Go.bits .and .i64 a2 7)))).bind fun bt460 => ((wire_Vec.f k (⟨#[0, 0, 0, 0, 0]⟩ : ByteArray) 0 (wrap64 (4 + (Go.bits .and .i64 a2 7)))).bind fun bt462 => (if 0 ≤ (wrap64 (256 + (Go.bits .and .i64 a1 255))) then (if (wrap64 (256 + (Go.bits .and .i64 a1 255)) : Int).toNat ≤ 281474976710656 then ((wire_PutVec.f (strOfNums (List.replicate (wrap64 (256 + (Go.bits .and .i64 a1 255)) : Int).toNat 0)) 1).bind fun bt468 => ((halberdlaw0_Num.f t453).bind fun t470 => (if t470 = 0 then ((halberdlaw0_Num.f t455).bind fun t471 => (if t471 = 101 then ((halberdlaw0_Num.f t457).bind fun t472 => (if t472 = 101 then ((halberdlaw0_Num.f bt458.2).bind fun t473 => (if t473 = 101 then ((halberdlaw0_Num.f bt460.2).bind fun t474 => (if t474 = 101 then ((halberdlaw0_Num.f bt462.2.2).bind fun t475 => (if t475 = 101 then (if bt468.1.toList = ([] : List UInt8) then ((halberdlaw0_Num.f bt468.2).bind fun t476 => (some (t476 == 101))) else (some false)) else (some false))) else (some false))) else (some false))) else (some false))) else (some false))) else (some false)))) else (none)) else (none))))) = some r := H
      have A11 := Aside0.mk A110
      clear A110
      replace H := Option.bind_eq_some_iff.mp H
      obtain ⟨⟨t458, t459⟩, A120, H⟩ := H
      replace H : ((wire_PutVec.f (⟨#[]⟩ : ByteArray) (wrap64 (4 + (Go.bits .and .i64 a2 7)))).bind fun bt460 => ((wire_Vec.f k (⟨#[0, 0, 0, 0, 0]⟩ : ByteArray) 0 (wrap64 (4 + (Go.bits .and .i64 a2 7)))).bind fun bt462 => (if 0 ≤ (wrap64 (256 + (Go.bits .and .i64 a1 255))) then (if (wrap64 (256 + (Go.bits .and .i64 a1 255)) : Int).toNat ≤ 281474976710656 then ((wire_PutVec.f (strOfNums (List.replicate (wrap64 (256 + (Go.bits .and .i64 a1 255)) : Int).toNat 0)) 1).bind fun bt468 => ((halberdlaw0_Num.f t453).bind fun t470 => (if t470 = 0 then ((halberdlaw0_Num.f t455).bind fun t471 => (if t471 = 101 then ((halberdlaw0_Num.f t457).bind fun t472 => (if t472 = 101 then ((halberdlaw0_Num.f t459).bind fun t473 => (if t473 = 101 then ((halberdlaw0_Num.f bt460.2).bind fun t474 => (if t474 = 101 then ((halberdlaw0_Num.f bt462.2.2).bind fun t475 => (if t475 = 101 then (if bt468.1.toList = ([] : List UInt8) then ((halberdlaw0_Num.f bt468.2).bind fun t476 => (some (t476 == 101))) else (some false)) else (some false))) else (some false))) else (some false))) else (some false))) else (some false))) else (some false)))) else (none)) else (none)))) = some r := H
      have A12 := Aside0.mk A120
      clear A120
      replace H := Option.bind_eq_some_iff.mp H
      obtain ⟨⟨t460, t461⟩, A130, H⟩ := H
      replace H : ((wire_Vec.f k (⟨#[0, 0, 0, 0, 0]⟩ : ByteArray) 0 (wrap64 (4 + (Go.bits .and .i64 a2 7)))).bind fun bt462 => (if 0 ≤ (wrap64 (256 + (Go.bits .and .i64 a1 255))) then (if (wrap64 (256 + (Go.bits .and .i64 a1 255)) : Int).toNat ≤ 281474976710656 then ((wire_PutVec.f (strOfNums (List.replicate (wrap64 (256 + (Go.bits .and .i64 a1 255)) : Int).toNat 0)) 1).bind fun bt468 => ((halberdlaw0_Num.f t453).bind fun t470 => (if t470 = 0 then ((halberdlaw0_Num.f t455).bind fun t471 => (if t471 = 101 then ((halberdlaw0_Num.f t457).bind fun t472 => (if t472 = 101 then ((halberdlaw0_Num.f t459).bind fun t473 => (if t473 = 101 then ((halberdlaw0_Num.f t461).bind fun t474 => (if t474 = 101 then ((halberdlaw0_Num.f bt462.2.2).bind fun t475 => (if t475 = 101 then (if bt468.1.toList = ([] : List UInt8) then ((halberdlaw0_Num.f bt468.2).bind fun t476 => (some (t476 == 101))) else (some false)) else (some false))) else (some false))) else (some false))) else (some false))) else (some false))) else (some false)))) else (none)) else (none))) = some r := H
      have A13 := Aside0.mk A130
      clear A130
      replace H := Option.bind_eq_some_iff.mp H
      obtain ⟨⟨t462, t463, t464⟩, A140, H⟩ := H
      replace H : (if 0 ≤ (wrap64 (256 + (Go.bits .and .i64 a1 255))) then (if (wrap64 (256 + (Go.bits .and .i64 a1 255)) : Int).toNat ≤ 281474976710656 then ((wire_PutVec.f (strOfNums (List.replicate (wrap64 (256 + (Go.bits .and .i64 a1 255)) : Int).toNat 0)) 1).bind fun bt468 => ((halberdlaw0_Num.f t453).bind fun t470 => (if t470 = 0 then ((halberdlaw0_Num.f t455).bind fun t471 => (if t471 = 101 then ((halberdlaw0_Num.f t457).bind fun t472 => (if t472 = 101 then ((halberdlaw0_Num.f t459).bind fun t473 => (if t473 = 101 then ((halberdlaw0_Num.f t461).bind fun t474 => (if t474 = 101 then ((halberdlaw0_Num.f t464).bind fun t475 => (if t475 = 101 then (if bt468.1.toList = ([] : List UInt8) then ((halberdlaw0_Num.f bt468.2).bind fun t476 => (some (t476 == 101))) else (some false)) else (some false))) else (some false))) else (some false))) else (some false))) else (some false))) else (some false)))) else (none)) else (none)) = some r := H
      have A14 := Aside0.mk A140
      clear A140
      obtain ⟨ji15, hji15⟩ : ∃ j_ : Int, (wrap64 (256 + (Go.bits .and .i64 a1 255))) = j_ := ⟨_, rfl⟩
      replace H : (if 0 ≤ (ji15) then (if (ji15 : Int).toNat ≤ 281474976710656 then ((wire_PutVec.f (strOfNums (List.replicate (ji15 : Int).toNat 0)) 1).bind fun bt468 => ((halberdlaw0_Num.f t453).bind fun t470 => (if t470 = 0 then ((halberdlaw0_Num.f t455).bind fun t471 => (if t471 = 101 then ((halberdlaw0_Num.f t457).bind fun t472 => (if t472 = 101 then ((halberdlaw0_Num.f t459).bind fun t473 => (if t473 = 101 then ((halberdlaw0_Num.f t461).bind fun t474 => (if t474 = 101 then ((halberdlaw0_Num.f t464).bind fun t475 => (if t475 = 101 then (if bt468.1.toList = ([] : List UInt8) then ((halberdlaw0_Num.f bt468.2).bind fun t476 => (some (t476 == 101))) else (some false)) else (some false))) else (some false))) else (some false))) else (some false))) else (some false))) else (some false)))) else (none)) else (none)) = some r := by first | (rw [hji15] at H; exact H) | (simp only [hji15] at H ⊢; exact H)
      (try rw [hji15] at A4)
      (try rw [hji15] at A9)
      (try rw [hji15] at A10)
      (try rw [hji15] at A11)
      (try rw [hji15] at A12)
      (try rw [hji15] at A13)
      (try rw [hji15] at A14)
      have hji15w : (IntKind.i64.wrap (256 + (Go.bits .and .i64 a1 255))) = ji15 := (i64_w _).trans hji15
      by_cases c16 : 0 ≤ (ji15)
      · rw [if_pos c16] at H
        have c16b0 := eq_true c16
        have c16b1 : decide (0 ≤ (ji15)) = true := decide_eq_true c16
        clear c16
        by_cases c17 : (ji15 : Int).toNat ≤ 281474976710656
        · rw [if_pos c17] at H
          have c17b0 := eq_true c17
          have c17b1 : decide ((ji15 : Int).toNat ≤ 281474976710656) = true := decide_eq_true c17
          clear c17
          obtain ⟨y465, hy465⟩ : ∃ y_ : List Int, y_ = (List.replicate (ji15 : Int).toNat 0) := ⟨_, rfl⟩
          replace H : ((wire_PutVec.f (strOfNums y465) 1).bind fun bt468 => ((halberdlaw0_Num.f t453).bind fun t470 => (if t470 = 0 then ((halberdlaw0_Num.f t455).bind fun t471 => (if t471 = 101 then ((halberdlaw0_Num.f t457).bind fun t472 => (if t472 = 101 then ((halberdlaw0_Num.f t459).bind fun t473 => (if t473 = 101 then ((halberdlaw0_Num.f t461).bind fun t474 => (if t474 = 101 then ((halberdlaw0_Num.f t464).bind fun t475 => (if t475 = 101 then (if bt468.1.toList = ([] : List UInt8) then ((halberdlaw0_Num.f bt468.2).bind fun t476 => (some (t476 == 101))) else (some false)) else (some false))) else (some false))) else (some false))) else (some false))) else (some false))) else (some false)))) = some r := by first | (rw [hy465]; with_reducible exact H) | (have H2_ := (Option.bind_some _ _).symm.trans H; rw [hy465]; with_reducible exact H2_) | (have H2_ := (Option.bind_some _ _).symm.trans H; with_reducible exact H2_) | with_reducible exact H | (rw [hy465]; exact H) | exact H
          have Ny465 := Aside0.mk hy465
          clear hy465
          replace H := Option.bind_eq_some_iff.mp H
          obtain ⟨⟨t468, t469⟩, A180, H⟩ := H
          replace H : ((halberdlaw0_Num.f t453).bind fun t470 => (if t470 = 0 then ((halberdlaw0_Num.f t455).bind fun t471 => (if t471 = 101 then ((halberdlaw0_Num.f t457).bind fun t472 => (if t472 = 101 then ((halberdlaw0_Num.f t459).bind fun t473 => (if t473 = 101 then ((halberdlaw0_Num.f t461).bind fun t474 => (if t474 = 101 then ((halberdlaw0_Num.f t464).bind fun t475 => (if t475 = 101 then (if t468.toList = ([] : List UInt8) then ((halberdlaw0_Num.f t469).bind fun t476 => (some (t476 == 101))) else (some false)) else (some false))) else (some false))) else (some false))) else (some false))) else (some false))) else (some false))) = some r := H
          have A18 := Aside0.mk A180
          clear A180
          replace H := Option.bind_eq_some_iff.mp H
          obtain ⟨t470, A190, H⟩ := H
          replace H : (if t470 = 0 then ((halberdlaw0_Num.f t455).bind fun t471 => (if t471 = 101 then ((halberdlaw0_Num.f t457).bind fun t472 => (if t472 = 101 then ((halberdlaw0_Num.f t459).bind fun t473 => (if t473 = 101 then ((halberdlaw0_Num.f t461).bind fun t474 => (if t474 = 101 then ((halberdlaw0_Num.f t464).bind fun t475 => (if t475 = 101 then (if t468.toList = ([] : List UInt8) then ((halberdlaw0_Num.f t469).bind fun t476 => (some (t476 == 101))) else (some false)) else (some false))) else (some false))) else (some false))) else (some false))) else (some false))) else (some false)) = some r := H
          have A19 := Aside0.mk A190
          clear A190
          by_cases c20 : t470 = 0
          · rw [if_pos c20] at H
            have c20b0 : (t470 == 0) = true := beq_iff_eq.mpr c20
            have c20b1 : (t470 != 0) = false := bne_eq_false_iff_eq.mpr c20
            clear c20
            replace H := Option.bind_eq_some_iff.mp H
            obtain ⟨t471, A210, H⟩ := H
            replace H : (if t471 = 101 then ((halberdlaw0_Num.f t457).bind fun t472 => (if t472 = 101 then ((halberdlaw0_Num.f t459).bind fun t473 => (if t473 = 101 then ((halberdlaw0_Num.f t461).bind fun t474 => (if t474 = 101 then ((halberdlaw0_Num.f t464).bind fun t475 => (if t475 = 101 then (if t468.toList = ([] : List UInt8) then ((halberdlaw0_Num.f t469).bind fun t476 => (some (t476 == 101))) else (some false)) else (some false))) else (some false))) else (some false))) else (some false))) else (some false)) = some r := H
            have A21 := Aside0.mk A210
            clear A210
            by_cases c22 : t471 = 101
            · rw [if_pos c22] at H
              have c22b0 : (t471 == 101) = true := beq_iff_eq.mpr c22
              have c22b1 : (t471 != 101) = false := bne_eq_false_iff_eq.mpr c22
              clear c22
              replace H := Option.bind_eq_some_iff.mp H
              obtain ⟨t472, A230, H⟩ := H
              replace H : (if t472 = 101 then ((halberdlaw0_Num.f t459).bind fun t473 => (if t473 = 101 then ((halberdlaw0_Num.f t461).bind fun t474 => (if t474 = 101 then ((halberdlaw0_Num.f t464).bind fun t475 => (if t475 = 101 then (if t468.toList = ([] : List UInt8) then ((halberdlaw0_Num.f t469).bind fun t476 => (some (t476 == 101))) else (some false)) else (some false))) else (some false))) else (some false))) else (some false)) = some r := H
              have A23 := Aside0.mk A230
              clear A230
              by_cases c24 : t472 = 101
              · rw [if_pos c24] at H
                have c24b0 : (t472 == 101) = true := beq_iff_eq.mpr c24
                have c24b1 : (t472 != 101) = false := bne_eq_false_iff_eq.mpr c24
                clear c24
                replace H := Option.bind_eq_some_iff.mp H
                obtain ⟨t473, A250, H⟩ := H
                replace H : (if t473 = 101 then ((halberdlaw0_Num.f t461).bind fun t474 => (if t474 = 101 then ((halberdlaw0_Num.f t464).bind fun t475 => (if t475 = 101 then (if t468.toList = ([] : List UInt8) then ((halberdlaw0_Num.f t469).bind fun t476 => (some (t476 == 101))) else (some false)) else (some false))) else (some false))) else (some false)) = some r := H
                have A25 := Aside0.mk A250
                clear A250
                by_cases c26 : t473 = 101
                · rw [if_pos c26] at H
                  have c26b0 : (t473 == 101) = true := beq_iff_eq.mpr c26
                  have c26b1 : (t473 != 101) = false := bne_eq_false_iff_eq.mpr c26
                  clear c26
                  replace H := Option.bind_eq_some_iff.mp H
                  obtain ⟨t474, A270, H⟩ := H
                  replace H : (if t474 = 101 then ((halberdlaw0_Num.f t464).bind fun t475 => (if t475 = 101 then (if t468.toList = ([] : List UInt8) then ((halberdlaw0_Num.f t469).bind fun t476 => (some (t476 == 101))) else (some false)) else (some false))) else (some false)) = some r := H
                  have A27 := Aside0.mk A270
                  clear A270
                  by_cases c28 : t474 = 101
                  · rw [if_pos c28] at H
                    have c28b0 : (t474 == 101) = true := beq_iff_eq.mpr c28
                    have c28b1 : (t474 != 101) = false := bne_eq_false_iff_eq.mpr c28
                    clear c28
                    replace H := Option.bind_eq_some_iff.mp H
                    obtain ⟨t475, A290, H⟩ := H
                    replace H : (if t475 = 101 then (if t468.toList = ([] : List UInt8) then ((halberdlaw0_Num.f t469).bind fun t476 => (some (t476 == 101))) else (some false)) else (some false)) = some r := H
                    have A29 := Aside0.mk A290
                    clear A290
                    by_cases c30 : t475 = 101
                    · rw [if_pos c30] at H
                      have c30b0 : (t475 == 101) = true := beq_iff_eq.mpr c30
                      have c30b1 : (t475 != 101) = false := bne_eq_false_iff_eq.mpr c30
                      clear c30
                      by_cases c31 : t468.toList = ([] : List UInt8)
                      · rw [if_pos c31] at H
                        have c31b0 : (t468.toList == ([] : List UInt8)) = true := beq_iff_eq.mpr c31
                        have c31b1 : (t468.toList != ([] : List UInt8)) = false := bne_eq_false_iff_eq.mpr c31
                        clear c31
                        replace H := Option.bind_eq_some_iff.mp H
                        obtain ⟨t476, A320, H⟩ := H
                        replace H : (some (t476 == 101)) = some r := H
                        have A32 := Aside0.mk A320
                        clear A320
                        obtain rfl := Option.some.inj H
                        go_enter Try.func8, Try.ntmps8
                        go_wp2_with (first | ((with_reducible refine gate_callee (f := 37) rfl ?_); refine goesL_ (some 24) rfl rfl Try.func37 (by kernel_rfl) rfl #[] rfl (by (try simp only [List.map_toArray, List.map_cons, List.map_nil]); first | done | rfl | (simp only [List.length_drop, List.length_take]; rfl)) ?_; (with_reducible refine (halberdlaw1_awake.calls  true _ A4.out).mono ?_); rintro e w33 ⟨rfl, hb⟩; refine ⟨_, rfl, ?_⟩; have n0_ := Aside0.mk (below_step (by repeat (first | (with_reducible first | exact HB.out | apply below_alloc | apply pw_below_drewN | apply below_drew1) | exact HB.out)) hb); clear HB; have HB := n0_; clear n0_; (try clear hb); (try clear hb2); (try clear hk); (try clear hi)) | ((with_reducible refine gate_callee (f := 33) rfl ?_); refine goesL_ (some 41) rfl rfl Try.func33 (by kernel_rfl) rfl #[.int .i64 (wrap64 ((wrap64 ((ji8) - 1)) - (Go.bits .and .i64 a1 255))), .int .i64 (wrap64 (1 + (wrap64 (Int.tmod (IntKind.u64.wrap (a0)) 4))))] rfl (by (try simp only [List.map_toArray, List.map_cons, List.map_nil]); first | done | (simp only [hji8]; rfl) | rfl | (simp only [List.length_drop, List.length_take]; rfl)) ?_; (with_reducible refine (wire_Put.calls (wrap64 ((wrap64 ((ji8) - 1)) - (Go.bits .and .i64 a1 255))) (wrap64 (1 + (wrap64 (Int.tmod (IntKind.u64.wrap (a0)) 4)))) t452 t453 _ A9.out).mono ?_); rintro e w34 ⟨rfl, hb⟩; refine ⟨_, rfl, ?_⟩; have n0_ := Aside0.mk (below_step (by repeat (first | (with_reducible first | exact HB.out | apply below_alloc | apply pw_below_drewN | apply below_drew1) | exact HB.out)) hb); clear HB; have HB := n0_; clear n0_; (try clear hb); (try clear hb2); (try clear hk); (try clear hi)) | ((with_reducible refine gate_callee (f := 33) rfl ?_); refine goesL_ (some 50) rfl rfl Try.func33 (by kernel_rfl) rfl #[.int .i64 (wrap64 ((ji8) + (Go.bits .and .i64 a1 255))), .int .i64 (wrap64 (1 + (wrap64 (Int.tmod (IntKind.u64.wrap (a0)) 4))))] rfl (by (try simp only [List.map_toArray, List.map_cons, List.map_nil]); first | done | (simp only [hji8]; rfl) | rfl | (simp only [List.length_drop, List.length_take]; rfl)) ?_; (with_reducible refine (wire_Put.calls (wrap64 ((ji8) + (Go.bits .and .i64 a1 255))) (wrap64 (1 + (wrap64 (Int.tmod (IntKind.u64.wrap (a0)) 4)))) t454 t455 _ A10.out).mono ?_); rintro e w35 ⟨rfl, hb⟩; refine ⟨_, rfl, ?_⟩; have n0_ := Aside0.mk (below_step (by repeat (first | (with_reducible first | exact HB.out | apply below_alloc | apply pw_below_drewN | apply below_drew1) | exact HB.out)) hb); clear HB; have HB := n0_; clear n0_; (try clear hb); (try clear hb2); (try clear hk); (try clear hi)) | ((with_reducible refine gate_callee (f := 33) rfl ?_); refine goesL_ (some 58) rfl rfl Try.func33 (by kernel_rfl) rfl #[.int .i64 (wrap64 ((-1) - (Go.bits .and .i64 a1 255))), .int .i64 (wrap64 (1 + (wrap64 (Int.tmod (IntKind.u64.wrap (a0)) 4))))] rfl (by (try simp only [List.map_toArray, List.map_cons, List.map_nil]); first | done | rfl | (simp only [List.length_drop, List.length_take]; rfl)) ?_; (with_reducible refine (wire_Put.calls (wrap64 ((-1) - (Go.bits .and .i64 a1 255))) (wrap64 (1 + (wrap64 (Int.tmod (IntKind.u64.wrap (a0)) 4)))) t456 t457 _ A11.out).mono ?_); rintro e w36 ⟨rfl, hb⟩; refine ⟨_, rfl, ?_⟩; have n0_ := Aside0.mk (below_step (by repeat (first | (with_reducible first | exact HB.out | apply below_alloc | apply pw_below_drewN | apply below_drew1) | exact HB.out)) hb); clear HB; have HB := n0_; clear n0_; (try clear hb); (try clear hb2); (try clear hk); (try clear hi)) | ((with_reducible refine gate_callee (f := 33) rfl ?_); refine goesL_ (some 65) rfl rfl Try.func33 (by kernel_rfl) rfl #[.int .i64 0, .int .i64 (wrap64 (5 + (Go.bits .and .i64 a2 7)))] rfl (by (try simp only [List.map_toArray, List.map_cons, List.map_nil]); first | done | rfl | (simp only [List.length_drop, List.length_take]; rfl)) ?_; (with_reducible refine (wire_Put.calls 0 (wrap64 (5 + (Go.bits .and .i64 a2 7))) t458 t459 _ A12.out).mono ?_); rintro e w37 ⟨rfl, hb⟩; refine ⟨_, rfl, ?_⟩; have n0_ := Aside0.mk (below_step (by repeat (first | (with_reducible first | exact HB.out | apply below_alloc | apply pw_below_drewN | apply below_drew1) | exact HB.out)) hb); clear HB; have HB := n0_; clear n0_; (try clear hb); (try clear hb2); (try clear hk); (try clear hi)) | ((with_reducible refine gate_callee (f := 35) rfl ?_); refine goesL_ (some 72) rfl rfl Try.func35 (by kernel_rfl) rfl #[.string (⟨#[]⟩ : ByteArray), .int .i64 (wrap64 (4 + (Go.bits .and .i64 a2 7)))] rfl (by (try simp only [List.map_toArray, List.map_cons, List.map_nil]); first | done | rfl | (simp only [List.length_drop, List.length_take]; rfl)) ?_; (with_reducible refine (wire_PutVec.calls (⟨#[]⟩ : ByteArray) (wrap64 (4 + (Go.bits .and .i64 a2 7))) t460 t461 _ A13.out).mono ?_); rintro e w38 ⟨rfl, hb⟩; refine ⟨_, rfl, ?_⟩; have n0_ := Aside0.mk (below_step (by repeat (first | (with_reducible first | exact HB.out | apply below_alloc | apply pw_below_drewN | apply below_drew1) | exact HB.out)) hb); clear HB; have HB := n0_; clear n0_; (try clear hb); (try clear hb2); (try clear hk); (try clear hi)) | ((with_reducible refine gate_callee (f := 38) rfl ?_); refine goesL_ (some 79) rfl rfl Try.func38 (by kernel_rfl) rfl #[.string (⟨#[0, 0, 0, 0, 0]⟩ : ByteArray), .int .i64 0, .int .i64 (wrap64 (4 + (Go.bits .and .i64 a2 7)))] rfl (by (try simp only [List.map_toArray, List.map_cons, List.map_nil]); first | done | rfl | (simp only [List.length_drop, List.length_take]; rfl)) ?_; (with_reducible refine (wire_Vec.calls k (⟨#[0, 0, 0, 0, 0]⟩ : ByteArray) 0 (wrap64 (4 + (Go.bits .and .i64 a2 7))) t462 t463 t464 _ A14.out).mono ?_); rintro e w' ⟨rfl, ⟨nd, rfl⟩⟩; refine ⟨_, rfl, ?_⟩) | ((with_reducible refine gate_dst (N := 87) rfl ?_); refine Kd.R_make (Kd.int .u8) _ 5 rfl (N := 87) rfl 40 _ _ rfl ji15 rfl rfl Try.underlying40 (.int .u8 0) 1 info5 rfl (by decide) (by omega) 0 (ok := fun _ => True) (okp := fun _ => True) rfl (fun _ hk => hk) trivial (of_decide_eq_true (by first | (with_reducible assumption) | assumption)) (Nat.le_trans (Nat.mul_le_mul_right _ (of_decide_eq_true (by first | (with_reducible assumption) | assumption) : ji15.toNat ≤ 281474976710656)) (by omega)) (Below.refl _ _) (Nat.le_refl _) ?_; intro v466 w39 ho40 hb hg_ hnew_; clear hg_ hnew_; (first | rw [← Ny465.out] at ho40 | (simp only [Int.reduceToNat] at ho40; rw [← Ny465.out] at ho40)); have n0_ := Aside0.mk (Kd.R_lower ho40 (below_size (by repeat (first | (with_reducible first | exact HB.out | apply below_alloc | apply pw_below_drewN | apply below_drew1) | exact HB.out)))); have n1_ := Aside0.mk (below_step (by repeat (first | (with_reducible first | exact HB.out | apply below_alloc | apply pw_below_drewN | apply below_drew1) | exact HB.out)) hb); clear HB; have HO467 := n0_; have HB := n1_; clear n0_ n1_; clear hb ho40; have hcv41 := own_string (P := Try.prog) Try.underlying40 Try.underlying5 Try.underlying9 (Kd.own_of_R HO467.out)) | ((with_reducible refine gate_callee (f := 35) rfl ?_); refine goesL_ (some 89) rfl rfl Try.func35 (by kernel_rfl) rfl #[.string (strOfNums y465), .int .i64 1] rfl (by (try simp only [List.map_toArray, List.map_cons, List.map_nil]); first | done | rfl | (simp only [List.length_drop, List.length_take]; rfl)) ?_; (with_reducible refine (wire_PutVec.calls (strOfNums y465) 1 t468 t469 _ A18.out).mono ?_); rintro e w42 ⟨rfl, hb⟩; refine ⟨_, rfl, ?_⟩; have n0_ := Aside0.mk (Kd.R_below (by (with_reducible repeat (first | apply Kd.R_alloc | apply Kd.R_drewN | apply Kd.R_drew)); exact HO467.out) hb); have n1_ := Aside0.mk (below_step (by repeat (first | (with_reducible first | exact HB.out | apply below_alloc | apply pw_below_drewN | apply below_drew1) | exact HB.out)) hb); clear HO467; clear HB; have HO467 := n0_; have HB := n1_; clear n0_ n1_; (try clear hb); (try clear hb2); (try clear hk); (try clear hi)) | ((with_reducible refine gate_callee (f := 28) rfl ?_); refine goesL_ (some 93) rfl rfl Try.func28 (by kernel_rfl) rfl #[.int .i64 t453] rfl (by (try simp only [List.map_toArray, List.map_cons, List.map_nil]); first | done | rfl | (simp only [List.length_drop, List.length_take]; rfl)) ?_; (with_reducible refine (halberdlaw0_Num.calls t453 t470 _ A19.out).mono ?_); rintro e w' ⟨rfl, ⟨nd, rfl⟩⟩; refine ⟨_, rfl, ?_⟩) | (go_at_call 28; (with_reducible refine (halberdlaw0_Num.calls t455 t471 _ A21.out).mono ?_); rintro e w' ⟨rfl, ⟨nd, rfl⟩⟩) | (go_at_call 28; (with_reducible refine (halberdlaw0_Num.calls t457 t472 _ A23.out).mono ?_); rintro e w' ⟨rfl, ⟨nd, rfl⟩⟩) | (go_at_call 28; (with_reducible refine (halberdlaw0_Num.calls t459 t473 _ A25.out).mono ?_); rintro e w' ⟨rfl, ⟨nd, rfl⟩⟩) | (go_at_call 28; (with_reducible refine (halberdlaw0_Num.calls t461 t474 _ A27.out).mono ?_); rintro e w' ⟨rfl, ⟨nd, rfl⟩⟩) | (go_at_call 28; (with_reducible refine (halberdlaw0_Num.calls t464 t475 _ A29.out).mono ?_); rintro e w' ⟨rfl, ⟨nd, rfl⟩⟩) | (go_at_call 28; (with_reducible refine (halberdlaw0_Num.calls t469 t476 _ A32.out).mono ?_); rintro e w' ⟨rfl, ⟨nd, rfl⟩⟩))
                        go_ret
                        exact ⟨by first | rfl | (simp [errW_none, errW_some] <;> rfl) | (simp only [← hji6, ← hji8, ← hji15]; first | rfl | (simp [errW_none, errW_some] <;> rfl)) | (simp [*, errW_none, errW_some] <;> rfl), by repeat (first | (with_reducible first | exact HB.out | apply below_alloc | apply pw_below_drewN | apply below_drew1) | exact HB.out)⟩
                      · rw [if_neg c31] at H
                        have c31b0 : (t468.toList == ([] : List UInt8)) = false := beq_eq_false_iff_ne.mpr c31
                        have c31b1 : (t468.toList != ([] : List UInt8)) = true := bne_iff_ne.mpr c31
                        exact absurd ((Option.some.inj H).trans hr.out) (by decide)
                    · rw [if_neg c30] at H
                      have c30b0 : (t475 == 101) = false := beq_eq_false_iff_ne.mpr c30
                      have c30b1 : (t475 != 101) = true := bne_iff_ne.mpr c30
                      exact absurd ((Option.some.inj H).trans hr.out) (by decide)
                  · rw [if_neg c28] at H
                    have c28b0 : (t474 == 101) = false := beq_eq_false_iff_ne.mpr c28
                    have c28b1 : (t474 != 101) = true := bne_iff_ne.mpr c28
                    exact absurd ((Option.some.inj H).trans hr.out) (by decide)
                · rw [if_neg c26] at H
                  have c26b0 : (t473 == 101) = false := beq_eq_false_iff_ne.mpr c26
                  have c26b1 : (t473 != 101) = true := bne_iff_ne.mpr c26
                  exact absurd ((Option.some.inj H).trans hr.out) (by decide)
              · rw [if_neg c24] at H
                have c24b0 : (t472 == 101) = false := beq_eq_false_iff_ne.mpr c24
                have c24b1 : (t472 != 101) = true := bne_iff_ne.mpr c24
                exact absurd ((Option.some.inj H).trans hr.out) (by decide)
            · rw [if_neg c22] at H
              have c22b0 : (t471 == 101) = false := beq_eq_false_iff_ne.mpr c22
              have c22b1 : (t471 != 101) = true := bne_iff_ne.mpr c22
              exact absurd ((Option.some.inj H).trans hr.out) (by decide)
          · rw [if_neg c20] at H
            have c20b0 : (t470 == 0) = false := beq_eq_false_iff_ne.mpr c20
            have c20b1 : (t470 != 0) = true := bne_iff_ne.mpr c20
            exact absurd ((Option.some.inj H).trans hr.out) (by decide)
        · rw [if_neg c17] at H
          exact absurd H (by simp)
      · rw [if_neg c16] at H
        exact absurd H (by simp)
    · rw [if_neg c7] at H
      exact absurd H (by simp)
  · replace c5 := Bool.eq_false_iff.mpr c5
    subst c5
    have H1 : (some false) = some r := by rw [if_neg (show ¬ (false = true) by decide)] at H; exact H
    clear H
    have H := H1
    clear H1
    exact absurd ((Option.some.inj H).trans hr.out) (by decide)

/-- THE ONE PURE STATEMENT of halberdlaw1_WireLimits: yours. -/
def halberdlaw1_WireLimits.Pure : Prop := ∀ (a0 : Int) (a1 : Int) (a2 : Int), (Lit.int .i64 a0).wf = true → (Lit.int .i64 a1).wf = true → (Lit.int .i64 a2).wf = true → ∃ k, halberdlaw1_WireLimits.f k a0 a1 a2 = some true
theorem halberdlaw1_WireLimits.walk (P : halberdlaw1_WireLimits.Pure) (a0 : Int) (a1 : Int) (a2 : Int) (w : World) (w0 : (Lit.int .i64 a0).wf = true) (w1 : (Lit.int .i64 a1).wf = true) (w2 : (Lit.int .i64 a2).wf = true) :
    Calls Try.prog 8 #[.int .i64 a0, .int .i64 a1, .int .i64 a2] w fun e w' => e = .returned (.bool true) ∧ Below w.heap.size w w' := by
  obtain ⟨k, h⟩ := P a0 a1 a2 w0 w1 w2
  refine (halberdlaw1_WireLimits.calls k a0 a1 a2 true w h ⟨rfl⟩).mono ?_
  rintro e w' ⟨rfl, hd⟩
  exact ⟨rfl, hd⟩

/-! ### wire_U32: function 40 -/
def wire_U32.f (k : Nat) (a0 : ByteArray) (a1 : Int) : Option (Int × Int × Int) := (wire_number.f k a0 a1 4).bind fun bt477 => (some (bt477.1, bt477.2.1, bt477.2.2))
theorem wire_U32.mono : ∀ a0 a1 k, LeO (wire_U32.f k a0 a1) (wire_U32.f (k + 1) a0 a1) := by
  intro a0 a1 k
  unfold wire_U32.f
  repeat' first
      | (with_reducible exact wire_number.mono _ _ _ _)
      | (with_reducible exact LeO.refl _)
      | (with_reducible exact LeO.none _)
      | (with_reducible refine LeO.ite ?_ ?_)
      | (with_reducible refine LeO.bind ?_ (fun _ => ?_))
      | exact wire_number.mono _ _ _ _
      | exact LeO.none _
      | refine LeO.ite ?_ ?_
      | refine LeO.bind ?_ (fun _ => ?_)
set_option maxHeartbeats 8000000 in
set_option maxRecDepth 100000 in
theorem wire_U32.calls (k : Nat) (a0 : ByteArray) (a1 : Int) (r1 : Int) (r2 : Int) (r3 : Int) (w : World) (h : wire_U32.f k a0 a1 = some (r1, r2, r3)) :
    Calls Try.prog 40 #[.string a0, .int .i64 a1] w fun e w' => e = .returned (.tuple #[.int .i64 r1, .int .i64 r2, .int .i64 r3]) ∧ Drawn0 w w' := by
  have H : ((wire_number.f k a0 a1 4).bind fun bt477 => (some (bt477.1, bt477.2.1, bt477.2.2))) = some (r1, r2, r3) := h
  clear h
  replace H := Option.bind_eq_some_iff.mp H
  obtain ⟨⟨t477, t478, t479⟩, A30, H⟩ := H
  replace H : (some (t477, t478, t479)) = some (r1, r2, r3) := H
  have A3 := Aside0.mk A30
  clear A30
  simp only [Option.some.injEq, Prod.mk.injEq] at H
  obtain ⟨rfl, rfl, rfl⟩ := H
  go_enter Try.func40, Try.ntmps40
  go_wp2_with (first | ((with_reducible refine gate_callee (f := 48) rfl ?_); refine goesL_ (some 9) rfl rfl Try.func48 (by kernel_rfl) rfl #[.string a0, .int .i64 a1, .int .i64 4] rfl (by (try simp only [List.map_toArray, List.map_cons, List.map_nil]); first | done | rfl | (simp only [List.length_drop, List.length_take]; rfl)) ?_; (with_reducible refine (wire_number.calls k a0 a1 4 t477 t478 t479 _ A3.out).mono ?_); rintro e w' ⟨rfl, ⟨nd, rfl⟩⟩; refine ⟨_, rfl, ?_⟩))
  go_ret3
  exact ⟨by first | rfl | (simp; done) | (simp [*]; done), by repeat (first | exact Drawn0.refl _ | apply Drawn0.step)⟩

end Go.Proofs.Ytggnmnpmhknjgaa.X
