-- Written by a program of this session (wip/tools/xprint.py), over the kit's printer.
import Derived.Test.YtocckplgjbhlbaaVx0
namespace Go.Proofs.Ytocckplgjbhlbaa.V
open Go.RowKit Go.Proofs.YtocckplgjbhlbaaW.PrintWords Go.Proofs.YtocckplgjbhlbaaW.PrintLast Go.Proofs.YtocckplgjbhlbaaW.PrintMore
attribute [local go_sem] max2_int min2_int max_two min_two max_three min_three max_four min_four   -- for this text's walks alone
set_option linter.unusedVariables false
set_option linter.unusedSimpArgs false

/-! ### chacha_may: function 25 -/
def chacha_may.f (a0 : ByteArray) (a1 : Int) (a2 : ByteArray) : Option (Bool) := if (a0.size : Int) = 32 then (if a1 ≥ 0 then (if a1 ≤ 4294967295 then (some ((a2.size : Int) == 12)) else (some false)) else (some false)) else (some false)
set_option maxHeartbeats 8000000 in
set_option maxRecDepth 100000 in
theorem chacha_may.calls (a0 : ByteArray) (a1 : Int) (a2 : ByteArray) (r : Bool) (w : World) (h : chacha_may.f a0 a1 a2 = some r) :
    Calls Try.prog 25 #[.string a0, .int .i64 a1, .string a2] w fun e w' => e = .returned (.bool r) ∧ Drawn0 w w' := by
  have H : (if (a0.size : Int) = 32 then (if a1 ≥ 0 then (if a1 ≤ 4294967295 then (some ((a2.size : Int) == 12)) else (some false)) else (some false)) else (some false)) = some r := h
  clear h
  by_cases c4 : (a0.size : Int) = 32
  · rw [if_pos c4] at H
    have c4b0 : ((a0.size : Int) == 32) = true := beq_iff_eq.mpr c4
    have c4b1 : ((a0.size : Int) != 32) = false := bne_eq_false_iff_eq.mpr c4
    clear c4
    by_cases c5 : a1 ≥ 0
    · rw [if_pos c5] at H
      have c5b0 : decide (0 ≤ a1) = true := decide_eq_true c5
      clear c5
      by_cases c6 : a1 ≤ 4294967295
      · rw [if_pos c6] at H
        have c6b0 : decide (a1 ≤ 4294967295) = true := decide_eq_true c6
        clear c6
        obtain rfl := Option.some.inj H
        go_enter Try.func25, Try.ntmps25
        go_wp2
        go_ret
        exact ⟨by first | rfl | (simp; done) | (simp [*]; done), by repeat (first | exact Drawn0.refl _ | apply Drawn0.step)⟩
      · rw [if_neg c6] at H
        have c6b0 : decide (a1 ≤ 4294967295) = false := decide_eq_false c6
        clear c6
        obtain rfl := Option.some.inj H
        go_enter Try.func25, Try.ntmps25
        go_wp2
        go_ret
        exact ⟨by first | rfl | (simp; done) | (simp [*]; done), by repeat (first | exact Drawn0.refl _ | apply Drawn0.step)⟩
    · rw [if_neg c5] at H
      have c5b0 : decide (0 ≤ a1) = false := decide_eq_false c5
      clear c5
      obtain rfl := Option.some.inj H
      go_enter Try.func25, Try.ntmps25
      go_wp2
      go_ret
      exact ⟨by first | rfl | (simp; done) | (simp [*]; done), by repeat (first | exact Drawn0.refl _ | apply Drawn0.step)⟩
  · rw [if_neg c4] at H
    have c4b0 : ((a0.size : Int) == 32) = false := beq_eq_false_iff_ne.mpr c4
    have c4b1 : ((a0.size : Int) != 32) = true := bne_iff_ne.mpr c4
    obtain rfl := Option.some.inj H
    go_enter Try.func25, Try.ntmps25
    go_wp2
    go_ret
    exact ⟨by first | rfl | (simp; done) | (simp [*]; done), by repeat (first | exact Drawn0.refl _ | apply Drawn0.step)⟩

/-! ### chacha_word: function 38 -/
def chacha_word.f (a0 : ByteArray) : Option (Int) := if 0 < (a0.size : Int) then (if 1 < (a0.size : Int) then (if 2 < (a0.size : Int) then (if 3 < (a0.size : Int) then (some (Go.bits .or .u32 (Go.bits .or .u32 (Go.bits .or .u32 ((bt a0 0) % 4294967296) ((((bt a0 1) % 4294967296) * 256) % 4294967296)) ((((bt a0 2) % 4294967296) * 65536) % 4294967296)) ((((bt a0 3) % 4294967296) * 16777216) % 4294967296))) else (none)) else (none)) else (none)) else (none)
set_option maxHeartbeats 8000000 in
set_option maxRecDepth 100000 in
theorem chacha_word.calls (a0 : ByteArray) (r : Int) (w : World) (h : chacha_word.f a0 = some r) :
    Calls Try.prog 38 #[.string a0] w fun e w' => e = .returned (.int .u32 r) ∧ Drawn0 w w' := by
  have H : (if 0 < (a0.size : Int) then (if 1 < (a0.size : Int) then (if 2 < (a0.size : Int) then (if 3 < (a0.size : Int) then (some (Go.bits .or .u32 (Go.bits .or .u32 (Go.bits .or .u32 ((bt a0 0) % 4294967296) ((((bt a0 1) % 4294967296) * 256) % 4294967296)) ((((bt a0 2) % 4294967296) * 65536) % 4294967296)) ((((bt a0 3) % 4294967296) * 16777216) % 4294967296))) else (none)) else (none)) else (none)) else (none)) = some r := h
  clear h
  by_cases c2 : 0 < (a0.size : Int)
  · rw [if_pos c2] at H
    have c2b0 : decide (0 < (a0.size : Int)) = true := decide_eq_true c2
    have c2b1 : decide (0 < a0.size) = true := decide_eq_true (by omega)
    clear c2
    by_cases c4 : 1 < (a0.size : Int)
    · rw [if_pos c4] at H
      have c4b0 : decide (1 < (a0.size : Int)) = true := decide_eq_true c4
      have c4b1 : decide (1 < a0.size) = true := decide_eq_true (by omega)
      clear c4
      by_cases c6 : 2 < (a0.size : Int)
      · rw [if_pos c6] at H
        have c6b0 : decide (2 < (a0.size : Int)) = true := decide_eq_true c6
        have c6b1 : decide (2 < a0.size) = true := decide_eq_true (by omega)
        clear c6
        by_cases c8 : 3 < (a0.size : Int)
        · rw [if_pos c8] at H
          have c8b0 : decide (3 < (a0.size : Int)) = true := decide_eq_true c8
          have c8b1 : decide (3 < a0.size) = true := decide_eq_true (by omega)
          clear c8
          obtain rfl := Option.some.inj H
          have p3 : 0 ≤ (0 : Int) := (by omega)
          have q3 : 0 < a0.size := (by have : (0 : Int) < (a0.size : Int) := of_decide_eq_true (by first | (with_reducible assumption) | assumption); omega)
          have hx3 : ∀ h : 0 < a0.size, ((a0[0]'h).toNat : Int) = bt a0 0 := bt_at a0 0
          clear p3
          have qi3 : (0 < (a0.size : Int)) = True := eq_true (of_decide_eq_true (by first | (with_reducible assumption) | assumption))
          replace q3 := eq_true q3
          have p5 : 0 ≤ (1 : Int) := (by omega)
          have q5 : 1 < a0.size := (by have : (1 : Int) < (a0.size : Int) := of_decide_eq_true (by first | (with_reducible assumption) | assumption); omega)
          have hx5 : ∀ h : 1 < a0.size, ((a0[1]'h).toNat : Int) = bt a0 1 := bt_at a0 1
          clear p5
          have qi5 : (1 < (a0.size : Int)) = True := eq_true (of_decide_eq_true (by first | (with_reducible assumption) | assumption))
          replace q5 := eq_true q5
          have p7 : 0 ≤ (2 : Int) := (by omega)
          have q7 : 2 < a0.size := (by have : (2 : Int) < (a0.size : Int) := of_decide_eq_true (by first | (with_reducible assumption) | assumption); omega)
          have hx7 : ∀ h : 2 < a0.size, ((a0[2]'h).toNat : Int) = bt a0 2 := bt_at a0 2
          clear p7
          have qi7 : (2 < (a0.size : Int)) = True := eq_true (of_decide_eq_true (by first | (with_reducible assumption) | assumption))
          replace q7 := eq_true q7
          have p9 : 0 ≤ (3 : Int) := (by omega)
          have q9 : 3 < a0.size := (by have : (3 : Int) < (a0.size : Int) := of_decide_eq_true (by first | (with_reducible assumption) | assumption); omega)
          have hx9 : ∀ h : 3 < a0.size, ((a0[3]'h).toNat : Int) = bt a0 3 := bt_at a0 3
          clear p9
          have qi9 : (3 < (a0.size : Int)) = True := eq_true (of_decide_eq_true (by first | (with_reducible assumption) | assumption))
          replace q9 := eq_true q9
          go_enter Try.func38, Try.ntmps38
          go_wp2
          repeat (go_quiet (fail); try go_wp2)
          go_ret
          exact ⟨by first | rfl | (simp; done) | (simp [*]; done), by repeat (first | exact Drawn0.refl _ | apply Drawn0.step)⟩
        · rw [if_neg c8] at H
          exact absurd H (by simp)
      · rw [if_neg c6] at H
        exact absurd H (by simp)
    · rw [if_neg c4] at H
      exact absurd H (by simp)
  · rw [if_neg c2] at H
    exact absurd H (by simp)

-- NOT PRINTED: function 26 (chacha_begin)

/-! ### bits_RotateLeft32: function 51 -/
def bits_RotateLeft32.f (a0 : Int) (a1 : Int) : Option (Int) := if 0 ≤ (Go.bits .and .u64 (IntKind.u64.wrap (a1)) 31) then (if 0 ≤ (IntKind.u64.wrap (32 - (Go.bits .and .u64 (IntKind.u64.wrap (a1)) 31))) then (some (Go.bits .or .u32 (shl .u32 a0 (Go.bits .and .u64 (IntKind.u64.wrap (a1)) 31)) (shr .u32 a0 (IntKind.u64.wrap (32 - (Go.bits .and .u64 (IntKind.u64.wrap (a1)) 31)))))) else (none)) else (none)
set_option maxHeartbeats 8000000 in
set_option maxRecDepth 100000 in
theorem bits_RotateLeft32.calls (a0 : Int) (a1 : Int) (r : Int) (w : World) (h : bits_RotateLeft32.f a0 a1 = some r) :
    Calls Try.prog 51 #[.int .u32 a0, .int .i64 a1] w fun e w' => e = .returned (.int .u32 r) ∧ Drawn0 w w' := by
  have H : (if 0 ≤ (Go.bits .and .u64 (IntKind.u64.wrap (a1)) 31) then (if 0 ≤ (IntKind.u64.wrap (32 - (Go.bits .and .u64 (IntKind.u64.wrap (a1)) 31))) then (some (Go.bits .or .u32 (shl .u32 a0 (Go.bits .and .u64 (IntKind.u64.wrap (a1)) 31)) (shr .u32 a0 (IntKind.u64.wrap (32 - (Go.bits .and .u64 (IntKind.u64.wrap (a1)) 31)))))) else (none)) else (none)) = some r := h
  clear h
  obtain ⟨ji3, hji3⟩ : ∃ j_ : Int, (Go.bits .and .u64 (IntKind.u64.wrap (a1)) 31) = j_ := ⟨_, rfl⟩
  replace H : (if 0 ≤ (ji3) then (if 0 ≤ (IntKind.u64.wrap (32 - (ji3))) then (some (Go.bits .or .u32 (shl .u32 a0 (ji3)) (shr .u32 a0 (IntKind.u64.wrap (32 - (ji3)))))) else (none)) else (none)) = some r := by first | (rw [hji3] at H; exact H) | (simp only [hji3] at H ⊢; exact H)
  by_cases c4 : 0 ≤ (ji3)
  · rw [if_pos c4] at H
    have c4b0 := eq_true c4
    have c4b1 : decide (0 ≤ (ji3)) = true := decide_eq_true c4
    clear c4
    obtain ⟨ji5, hji5⟩ : ∃ j_ : Int, (shl .u32 a0 (ji3)) = j_ := ⟨_, rfl⟩
    replace H : (if 0 ≤ (IntKind.u64.wrap (32 - (ji3))) then (some (Go.bits .or .u32 (ji5) (shr .u32 a0 (IntKind.u64.wrap (32 - (ji3)))))) else (none)) = some r := by first | (rw [hji5] at H; exact H) | (simp only [hji5] at H ⊢; exact H)
    have hji5_ : (IntKind.u32.wrap (a0 * 2 ^ min (ji3).toNat 32)) = ji5 := hji5
    have hji5z : (ji3) ≤ 32 → (IntKind.u32.wrap (a0 * 2 ^ (ji3).toNat)) = ji5 := shl_small hji5
    obtain ⟨ji6, hji6⟩ : ∃ j_ : Int, (IntKind.u64.wrap (32 - (ji3))) = j_ := ⟨_, rfl⟩
    replace H : (if 0 ≤ (ji6) then (some (Go.bits .or .u32 (ji5) (shr .u32 a0 (ji6)))) else (none)) = some r := by first | (rw [hji6] at H; exact H) | (simp only [hji6] at H ⊢; exact H)
    by_cases c7 : 0 ≤ (ji6)
    · rw [if_pos c7] at H
      have c7b0 := eq_true c7
      have c7b1 : decide (0 ≤ (ji6)) = true := decide_eq_true c7
      clear c7
      obtain ⟨ji8, hji8⟩ : ∃ j_ : Int, (shr .u32 a0 (ji6)) = j_ := ⟨_, rfl⟩
      replace H : (some (Go.bits .or .u32 (ji5) (ji8))) = some r := by first | (rw [hji8] at H; exact H) | (simp only [hji8] at H ⊢; exact H)
      have hji8_ : (a0 / 2 ^ min (ji6).toNat 32) = ji8 := hji8
      have hji8z : (ji6) ≤ 32 → (a0 / 2 ^ (ji6).toNat) = ji8 := shr_small hji8
      obtain rfl := Option.some.inj H
      go_enter Try.func51, Try.ntmps51
      go_wp2
      go_ret
      exact ⟨by first | rfl | (simp; done) | (simp only [← hji3, ← hji5, ← hji6, ← hji8] <;> (first | rfl | simp)) | (simp [*]; done), by repeat (first | exact Drawn0.refl _ | apply Drawn0.step)⟩
    · rw [if_neg c7] at H
      exact absurd H (by simp)
  · rw [if_neg c4] at H
    exact absurd H (by simp)

-- NOT PRINTED: function 39 (chacha_state_quarter)

-- NOT PRINTED: function 27 (chacha_state_bytes)

/-! ### chacha_Block: function 12 -/
def chacha_Block.f (a0 : ByteArray) (a1 : Int) (a2 : ByteArray) : Option (ByteArray × Int) := some (if Cha.May a0 a1 a2 then (strOfNums (Cha.blkNums a0 a1 a2), 0) else (ByteArray.empty, 600))
theorem chacha_Block.calls (a0 : ByteArray) (a1 : Int) (a2 : ByteArray) (r1 : ByteArray) (r2 : Int) (w : World) (h : chacha_Block.f a0 a1 a2 = some (r1, r2)) :
    Calls Try.prog 12 #[.string a0, .int .i64 a1, .string a2] w fun e w' => e = .returned (.tuple #[.string r1, .int .i64 r2]) ∧ Below w.heap.size w w' := by
  unfold chacha_Block.f at h
  have h := Option.some.inj h
  by_cases hm : Cha.May a0 a1 a2
  · rw [if_pos hm] at h
    rw [← (Prod.mk.inj h).1, ← (Prod.mk.inj h).2]
    exact Cha.block_yes a0 a1 a2 hm w
  · rw [if_neg hm] at h
    rw [← (Prod.mk.inj h).1, ← (Prod.mk.inj h).2]
    exact Cha.block_no a0 a1 a2 hm w

-- NOT PRINTED: function 29 (chacha_XorIn)

/-! ### chacha_Xor: function 14 -/
def chacha_Xor.f (a0 : ByteArray) (a1 : Int) (a2 : ByteArray) (a3 : ByteArray) : Option (ByteArray × Int) := some (if Cha.May a0 a1 a2 ∧ a3.size ≤ 65536 then (Cha.xorOut a0 a2 a1 a3, 0) else (ByteArray.empty, 600))
theorem chacha_Xor.calls (a0 : ByteArray) (a1 : Int) (a2 : ByteArray) (a3 : ByteArray) (r1 : ByteArray) (r2 : Int) (w : World) (h : chacha_Xor.f a0 a1 a2 a3 = some (r1, r2)) :
    Calls Try.prog 14 #[.string a0, .int .i64 a1, .string a2, .string a3] w fun e w' => e = .returned (.tuple #[.string r1, .int .i64 r2]) ∧ Below w.heap.size w w' := by
  unfold chacha_Xor.f at h
  have h := Option.some.inj h
  by_cases hm : Cha.May a0 a1 a2 ∧ a3.size ≤ 65536
  · rw [if_pos hm] at h
    rw [← (Prod.mk.inj h).1, ← (Prod.mk.inj h).2]
    exact Cha.xor_yes a0 a1 a2 a3 hm.1 hm.2 w
  · rw [if_neg hm] at h
    rw [← (Prod.mk.inj h).1, ← (Prod.mk.inj h).2]
    exact Cha.xor_no a0 a1 a2 a3 hm w

/-! ### halberdlaw0_Num: function 16 -/
def halberdlaw0_Num.f (a0 : Int) : Option (Int) := some a0
set_option maxHeartbeats 8000000 in
set_option maxRecDepth 100000 in
theorem halberdlaw0_Num.calls (a0 : Int) (r : Int) (w : World) (h : halberdlaw0_Num.f a0 = some r) :
    Calls Try.prog 16 #[.int .i64 a0] w fun e w' => e = .returned (.int .i64 r) ∧ Drawn0 w w' := by
  have H : (some a0) = some r := h
  clear h
  obtain rfl := Option.some.inj H
  go_enter Try.func16, Try.ntmps16
  go_wp2
  go_ret
  exact ⟨by first | rfl | (simp; done) | (simp [*]; done), by repeat (first | exact Drawn0.refl _ | apply Drawn0.step)⟩

/-! ### halberdlaw6_awake0: function 17 -/
def halberdlaw6_awake0.f  : Option (Bool) := if 32 ≤ 281474976710656 then ((some (List.replicate 32 0 : List Int)).bind fun y101 => (if 0 ≤ 12 then (if 12 ≤ ((strOfNums y101).size : Int) then ((chacha_Block.f (strOfNums y101) 0 ((strOfNums y101).extract 0 12)).bind fun bt104 => ((chacha_Xor.f (strOfNums y101) 0 ((strOfNums y101).extract 0 12) (⟨#[97, 98, 99]⟩ : ByteArray)).bind fun bt106 => ((chacha_Xor.f (strOfNums y101) 0 ((strOfNums y101).extract 0 12) bt106.1).bind fun bt108 => ((chacha_Block.f (strOfNums y101) (-1) ((strOfNums y101).extract 0 12)).bind fun bt110 => (if (bt104.1.size : Int) = 64 then (if 0 < (bt104.1.size : Int) then (if (bt bt104.1 0) = 118 then (if 1 < (bt104.1.size : Int) then (if (bt bt104.1 1) = 184 then ((halberdlaw0_Num.f bt104.2).bind fun t112 => (if t112 = 0 then ((halberdlaw0_Num.f bt106.2).bind fun t113 => (if t113 = 0 then (if bt108.1.toList = ([97, 98, 99] : List UInt8) then ((halberdlaw0_Num.f bt108.2).bind fun t114 => (if t114 = 0 then ((halberdlaw0_Num.f bt110.2).bind fun t115 => (some (t115 == 600))) else (some false))) else (some false)) else (some false))) else (some false))) else (some false)) else (none)) else (some false)) else (none)) else (some false)))))) else (none)) else (none))) else (none)
set_option maxHeartbeats 8000000 in
set_option maxRecDepth 100000 in
theorem halberdlaw6_awake0.calls  (r : Bool) (w : World) (h : halberdlaw6_awake0.f  = some r) (hr : Aside0 (r = true)) :
    Calls Try.prog 17 #[] w fun e w' => e = .returned (.bool r) ∧ Below w.heap.size w w' := by
  have HB := Aside0.mk (Below.refl w.heap.size w)
  have H : (if 32 ≤ 281474976710656 then ((some (List.replicate 32 0 : List Int)).bind fun y101 => (if 0 ≤ 12 then (if 12 ≤ ((strOfNums y101).size : Int) then ((chacha_Block.f (strOfNums y101) 0 ((strOfNums y101).extract 0 12)).bind fun bt104 => ((chacha_Xor.f (strOfNums y101) 0 ((strOfNums y101).extract 0 12) (⟨#[97, 98, 99]⟩ : ByteArray)).bind fun bt106 => ((chacha_Xor.f (strOfNums y101) 0 ((strOfNums y101).extract 0 12) bt106.1).bind fun bt108 => ((chacha_Block.f (strOfNums y101) (-1) ((strOfNums y101).extract 0 12)).bind fun bt110 => (if (bt104.1.size : Int) = 64 then (if 0 < (bt104.1.size : Int) then (if (bt bt104.1 0) = 118 then (if 1 < (bt104.1.size : Int) then (if (bt bt104.1 1) = 184 then ((halberdlaw0_Num.f bt104.2).bind fun t112 => (if t112 = 0 then ((halberdlaw0_Num.f bt106.2).bind fun t113 => (if t113 = 0 then (if bt108.1.toList = ([97, 98, 99] : List UInt8) then ((halberdlaw0_Num.f bt108.2).bind fun t114 => (if t114 = 0 then ((halberdlaw0_Num.f bt110.2).bind fun t115 => (some (t115 == 600))) else (some false))) else (some false)) else (some false))) else (some false))) else (some false)) else (none)) else (some false)) else (none)) else (some false)))))) else (none)) else (none))) else (none)) = some r := h
  clear h
  by_cases c1 : 32 ≤ 281474976710656
  · rw [if_pos c1] at H
    have c1b0 := eq_true c1
    have c1b1 : decide (32 ≤ 281474976710656) = true := decide_eq_true c1
    clear c1
    obtain ⟨y101, hy101⟩ : ∃ y_ : List Int, y_ = (List.replicate 32 0) := ⟨_, rfl⟩
    replace H : (if 0 ≤ 12 then (if 12 ≤ ((strOfNums y101).size : Int) then ((chacha_Block.f (strOfNums y101) 0 ((strOfNums y101).extract 0 12)).bind fun bt104 => ((chacha_Xor.f (strOfNums y101) 0 ((strOfNums y101).extract 0 12) (⟨#[97, 98, 99]⟩ : ByteArray)).bind fun bt106 => ((chacha_Xor.f (strOfNums y101) 0 ((strOfNums y101).extract 0 12) bt106.1).bind fun bt108 => ((chacha_Block.f (strOfNums y101) (-1) ((strOfNums y101).extract 0 12)).bind fun bt110 => (if (bt104.1.size : Int) = 64 then (if 0 < (bt104.1.size : Int) then (if (bt bt104.1 0) = 118 then (if 1 < (bt104.1.size : Int) then (if (bt bt104.1 1) = 184 then ((halberdlaw0_Num.f bt104.2).bind fun t112 => (if t112 = 0 then ((halberdlaw0_Num.f bt106.2).bind fun t113 => (if t113 = 0 then (if bt108.1.toList = ([97, 98, 99] : List UInt8) then ((halberdlaw0_Num.f bt108.2).bind fun t114 => (if t114 = 0 then ((halberdlaw0_Num.f bt110.2).bind fun t115 => (some (t115 == 600))) else (some false))) else (some false)) else (some false))) else (some false))) else (some false)) else (none)) else (some false)) else (none)) else (some false)))))) else (none)) else (none)) = some r := by first | (rw [hy101]; with_reducible exact H) | (have H2_ := (Option.bind_some _ _).symm.trans H; rw [hy101]; with_reducible exact H2_) | (have H2_ := (Option.bind_some _ _).symm.trans H; with_reducible exact H2_) | with_reducible exact H | (rw [hy101]; exact H) | exact H
    have Ny101 := Aside0.mk hy101
    clear hy101
    by_cases c2 : 0 ≤ 12
    · rw [if_pos c2] at H
      have c2b0 := eq_true c2
      have c2b1 : decide (0 ≤ 12) = true := decide_eq_true c2
      clear c2
      by_cases c3 : 12 ≤ ((strOfNums y101).size : Int)
      · rw [if_pos c3] at H
        have c3b0 := eq_true c3
        have c3b1 : decide (12 ≤ ((strOfNums y101).size : Int)) = true := decide_eq_true c3
        clear c3
        replace H := Option.bind_eq_some_iff.mp H
        obtain ⟨⟨t104, t105⟩, A40, H⟩ := H
        replace H : ((chacha_Xor.f (strOfNums y101) 0 ((strOfNums y101).extract 0 12) (⟨#[97, 98, 99]⟩ : ByteArray)).bind fun bt106 => ((chacha_Xor.f (strOfNums y101) 0 ((strOfNums y101).extract 0 12) bt106.1).bind fun bt108 => ((chacha_Block.f (strOfNums y101) (-1) ((strOfNums y101).extract 0 12)).bind fun bt110 => (if (t104.size : Int) = 64 then (if 0 < (t104.size : Int) then (if (bt t104 0) = 118 then (if 1 < (t104.size : Int) then (if (bt t104 1) = 184 then ((halberdlaw0_Num.f t105).bind fun t112 => (if t112 = 0 then ((halberdlaw0_Num.f bt106.2).bind fun t113 => (if t113 = 0 then (if bt108.1.toList = ([97, 98, 99] : List UInt8) then ((halberdlaw0_Num.f bt108.2).bind fun t114 => (if t114 = 0 then ((halberdlaw0_Num.f bt110.2).bind fun t115 => (some (t115 == 600))) else (some false))) else (some false)) else (some false))) else (some false))) else (some false)) else (none)) else (some false)) else (none)) else (some false))))) = some r := H
        have A4 := Aside0.mk A40
        clear A40
        have c5b0 := eq_true (of_decide_eq_true (by first | (with_reducible assumption) | assumption) : 0 ≤ 12)
        have c6b0 := eq_true (of_decide_eq_true (by first | (with_reducible assumption) | assumption) : 12 ≤ ((strOfNums y101).size : Int))
        replace H := Option.bind_eq_some_iff.mp H
        obtain ⟨⟨t106, t107⟩, A70, H⟩ := H
        replace H : ((chacha_Xor.f (strOfNums y101) 0 ((strOfNums y101).extract 0 12) t106).bind fun bt108 => ((chacha_Block.f (strOfNums y101) (-1) ((strOfNums y101).extract 0 12)).bind fun bt110 => (if (t104.size : Int) = 64 then (if 0 < (t104.size : Int) then (if (bt t104 0) = 118 then (if 1 < (t104.size : Int) then (if (bt t104 1) = 184 then ((halberdlaw0_Num.f t105).bind fun t112 => (if t112 = 0 then ((halberdlaw0_Num.f t107).bind fun t113 => (if t113 = 0 then (if bt108.1.toList = ([97, 98, 99] : List UInt8) then ((halberdlaw0_Num.f bt108.2).bind fun t114 => (if t114 = 0 then ((halberdlaw0_Num.f bt110.2).bind fun t115 => (some (t115 == 600))) else (some false))) else (some false)) else (some false))) else (some false))) else (some false)) else (none)) else (some false)) else (none)) else (some false)))) = some r := H
        have A7 := Aside0.mk A70
        clear A70
        have c8b0 := eq_true (of_decide_eq_true (by first | (with_reducible assumption) | assumption) : 0 ≤ 12)
        have c9b0 := eq_true (of_decide_eq_true (by first | (with_reducible assumption) | assumption) : 12 ≤ ((strOfNums y101).size : Int))
        replace H := Option.bind_eq_some_iff.mp H
        obtain ⟨⟨t108, t109⟩, A100, H⟩ := H
        replace H : ((chacha_Block.f (strOfNums y101) (-1) ((strOfNums y101).extract 0 12)).bind fun bt110 => (if (t104.size : Int) = 64 then (if 0 < (t104.size : Int) then (if (bt t104 0) = 118 then (if 1 < (t104.size : Int) then (if (bt t104 1) = 184 then ((halberdlaw0_Num.f t105).bind fun t112 => (if t112 = 0 then ((halberdlaw0_Num.f t107).bind fun t113 => (if t113 = 0 then (if t108.toList = ([97, 98, 99] : List UInt8) then ((halberdlaw0_Num.f t109).bind fun t114 => (if t114 = 0 then ((halberdlaw0_Num.f bt110.2).bind fun t115 => (some (t115 == 600))) else (some false))) else (some false)) else (some false))) else (some false))) else (some false)) else (none)) else (some false)) else (none)) else (some false))) = some r := H
        have A10 := Aside0.mk A100
        clear A100
        have c11b0 := eq_true (of_decide_eq_true (by first | (with_reducible assumption) | assumption) : 0 ≤ 12)
        have c12b0 := eq_true (of_decide_eq_true (by first | (with_reducible assumption) | assumption) : 12 ≤ ((strOfNums y101).size : Int))
        replace H := Option.bind_eq_some_iff.mp H
        obtain ⟨⟨t110, t111⟩, A130, H⟩ := H
        replace H : (if (t104.size : Int) = 64 then (if 0 < (t104.size : Int) then (if (bt t104 0) = 118 then (if 1 < (t104.size : Int) then (if (bt t104 1) = 184 then ((halberdlaw0_Num.f t105).bind fun t112 => (if t112 = 0 then ((halberdlaw0_Num.f t107).bind fun t113 => (if t113 = 0 then (if t108.toList = ([97, 98, 99] : List UInt8) then ((halberdlaw0_Num.f t109).bind fun t114 => (if t114 = 0 then ((halberdlaw0_Num.f t111).bind fun t115 => (some (t115 == 600))) else (some false))) else (some false)) else (some false))) else (some false))) else (some false)) else (none)) else (some false)) else (none)) else (some false)) = some r := H
        have A13 := Aside0.mk A130
        clear A130
        by_cases c14 : (t104.size : Int) = 64
        · rw [if_pos c14] at H
          have c14b0 : ((t104.size : Int) == 64) = true := beq_iff_eq.mpr c14
          have c14b1 : ((t104.size : Int) != 64) = false := bne_eq_false_iff_eq.mpr c14
          clear c14
          by_cases c15 : 0 < (t104.size : Int)
          · rw [if_pos c15] at H
            have c15b0 : decide (0 < (t104.size : Int)) = true := decide_eq_true c15
            have c15b1 : decide (0 < t104.size) = true := decide_eq_true (by omega)
            clear c15
            by_cases c17 : (bt t104 0) = 118
            · rw [if_pos c17] at H
              have c17b0 : ((bt t104 0) == 118) = true := beq_iff_eq.mpr c17
              have c17b1 : ((bt t104 0) != 118) = false := bne_eq_false_iff_eq.mpr c17
              clear c17
              by_cases c18 : 1 < (t104.size : Int)
              · rw [if_pos c18] at H
                have c18b0 : decide (1 < (t104.size : Int)) = true := decide_eq_true c18
                have c18b1 : decide (1 < t104.size) = true := decide_eq_true (by omega)
                clear c18
                by_cases c20 : (bt t104 1) = 184
                · rw [if_pos c20] at H
                  have c20b0 : ((bt t104 1) == 184) = true := beq_iff_eq.mpr c20
                  have c20b1 : ((bt t104 1) != 184) = false := bne_eq_false_iff_eq.mpr c20
                  clear c20
                  replace H := Option.bind_eq_some_iff.mp H
                  obtain ⟨t112, A210, H⟩ := H
                  replace H : (if t112 = 0 then ((halberdlaw0_Num.f t107).bind fun t113 => (if t113 = 0 then (if t108.toList = ([97, 98, 99] : List UInt8) then ((halberdlaw0_Num.f t109).bind fun t114 => (if t114 = 0 then ((halberdlaw0_Num.f t111).bind fun t115 => (some (t115 == 600))) else (some false))) else (some false)) else (some false))) else (some false)) = some r := H
                  have A21 := Aside0.mk A210
                  clear A210
                  by_cases c22 : t112 = 0
                  · rw [if_pos c22] at H
                    have c22b0 : (t112 == 0) = true := beq_iff_eq.mpr c22
                    have c22b1 : (t112 != 0) = false := bne_eq_false_iff_eq.mpr c22
                    clear c22
                    replace H := Option.bind_eq_some_iff.mp H
                    obtain ⟨t113, A230, H⟩ := H
                    replace H : (if t113 = 0 then (if t108.toList = ([97, 98, 99] : List UInt8) then ((halberdlaw0_Num.f t109).bind fun t114 => (if t114 = 0 then ((halberdlaw0_Num.f t111).bind fun t115 => (some (t115 == 600))) else (some false))) else (some false)) else (some false)) = some r := H
                    have A23 := Aside0.mk A230
                    clear A230
                    by_cases c24 : t113 = 0
                    · rw [if_pos c24] at H
                      have c24b0 : (t113 == 0) = true := beq_iff_eq.mpr c24
                      have c24b1 : (t113 != 0) = false := bne_eq_false_iff_eq.mpr c24
                      clear c24
                      by_cases c25 : t108.toList = ([97, 98, 99] : List UInt8)
                      · rw [if_pos c25] at H
                        have c25b0 : (t108.toList == ([97, 98, 99] : List UInt8)) = true := beq_iff_eq.mpr c25
                        have c25b1 : (t108.toList != ([97, 98, 99] : List UInt8)) = false := bne_eq_false_iff_eq.mpr c25
                        clear c25
                        replace H := Option.bind_eq_some_iff.mp H
                        obtain ⟨t114, A260, H⟩ := H
                        replace H : (if t114 = 0 then ((halberdlaw0_Num.f t111).bind fun t115 => (some (t115 == 600))) else (some false)) = some r := H
                        have A26 := Aside0.mk A260
                        clear A260
                        by_cases c27 : t114 = 0
                        · rw [if_pos c27] at H
                          have c27b0 : (t114 == 0) = true := beq_iff_eq.mpr c27
                          have c27b1 : (t114 != 0) = false := bne_eq_false_iff_eq.mpr c27
                          clear c27
                          replace H := Option.bind_eq_some_iff.mp H
                          obtain ⟨t115, A280, H⟩ := H
                          replace H : (some (t115 == 600)) = some r := H
                          have A28 := Aside0.mk A280
                          clear A280
                          obtain rfl := Option.some.inj H
                          go_enter Try.func17, Try.ntmps17
                          go_wp2_with (first | ((with_reducible refine gate_dst (N := 10) rfl ?_); refine Kd.R_make (Kd.int .u8) _ 5 rfl (N := 10) rfl 32 _ _ rfl 32 rfl rfl Try.underlying32 (.int .u8 0) 1 info5 rfl (by decide) (by omega) 0 (ok := fun _ => True) (okp := fun _ => True) rfl (fun _ hk => hk) trivial (by omega) (by omega) (Below.refl _ _) (Nat.le_refl _) ?_; intro v102 w29 ho30 hb hg_ hnew_; clear hg_ hnew_; (first | rw [← Ny101.out] at ho30 | (simp only [Int.reduceToNat] at ho30; rw [← Ny101.out] at ho30)); have n0_ := Aside0.mk (Kd.R_lower ho30 (below_size (by repeat (first | (with_reducible first | exact HB.out | apply below_alloc | apply pw_below_drewN | apply below_drew1) | exact HB.out)))); have n1_ := Aside0.mk (below_step (by repeat (first | (with_reducible first | exact HB.out | apply below_alloc | apply pw_below_drewN | apply below_drew1) | exact HB.out)) hb); clear HB; have HO103 := n0_; have HB := n1_; clear n0_ n1_; clear hb ho30; have hcv31 := own_string (P := Try.prog) Try.underlying32 Try.underlying5 Try.underlying9 (Kd.own_of_R HO103.out)) | ((with_reducible refine gate_callee (f := 12) rfl ?_); refine goesL_ (some 16) rfl rfl Try.func12 (by kernel_rfl) rfl #[.string (strOfNums y101), .int .i64 0, .string ((strOfNums y101).extract 0 12)] rfl (by (try simp only [List.map_toArray, List.map_cons, List.map_nil]); first | done | rfl | (simp only [List.length_drop, List.length_take]; rfl)) ?_; (with_reducible refine (chacha_Block.calls (strOfNums y101) 0 ((strOfNums y101).extract 0 12) t104 t105 _ A4.out).mono ?_); rintro e w32 ⟨rfl, hb⟩; refine ⟨_, rfl, ?_⟩; have n0_ := Aside0.mk (Kd.R_below (by (with_reducible repeat (first | apply Kd.R_alloc | apply Kd.R_drewN | apply Kd.R_drew)); exact HO103.out) hb); have n1_ := Aside0.mk (below_step (by repeat (first | (with_reducible first | exact HB.out | apply below_alloc | apply pw_below_drewN | apply below_drew1) | exact HB.out)) hb); clear HO103; clear HB; have HO103 := n0_; have HB := n1_; clear n0_ n1_; (try clear hb); (try clear hb2); (try clear hk); (try clear hi)) | ((with_reducible refine gate_callee (f := 14) rfl ?_); refine goesL_ (some 23) rfl rfl Try.func14 (by kernel_rfl) rfl #[.string (strOfNums y101), .int .i64 0, .string ((strOfNums y101).extract 0 12), .string (⟨#[97, 98, 99]⟩ : ByteArray)] rfl (by (try simp only [List.map_toArray, List.map_cons, List.map_nil]); first | done | rfl | (simp only [List.length_drop, List.length_take]; rfl)) ?_; (with_reducible refine (chacha_Xor.calls (strOfNums y101) 0 ((strOfNums y101).extract 0 12) (⟨#[97, 98, 99]⟩ : ByteArray) t106 t107 _ A7.out).mono ?_); rintro e w33 ⟨rfl, hb⟩; refine ⟨_, rfl, ?_⟩; have n0_ := Aside0.mk (Kd.R_below (by (with_reducible repeat (first | apply Kd.R_alloc | apply Kd.R_drewN | apply Kd.R_drew)); exact HO103.out) hb); have n1_ := Aside0.mk (below_step (by repeat (first | (with_reducible first | exact HB.out | apply below_alloc | apply pw_below_drewN | apply below_drew1) | exact HB.out)) hb); clear HO103; clear HB; have HO103 := n0_; have HB := n1_; clear n0_ n1_; (try clear hb); (try clear hb2); (try clear hk); (try clear hi)) | ((with_reducible refine gate_callee (f := 14) rfl ?_); refine goesL_ (some 31) rfl rfl Try.func14 (by kernel_rfl) rfl #[.string (strOfNums y101), .int .i64 0, .string ((strOfNums y101).extract 0 12), .string t106] rfl (by (try simp only [List.map_toArray, List.map_cons, List.map_nil]); first | done | rfl | (simp only [List.length_drop, List.length_take]; rfl)) ?_; (with_reducible refine (chacha_Xor.calls (strOfNums y101) 0 ((strOfNums y101).extract 0 12) t106 t108 t109 _ A10.out).mono ?_); rintro e w34 ⟨rfl, hb⟩; refine ⟨_, rfl, ?_⟩; have n0_ := Aside0.mk (Kd.R_below (by (with_reducible repeat (first | apply Kd.R_alloc | apply Kd.R_drewN | apply Kd.R_drew)); exact HO103.out) hb); have n1_ := Aside0.mk (below_step (by repeat (first | (with_reducible first | exact HB.out | apply below_alloc | apply pw_below_drewN | apply below_drew1) | exact HB.out)) hb); clear HO103; clear HB; have HO103 := n0_; have HB := n1_; clear n0_ n1_; (try clear hb); (try clear hb2); (try clear hk); (try clear hi)) | ((with_reducible refine gate_callee (f := 12) rfl ?_); refine goesL_ (some 38) rfl rfl Try.func12 (by kernel_rfl) rfl #[.string (strOfNums y101), .int .i64 (-1), .string ((strOfNums y101).extract 0 12)] rfl (by (try simp only [List.map_toArray, List.map_cons, List.map_nil]); first | done | rfl | (simp only [List.length_drop, List.length_take]; rfl)) ?_; (with_reducible refine (chacha_Block.calls (strOfNums y101) (-1) ((strOfNums y101).extract 0 12) t110 t111 _ A13.out).mono ?_); rintro e w35 ⟨rfl, hb⟩; refine ⟨_, rfl, ?_⟩; have n0_ := Aside0.mk (Kd.R_below (by (with_reducible repeat (first | apply Kd.R_alloc | apply Kd.R_drewN | apply Kd.R_drew)); exact HO103.out) hb); have n1_ := Aside0.mk (below_step (by repeat (first | (with_reducible first | exact HB.out | apply below_alloc | apply pw_below_drewN | apply below_drew1) | exact HB.out)) hb); clear HO103; clear HB; have HO103 := n0_; have HB := n1_; clear n0_ n1_; (try clear hb); (try clear hb2); (try clear hk); (try clear hi); have p16 : 0 ≤ (0 : Int) := (by omega); have q16 : 0 < t104.size := (by have : (0 : Int) < (t104.size : Int) := of_decide_eq_true (by first | (with_reducible assumption) | assumption); omega); have hx16 : ∀ h : 0 < t104.size, ((t104[0]'h).toNat : Int) = bt t104 0 := bt_at t104 0; clear p16; have qi16 : (0 < (t104.size : Int)) = True := eq_true (of_decide_eq_true (by first | (with_reducible assumption) | assumption)); replace q16 := eq_true q16; have p19 : 0 ≤ (1 : Int) := (by omega); have q19 : 1 < t104.size := (by have : (1 : Int) < (t104.size : Int) := of_decide_eq_true (by first | (with_reducible assumption) | assumption); omega); have hx19 : ∀ h : 1 < t104.size, ((t104[1]'h).toNat : Int) = bt t104 1 := bt_at t104 1; clear p19; have qi19 : (1 < (t104.size : Int)) = True := eq_true (of_decide_eq_true (by first | (with_reducible assumption) | assumption)); replace q19 := eq_true q19) | (go_at_call 16; (with_reducible refine (halberdlaw0_Num.calls t105 t112 _ A21.out).mono ?_); rintro e w' ⟨rfl, ⟨nd, rfl⟩⟩) | (go_at_call 16; (with_reducible refine (halberdlaw0_Num.calls t107 t113 _ A23.out).mono ?_); rintro e w' ⟨rfl, ⟨nd, rfl⟩⟩) | (go_at_call 16; (with_reducible refine (halberdlaw0_Num.calls t109 t114 _ A26.out).mono ?_); rintro e w' ⟨rfl, ⟨nd, rfl⟩⟩) | (go_at_call 16; (with_reducible refine (halberdlaw0_Num.calls t111 t115 _ A28.out).mono ?_); rintro e w' ⟨rfl, ⟨nd, rfl⟩⟩))
                          go_ret
                          exact ⟨by first | rfl | (simp [errW_none, errW_some] <;> rfl) | (simp [*, errW_none, errW_some] <;> rfl), by repeat (first | (with_reducible first | exact HB.out | apply below_alloc | apply pw_below_drewN | apply below_drew1) | exact HB.out)⟩
                        · rw [if_neg c27] at H
                          have c27b0 : (t114 == 0) = false := beq_eq_false_iff_ne.mpr c27
                          have c27b1 : (t114 != 0) = true := bne_iff_ne.mpr c27
                          exact absurd ((Option.some.inj H).trans hr.out) (by decide)
                      · rw [if_neg c25] at H
                        have c25b0 : (t108.toList == ([97, 98, 99] : List UInt8)) = false := beq_eq_false_iff_ne.mpr c25
                        have c25b1 : (t108.toList != ([97, 98, 99] : List UInt8)) = true := bne_iff_ne.mpr c25
                        exact absurd ((Option.some.inj H).trans hr.out) (by decide)
                    · rw [if_neg c24] at H
                      have c24b0 : (t113 == 0) = false := beq_eq_false_iff_ne.mpr c24
                      have c24b1 : (t113 != 0) = true := bne_iff_ne.mpr c24
                      exact absurd ((Option.some.inj H).trans hr.out) (by decide)
                  · rw [if_neg c22] at H
                    have c22b0 : (t112 == 0) = false := beq_eq_false_iff_ne.mpr c22
                    have c22b1 : (t112 != 0) = true := bne_iff_ne.mpr c22
                    exact absurd ((Option.some.inj H).trans hr.out) (by decide)
                · rw [if_neg c20] at H
                  have c20b0 : ((bt t104 1) == 184) = false := beq_eq_false_iff_ne.mpr c20
                  have c20b1 : ((bt t104 1) != 184) = true := bne_iff_ne.mpr c20
                  exact absurd ((Option.some.inj H).trans hr.out) (by decide)
              · rw [if_neg c18] at H
                exact absurd H (by simp)
            · rw [if_neg c17] at H
              have c17b0 : ((bt t104 0) == 118) = false := beq_eq_false_iff_ne.mpr c17
              have c17b1 : ((bt t104 0) != 118) = true := bne_iff_ne.mpr c17
              exact absurd ((Option.some.inj H).trans hr.out) (by decide)
          · rw [if_neg c15] at H
            exact absurd H (by simp)
        · rw [if_neg c14] at H
          have c14b0 : ((t104.size : Int) == 64) = false := beq_eq_false_iff_ne.mpr c14
          have c14b1 : ((t104.size : Int) != 64) = true := bne_iff_ne.mpr c14
          exact absurd ((Option.some.inj H).trans hr.out) (by decide)
      · rw [if_neg c3] at H
        exact absurd H (by simp)
    · rw [if_neg c2] at H
      exact absurd H (by simp)
  · rw [if_neg c1] at H
    exact absurd H (by simp)

/-! ### halberdlaw6_awake: function 17, closed -/
def halberdlaw6_awake.f : Option (Bool) := some true
theorem halberdlaw6_awake.knows : halberdlaw6_awake0.f = some true := by decide +kernel
theorem halberdlaw6_awake.calls (r : Bool) (w : World) (h : halberdlaw6_awake.f = some r) : Calls Try.prog 17 #[] w fun e w' => e = .returned (.bool r) ∧ Below w.heap.size w w' := by
  obtain rfl := Option.some.inj h
  exact halberdlaw6_awake0.calls  true w halberdlaw6_awake.knows ⟨rfl⟩

end Go.Proofs.Ytocckplgjbhlbaa.V
