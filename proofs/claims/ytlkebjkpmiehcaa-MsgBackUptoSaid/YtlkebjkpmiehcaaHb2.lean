/- Words, contracts and lemmas that the claim needs, in the order in which they build. Conditions: each lemma's own. -/
import Derived.IntWalk
import Derived.Test.YtlkebjkpmiehcaaHb1
namespace Go.Proofs.Ytlkebjkpmiehcaa
theorem LS_ : (∀ (l : List Value) (i : Nat) (a : Value),l.toArray.setIfInBounds i a = (l.set i a).toArray) ∧ (∀ (x y : Value) (l : List Value),(x :: l).set 0 y = y :: l) ∧ (∀ (x y : Value) (l : List Value) (n : Nat),(x :: l).set (n + 1) y = x :: l.set n y) := ⟨fun l i a => List.setIfInBounds_toArray ..,fun x y l => List.set_cons_zero ..,fun x y l n => List.set_cons_succ ..⟩
end Go.Proofs.Ytlkebjkpmiehcaa
namespace Go.Proofs.Ytlkebjkpmiehcaa
abbrev T20 : Array Bool := #[false,false,false,false,false,false,false,false,false,false,false,false,false,false,false,false,false]
abbrev T22 : Array Bool := #[false,false,false,false,false,false,false,false,false,false,false,false,false,false,false]
abbrev T26 : Array Bool := #[true,false,false,false,false,false,false,false,false,false,false,false,false,false,false,false,false]
abbrev T28 : Array Bool := #[true,false,false,false,false,false,false,false,false,false,false,false,false,false,false]
abbrev T212 : Array Bool := #[true,true,false,false,false,false,false,false,false,false,false,false,false,false,false,false,false]
abbrev T214 : Array Bool := #[true,true,false,false,false,false,false,false,false,false,false,false,false,false,false]
abbrev T222 : Array Bool := #[true,true,true,false,false,false,false,false,false,false,false,false,false,false,false,false,false]
abbrev T224 : Array Bool := #[true,true,true,false,false,false,false,false,false,false,false,false,false,false,false]
abbrev T227 : Array Bool := #[true,true,true,true,false,false,false,false,false,false,false,false,false,false,false,false,false]
abbrev T229 : Array Bool := #[true,true,true,true,false,false,false,false,false,false,false,false,false,false,false]
abbrev T232 : Array Bool := #[true,true,true,true,true,false,false,false,false,false,false,false,false,false,false,false,false]
abbrev T234 : Array Bool := #[true,true,true,true,true,false,false,false,false,false,false,false,false,false,false]
abbrev T237 : Array Bool := #[true,true,true,true,true,true,false,false,false,false,false,false,false,false,false,false,false]
abbrev T239 : Array Bool := #[true,true,true,true,true,true,false,false,false,false,false,false,false,false,false]
abbrev T242 : Array Bool := #[true,true,true,true,true,true,true,false,false,false,false,false,false,false,false,false,false]
abbrev T244 : Array Bool := #[true,true,true,true,true,true,true,false,false,false,false,false,false,false,false]
abbrev T248 : Array Bool := #[true,true,true,true,true,true,true,true,false,false,false,false,false,false,false,false,false]
abbrev T250 : Array Bool := #[true,true,true,true,true,true,true,true,false,false,false,false,false,false,false]
abbrev T254 : Array Bool := #[true,true,true,true,true,true,true,true,true,false,false,false,false,false,false,false,false]
abbrev T256 : Array Bool := #[true,true,true,true,true,true,true,true,true,false,false,false,false,false,false]
abbrev T260 : Array Bool := #[true,true,true,true,true,true,true,true,true,true,false,false,false,false,false,false,false]
abbrev T262 : Array Bool := #[true,true,true,true,true,true,true,true,true,true,false,false,false,false,false]
abbrev T265 : Array Bool := #[true,true,true,true,true,true,true,true,true,true,true,false,false,false,false,false,false]
abbrev T267 : Array Bool := #[true,true,true,true,true,true,true,true,true,true,true,false,false,false,false]
abbrev T270 : Array Bool := #[true,true,true,true,true,true,true,true,true,true,true,true,false,false,false,false,false]
abbrev T272 : Array Bool := #[true,true,true,true,true,true,true,true,true,true,true,true,false,false,false]
abbrev T274 : Array Bool := #[true,true,true,true,true,true,true,true,true,true,true,true,true,false,false,false,false]
abbrev T276 : Array Bool := #[true,true,true,true,true,true,true,true,true,true,true,true,true,false,false]
abbrev T278 : Array Bool := #[true,true,true,true,true,true,true,true,true,true,true,true,true,true,false,false,false]
abbrev T280 : Array Bool := #[true,true,true,true,true,true,true,true,true,true,true,true,true,true,false]
abbrev T281 : Array Bool := #[true,true,true,true,true,true,true,true,true,true,true,true,true,true,true,false,false]
abbrev T283 : Array Bool := #[true,true,true,true,true,true,true,true,true,true,true,true,true,true,true,true,false]
abbrev T284 : Array Bool := #[true,true,true,true,true,true,true,true,true,true,true,true,true,true,true,true,true]
abbrev T286 : Array Bool := #[true,true,true,true,true,true,true,true,true,true,true,true,true,true,true]
end Go.Proofs.Ytlkebjkpmiehcaa
section
namespace Go.Proofs.Ytlkebjkpmiehcaa.X
open Go.RowKit Go.Proofs.YtlkebjkpmiehcaaW.PrintWords Go.Proofs.YtlkebjkpmiehcaaW.PrintLast Go.Proofs.YtlkebjkpmiehcaaW.PrintMore
attribute [local go_sem] max2_int min2_int max_two min_two max_three min_three max_four min_four   
set_option linter.unusedVariables false
set_option linter.unusedSimpArgs false
def msg_zero.f (a0_0 : Int) (a0_1 : ByteArray) (a0_2 : ByteArray) (l0_3 : List Int) (a0_4 : ByteArray) (l0_5 : List Int) (l0_6 : List Int) (l0_7 : List Int) (l0_8 : List Int) (l0_9 : List (S66)) (l0_10 : List (S111)) (l0_11 : List ByteArray) (a0_12 : Int) (l0_13 : List Int) (l0_14 : List ByteArray) (a0_15 : Int) (a0_16 : ByteArray) (a0_17 : Int) (a0_18 : Int) (a0_19 : ByteArray) (a0_20 : Int) : Option (Bool) := if a0_1.size + a0_2.size ≤ 9223372036854775807 then ((some (a0_1 ++ a0_2 : ByteArray)).bind fun ys216 => (if ys216.size + a0_4.size ≤ 9223372036854775807 then ((some (ys216 ++ a0_4 : ByteArray)).bind fun ys217 => (if ys217.size + a0_16.size ≤ 9223372036854775807 then ((some (ys217 ++ a0_16 : ByteArray)).bind fun ys218 => (if ys218.size + a0_19.size ≤ 9223372036854775807 then (if (ys218 ++ a0_19).toList = ([] : List UInt8) then (if (wrap64 ((wrap64 ((wrap64 ((wrap64 ((wrap64 ((wrap64 ((wrap64 ((wrap64 ((wrap64 ((l0_3.length : Int) + (l0_5.length : Int))) + (l0_6.length : Int))) + (l0_7.length : Int))) + (l0_8.length : Int))) + (l0_9.length : Int))) + (l0_10.length : Int))) + (l0_11.length : Int))) + (l0_13.length : Int))) + (l0_14.length : Int))) = 0 then (if a0_12 = 0 then (if a0_15 = 0 then (if a0_17 = 0 then (if a0_18 = 0 then (some (a0_20 == 0)) else (some false)) else (some false)) else (some false)) else (some false)) else (some false)) else (some false)) else (none))) else (none))) else (none))) else (none)
set_option maxHeartbeats 8000000 in
set_option maxRecDepth 100000 in
theorem msg_zero.calls (a0_0 : Int) (a0_1 : ByteArray) (a0_2 : ByteArray) (A0_3 : Option Addr) (c0_3 : Nat) (l0_3 : List Int) (a0_4 : ByteArray) (A0_5 : Option Addr) (c0_5 : Nat) (l0_5 : List Int) (A0_6 : Option Addr) (c0_6 : Nat) (l0_6 : List Int) (A0_7 : Option Addr) (c0_7 : Nat) (l0_7 : List Int) (A0_8 : Option Addr) (c0_8 : Nat) (l0_8 : List Int) (A0_9 : Option Addr) (c0_9 : Nat) (l0_9 : List (S66)) (A0_10 : Option Addr) (c0_10 : Nat) (l0_10 : List (S111)) (A0_11 : Option Addr) (c0_11 : Nat) (l0_11 : List ByteArray) (a0_12 : Int) (A0_13 : Option Addr) (c0_13 : Nat) (l0_13 : List Int) (A0_14 : Option Addr) (c0_14 : Nat) (l0_14 : List ByteArray) (a0_15 : Int) (a0_16 : ByteArray) (a0_17 : Int) (a0_18 : Int) (a0_19 : ByteArray) (a0_20 : Int) (r : Bool) (w : World) (hr0_3 : Kd.C (Kd.int .i64) w A0_3 l0_3.length l0_3) (hc0_3 : l0_3.length ≤ c0_3) (hr0_5 : Kd.C (Kd.int .i64) w A0_5 l0_5.length l0_5) (hc0_5 : l0_5.length ≤ c0_5) (hr0_6 : Kd.C (Kd.int .i64) w A0_6 l0_6.length l0_6) (hc0_6 : l0_6.length ≤ c0_6) (hr0_7 : Kd.C (Kd.int .i64) w A0_7 l0_7.length l0_7) (hc0_7 : l0_7.length ≤ c0_7) (hr0_8 : Kd.C (Kd.int .i64) w A0_8 l0_8.length l0_8) (hc0_8 : l0_8.length ≤ c0_8) (hr0_9 : Kd.C k66 w A0_9 l0_9.length l0_9) (hc0_9 : l0_9.length ≤ c0_9) (hr0_10 : Kd.C k111 w A0_10 l0_10.length l0_10) (hc0_10 : l0_10.length ≤ c0_10) (hr0_11 : Kd.C Kd.string w A0_11 l0_11.length l0_11) (hc0_11 : l0_11.length ≤ c0_11) (hr0_13 : Kd.C (Kd.int .i64) w A0_13 l0_13.length l0_13) (hc0_13 : l0_13.length ≤ c0_13) (hr0_14 : Kd.C Kd.string w A0_14 l0_14.length l0_14) (hc0_14 : l0_14.length ≤ c0_14) (h : msg_zero.f a0_0 a0_1 a0_2 l0_3 a0_4 l0_5 l0_6 l0_7 l0_8 l0_9 l0_10 l0_11 a0_12 l0_13 l0_14 a0_15 a0_16 a0_17 a0_18 a0_19 a0_20 = some r) :
  Calls Try.prog 45 #[.agg #[.int .i64 a0_0,.string a0_1,.string a0_2,.slice A0_3 l0_3.length c0_3,.string a0_4,.slice A0_5 l0_5.length c0_5,.slice A0_6 l0_6.length c0_6,.slice A0_7 l0_7.length c0_7,.slice A0_8 l0_8.length c0_8,.slice A0_9 l0_9.length c0_9,.slice A0_10 l0_10.length c0_10,.slice A0_11 l0_11.length c0_11,.int .i64 a0_12,.slice A0_13 l0_13.length c0_13,.slice A0_14 l0_14.length c0_14,.int .i64 a0_15,.string a0_16,.int .i64 a0_17,.int .i64 a0_18,.string a0_19,.int .i64 a0_20]] w fun e w' => e = .returned (.bool r) ∧ Below w.heap.size w w' := by
 have hu49 := Try.underlying49
 have HR0_3 := Aq.mk hr0_3
 have HC0_3 := Aq.mk hc0_3
 clear hr0_3 hc0_3
 have HR0_5 := Aq.mk hr0_5
 have HC0_5 := Aq.mk hc0_5
 clear hr0_5 hc0_5
 have HR0_6 := Aq.mk hr0_6
 have HC0_6 := Aq.mk hc0_6
 clear hr0_6 hc0_6
 have HR0_7 := Aq.mk hr0_7
 have HC0_7 := Aq.mk hc0_7
 clear hr0_7 hc0_7
 have HR0_8 := Aq.mk hr0_8
 have HC0_8 := Aq.mk hc0_8
 clear hr0_8 hc0_8
 have HR0_9 := Aq.mk hr0_9
 have HC0_9 := Aq.mk hc0_9
 clear hr0_9 hc0_9
 have HR0_10 := Aq.mk hr0_10
 have HC0_10 := Aq.mk hc0_10
 clear hr0_10 hc0_10
 have HR0_11 := Aq.mk hr0_11
 have HC0_11 := Aq.mk hc0_11
 clear hr0_11 hc0_11
 have HR0_13 := Aq.mk hr0_13
 have HC0_13 := Aq.mk hc0_13
 clear hr0_13 hc0_13
 have HR0_14 := Aq.mk hr0_14
 have HC0_14 := Aq.mk hc0_14
 clear hr0_14 hc0_14
 have HB := Aq.mk (Below.refl w.heap.size w)
 have H : (if a0_1.size + a0_2.size ≤ 9223372036854775807 then ((some (a0_1 ++ a0_2 : ByteArray)).bind fun ys216 => (if ys216.size + a0_4.size ≤ 9223372036854775807 then ((some (ys216 ++ a0_4 : ByteArray)).bind fun ys217 => (if ys217.size + a0_16.size ≤ 9223372036854775807 then ((some (ys217 ++ a0_16 : ByteArray)).bind fun ys218 => (if ys218.size + a0_19.size ≤ 9223372036854775807 then (if (ys218 ++ a0_19).toList = ([] : List UInt8) then (if (wrap64 ((wrap64 ((wrap64 ((wrap64 ((wrap64 ((wrap64 ((wrap64 ((wrap64 ((wrap64 ((l0_3.length : Int) + (l0_5.length : Int))) + (l0_6.length : Int))) + (l0_7.length : Int))) + (l0_8.length : Int))) + (l0_9.length : Int))) + (l0_10.length : Int))) + (l0_11.length : Int))) + (l0_13.length : Int))) + (l0_14.length : Int))) = 0 then (if a0_12 = 0 then (if a0_15 = 0 then (if a0_17 = 0 then (if a0_18 = 0 then (some (a0_20 == 0)) else (some false)) else (some false)) else (some false)) else (some false)) else (some false)) else (some false)) else (none))) else (none))) else (none))) else (none)) = some r := h
 clear h
 by_cases c2 : a0_1.size + a0_2.size ≤ 9223372036854775807
 ·rw [if_pos c2] at H
  have c2b0 := eq_true c2
  have c2b1 : decide (a0_1.size + a0_2.size ≤ 9223372036854775807) = true := decide_eq_true c2
  try have c2b2 : (9223372036854775807 < a0_1.size + a0_2.size) = False := eq_false (Nat.not_lt.2 c2)
  obtain ⟨ys216,hys216⟩ : ∃ y_ : ByteArray,y_ = (a0_1 ++ a0_2) := ⟨_,rfl⟩
  replace H : (if ys216.size + a0_4.size ≤ 9223372036854775807 then ((some (ys216 ++ a0_4 : ByteArray)).bind fun ys217 => (if ys217.size + a0_16.size ≤ 9223372036854775807 then ((some (ys217 ++ a0_16 : ByteArray)).bind fun ys218 => (if ys218.size + a0_19.size ≤ 9223372036854775807 then (if (ys218 ++ a0_19).toList = ([] : List UInt8) then (if (wrap64 ((wrap64 ((wrap64 ((wrap64 ((wrap64 ((wrap64 ((wrap64 ((wrap64 ((wrap64 ((l0_3.length : Int) + (l0_5.length : Int))) + (l0_6.length : Int))) + (l0_7.length : Int))) + (l0_8.length : Int))) + (l0_9.length : Int))) + (l0_10.length : Int))) + (l0_11.length : Int))) + (l0_13.length : Int))) + (l0_14.length : Int))) = 0 then (if a0_12 = 0 then (if a0_15 = 0 then (if a0_17 = 0 then (if a0_18 = 0 then (some (a0_20 == 0)) else (some false)) else (some false)) else (some false)) else (some false)) else (some false)) else (some false)) else (none))) else (none))) else (none)) = some r := by first | (rw [hys216]; with_reducible exact H) | (have H2_ := (Option.bind_some _ _).symm.trans H; rw [hys216]; with_reducible exact H2_) | (have H2_ := (Option.bind_some _ _).symm.trans H; with_reducible exact H2_) | with_reducible exact H | (rw [hys216]; exact H) | exact H
  have Nys216 := Aq.mk hys216
  clear hys216
  have Sys216 := Nys216.out.symm
  by_cases c3 : ys216.size + a0_4.size ≤ 9223372036854775807
  ·rw [if_pos c3] at H
   have c3b0 := eq_true c3
   have c3b1 : decide (ys216.size + a0_4.size ≤ 9223372036854775807) = true := decide_eq_true c3
   try have c3b2 : (9223372036854775807 < ys216.size + a0_4.size) = False := eq_false (Nat.not_lt.2 c3)
   obtain ⟨ys217,hys217⟩ : ∃ y_ : ByteArray,y_ = (ys216 ++ a0_4) := ⟨_,rfl⟩
   replace H : (if ys217.size + a0_16.size ≤ 9223372036854775807 then ((some (ys217 ++ a0_16 : ByteArray)).bind fun ys218 => (if ys218.size + a0_19.size ≤ 9223372036854775807 then (if (ys218 ++ a0_19).toList = ([] : List UInt8) then (if (wrap64 ((wrap64 ((wrap64 ((wrap64 ((wrap64 ((wrap64 ((wrap64 ((wrap64 ((wrap64 ((l0_3.length : Int) + (l0_5.length : Int))) + (l0_6.length : Int))) + (l0_7.length : Int))) + (l0_8.length : Int))) + (l0_9.length : Int))) + (l0_10.length : Int))) + (l0_11.length : Int))) + (l0_13.length : Int))) + (l0_14.length : Int))) = 0 then (if a0_12 = 0 then (if a0_15 = 0 then (if a0_17 = 0 then (if a0_18 = 0 then (some (a0_20 == 0)) else (some false)) else (some false)) else (some false)) else (some false)) else (some false)) else (some false)) else (none))) else (none)) = some r := by first | (rw [hys217]; with_reducible exact H) | (have H2_ := (Option.bind_some _ _).symm.trans H; rw [hys217]; with_reducible exact H2_) | (have H2_ := (Option.bind_some _ _).symm.trans H; with_reducible exact H2_) | with_reducible exact H | (rw [hys217]; exact H) | exact H
   have Nys217 := Aq.mk hys217
   clear hys217
   have Sys217 := Nys217.out.symm
   by_cases c4 : ys217.size + a0_16.size ≤ 9223372036854775807
   ·rw [if_pos c4] at H
    have c4b0 := eq_true c4
    have c4b1 : decide (ys217.size + a0_16.size ≤ 9223372036854775807) = true := decide_eq_true c4
    try have c4b2 : (9223372036854775807 < ys217.size + a0_16.size) = False := eq_false (Nat.not_lt.2 c4)
    obtain ⟨ys218,hys218⟩ : ∃ y_ : ByteArray,y_ = (ys217 ++ a0_16) := ⟨_,rfl⟩
    replace H : (if ys218.size + a0_19.size ≤ 9223372036854775807 then (if (ys218 ++ a0_19).toList = ([] : List UInt8) then (if (wrap64 ((wrap64 ((wrap64 ((wrap64 ((wrap64 ((wrap64 ((wrap64 ((wrap64 ((wrap64 ((l0_3.length : Int) + (l0_5.length : Int))) + (l0_6.length : Int))) + (l0_7.length : Int))) + (l0_8.length : Int))) + (l0_9.length : Int))) + (l0_10.length : Int))) + (l0_11.length : Int))) + (l0_13.length : Int))) + (l0_14.length : Int))) = 0 then (if a0_12 = 0 then (if a0_15 = 0 then (if a0_17 = 0 then (if a0_18 = 0 then (some (a0_20 == 0)) else (some false)) else (some false)) else (some false)) else (some false)) else (some false)) else (some false)) else (none)) = some r := by first | (rw [hys218]; with_reducible exact H) | (have H2_ := (Option.bind_some _ _).symm.trans H; rw [hys218]; with_reducible exact H2_) | (have H2_ := (Option.bind_some _ _).symm.trans H; with_reducible exact H2_) | with_reducible exact H | (rw [hys218]; exact H) | exact H
    have Nys218 := Aq.mk hys218
    clear hys218
    have Sys218 := Nys218.out.symm
    by_cases c5 : ys218.size + a0_19.size ≤ 9223372036854775807
    ·rw [if_pos c5] at H
     have c5b0 := eq_true c5
     have c5b1 : decide (ys218.size + a0_19.size ≤ 9223372036854775807) = true := decide_eq_true c5
     try have c5b2 : (9223372036854775807 < ys218.size + a0_19.size) = False := eq_false (Nat.not_lt.2 c5)
     obtain ⟨ys219,hys219⟩ : ∃ y_ : ByteArray,y_ = (ys218 ++ a0_19) := ⟨_,rfl⟩
     replace H : (if ys219.toList = ([] : List UInt8) then (if (wrap64 ((wrap64 ((wrap64 ((wrap64 ((wrap64 ((wrap64 ((wrap64 ((wrap64 ((wrap64 ((l0_3.length : Int) + (l0_5.length : Int))) + (l0_6.length : Int))) + (l0_7.length : Int))) + (l0_8.length : Int))) + (l0_9.length : Int))) + (l0_10.length : Int))) + (l0_11.length : Int))) + (l0_13.length : Int))) + (l0_14.length : Int))) = 0 then (if a0_12 = 0 then (if a0_15 = 0 then (if a0_17 = 0 then (if a0_18 = 0 then (some (a0_20 == 0)) else (some false)) else (some false)) else (some false)) else (some false)) else (some false)) else (some false)) = some r := by first | (rw [hys219]; with_reducible exact H) | (have H2_ := (Option.bind_some _ _).symm.trans H; rw [hys219]; with_reducible exact H2_) | (have H2_ := (Option.bind_some _ _).symm.trans H; with_reducible exact H2_) | with_reducible exact H | (rw [hys219]; exact H) | exact H
     have Nys219 := Aq.mk hys219
     clear hys219
     have Sys219 := Nys219.out.symm
     by_cases c6 : ys219.toList = ([] : List UInt8)
     ·rw [if_pos c6] at H
      have c6b0 : (ys219.toList == ([] : List UInt8)) = true := beq_iff_eq.mpr c6
      have c6b1 : (ys219.toList != ([] : List UInt8)) = false := bne_eq_false_iff_eq.mpr c6
      clear c6
      by_cases c7 : (wrap64 ((wrap64 ((wrap64 ((wrap64 ((wrap64 ((wrap64 ((wrap64 ((wrap64 ((wrap64 ((l0_3.length : Int) + (l0_5.length : Int))) + (l0_6.length : Int))) + (l0_7.length : Int))) + (l0_8.length : Int))) + (l0_9.length : Int))) + (l0_10.length : Int))) + (l0_11.length : Int))) + (l0_13.length : Int))) + (l0_14.length : Int))) = 0
      ·rw [if_pos c7] at H
       have c7b0 : ((wrap64 ((wrap64 ((wrap64 ((wrap64 ((wrap64 ((wrap64 ((wrap64 ((wrap64 ((wrap64 ((l0_3.length : Int) + (l0_5.length : Int))) + (l0_6.length : Int))) + (l0_7.length : Int))) + (l0_8.length : Int))) + (l0_9.length : Int))) + (l0_10.length : Int))) + (l0_11.length : Int))) + (l0_13.length : Int))) + (l0_14.length : Int))) == 0) = true := beq_iff_eq.mpr c7
       have c7b1 : ((wrap64 ((wrap64 ((wrap64 ((wrap64 ((wrap64 ((wrap64 ((wrap64 ((wrap64 ((wrap64 ((l0_3.length : Int) + (l0_5.length : Int))) + (l0_6.length : Int))) + (l0_7.length : Int))) + (l0_8.length : Int))) + (l0_9.length : Int))) + (l0_10.length : Int))) + (l0_11.length : Int))) + (l0_13.length : Int))) + (l0_14.length : Int))) != 0) = false := bne_eq_false_iff_eq.mpr c7
       clear c7
       by_cases c8 : a0_12 = 0
       ·rw [if_pos c8] at H
        have c8b0 : (a0_12 == 0) = true := beq_iff_eq.mpr c8
        have c8b1 : (a0_12 != 0) = false := bne_eq_false_iff_eq.mpr c8
        clear c8
        by_cases c9 : a0_15 = 0
        ·rw [if_pos c9] at H
         have c9b0 : (a0_15 == 0) = true := beq_iff_eq.mpr c9
         have c9b1 : (a0_15 != 0) = false := bne_eq_false_iff_eq.mpr c9
         clear c9
         by_cases c10 : a0_17 = 0
         ·rw [if_pos c10] at H
          have c10b0 : (a0_17 == 0) = true := beq_iff_eq.mpr c10
          have c10b1 : (a0_17 != 0) = false := bne_eq_false_iff_eq.mpr c10
          clear c10
          by_cases c11 : a0_18 = 0
          ·rw [if_pos c11] at H
           have c11b0 : (a0_18 == 0) = true := beq_iff_eq.mpr c11
           have c11b1 : (a0_18 != 0) = false := bne_eq_false_iff_eq.mpr c11
           clear c11
           obtain rfl := Option.some.inj H
           go_enter Try.func45,Try.ntmps45
           go_wp2_with (first | ((with_reducible refine gate_dst (N := 1) rfl ?_); refine box_event ?hg (N := 1) ?hd (cs := #[.int .i64 a0_0,.string a0_1,.string a0_2,.slice A0_3 l0_3.length c0_3,.string a0_4,.slice A0_5 l0_5.length c0_5,.slice A0_6 l0_6.length c0_6,.slice A0_7 l0_7.length c0_7,.slice A0_8 l0_8.length c0_8,.slice A0_9 l0_9.length c0_9,.slice A0_10 l0_10.length c0_10,.slice A0_11 l0_11.length c0_11,.int .i64 a0_12,.slice A0_13 l0_13.length c0_13,.slice A0_14 l0_14.length c0_14,.int .i64 a0_15,.string a0_16,.int .i64 a0_17,.int .i64 a0_18,.string a0_19,.int .i64 a0_20]) (t := 49) ?hr ?_; (case hd => rfl); (case hg => rfl); (case hr => first | (go_simp; done) | (go_simp; rfl)); intro gb215 hg w12 hbox hb; have n0_ := Aq.mk (below_step (by repeat (first | (with_reducible first | exact HB.out | apply below_alloc | apply pw_below_drewN | apply below_drew1) | exact HB.out)) hb); have n1_ := Aq.mk (hbox); have n2_ := Aq.mk ((by rw [hg]; exact (below_size (by repeat (first | (with_reducible first | exact HB.out | apply below_alloc | apply pw_below_drewN | apply below_drew1) | exact HB.out))) : w.heap.size ≤ gb215)); have n3_ := Aq.mk ((by rw [hg]; exact (below_size (by repeat (first | (with_reducible first | exact HB.out | apply below_alloc | apply pw_below_drewN | apply below_drew1) | exact HB.out))) : w.heap.size ≤ gb215)); clear HB; have HB := n0_; have BK215 := n1_; have GW215 := n2_; have GE215 := n3_; clear n0_ n1_ n2_ n3_; clear hb hbox hg; have hcz13_0 : w12.cell? ⟨gb215,0,none⟩ = some (.int .i64 a0_0) := (blk_cell BK215.out 0).trans rfl; have hcz13_1 : w12.cell? ⟨gb215,1,none⟩ = some (.string a0_1) := (blk_cell BK215.out 1).trans rfl; have hcz13_2 : w12.cell? ⟨gb215,2,none⟩ = some (.string a0_2) := (blk_cell BK215.out 2).trans rfl; have hcz13_3 : w12.cell? ⟨gb215,3,none⟩ = some (.slice A0_3 l0_3.length c0_3) := (blk_cell BK215.out 3).trans rfl; have hcz13_4 : w12.cell? ⟨gb215,4,none⟩ = some (.string a0_4) := (blk_cell BK215.out 4).trans rfl; have hcz13_5 : w12.cell? ⟨gb215,5,none⟩ = some (.slice A0_5 l0_5.length c0_5) := (blk_cell BK215.out 5).trans rfl; have hcz13_6 : w12.cell? ⟨gb215,6,none⟩ = some (.slice A0_6 l0_6.length c0_6) := (blk_cell BK215.out 6).trans rfl; have hcz13_7 : w12.cell? ⟨gb215,7,none⟩ = some (.slice A0_7 l0_7.length c0_7) := (blk_cell BK215.out 7).trans rfl; have hcz13_8 : w12.cell? ⟨gb215,8,none⟩ = some (.slice A0_8 l0_8.length c0_8) := (blk_cell BK215.out 8).trans rfl; have hcz13_9 : w12.cell? ⟨gb215,9,none⟩ = some (.slice A0_9 l0_9.length c0_9) := (blk_cell BK215.out 9).trans rfl; have hcz13_10 : w12.cell? ⟨gb215,10,none⟩ = some (.slice A0_10 l0_10.length c0_10) := (blk_cell BK215.out 10).trans rfl; have hcz13_11 : w12.cell? ⟨gb215,11,none⟩ = some (.slice A0_11 l0_11.length c0_11) := (blk_cell BK215.out 11).trans rfl; have hcz13_12 : w12.cell? ⟨gb215,12,none⟩ = some (.int .i64 a0_12) := (blk_cell BK215.out 12).trans rfl; have hcz13_13 : w12.cell? ⟨gb215,13,none⟩ = some (.slice A0_13 l0_13.length c0_13) := (blk_cell BK215.out 13).trans rfl; have hcz13_14 : w12.cell? ⟨gb215,14,none⟩ = some (.slice A0_14 l0_14.length c0_14) := (blk_cell BK215.out 14).trans rfl; have hcz13_15 : w12.cell? ⟨gb215,15,none⟩ = some (.int .i64 a0_15) := (blk_cell BK215.out 15).trans rfl; have hcz13_16 : w12.cell? ⟨gb215,16,none⟩ = some (.string a0_16) := (blk_cell BK215.out 16).trans rfl; have hcz13_17 : w12.cell? ⟨gb215,17,none⟩ = some (.int .i64 a0_17) := (blk_cell BK215.out 17).trans rfl; have hcz13_18 : w12.cell? ⟨gb215,18,none⟩ = some (.int .i64 a0_18) := (blk_cell BK215.out 18).trans rfl; have hcz13_19 : w12.cell? ⟨gb215,19,none⟩ = some (.string a0_19) := (blk_cell BK215.out 19).trans rfl; have hcz13_20 : w12.cell? ⟨gb215,20,none⟩ = some (.int .i64 a0_20) := (blk_cell BK215.out 20).trans rfl; have hfz13_0 := blk_frozen BK215.out 0; have hfz13_1 := blk_frozen BK215.out 1; have hfz13_2 := blk_frozen BK215.out 2; have hfz13_3 := blk_frozen BK215.out 3; have hfz13_4 := blk_frozen BK215.out 4; have hfz13_5 := blk_frozen BK215.out 5; have hfz13_6 := blk_frozen BK215.out 6; have hfz13_7 := blk_frozen BK215.out 7; have hfz13_8 := blk_frozen BK215.out 8; have hfz13_9 := blk_frozen BK215.out 9; have hfz13_10 := blk_frozen BK215.out 10; have hfz13_11 := blk_frozen BK215.out 11; have hfz13_12 := blk_frozen BK215.out 12; have hfz13_13 := blk_frozen BK215.out 13; have hfz13_14 := blk_frozen BK215.out 14; have hfz13_15 := blk_frozen BK215.out 15; have hfz13_16 := blk_frozen BK215.out 16; have hfz13_17 := blk_frozen BK215.out 17; have hfz13_18 := blk_frozen BK215.out 18; have hfz13_19 := blk_frozen BK215.out 19; have hfz13_20 := blk_frozen BK215.out 20))
           go_ret
           exact ⟨by first | rfl | (simp [errW_none,errW_some] <;> rfl) | (simp [*,errW_none,errW_some] <;> rfl),by repeat (first | (with_reducible first | exact HB.out | apply below_alloc | apply pw_below_drewN | apply below_drew1 | refine below_set ?_ GE215.out) | exact HB.out)⟩
          ·rw [if_neg c11] at H
           have c11b0 : (a0_18 == 0) = false := beq_eq_false_iff_ne.mpr c11
           have c11b1 : (a0_18 != 0) = true := bne_iff_ne.mpr c11
           obtain rfl := Option.some.inj H
           go_enter Try.func45,Try.ntmps45
           go_wp2_with (first | ((with_reducible refine gate_dst (N := 1) rfl ?_); refine box_event ?hg (N := 1) ?hd (cs := #[.int .i64 a0_0,.string a0_1,.string a0_2,.slice A0_3 l0_3.length c0_3,.string a0_4,.slice A0_5 l0_5.length c0_5,.slice A0_6 l0_6.length c0_6,.slice A0_7 l0_7.length c0_7,.slice A0_8 l0_8.length c0_8,.slice A0_9 l0_9.length c0_9,.slice A0_10 l0_10.length c0_10,.slice A0_11 l0_11.length c0_11,.int .i64 a0_12,.slice A0_13 l0_13.length c0_13,.slice A0_14 l0_14.length c0_14,.int .i64 a0_15,.string a0_16,.int .i64 a0_17,.int .i64 a0_18,.string a0_19,.int .i64 a0_20]) (t := 49) ?hr ?_; (case hd => rfl); (case hg => rfl); (case hr => first | (go_simp; done) | (go_simp; rfl)); intro gb215 hg w14 hbox hb; have n0_ := Aq.mk (below_step (by repeat (first | (with_reducible first | exact HB.out | apply below_alloc | apply pw_below_drewN | apply below_drew1) | exact HB.out)) hb); have n1_ := Aq.mk (hbox); have n2_ := Aq.mk ((by rw [hg]; exact (below_size (by repeat (first | (with_reducible first | exact HB.out | apply below_alloc | apply pw_below_drewN | apply below_drew1) | exact HB.out))) : w.heap.size ≤ gb215)); have n3_ := Aq.mk ((by rw [hg]; exact (below_size (by repeat (first | (with_reducible first | exact HB.out | apply below_alloc | apply pw_below_drewN | apply below_drew1) | exact HB.out))) : w.heap.size ≤ gb215)); clear HB; have HB := n0_; have BK215 := n1_; have GW215 := n2_; have GE215 := n3_; clear n0_ n1_ n2_ n3_; clear hb hbox hg; have hcz15_0 : w14.cell? ⟨gb215,0,none⟩ = some (.int .i64 a0_0) := (blk_cell BK215.out 0).trans rfl; have hcz15_1 : w14.cell? ⟨gb215,1,none⟩ = some (.string a0_1) := (blk_cell BK215.out 1).trans rfl; have hcz15_2 : w14.cell? ⟨gb215,2,none⟩ = some (.string a0_2) := (blk_cell BK215.out 2).trans rfl; have hcz15_3 : w14.cell? ⟨gb215,3,none⟩ = some (.slice A0_3 l0_3.length c0_3) := (blk_cell BK215.out 3).trans rfl; have hcz15_4 : w14.cell? ⟨gb215,4,none⟩ = some (.string a0_4) := (blk_cell BK215.out 4).trans rfl; have hcz15_5 : w14.cell? ⟨gb215,5,none⟩ = some (.slice A0_5 l0_5.length c0_5) := (blk_cell BK215.out 5).trans rfl; have hcz15_6 : w14.cell? ⟨gb215,6,none⟩ = some (.slice A0_6 l0_6.length c0_6) := (blk_cell BK215.out 6).trans rfl; have hcz15_7 : w14.cell? ⟨gb215,7,none⟩ = some (.slice A0_7 l0_7.length c0_7) := (blk_cell BK215.out 7).trans rfl; have hcz15_8 : w14.cell? ⟨gb215,8,none⟩ = some (.slice A0_8 l0_8.length c0_8) := (blk_cell BK215.out 8).trans rfl; have hcz15_9 : w14.cell? ⟨gb215,9,none⟩ = some (.slice A0_9 l0_9.length c0_9) := (blk_cell BK215.out 9).trans rfl; have hcz15_10 : w14.cell? ⟨gb215,10,none⟩ = some (.slice A0_10 l0_10.length c0_10) := (blk_cell BK215.out 10).trans rfl; have hcz15_11 : w14.cell? ⟨gb215,11,none⟩ = some (.slice A0_11 l0_11.length c0_11) := (blk_cell BK215.out 11).trans rfl; have hcz15_12 : w14.cell? ⟨gb215,12,none⟩ = some (.int .i64 a0_12) := (blk_cell BK215.out 12).trans rfl; have hcz15_13 : w14.cell? ⟨gb215,13,none⟩ = some (.slice A0_13 l0_13.length c0_13) := (blk_cell BK215.out 13).trans rfl; have hcz15_14 : w14.cell? ⟨gb215,14,none⟩ = some (.slice A0_14 l0_14.length c0_14) := (blk_cell BK215.out 14).trans rfl; have hcz15_15 : w14.cell? ⟨gb215,15,none⟩ = some (.int .i64 a0_15) := (blk_cell BK215.out 15).trans rfl; have hcz15_16 : w14.cell? ⟨gb215,16,none⟩ = some (.string a0_16) := (blk_cell BK215.out 16).trans rfl; have hcz15_17 : w14.cell? ⟨gb215,17,none⟩ = some (.int .i64 a0_17) := (blk_cell BK215.out 17).trans rfl; have hcz15_18 : w14.cell? ⟨gb215,18,none⟩ = some (.int .i64 a0_18) := (blk_cell BK215.out 18).trans rfl; have hcz15_19 : w14.cell? ⟨gb215,19,none⟩ = some (.string a0_19) := (blk_cell BK215.out 19).trans rfl; have hcz15_20 : w14.cell? ⟨gb215,20,none⟩ = some (.int .i64 a0_20) := (blk_cell BK215.out 20).trans rfl; have hfz15_0 := blk_frozen BK215.out 0; have hfz15_1 := blk_frozen BK215.out 1; have hfz15_2 := blk_frozen BK215.out 2; have hfz15_3 := blk_frozen BK215.out 3; have hfz15_4 := blk_frozen BK215.out 4; have hfz15_5 := blk_frozen BK215.out 5; have hfz15_6 := blk_frozen BK215.out 6; have hfz15_7 := blk_frozen BK215.out 7; have hfz15_8 := blk_frozen BK215.out 8; have hfz15_9 := blk_frozen BK215.out 9; have hfz15_10 := blk_frozen BK215.out 10; have hfz15_11 := blk_frozen BK215.out 11; have hfz15_12 := blk_frozen BK215.out 12; have hfz15_13 := blk_frozen BK215.out 13; have hfz15_14 := blk_frozen BK215.out 14; have hfz15_15 := blk_frozen BK215.out 15; have hfz15_16 := blk_frozen BK215.out 16; have hfz15_17 := blk_frozen BK215.out 17; have hfz15_18 := blk_frozen BK215.out 18; have hfz15_19 := blk_frozen BK215.out 19; have hfz15_20 := blk_frozen BK215.out 20))
           go_ret
           exact ⟨by first | rfl | (simp [errW_none,errW_some] <;> rfl) | (simp [*,errW_none,errW_some] <;> rfl),by repeat (first | (with_reducible first | exact HB.out | apply below_alloc | apply pw_below_drewN | apply below_drew1 | refine below_set ?_ GE215.out) | exact HB.out)⟩
         ·rw [if_neg c10] at H
          have c10b0 : (a0_17 == 0) = false := beq_eq_false_iff_ne.mpr c10
          have c10b1 : (a0_17 != 0) = true := bne_iff_ne.mpr c10
          obtain rfl := Option.some.inj H
          go_enter Try.func45,Try.ntmps45
          go_wp2_with (first | ((with_reducible refine gate_dst (N := 1) rfl ?_); refine box_event ?hg (N := 1) ?hd (cs := #[.int .i64 a0_0,.string a0_1,.string a0_2,.slice A0_3 l0_3.length c0_3,.string a0_4,.slice A0_5 l0_5.length c0_5,.slice A0_6 l0_6.length c0_6,.slice A0_7 l0_7.length c0_7,.slice A0_8 l0_8.length c0_8,.slice A0_9 l0_9.length c0_9,.slice A0_10 l0_10.length c0_10,.slice A0_11 l0_11.length c0_11,.int .i64 a0_12,.slice A0_13 l0_13.length c0_13,.slice A0_14 l0_14.length c0_14,.int .i64 a0_15,.string a0_16,.int .i64 a0_17,.int .i64 a0_18,.string a0_19,.int .i64 a0_20]) (t := 49) ?hr ?_; (case hd => rfl); (case hg => rfl); (case hr => first | (go_simp; done) | (go_simp; rfl)); intro gb215 hg w16 hbox hb; have n0_ := Aq.mk (below_step (by repeat (first | (with_reducible first | exact HB.out | apply below_alloc | apply pw_below_drewN | apply below_drew1) | exact HB.out)) hb); have n1_ := Aq.mk (hbox); have n2_ := Aq.mk ((by rw [hg]; exact (below_size (by repeat (first | (with_reducible first | exact HB.out | apply below_alloc | apply pw_below_drewN | apply below_drew1) | exact HB.out))) : w.heap.size ≤ gb215)); have n3_ := Aq.mk ((by rw [hg]; exact (below_size (by repeat (first | (with_reducible first | exact HB.out | apply below_alloc | apply pw_below_drewN | apply below_drew1) | exact HB.out))) : w.heap.size ≤ gb215)); clear HB; have HB := n0_; have BK215 := n1_; have GW215 := n2_; have GE215 := n3_; clear n0_ n1_ n2_ n3_; clear hb hbox hg; have hcz17_0 : w16.cell? ⟨gb215,0,none⟩ = some (.int .i64 a0_0) := (blk_cell BK215.out 0).trans rfl; have hcz17_1 : w16.cell? ⟨gb215,1,none⟩ = some (.string a0_1) := (blk_cell BK215.out 1).trans rfl; have hcz17_2 : w16.cell? ⟨gb215,2,none⟩ = some (.string a0_2) := (blk_cell BK215.out 2).trans rfl; have hcz17_3 : w16.cell? ⟨gb215,3,none⟩ = some (.slice A0_3 l0_3.length c0_3) := (blk_cell BK215.out 3).trans rfl; have hcz17_4 : w16.cell? ⟨gb215,4,none⟩ = some (.string a0_4) := (blk_cell BK215.out 4).trans rfl; have hcz17_5 : w16.cell? ⟨gb215,5,none⟩ = some (.slice A0_5 l0_5.length c0_5) := (blk_cell BK215.out 5).trans rfl; have hcz17_6 : w16.cell? ⟨gb215,6,none⟩ = some (.slice A0_6 l0_6.length c0_6) := (blk_cell BK215.out 6).trans rfl; have hcz17_7 : w16.cell? ⟨gb215,7,none⟩ = some (.slice A0_7 l0_7.length c0_7) := (blk_cell BK215.out 7).trans rfl; have hcz17_8 : w16.cell? ⟨gb215,8,none⟩ = some (.slice A0_8 l0_8.length c0_8) := (blk_cell BK215.out 8).trans rfl; have hcz17_9 : w16.cell? ⟨gb215,9,none⟩ = some (.slice A0_9 l0_9.length c0_9) := (blk_cell BK215.out 9).trans rfl; have hcz17_10 : w16.cell? ⟨gb215,10,none⟩ = some (.slice A0_10 l0_10.length c0_10) := (blk_cell BK215.out 10).trans rfl; have hcz17_11 : w16.cell? ⟨gb215,11,none⟩ = some (.slice A0_11 l0_11.length c0_11) := (blk_cell BK215.out 11).trans rfl; have hcz17_12 : w16.cell? ⟨gb215,12,none⟩ = some (.int .i64 a0_12) := (blk_cell BK215.out 12).trans rfl; have hcz17_13 : w16.cell? ⟨gb215,13,none⟩ = some (.slice A0_13 l0_13.length c0_13) := (blk_cell BK215.out 13).trans rfl; have hcz17_14 : w16.cell? ⟨gb215,14,none⟩ = some (.slice A0_14 l0_14.length c0_14) := (blk_cell BK215.out 14).trans rfl; have hcz17_15 : w16.cell? ⟨gb215,15,none⟩ = some (.int .i64 a0_15) := (blk_cell BK215.out 15).trans rfl; have hcz17_16 : w16.cell? ⟨gb215,16,none⟩ = some (.string a0_16) := (blk_cell BK215.out 16).trans rfl; have hcz17_17 : w16.cell? ⟨gb215,17,none⟩ = some (.int .i64 a0_17) := (blk_cell BK215.out 17).trans rfl; have hcz17_18 : w16.cell? ⟨gb215,18,none⟩ = some (.int .i64 a0_18) := (blk_cell BK215.out 18).trans rfl; have hcz17_19 : w16.cell? ⟨gb215,19,none⟩ = some (.string a0_19) := (blk_cell BK215.out 19).trans rfl; have hcz17_20 : w16.cell? ⟨gb215,20,none⟩ = some (.int .i64 a0_20) := (blk_cell BK215.out 20).trans rfl; have hfz17_0 := blk_frozen BK215.out 0; have hfz17_1 := blk_frozen BK215.out 1; have hfz17_2 := blk_frozen BK215.out 2; have hfz17_3 := blk_frozen BK215.out 3; have hfz17_4 := blk_frozen BK215.out 4; have hfz17_5 := blk_frozen BK215.out 5; have hfz17_6 := blk_frozen BK215.out 6; have hfz17_7 := blk_frozen BK215.out 7; have hfz17_8 := blk_frozen BK215.out 8; have hfz17_9 := blk_frozen BK215.out 9; have hfz17_10 := blk_frozen BK215.out 10; have hfz17_11 := blk_frozen BK215.out 11; have hfz17_12 := blk_frozen BK215.out 12; have hfz17_13 := blk_frozen BK215.out 13; have hfz17_14 := blk_frozen BK215.out 14; have hfz17_15 := blk_frozen BK215.out 15; have hfz17_16 := blk_frozen BK215.out 16; have hfz17_17 := blk_frozen BK215.out 17; have hfz17_18 := blk_frozen BK215.out 18; have hfz17_19 := blk_frozen BK215.out 19; have hfz17_20 := blk_frozen BK215.out 20))
          go_ret
          exact ⟨by first | rfl | (simp [errW_none,errW_some] <;> rfl) | (simp [*,errW_none,errW_some] <;> rfl),by repeat (first | (with_reducible first | exact HB.out | apply below_alloc | apply pw_below_drewN | apply below_drew1 | refine below_set ?_ GE215.out) | exact HB.out)⟩
        ·rw [if_neg c9] at H
         have c9b0 : (a0_15 == 0) = false := beq_eq_false_iff_ne.mpr c9
         have c9b1 : (a0_15 != 0) = true := bne_iff_ne.mpr c9
         obtain rfl := Option.some.inj H
         go_enter Try.func45,Try.ntmps45
         go_wp2_with (first | ((with_reducible refine gate_dst (N := 1) rfl ?_); refine box_event ?hg (N := 1) ?hd (cs := #[.int .i64 a0_0,.string a0_1,.string a0_2,.slice A0_3 l0_3.length c0_3,.string a0_4,.slice A0_5 l0_5.length c0_5,.slice A0_6 l0_6.length c0_6,.slice A0_7 l0_7.length c0_7,.slice A0_8 l0_8.length c0_8,.slice A0_9 l0_9.length c0_9,.slice A0_10 l0_10.length c0_10,.slice A0_11 l0_11.length c0_11,.int .i64 a0_12,.slice A0_13 l0_13.length c0_13,.slice A0_14 l0_14.length c0_14,.int .i64 a0_15,.string a0_16,.int .i64 a0_17,.int .i64 a0_18,.string a0_19,.int .i64 a0_20]) (t := 49) ?hr ?_; (case hd => rfl); (case hg => rfl); (case hr => first | (go_simp; done) | (go_simp; rfl)); intro gb215 hg w18 hbox hb; have n0_ := Aq.mk (below_step (by repeat (first | (with_reducible first | exact HB.out | apply below_alloc | apply pw_below_drewN | apply below_drew1) | exact HB.out)) hb); have n1_ := Aq.mk (hbox); have n2_ := Aq.mk ((by rw [hg]; exact (below_size (by repeat (first | (with_reducible first | exact HB.out | apply below_alloc | apply pw_below_drewN | apply below_drew1) | exact HB.out))) : w.heap.size ≤ gb215)); have n3_ := Aq.mk ((by rw [hg]; exact (below_size (by repeat (first | (with_reducible first | exact HB.out | apply below_alloc | apply pw_below_drewN | apply below_drew1) | exact HB.out))) : w.heap.size ≤ gb215)); clear HB; have HB := n0_; have BK215 := n1_; have GW215 := n2_; have GE215 := n3_; clear n0_ n1_ n2_ n3_; clear hb hbox hg; have hcz19_0 : w18.cell? ⟨gb215,0,none⟩ = some (.int .i64 a0_0) := (blk_cell BK215.out 0).trans rfl; have hcz19_1 : w18.cell? ⟨gb215,1,none⟩ = some (.string a0_1) := (blk_cell BK215.out 1).trans rfl; have hcz19_2 : w18.cell? ⟨gb215,2,none⟩ = some (.string a0_2) := (blk_cell BK215.out 2).trans rfl; have hcz19_3 : w18.cell? ⟨gb215,3,none⟩ = some (.slice A0_3 l0_3.length c0_3) := (blk_cell BK215.out 3).trans rfl; have hcz19_4 : w18.cell? ⟨gb215,4,none⟩ = some (.string a0_4) := (blk_cell BK215.out 4).trans rfl; have hcz19_5 : w18.cell? ⟨gb215,5,none⟩ = some (.slice A0_5 l0_5.length c0_5) := (blk_cell BK215.out 5).trans rfl; have hcz19_6 : w18.cell? ⟨gb215,6,none⟩ = some (.slice A0_6 l0_6.length c0_6) := (blk_cell BK215.out 6).trans rfl; have hcz19_7 : w18.cell? ⟨gb215,7,none⟩ = some (.slice A0_7 l0_7.length c0_7) := (blk_cell BK215.out 7).trans rfl; have hcz19_8 : w18.cell? ⟨gb215,8,none⟩ = some (.slice A0_8 l0_8.length c0_8) := (blk_cell BK215.out 8).trans rfl; have hcz19_9 : w18.cell? ⟨gb215,9,none⟩ = some (.slice A0_9 l0_9.length c0_9) := (blk_cell BK215.out 9).trans rfl; have hcz19_10 : w18.cell? ⟨gb215,10,none⟩ = some (.slice A0_10 l0_10.length c0_10) := (blk_cell BK215.out 10).trans rfl; have hcz19_11 : w18.cell? ⟨gb215,11,none⟩ = some (.slice A0_11 l0_11.length c0_11) := (blk_cell BK215.out 11).trans rfl; have hcz19_12 : w18.cell? ⟨gb215,12,none⟩ = some (.int .i64 a0_12) := (blk_cell BK215.out 12).trans rfl; have hcz19_13 : w18.cell? ⟨gb215,13,none⟩ = some (.slice A0_13 l0_13.length c0_13) := (blk_cell BK215.out 13).trans rfl; have hcz19_14 : w18.cell? ⟨gb215,14,none⟩ = some (.slice A0_14 l0_14.length c0_14) := (blk_cell BK215.out 14).trans rfl; have hcz19_15 : w18.cell? ⟨gb215,15,none⟩ = some (.int .i64 a0_15) := (blk_cell BK215.out 15).trans rfl; have hcz19_16 : w18.cell? ⟨gb215,16,none⟩ = some (.string a0_16) := (blk_cell BK215.out 16).trans rfl; have hcz19_17 : w18.cell? ⟨gb215,17,none⟩ = some (.int .i64 a0_17) := (blk_cell BK215.out 17).trans rfl; have hcz19_18 : w18.cell? ⟨gb215,18,none⟩ = some (.int .i64 a0_18) := (blk_cell BK215.out 18).trans rfl; have hcz19_19 : w18.cell? ⟨gb215,19,none⟩ = some (.string a0_19) := (blk_cell BK215.out 19).trans rfl; have hcz19_20 : w18.cell? ⟨gb215,20,none⟩ = some (.int .i64 a0_20) := (blk_cell BK215.out 20).trans rfl; have hfz19_0 := blk_frozen BK215.out 0; have hfz19_1 := blk_frozen BK215.out 1; have hfz19_2 := blk_frozen BK215.out 2; have hfz19_3 := blk_frozen BK215.out 3; have hfz19_4 := blk_frozen BK215.out 4; have hfz19_5 := blk_frozen BK215.out 5; have hfz19_6 := blk_frozen BK215.out 6; have hfz19_7 := blk_frozen BK215.out 7; have hfz19_8 := blk_frozen BK215.out 8; have hfz19_9 := blk_frozen BK215.out 9; have hfz19_10 := blk_frozen BK215.out 10; have hfz19_11 := blk_frozen BK215.out 11; have hfz19_12 := blk_frozen BK215.out 12; have hfz19_13 := blk_frozen BK215.out 13; have hfz19_14 := blk_frozen BK215.out 14; have hfz19_15 := blk_frozen BK215.out 15; have hfz19_16 := blk_frozen BK215.out 16; have hfz19_17 := blk_frozen BK215.out 17; have hfz19_18 := blk_frozen BK215.out 18; have hfz19_19 := blk_frozen BK215.out 19; have hfz19_20 := blk_frozen BK215.out 20))
         go_ret
         exact ⟨by first | rfl | (simp [errW_none,errW_some] <;> rfl) | (simp [*,errW_none,errW_some] <;> rfl),by repeat (first | (with_reducible first | exact HB.out | apply below_alloc | apply pw_below_drewN | apply below_drew1 | refine below_set ?_ GE215.out) | exact HB.out)⟩
       ·rw [if_neg c8] at H
        have c8b0 : (a0_12 == 0) = false := beq_eq_false_iff_ne.mpr c8
        have c8b1 : (a0_12 != 0) = true := bne_iff_ne.mpr c8
        obtain rfl := Option.some.inj H
        go_enter Try.func45,Try.ntmps45
        go_wp2_with (first | ((with_reducible refine gate_dst (N := 1) rfl ?_); refine box_event ?hg (N := 1) ?hd (cs := #[.int .i64 a0_0,.string a0_1,.string a0_2,.slice A0_3 l0_3.length c0_3,.string a0_4,.slice A0_5 l0_5.length c0_5,.slice A0_6 l0_6.length c0_6,.slice A0_7 l0_7.length c0_7,.slice A0_8 l0_8.length c0_8,.slice A0_9 l0_9.length c0_9,.slice A0_10 l0_10.length c0_10,.slice A0_11 l0_11.length c0_11,.int .i64 a0_12,.slice A0_13 l0_13.length c0_13,.slice A0_14 l0_14.length c0_14,.int .i64 a0_15,.string a0_16,.int .i64 a0_17,.int .i64 a0_18,.string a0_19,.int .i64 a0_20]) (t := 49) ?hr ?_; (case hd => rfl); (case hg => rfl); (case hr => first | (go_simp; done) | (go_simp; rfl)); intro gb215 hg w20 hbox hb; have n0_ := Aq.mk (below_step (by repeat (first | (with_reducible first | exact HB.out | apply below_alloc | apply pw_below_drewN | apply below_drew1) | exact HB.out)) hb); have n1_ := Aq.mk (hbox); have n2_ := Aq.mk ((by rw [hg]; exact (below_size (by repeat (first | (with_reducible first | exact HB.out | apply below_alloc | apply pw_below_drewN | apply below_drew1) | exact HB.out))) : w.heap.size ≤ gb215)); have n3_ := Aq.mk ((by rw [hg]; exact (below_size (by repeat (first | (with_reducible first | exact HB.out | apply below_alloc | apply pw_below_drewN | apply below_drew1) | exact HB.out))) : w.heap.size ≤ gb215)); clear HB; have HB := n0_; have BK215 := n1_; have GW215 := n2_; have GE215 := n3_; clear n0_ n1_ n2_ n3_; clear hb hbox hg; have hcz21_0 : w20.cell? ⟨gb215,0,none⟩ = some (.int .i64 a0_0) := (blk_cell BK215.out 0).trans rfl; have hcz21_1 : w20.cell? ⟨gb215,1,none⟩ = some (.string a0_1) := (blk_cell BK215.out 1).trans rfl; have hcz21_2 : w20.cell? ⟨gb215,2,none⟩ = some (.string a0_2) := (blk_cell BK215.out 2).trans rfl; have hcz21_3 : w20.cell? ⟨gb215,3,none⟩ = some (.slice A0_3 l0_3.length c0_3) := (blk_cell BK215.out 3).trans rfl; have hcz21_4 : w20.cell? ⟨gb215,4,none⟩ = some (.string a0_4) := (blk_cell BK215.out 4).trans rfl; have hcz21_5 : w20.cell? ⟨gb215,5,none⟩ = some (.slice A0_5 l0_5.length c0_5) := (blk_cell BK215.out 5).trans rfl; have hcz21_6 : w20.cell? ⟨gb215,6,none⟩ = some (.slice A0_6 l0_6.length c0_6) := (blk_cell BK215.out 6).trans rfl; have hcz21_7 : w20.cell? ⟨gb215,7,none⟩ = some (.slice A0_7 l0_7.length c0_7) := (blk_cell BK215.out 7).trans rfl; have hcz21_8 : w20.cell? ⟨gb215,8,none⟩ = some (.slice A0_8 l0_8.length c0_8) := (blk_cell BK215.out 8).trans rfl; have hcz21_9 : w20.cell? ⟨gb215,9,none⟩ = some (.slice A0_9 l0_9.length c0_9) := (blk_cell BK215.out 9).trans rfl; have hcz21_10 : w20.cell? ⟨gb215,10,none⟩ = some (.slice A0_10 l0_10.length c0_10) := (blk_cell BK215.out 10).trans rfl; have hcz21_11 : w20.cell? ⟨gb215,11,none⟩ = some (.slice A0_11 l0_11.length c0_11) := (blk_cell BK215.out 11).trans rfl; have hcz21_12 : w20.cell? ⟨gb215,12,none⟩ = some (.int .i64 a0_12) := (blk_cell BK215.out 12).trans rfl; have hcz21_13 : w20.cell? ⟨gb215,13,none⟩ = some (.slice A0_13 l0_13.length c0_13) := (blk_cell BK215.out 13).trans rfl; have hcz21_14 : w20.cell? ⟨gb215,14,none⟩ = some (.slice A0_14 l0_14.length c0_14) := (blk_cell BK215.out 14).trans rfl; have hcz21_15 : w20.cell? ⟨gb215,15,none⟩ = some (.int .i64 a0_15) := (blk_cell BK215.out 15).trans rfl; have hcz21_16 : w20.cell? ⟨gb215,16,none⟩ = some (.string a0_16) := (blk_cell BK215.out 16).trans rfl; have hcz21_17 : w20.cell? ⟨gb215,17,none⟩ = some (.int .i64 a0_17) := (blk_cell BK215.out 17).trans rfl; have hcz21_18 : w20.cell? ⟨gb215,18,none⟩ = some (.int .i64 a0_18) := (blk_cell BK215.out 18).trans rfl; have hcz21_19 : w20.cell? ⟨gb215,19,none⟩ = some (.string a0_19) := (blk_cell BK215.out 19).trans rfl; have hcz21_20 : w20.cell? ⟨gb215,20,none⟩ = some (.int .i64 a0_20) := (blk_cell BK215.out 20).trans rfl; have hfz21_0 := blk_frozen BK215.out 0; have hfz21_1 := blk_frozen BK215.out 1; have hfz21_2 := blk_frozen BK215.out 2; have hfz21_3 := blk_frozen BK215.out 3; have hfz21_4 := blk_frozen BK215.out 4; have hfz21_5 := blk_frozen BK215.out 5; have hfz21_6 := blk_frozen BK215.out 6; have hfz21_7 := blk_frozen BK215.out 7; have hfz21_8 := blk_frozen BK215.out 8; have hfz21_9 := blk_frozen BK215.out 9; have hfz21_10 := blk_frozen BK215.out 10; have hfz21_11 := blk_frozen BK215.out 11; have hfz21_12 := blk_frozen BK215.out 12; have hfz21_13 := blk_frozen BK215.out 13; have hfz21_14 := blk_frozen BK215.out 14; have hfz21_15 := blk_frozen BK215.out 15; have hfz21_16 := blk_frozen BK215.out 16; have hfz21_17 := blk_frozen BK215.out 17; have hfz21_18 := blk_frozen BK215.out 18; have hfz21_19 := blk_frozen BK215.out 19; have hfz21_20 := blk_frozen BK215.out 20))
        go_ret
        exact ⟨by first | rfl | (simp [errW_none,errW_some] <;> rfl) | (simp [*,errW_none,errW_some] <;> rfl),by repeat (first | (with_reducible first | exact HB.out | apply below_alloc | apply pw_below_drewN | apply below_drew1 | refine below_set ?_ GE215.out) | exact HB.out)⟩
      ·rw [if_neg c7] at H
       have c7b0 : ((wrap64 ((wrap64 ((wrap64 ((wrap64 ((wrap64 ((wrap64 ((wrap64 ((wrap64 ((wrap64 ((l0_3.length : Int) + (l0_5.length : Int))) + (l0_6.length : Int))) + (l0_7.length : Int))) + (l0_8.length : Int))) + (l0_9.length : Int))) + (l0_10.length : Int))) + (l0_11.length : Int))) + (l0_13.length : Int))) + (l0_14.length : Int))) == 0) = false := beq_eq_false_iff_ne.mpr c7
       have c7b1 : ((wrap64 ((wrap64 ((wrap64 ((wrap64 ((wrap64 ((wrap64 ((wrap64 ((wrap64 ((wrap64 ((l0_3.length : Int) + (l0_5.length : Int))) + (l0_6.length : Int))) + (l0_7.length : Int))) + (l0_8.length : Int))) + (l0_9.length : Int))) + (l0_10.length : Int))) + (l0_11.length : Int))) + (l0_13.length : Int))) + (l0_14.length : Int))) != 0) = true := bne_iff_ne.mpr c7
       obtain rfl := Option.some.inj H
       go_enter Try.func45,Try.ntmps45
       go_wp2_with (first | ((with_reducible refine gate_dst (N := 1) rfl ?_); refine box_event ?hg (N := 1) ?hd (cs := #[.int .i64 a0_0,.string a0_1,.string a0_2,.slice A0_3 l0_3.length c0_3,.string a0_4,.slice A0_5 l0_5.length c0_5,.slice A0_6 l0_6.length c0_6,.slice A0_7 l0_7.length c0_7,.slice A0_8 l0_8.length c0_8,.slice A0_9 l0_9.length c0_9,.slice A0_10 l0_10.length c0_10,.slice A0_11 l0_11.length c0_11,.int .i64 a0_12,.slice A0_13 l0_13.length c0_13,.slice A0_14 l0_14.length c0_14,.int .i64 a0_15,.string a0_16,.int .i64 a0_17,.int .i64 a0_18,.string a0_19,.int .i64 a0_20]) (t := 49) ?hr ?_; (case hd => rfl); (case hg => rfl); (case hr => first | (go_simp; done) | (go_simp; rfl)); intro gb215 hg w22 hbox hb; have n0_ := Aq.mk (below_step (by repeat (first | (with_reducible first | exact HB.out | apply below_alloc | apply pw_below_drewN | apply below_drew1) | exact HB.out)) hb); have n1_ := Aq.mk (hbox); have n2_ := Aq.mk ((by rw [hg]; exact (below_size (by repeat (first | (with_reducible first | exact HB.out | apply below_alloc | apply pw_below_drewN | apply below_drew1) | exact HB.out))) : w.heap.size ≤ gb215)); have n3_ := Aq.mk ((by rw [hg]; exact (below_size (by repeat (first | (with_reducible first | exact HB.out | apply below_alloc | apply pw_below_drewN | apply below_drew1) | exact HB.out))) : w.heap.size ≤ gb215)); clear HB; have HB := n0_; have BK215 := n1_; have GW215 := n2_; have GE215 := n3_; clear n0_ n1_ n2_ n3_; clear hb hbox hg; have hcz23_0 : w22.cell? ⟨gb215,0,none⟩ = some (.int .i64 a0_0) := (blk_cell BK215.out 0).trans rfl; have hcz23_1 : w22.cell? ⟨gb215,1,none⟩ = some (.string a0_1) := (blk_cell BK215.out 1).trans rfl; have hcz23_2 : w22.cell? ⟨gb215,2,none⟩ = some (.string a0_2) := (blk_cell BK215.out 2).trans rfl; have hcz23_3 : w22.cell? ⟨gb215,3,none⟩ = some (.slice A0_3 l0_3.length c0_3) := (blk_cell BK215.out 3).trans rfl; have hcz23_4 : w22.cell? ⟨gb215,4,none⟩ = some (.string a0_4) := (blk_cell BK215.out 4).trans rfl; have hcz23_5 : w22.cell? ⟨gb215,5,none⟩ = some (.slice A0_5 l0_5.length c0_5) := (blk_cell BK215.out 5).trans rfl; have hcz23_6 : w22.cell? ⟨gb215,6,none⟩ = some (.slice A0_6 l0_6.length c0_6) := (blk_cell BK215.out 6).trans rfl; have hcz23_7 : w22.cell? ⟨gb215,7,none⟩ = some (.slice A0_7 l0_7.length c0_7) := (blk_cell BK215.out 7).trans rfl; have hcz23_8 : w22.cell? ⟨gb215,8,none⟩ = some (.slice A0_8 l0_8.length c0_8) := (blk_cell BK215.out 8).trans rfl; have hcz23_9 : w22.cell? ⟨gb215,9,none⟩ = some (.slice A0_9 l0_9.length c0_9) := (blk_cell BK215.out 9).trans rfl; have hcz23_10 : w22.cell? ⟨gb215,10,none⟩ = some (.slice A0_10 l0_10.length c0_10) := (blk_cell BK215.out 10).trans rfl; have hcz23_11 : w22.cell? ⟨gb215,11,none⟩ = some (.slice A0_11 l0_11.length c0_11) := (blk_cell BK215.out 11).trans rfl; have hcz23_12 : w22.cell? ⟨gb215,12,none⟩ = some (.int .i64 a0_12) := (blk_cell BK215.out 12).trans rfl; have hcz23_13 : w22.cell? ⟨gb215,13,none⟩ = some (.slice A0_13 l0_13.length c0_13) := (blk_cell BK215.out 13).trans rfl; have hcz23_14 : w22.cell? ⟨gb215,14,none⟩ = some (.slice A0_14 l0_14.length c0_14) := (blk_cell BK215.out 14).trans rfl; have hcz23_15 : w22.cell? ⟨gb215,15,none⟩ = some (.int .i64 a0_15) := (blk_cell BK215.out 15).trans rfl; have hcz23_16 : w22.cell? ⟨gb215,16,none⟩ = some (.string a0_16) := (blk_cell BK215.out 16).trans rfl; have hcz23_17 : w22.cell? ⟨gb215,17,none⟩ = some (.int .i64 a0_17) := (blk_cell BK215.out 17).trans rfl; have hcz23_18 : w22.cell? ⟨gb215,18,none⟩ = some (.int .i64 a0_18) := (blk_cell BK215.out 18).trans rfl; have hcz23_19 : w22.cell? ⟨gb215,19,none⟩ = some (.string a0_19) := (blk_cell BK215.out 19).trans rfl; have hcz23_20 : w22.cell? ⟨gb215,20,none⟩ = some (.int .i64 a0_20) := (blk_cell BK215.out 20).trans rfl; have hfz23_0 := blk_frozen BK215.out 0; have hfz23_1 := blk_frozen BK215.out 1; have hfz23_2 := blk_frozen BK215.out 2; have hfz23_3 := blk_frozen BK215.out 3; have hfz23_4 := blk_frozen BK215.out 4; have hfz23_5 := blk_frozen BK215.out 5; have hfz23_6 := blk_frozen BK215.out 6; have hfz23_7 := blk_frozen BK215.out 7; have hfz23_8 := blk_frozen BK215.out 8; have hfz23_9 := blk_frozen BK215.out 9; have hfz23_10 := blk_frozen BK215.out 10; have hfz23_11 := blk_frozen BK215.out 11; have hfz23_12 := blk_frozen BK215.out 12; have hfz23_13 := blk_frozen BK215.out 13; have hfz23_14 := blk_frozen BK215.out 14; have hfz23_15 := blk_frozen BK215.out 15; have hfz23_16 := blk_frozen BK215.out 16; have hfz23_17 := blk_frozen BK215.out 17; have hfz23_18 := blk_frozen BK215.out 18; have hfz23_19 := blk_frozen BK215.out 19; have hfz23_20 := blk_frozen BK215.out 20))
       go_ret
       exact ⟨by first | rfl | (simp [errW_none,errW_some] <;> rfl) | (simp [*,errW_none,errW_some] <;> rfl),by repeat (first | (with_reducible first | exact HB.out | apply below_alloc | apply pw_below_drewN | apply below_drew1 | refine below_set ?_ GE215.out) | exact HB.out)⟩
     ·rw [if_neg c6] at H
      have c6b0 : (ys219.toList == ([] : List UInt8)) = false := beq_eq_false_iff_ne.mpr c6
      have c6b1 : (ys219.toList != ([] : List UInt8)) = true := bne_iff_ne.mpr c6
      obtain rfl := Option.some.inj H
      go_enter Try.func45,Try.ntmps45
      go_wp2_with (first | ((with_reducible refine gate_dst (N := 1) rfl ?_); refine box_event ?hg (N := 1) ?hd (cs := #[.int .i64 a0_0,.string a0_1,.string a0_2,.slice A0_3 l0_3.length c0_3,.string a0_4,.slice A0_5 l0_5.length c0_5,.slice A0_6 l0_6.length c0_6,.slice A0_7 l0_7.length c0_7,.slice A0_8 l0_8.length c0_8,.slice A0_9 l0_9.length c0_9,.slice A0_10 l0_10.length c0_10,.slice A0_11 l0_11.length c0_11,.int .i64 a0_12,.slice A0_13 l0_13.length c0_13,.slice A0_14 l0_14.length c0_14,.int .i64 a0_15,.string a0_16,.int .i64 a0_17,.int .i64 a0_18,.string a0_19,.int .i64 a0_20]) (t := 49) ?hr ?_; (case hd => rfl); (case hg => rfl); (case hr => first | (go_simp; done) | (go_simp; rfl)); intro gb215 hg w24 hbox hb; have n0_ := Aq.mk (below_step (by repeat (first | (with_reducible first | exact HB.out | apply below_alloc | apply pw_below_drewN | apply below_drew1) | exact HB.out)) hb); have n1_ := Aq.mk (hbox); have n2_ := Aq.mk ((by rw [hg]; exact (below_size (by repeat (first | (with_reducible first | exact HB.out | apply below_alloc | apply pw_below_drewN | apply below_drew1) | exact HB.out))) : w.heap.size ≤ gb215)); have n3_ := Aq.mk ((by rw [hg]; exact (below_size (by repeat (first | (with_reducible first | exact HB.out | apply below_alloc | apply pw_below_drewN | apply below_drew1) | exact HB.out))) : w.heap.size ≤ gb215)); clear HB; have HB := n0_; have BK215 := n1_; have GW215 := n2_; have GE215 := n3_; clear n0_ n1_ n2_ n3_; clear hb hbox hg; have hcz25_0 : w24.cell? ⟨gb215,0,none⟩ = some (.int .i64 a0_0) := (blk_cell BK215.out 0).trans rfl; have hcz25_1 : w24.cell? ⟨gb215,1,none⟩ = some (.string a0_1) := (blk_cell BK215.out 1).trans rfl; have hcz25_2 : w24.cell? ⟨gb215,2,none⟩ = some (.string a0_2) := (blk_cell BK215.out 2).trans rfl; have hcz25_3 : w24.cell? ⟨gb215,3,none⟩ = some (.slice A0_3 l0_3.length c0_3) := (blk_cell BK215.out 3).trans rfl; have hcz25_4 : w24.cell? ⟨gb215,4,none⟩ = some (.string a0_4) := (blk_cell BK215.out 4).trans rfl; have hcz25_5 : w24.cell? ⟨gb215,5,none⟩ = some (.slice A0_5 l0_5.length c0_5) := (blk_cell BK215.out 5).trans rfl; have hcz25_6 : w24.cell? ⟨gb215,6,none⟩ = some (.slice A0_6 l0_6.length c0_6) := (blk_cell BK215.out 6).trans rfl; have hcz25_7 : w24.cell? ⟨gb215,7,none⟩ = some (.slice A0_7 l0_7.length c0_7) := (blk_cell BK215.out 7).trans rfl; have hcz25_8 : w24.cell? ⟨gb215,8,none⟩ = some (.slice A0_8 l0_8.length c0_8) := (blk_cell BK215.out 8).trans rfl; have hcz25_9 : w24.cell? ⟨gb215,9,none⟩ = some (.slice A0_9 l0_9.length c0_9) := (blk_cell BK215.out 9).trans rfl; have hcz25_10 : w24.cell? ⟨gb215,10,none⟩ = some (.slice A0_10 l0_10.length c0_10) := (blk_cell BK215.out 10).trans rfl; have hcz25_11 : w24.cell? ⟨gb215,11,none⟩ = some (.slice A0_11 l0_11.length c0_11) := (blk_cell BK215.out 11).trans rfl; have hcz25_12 : w24.cell? ⟨gb215,12,none⟩ = some (.int .i64 a0_12) := (blk_cell BK215.out 12).trans rfl; have hcz25_13 : w24.cell? ⟨gb215,13,none⟩ = some (.slice A0_13 l0_13.length c0_13) := (blk_cell BK215.out 13).trans rfl; have hcz25_14 : w24.cell? ⟨gb215,14,none⟩ = some (.slice A0_14 l0_14.length c0_14) := (blk_cell BK215.out 14).trans rfl; have hcz25_15 : w24.cell? ⟨gb215,15,none⟩ = some (.int .i64 a0_15) := (blk_cell BK215.out 15).trans rfl; have hcz25_16 : w24.cell? ⟨gb215,16,none⟩ = some (.string a0_16) := (blk_cell BK215.out 16).trans rfl; have hcz25_17 : w24.cell? ⟨gb215,17,none⟩ = some (.int .i64 a0_17) := (blk_cell BK215.out 17).trans rfl; have hcz25_18 : w24.cell? ⟨gb215,18,none⟩ = some (.int .i64 a0_18) := (blk_cell BK215.out 18).trans rfl; have hcz25_19 : w24.cell? ⟨gb215,19,none⟩ = some (.string a0_19) := (blk_cell BK215.out 19).trans rfl; have hcz25_20 : w24.cell? ⟨gb215,20,none⟩ = some (.int .i64 a0_20) := (blk_cell BK215.out 20).trans rfl; have hfz25_0 := blk_frozen BK215.out 0; have hfz25_1 := blk_frozen BK215.out 1; have hfz25_2 := blk_frozen BK215.out 2; have hfz25_3 := blk_frozen BK215.out 3; have hfz25_4 := blk_frozen BK215.out 4; have hfz25_5 := blk_frozen BK215.out 5; have hfz25_6 := blk_frozen BK215.out 6; have hfz25_7 := blk_frozen BK215.out 7; have hfz25_8 := blk_frozen BK215.out 8; have hfz25_9 := blk_frozen BK215.out 9; have hfz25_10 := blk_frozen BK215.out 10; have hfz25_11 := blk_frozen BK215.out 11; have hfz25_12 := blk_frozen BK215.out 12; have hfz25_13 := blk_frozen BK215.out 13; have hfz25_14 := blk_frozen BK215.out 14; have hfz25_15 := blk_frozen BK215.out 15; have hfz25_16 := blk_frozen BK215.out 16; have hfz25_17 := blk_frozen BK215.out 17; have hfz25_18 := blk_frozen BK215.out 18; have hfz25_19 := blk_frozen BK215.out 19; have hfz25_20 := blk_frozen BK215.out 20))
      go_ret
      exact ⟨by first | rfl | (simp [errW_none,errW_some] <;> rfl) | (simp [*,errW_none,errW_some] <;> rfl),by repeat (first | (with_reducible first | exact HB.out | apply below_alloc | apply pw_below_drewN | apply below_drew1 | refine below_set ?_ GE215.out) | exact HB.out)⟩
    ·rw [if_neg c5] at H
     exact absurd H (by simp)
   ·rw [if_neg c4] at H
    exact absurd H (by simp)
  ·rw [if_neg c3] at H
   exact absurd H (by simp)
 ·rw [if_neg c2] at H
  exact absurd H (by simp)
def wire_U24.f (k : Nat) (a0 : ByteArray) (a1 : Int) : Option (Int × Int × Int) := (wire_number.f k a0 a1 3).bind fun bt225 => (some (bt225.1,bt225.2.1,bt225.2.2))
theorem wire_U24.mono : ∀ a0 a1 k,LeO (wire_U24.f k a0 a1) (wire_U24.f (k + 1) a0 a1) := by
 intro a0 a1 k
 unfold wire_U24.f
 repeat' first
   | (with_reducible exact wire_number.mono _ _ _ _)
   | (with_reducible exact LeO.refl _)
   | (with_reducible exact LeO.none _)
   | (with_reducible refine LeO.ite ?_ ?_)
   | (with_reducible refine LeO.bind ?_ (fun _ => ?_))
   | exact wire_number.mono _ _ _ _
   | exact LeO.none _
   | refine LeO.ite ?_ ?_
   | refine LeO.bind ?_ (fun _ => ?_)
set_option maxHeartbeats 8000000 in
set_option maxRecDepth 100000 in
theorem wire_U24.calls (k : Nat) (a0 : ByteArray) (a1 : Int) (r1 : Int) (r2 : Int) (r3 : Int) (w : World) (h : wire_U24.f k a0 a1 = some (r1,r2,r3)) :
  Calls Try.prog 48 #[.string a0,.int .i64 a1] w fun e w' => e = .returned (.tuple #[.int .i64 r1,.int .i64 r2,.int .i64 r3]) ∧ Drawn0 w w' := by
 have H : ((wire_number.f k a0 a1 3).bind fun bt225 => (some (bt225.1,bt225.2.1,bt225.2.2))) = some (r1,r2,r3) := h
 clear h
 replace H := Option.bind_eq_some_iff.mp H
 obtain ⟨⟨t225,t226,t227⟩,A30,H⟩ := H
 replace H : (some (t225,t226,t227)) = some (r1,r2,r3) := H
 have A3 := Aq.mk A30
 clear A30
 simp only [Option.some.injEq,Prod.mk.injEq] at H
 obtain ⟨rfl,rfl,rfl⟩ := H
 go_enter Try.func48,Try.ntmps48
 go_wp2_with (first | ((with_reducible refine gate_callee (f := 54) rfl ?_); refine goesL_ (some 9) rfl rfl Try.func54 (by kernel_rfl) rfl #[.string a0,.int .i64 a1,.int .i64 3] rfl (by (try simp only [List.map_toArray,List.map_cons,List.map_nil]); first | done | rfl | (simp only [List.length_drop,List.length_take]; rfl)) ?_; (with_reducible refine (wire_number.calls k a0 a1 3 t225 t226 t227 _ A3.out).mono ?_); rintro e w' ⟨rfl,⟨nd,rfl⟩⟩; refine ⟨_,rfl,?_⟩))
 go_ret3
 exact ⟨by first | rfl | (simp; done) | (simp [*]; done),by repeat (first | exact Drawn0.refl _ | apply Drawn0.step)⟩
def wire_U8.f (k : Nat) (a0 : ByteArray) (a1 : Int) : Option (Int × Int × Int) := (wire_number.f k a0 a1 1).bind fun bt228 => (some (bt228.1,bt228.2.1,bt228.2.2))
theorem wire_U8.mono : ∀ a0 a1 k,LeO (wire_U8.f k a0 a1) (wire_U8.f (k + 1) a0 a1) := by
 intro a0 a1 k
 unfold wire_U8.f
 repeat' first
   | (with_reducible exact wire_number.mono _ _ _ _)
   | (with_reducible exact LeO.refl _)
   | (with_reducible exact LeO.none _)
   | (with_reducible refine LeO.ite ?_ ?_)
   | (with_reducible refine LeO.bind ?_ (fun _ => ?_))
   | exact wire_number.mono _ _ _ _
   | exact LeO.none _
   | refine LeO.ite ?_ ?_
   | refine LeO.bind ?_ (fun _ => ?_)
set_option maxHeartbeats 8000000 in
set_option maxRecDepth 100000 in
theorem wire_U8.calls (k : Nat) (a0 : ByteArray) (a1 : Int) (r1 : Int) (r2 : Int) (r3 : Int) (w : World) (h : wire_U8.f k a0 a1 = some (r1,r2,r3)) :
  Calls Try.prog 105 #[.string a0,.int .i64 a1] w fun e w' => e = .returned (.tuple #[.int .i64 r1,.int .i64 r2,.int .i64 r3]) ∧ Drawn0 w w' := by
 have H : ((wire_number.f k a0 a1 1).bind fun bt228 => (some (bt228.1,bt228.2.1,bt228.2.2))) = some (r1,r2,r3) := h
 clear h
 replace H := Option.bind_eq_some_iff.mp H
 obtain ⟨⟨t228,t229,t230⟩,A30,H⟩ := H
 replace H : (some (t228,t229,t230)) = some (r1,r2,r3) := H
 have A3 := Aq.mk A30
 clear A30
 simp only [Option.some.injEq,Prod.mk.injEq] at H
 obtain ⟨rfl,rfl,rfl⟩ := H
 go_enter Try.func105,Try.ntmps105
 go_wp2_with (first | ((with_reducible refine gate_callee (f := 54) rfl ?_); refine goesL_ (some 9) rfl rfl Try.func54 (by kernel_rfl) rfl #[.string a0,.int .i64 a1,.int .i64 1] rfl (by (try simp only [List.map_toArray,List.map_cons,List.map_nil]); first | done | rfl | (simp only [List.length_drop,List.length_take]; rfl)) ?_; (with_reducible refine (wire_number.calls k a0 a1 1 t228 t229 t230 _ A3.out).mono ?_); rintro e w' ⟨rfl,⟨nd,rfl⟩⟩; refine ⟨_,rfl,?_⟩))
 go_ret3
 exact ⟨by first | rfl | (simp; done) | (simp [*]; done),by repeat (first | exact Drawn0.refl _ | apply Drawn0.step)⟩
def wire_U32.f (k : Nat) (a0 : ByteArray) (a1 : Int) : Option (Int × Int × Int) := (wire_number.f k a0 a1 4).bind fun bt231 => (some (bt231.1,bt231.2.1,bt231.2.2))
theorem wire_U32.mono : ∀ a0 a1 k,LeO (wire_U32.f k a0 a1) (wire_U32.f (k + 1) a0 a1) := by
 intro a0 a1 k
 unfold wire_U32.f
 repeat' first
   | (with_reducible exact wire_number.mono _ _ _ _)
   | (with_reducible exact LeO.refl _)
   | (with_reducible exact LeO.none _)
   | (with_reducible refine LeO.ite ?_ ?_)
   | (with_reducible refine LeO.bind ?_ (fun _ => ?_))
   | exact wire_number.mono _ _ _ _
   | exact LeO.none _
   | refine LeO.ite ?_ ?_
   | refine LeO.bind ?_ (fun _ => ?_)
set_option maxHeartbeats 8000000 in
set_option maxRecDepth 100000 in
theorem wire_U32.calls (k : Nat) (a0 : ByteArray) (a1 : Int) (r1 : Int) (r2 : Int) (r3 : Int) (w : World) (h : wire_U32.f k a0 a1 = some (r1,r2,r3)) :
  Calls Try.prog 116 #[.string a0,.int .i64 a1] w fun e w' => e = .returned (.tuple #[.int .i64 r1,.int .i64 r2,.int .i64 r3]) ∧ Drawn0 w w' := by
 have H : ((wire_number.f k a0 a1 4).bind fun bt231 => (some (bt231.1,bt231.2.1,bt231.2.2))) = some (r1,r2,r3) := h
 clear h
 replace H := Option.bind_eq_some_iff.mp H
 obtain ⟨⟨t231,t232,t233⟩,A30,H⟩ := H
 replace H : (some (t231,t232,t233)) = some (r1,r2,r3) := H
 have A3 := Aq.mk A30
 clear A30
 simp only [Option.some.injEq,Prod.mk.injEq] at H
 obtain ⟨rfl,rfl,rfl⟩ := H
 go_enter Try.func116,Try.ntmps116
 go_wp2_with (first | ((with_reducible refine gate_callee (f := 54) rfl ?_); refine goesL_ (some 9) rfl rfl Try.func54 (by kernel_rfl) rfl #[.string a0,.int .i64 a1,.int .i64 4] rfl (by (try simp only [List.map_toArray,List.map_cons,List.map_nil]); first | done | rfl | (simp only [List.length_drop,List.length_take]; rfl)) ?_; (with_reducible refine (wire_number.calls k a0 a1 4 t231 t232 t233 _ A3.out).mono ?_); rintro e w' ⟨rfl,⟨nd,rfl⟩⟩; refine ⟨_,rfl,?_⟩))
 go_ret3
 exact ⟨by first | rfl | (simp; done) | (simp [*]; done),by repeat (first | exact Drawn0.refl _ | apply Drawn0.step)⟩
def halberdlaw0_SameInts.l0 : Nat → List Int → List Int → Int → Option (Bool)
 | 0,_,_,_ => none
 | k + 1,x0,x1,x5 => if x5 < (x0.length : Int) then (if 0 ≤ x5 then (if x5 < (x1.length : Int) then (if (rd x0 x5) = (rd x1 x5) then (halberdlaw0_SameInts.l0 k x0 x1 (wrap64 (x5 + 1))) else (some false)) else (none)) else (none)) else (some true)
def halberdlaw0_SameInts.f (k : Nat) (l0 : List Int) (l1 : List Int) : Option (Bool) := if (l0.length : Int) = (l1.length : Int) then (halberdlaw0_SameInts.l0 k l0 l1 0) else (some false)
theorem halberdlaw0_SameInts.mono_l : ∀ k,(∀ y0 y1 y2,LeO (halberdlaw0_SameInts.l0 k y0 y1 y2) (halberdlaw0_SameInts.l0 (k + 1) y0 y1 y2))
 | 0 => fun _ _ _ r h => by simp [halberdlaw0_SameInts.l0] at h
 | k + 1 => by
  have ih0 := halberdlaw0_SameInts.mono_l k
  ·intro y0 y1 y2
   unfold halberdlaw0_SameInts.l0
   repeat' first
   | (with_reducible exact ih0 _ _ _)
   | (with_reducible exact LeO.refl _)
   | (with_reducible exact LeO.none _)
   | (with_reducible refine LeO.ite ?_ ?_)
   | (with_reducible refine LeO.bind ?_ (fun _ => ?_))
   | exact ih0 _ _ _
   | exact LeO.none _
   | refine LeO.ite ?_ ?_
   | refine LeO.bind ?_ (fun _ => ?_)
theorem halberdlaw0_SameInts.mono : ∀ a0 a1 k,LeO (halberdlaw0_SameInts.f k a0 a1) (halberdlaw0_SameInts.f (k + 1) a0 a1) := by
 intro a0 a1 k
 have ih0 := halberdlaw0_SameInts.mono_l k
 unfold halberdlaw0_SameInts.f
 repeat' first
   | (with_reducible exact ih0 _ _ _)
   | (with_reducible exact LeO.refl _)
   | (with_reducible exact LeO.none _)
   | (with_reducible refine LeO.ite ?_ ?_)
   | (with_reducible refine LeO.bind ?_ (fun _ => ?_))
   | exact ih0 _ _ _
   | exact LeO.none _
   | refine LeO.ite ?_ ?_
   | refine LeO.bind ?_ (fun _ => ?_)
set_option maxHeartbeats 8000000 in
set_option maxRecDepth 100000 in
theorem halberdlaw0_SameInts.calls (k : Nat) (A0 : Option Addr) (c0 : Nat) (l0 : List Int) (A1 : Option Addr) (c1 : Nat) (l1 : List Int) (r : Bool) (w : World) (hr0 : Kd.C (Kd.int .i64) w A0 l0.length l0) (hc0 : l0.length ≤ c0) (hr1 : Kd.C (Kd.int .i64) w A1 l1.length l1) (hc1 : l1.length ≤ c1) (h : halberdlaw0_SameInts.f k l0 l1 = some r) :
  Calls Try.prog 31 #[.slice A0 l0.length c0,.slice A1 l1.length c1] w fun e w' => e = .returned (.bool r) ∧ Drawn0 w w' := by
 have HR0 := Aq.mk hr0
 have HC0 := Aq.mk hc0
 clear hr0 hc0
 have HR1 := Aq.mk hr1
 have HC1 := Aq.mk hc1
 clear hr1 hc1
 have H : (if (l0.length : Int) = (l1.length : Int) then (halberdlaw0_SameInts.l0 k l0 l1 0) else (some false)) = some r := h
 clear h
 by_cases c3 : (l0.length : Int) = (l1.length : Int)
 ·rw [if_pos c3] at H
  have c3b0 : ((l0.length : Int) == (l1.length : Int)) = true := beq_iff_eq.mpr c3
  have c3b1 : ((l0.length : Int) != (l1.length : Int)) = false := bne_eq_false_iff_eq.mpr c3
  have c3b2 : (l0.length == l1.length) = true := by first | simpa using c3 | (simp at c3 ⊢; omega)
  clear c3
  have H' := Aq.mk H
  clear H
  go_enter Try.func31,Try.ntmps31
  go_wp2
  repeat (go_quiet (fail); try go_wp2)
  go_loopg [5] k (fun kq v5 w' => ∃ (x5_1 : Int),v5 = .int .i64 x5_1 ∧ Aq (halberdlaw0_SameInts.l0 kq l0 l1 x5_1 = some r) ∧ Aq (kq ≤ k) ∧ Drawn0 w w')
  case atStart => exact ⟨(0),(by first | rfl | (simp; done) | (simp [*]; done)),H',⟨Nat.le_refl _⟩,by repeat (first | exact Drawn0.refl _ | apply Drawn0.step)⟩
  case round =>
   clear H'
   try clear c1
   try clear p2
   try clear c3
   try clear c3b0
   try clear c3b1
   try clear c3b2
   obtain ⟨x5_1,rfl,HA,HK1,⟨m1,rfl⟩⟩ := hrel
   cases gk with
   | zero => exact absurd HA.out (by simp [halberdlaw0_SameInts.l0])
   | succ k1 =>
    have H := HA.out
    clear HA
    simp only [halberdlaw0_SameInts.l0] at H
    by_cases c4 : x5_1 < (l0.length : Int)
    ·rw [if_pos c4] at H
     have c4b0 : decide (x5_1 < (l0.length : Int)) = true := decide_eq_true c4
     clear c4
     by_cases c5 : 0 ≤ x5_1
     ·rw [if_pos c5] at H
      have c5b0 : decide (0 ≤ x5_1) = true := decide_eq_true c5
      clear c5
      by_cases c6 : x5_1 < (l1.length : Int)
      ·rw [if_pos c6] at H
       have c6b0 : decide (x5_1 < (l1.length : Int)) = true := decide_eq_true c6
       clear c6
       by_cases c7 : (rd l0 x5_1) = (rd l1 x5_1)
       ·rw [if_pos c7] at H
        have c7b0 : ((rd l0 x5_1) == (rd l1 x5_1)) = true := beq_iff_eq.mpr c7
        have c7b1 : ((rd l0 x5_1) != (rd l1 x5_1)) = false := bne_eq_false_iff_eq.mpr c7
        clear c7
        have H' := Aq.mk H
        clear H
        have p241 : 0 ≤ (x5_1 : Int) := of_decide_eq_true (by first | (with_reducible assumption) | assumption)
        have q241 : x5_1 < (l0.length : Int) := of_decide_eq_true (by first | (with_reducible assumption) | assumption)
        obtain ⟨ad241,e241,hx241_0⟩ := Kd.at_int HR0.out x5_1 p241 q241
        cases e241
        replace p241 := eq_true p241
        replace q241 := eq_true q241
        have p242 : 0 ≤ (x5_1 : Int) := of_decide_eq_true (by first | (with_reducible assumption) | assumption)
        have q242 : x5_1 < (l1.length : Int) := of_decide_eq_true (by first | (with_reducible assumption) | assumption)
        obtain ⟨ad242,e242,hx242_0⟩ := Kd.at_int HR1.out x5_1 p242 q242
        cases e242
        replace p242 := eq_true p242
        replace q242 := eq_true q242
        go_wp2
        repeat (go_quiet (fail); try go_wp2)
        go_roundg k1
        case measure => have := HK1.out; omega
        case rel => exact ⟨(wrap64 (x5_1 + 1)),(by first | rfl | (simp; done) | (simp [*]; done)),H',⟨by have := HK1.out; omega⟩,by repeat (first | exact Drawn0.refl _ | apply Drawn0.step)⟩
       ·rw [if_neg c7] at H
        have c7b0 : ((rd l0 x5_1) == (rd l1 x5_1)) = false := beq_eq_false_iff_ne.mpr c7
        have c7b1 : ((rd l0 x5_1) != (rd l1 x5_1)) = true := bne_iff_ne.mpr c7
        obtain rfl := Option.some.inj H
        have p241 : 0 ≤ (x5_1 : Int) := of_decide_eq_true (by first | (with_reducible assumption) | assumption)
        have q241 : x5_1 < (l0.length : Int) := of_decide_eq_true (by first | (with_reducible assumption) | assumption)
        obtain ⟨ad241,e241,hx241_0⟩ := Kd.at_int HR0.out x5_1 p241 q241
        cases e241
        replace p241 := eq_true p241
        replace q241 := eq_true q241
        have p242 : 0 ≤ (x5_1 : Int) := of_decide_eq_true (by first | (with_reducible assumption) | assumption)
        have q242 : x5_1 < (l1.length : Int) := of_decide_eq_true (by first | (with_reducible assumption) | assumption)
        obtain ⟨ad242,e242,hx242_0⟩ := Kd.at_int HR1.out x5_1 p242 q242
        cases e242
        replace p242 := eq_true p242
        replace q242 := eq_true q242
        go_wp2
        repeat (go_quiet (fail); try go_wp2)
        go_ret
        exact ⟨by first | rfl | (simp; done) | (simp [*]; done),by repeat (first | exact Drawn0.refl _ | apply Drawn0.step)⟩
      ·rw [if_neg c6] at H
       exact absurd H (by simp)
     ·rw [if_neg c5] at H
      exact absurd H (by simp)
    ·rw [if_neg c4] at H
     have c4b0 : decide (x5_1 < (l0.length : Int)) = false := decide_eq_false c4
     clear c4
     obtain rfl := Option.some.inj H
     go_wp2
     repeat (go_quiet (fail); try go_wp2)
     go_ret
     exact ⟨by first | rfl | (simp; done) | (simp [*]; done),by repeat (first | exact Drawn0.refl _ | apply Drawn0.step)⟩
 ·rw [if_neg c3] at H
  have c3b0 : ((l0.length : Int) == (l1.length : Int)) = false := beq_eq_false_iff_ne.mpr c3
  have c3b1 : ((l0.length : Int) != (l1.length : Int)) = true := bne_iff_ne.mpr c3
  have c3b2 : (l0.length == l1.length) = false := by first | simpa using c3 | (simp at c3 ⊢; omega)
  obtain rfl := Option.some.inj H
  go_enter Try.func31,Try.ntmps31
  go_wp2
  repeat (go_quiet (fail); try go_wp2)
  go_ret
  exact ⟨by first | rfl | (simp; done) | (simp [*]; done),by repeat (first | exact Drawn0.refl _ | apply Drawn0.step)⟩
end Go.Proofs.Ytlkebjkpmiehcaa.X
end
section
namespace Go.Proofs.Ytlkebjkpmiehcaa.Ms
open Go.RowKit Go.Proofs.YtlkebjkpmiehcaaW.PrintWords Go.Proofs.YtlkebjkpmiehcaaW.PrintLast Go.Proofs.YtlkebjkpmiehcaaW.PrintMore Go.Proofs.Ytlkebjkpmiehcaa.X
set_option linter.unusedVariables false
theorem rcell {W W' : World} {r : Nat} {s : ByteArray} {p : Int} {q : Option Addr} {last : Bool} (h : W.heap[r]? = some (.cells #[.string s,.int .i64 p,.pointer q,.bool last] 92 (0,0))) (b : Below W.heap.size W W') :
  W'.cell? ⟨r,0,none⟩ = some (.string s) ∧ W'.cell? ⟨r,1,none⟩ = some (.int .i64 p) ∧ W'.cell? ⟨r,2,none⟩ = some (.pointer q) :=
 have h2 := (b.block r (blk_lt h)).trans h
 ⟨(blk_cell h2 0).trans rfl,(blk_cell h2 1).trans rfl,(blk_cell h2 2).trans rfl⟩
theorem goesV_ {ops : Array Oper} {Q : Exit → Act → World → Prop} {oi : Oper} {N : Option Tmp} {a : Act} {w : World} {K : Act → World → Prop} {f : FuncId} {x : Operand} {xs : Array Operand} {ts : Array TypeId} (he : ∀ args w,(callFunc f args).run Try.prog w = .ok (.enter f args) w) (args : Array Value)
  (hw : Region.wanted oi (yielded ops a.tmps) = true) (hN : oi.dst = N) (hop : oi.op = .call { callee := .value x,args := xs,argTypes := ts }) (hx : a.eval x = .func (.func f) #[] #[]) (hargs : xs.map a.eval = args)
  (h : Calls Try.prog f args w fun e w' => ∃ v,e = .returned v ∧ K (a.put N v) w') : if Region.wanted oi (yielded ops a.tmps) = true then Oper.wp Try.prog oi a w K Q else K (a.put N undef) w := by
 refine call_ f args hw hN ?_ h
 unfold execOp
 simp [hop,resolve,Deferred.ofValue,invoke,hx,hargs,he]
theorem Rs.step {W W' : World} {r f : Nat} {s : ByteArray} {p code : Int} {tw last : Bool} (h : Rs W r f s p code tw last) (b : Below W.heap.size W W') : Rs W' r f s p code tw last := h.below b
def sel {α : Type} (c : Int) (a b : α) : α := if c = 0 then a else b
theorem sel_pos {α : Type} {c : Int} {a b : α} (h : c = 0) : sel c a b = a := if_pos h
theorem sel_neg {α : Type} {c : Int} {a b : α} (h : ¬ c = 0) : sel c a b = b := if_neg h
theorem sz3' : (Try.prog.info? 3).map (·.size) = some 1 := by kernel_rfl
set_option maxRecDepth 100000 in
set_option maxHeartbeats 8000000 in
theorem done_calls (lo r f : Nat) (s : ByteArray) (p code : Int) (tw last : Bool) (w : World) (hl : lo ≤ f) (h : Rs w r f s p code tw last) :
  Calls Try.prog 77 #[.pointer (some ⟨r,0,none⟩)] w fun ex w' => ex = .returned (.tuple #[]) ∧ Rs w' r f s p (needed code (p == (s.size : Int))) tw last ∧ Kf lo r f w w' := by
 have H := Aq.mk h
 have HL := Aq.mk hl
 clear h hl
 have HLW := Aq.mk (show lo ≤ w.heap.size from Nat.le_of_lt (Nat.lt_of_le_of_lt HL.out (blk_lt H.out.ft)))
 go_enter Try.func77,Try.ntmps77
 try go_wp2
 refine start_ (n := 12) (S := fun w' => Below w.heap.size w w') (ds := [11]) #[false,false,false,false,false,false,false,false,false,false,false,false] (by kernel_rfl) rfl rfl (Below.refl w.heap.size w).drew (fun hHeld => ?_)
 have HS := Aq.mk (Below.refl w.heap.size w).drew
 generalize w.drew = w7 at HS hHeld ⊢
 refine pure_ (i := 0) (N := (some 2)) (v := ?_) (a' := ?_) #[true,false,false,false,false,false,false,false,false,false,false,false] rfl rfl (by kernel_rfl) (fun _ _ _ h => h) (Or.inl ⟨by rfl,?_⟩) ?_ ?_
 rotate_left
 ·intro w'
  go_simp
  with_reducible rfl
 rotate_left
 ·simp only [Act.put,LS_]
  rfl
 refine pure_ (i := 1) (N := (some 3)) (v := ?_) (a' := ?_) #[true,true,false,false,false,false,false,false,false,false,false,false] rfl rfl (by kernel_rfl) (fun _ _ _ h => h) (Or.inl ⟨by rfl,?_⟩) ?_ ?_
 rotate_left
 ·intro w'
  go_simp
  with_reducible rfl
 rotate_left
 ·simp only [Act.put,LS_]
  rfl
 refine pure_ (i := 2) (N := (some 4)) (v := ?_) (a' := ?_) #[true,true,true,false,false,false,false,false,false,false,false,false] rfl rfl (by kernel_rfl) (fun _ _ _ h => h) (Or.inl ⟨by rfl,?_⟩) ?_ ?_
 rotate_left
 ·intro w'
  go_simp
  with_reducible rfl
 rotate_left
 ·simp only [Act.put,LS_]
  rfl
 refine pure_ (i := 3) (N := (some 5)) (v := ?_) (a' := ?_) #[true,true,true,true,false,false,false,false,false,false,false,false] rfl rfl (by kernel_rfl) (fun _ _ _ h => h) (Or.inl ⟨by rfl,?_⟩) ?_ ?_
 rotate_left
 ·intro w'
  go_simp
  with_reducible rfl
 rotate_left
 ·simp only [Act.put,LS_]
  rfl
 refine take_ (i := 4) (N := (some 6)) (v := ?_) (a' := ?_) #[true,true,true,true,true,false,false,false,false,false,false,false] rfl rfl (by kernel_rfl) (fun _ _ _ h => h) (Or.inl ⟨by rfl,?_⟩) hHeld ?_ ?_
 rotate_left
 ·rintro w' hS
  have hc := rcell H.out.rd hS
  obtain ⟨hc1,hc2,hc3⟩ := hc
  go_simp
  with_reducible rfl
 rotate_left
 ·simp only [Act.put,LS_]
  rfl
 refine pure_ (i := 5) (N := (some 7)) (v := ?_) (a' := ?_) #[true,true,true,true,true,true,false,false,false,false,false,false] rfl rfl (by kernel_rfl) (fun _ _ _ h => h) (Or.inl ⟨by rfl,?_⟩) ?_ ?_
 rotate_left
 ·intro w'
  go_simp
  with_reducible rfl
 rotate_left
 ·simp only [Act.put,LS_]
  rfl
 refine pure_ (i := 6) (N := (some 8)) (v := ?_) (a' := ?_) #[true,true,true,true,true,true,true,false,false,false,false,false] rfl rfl (by kernel_rfl) (fun _ _ _ h => h) (Or.inl ⟨by rfl,?_⟩) ?_ ?_
 rotate_left
 ·intro w'
  go_simp
  with_reducible rfl
 rotate_left
 ·simp only [Act.put,LS_]
  rfl
 refine pure_ (i := 7) (N := (some 9)) (v := ?_) (a' := ?_) #[true,true,true,true,true,true,true,true,false,false,false,false] rfl rfl (by kernel_rfl) (fun _ _ _ h => h) (Or.inl ⟨by rfl,?_⟩) ?_ ?_
 rotate_left
 ·intro w'
  go_simp
  with_reducible rfl
 rotate_left
 ·simp only [Act.put,LS_]
  rfl
 refine take_ (i := 8) (N := (some 10)) (v := ?_) (a' := ?_) #[true,true,true,true,true,true,true,true,true,false,false,false] rfl rfl (by kernel_rfl) (fun _ _ _ h => h) (Or.inl ⟨by rfl,?_⟩) hHeld ?_ ?_
 rotate_left
 ·rintro w' hS
  have hc := rcell H.out.rd hS
  obtain ⟨hc1,hc2,hc3⟩ := hc
  go_simp
  with_reducible rfl
 rotate_left
 ·simp only [Act.put,LS_]
  rfl
 refine pure_ (i := 9) (N := (some 11)) (v := ?_) (a' := ?_) #[true,true,true,true,true,true,true,true,true,true,false,false] rfl rfl (by kernel_rfl) (fun _ _ _ h => h) (Or.inl ⟨by rfl,?_⟩) ?_ ?_
 rotate_left
 ·intro w'
  go_simp
  with_reducible rfl
 rotate_left
 ·simp only [Act.put,LS_]
  rfl
 refine pure_ (i := 10) (N := (some 12)) (v := ?_) (a' := ?_) #[true,true,true,true,true,true,true,true,true,true,true,false] rfl rfl (by kernel_rfl) (fun _ _ _ h => h) (Or.inl ⟨by rfl,?_⟩) ?_ ?_
 rotate_left
 ·intro w'
  go_simp
  with_reducible rfl
 rotate_left
 ·simp only [Act.put,LS_]
  rfl
 refine last_ (i := 11) (N := (some 13)) #[true,true,true,true,true,true,true,true,true,true,true,true] rfl rfl (by kernel_rfl) (by decide) (fun K hK => ?_)
 refine goes_ (f := 72) Try.func72 (by kernel_rfl) rfl #[.pointer (some ⟨r,0,none⟩),.bool (p == (s.size : Int))] (by rfl) rfl rfl (by (try simp only [List.map_toArray,List.map_cons,List.map_nil]); first | done | rfl) ?_
 refine (rneed_calls lo r f s p code tw last (p == (s.size : Int)) _ HL.out (H.out.below HS.out)).mono ?_
 rintro e w8 ⟨rfl,i8,k8⟩
 refine ⟨_,rfl,?_⟩
 have H8 := Aq.mk i8
 have K8 := Aq.mk ((Kf.of_below (r := r) (f := f) HLW.out HS.out).trans k8)
 clear i8 k8
 refine hK.out _ _ ?_
 clear hK K
 refine norm_ (a' := ?_) ?_ ?_
 rotate_left
 ·show Act.put _ (some 13) _ = _
  simp only [Act.put,LS_]
  rfl
 refine done_ (by kernel_rfl) ?_
 go_wp2
 first | go_end0 | ((try simp only [Exit.inBlock,Exit.then]); refine bodyPost_ret (results_none rfl _ _ _) rfl ?_)
 exact ⟨rfl,H8.out,K8.out⟩
set_option maxRecDepth 100000 in
set_option maxHeartbeats 8000000 in
theorem number_calls (lo r f : Nat) (s : ByteArray) (p code : Int) (tw last : Bool) (w : World) (hl : lo ≤ f) (hl2 : lo ≤ r) (h : Rs w r f s p code tw last) (k : Nat) (x q er : Int) (he : ∀ args w,(callFunc k args).run Try.prog w = .ok (.enter k args) w) (hg : ∀ w,Calls Try.prog k #[.string s,.int .i64 p] w fun e w' => e = .returned (.tuple #[.int .i64 x,.int .i64 q,.int .i64 er]) ∧ Drawn0 w w') :
  Calls Try.prog 103 #[.pointer (some ⟨r,0,none⟩),.func (.func k) #[] #[]] w fun ex w' => ex = .returned (.int .i64 (sel (needed code (er == 0)) x 0)) ∧ Rs w' r f s (sel (needed code (er == 0)) q p) (needed code (er == 0)) tw last ∧ Kf lo r f w w' := by
 have H := Aq.mk h
 have HL := Aq.mk hl
 clear h hl
 have HLW := Aq.mk (show lo ≤ w.heap.size from Nat.le_of_lt (Nat.lt_of_le_of_lt HL.out (blk_lt H.out.ft)))
 have HL2 := Aq.mk hl2
 have HE := Aq.mk he
 have HG := Aq.mk hg
 clear he hg
 obtain ⟨ok,hok⟩ : ∃ ok,(er == 0) = ok := ⟨_,rfl⟩
 rw [hok]
 have HOK := Aq.mk hok
 clear hok
 clear hl2
 go_enter Try.func103,Try.ntmps103
 try go_wp2
 refine start_ (n := 17) (S := fun w' => Below w.heap.size w w') (ds := []) T20 (by kernel_rfl) rfl rfl (Below.refl w.heap.size w).drew (fun hHeld => ?_)
 have HS := Aq.mk (Below.refl w.heap.size w).drew
 generalize w.drew = w7 at HS hHeld ⊢
 refine pure_ (i := 0) (N := (some 9)) (v := ?_) (a' := ?_) T26 rfl rfl (by kernel_rfl) (fun _ _ _ h => h) (Or.inl ⟨by rfl,?_⟩) ?_ ?_
 rotate_left
 ·intro w'
  go_simp
  with_reducible rfl
 rotate_left
 ·simp only [Act.put,LS_]
  rfl
 refine pure_ (i := 1) (N := (some 10)) (v := ?_) (a' := ?_) T212 rfl rfl (by kernel_rfl) (fun _ _ _ h => h) (Or.inl ⟨by rfl,?_⟩) ?_ ?_
 rotate_left
 ·intro w'
  go_simp
  with_reducible rfl
 rotate_left
 ·simp only [Act.put,LS_]
  rfl
 refine pure_ (i := 2) (N := (some 11)) (v := ?_) (a' := ?_) T222 rfl rfl (by kernel_rfl) (fun _ _ _ h => h) (Or.inl ⟨by rfl,?_⟩) ?_ ?_
 rotate_left
 ·intro w'
  go_simp
  with_reducible rfl
 rotate_left
 ·simp only [Act.put,LS_]
  rfl
 refine pure_ (i := 3) (N := (some 12)) (v := ?_) (a' := ?_) T227 rfl rfl (by kernel_rfl) (fun _ _ _ h => h) (Or.inl ⟨by rfl,?_⟩) ?_ ?_
 rotate_left
 ·intro w'
  go_simp
  with_reducible rfl
 rotate_left
 ·simp only [Act.put,LS_]
  rfl
 refine take_ (i := 4) (N := (some 13)) (v := ?_) (a' := ?_) T232 rfl rfl (by kernel_rfl) (fun _ _ _ h => h) (Or.inl ⟨by rfl,?_⟩) hHeld ?_ ?_
 rotate_left
 ·rintro w' hS
  have hc := rcell H.out.rd hS
  obtain ⟨hc1,hc2,hc3⟩ := hc
  go_simp
  with_reducible rfl
 rotate_left
 ·simp only [Act.put,LS_]
  rfl
 refine pure_ (i := 5) (N := (some 14)) (v := ?_) (a' := ?_) T237 rfl rfl (by kernel_rfl) (fun _ _ _ h => h) (Or.inl ⟨by rfl,?_⟩) ?_ ?_
 rotate_left
 ·intro w'
  go_simp
  with_reducible rfl
 rotate_left
 ·simp only [Act.put,LS_]
  rfl
 refine pure_ (i := 6) (N := (some 15)) (v := ?_) (a' := ?_) T242 rfl rfl (by kernel_rfl) (fun _ _ _ h => h) (Or.inl ⟨by rfl,?_⟩) ?_ ?_
 rotate_left
 ·intro w'
  go_simp
  with_reducible rfl
 rotate_left
 ·simp only [Act.put,LS_]
  rfl
 refine pure_ (i := 7) (N := (some 16)) (v := ?_) (a' := ?_) T248 rfl rfl (by kernel_rfl) (fun _ _ _ h => h) (Or.inl ⟨by rfl,?_⟩) ?_ ?_
 rotate_left
 ·intro w'
  go_simp
  with_reducible rfl
 rotate_left
 ·simp only [Act.put,LS_]
  rfl
 refine take_ (i := 8) (N := (some 17)) (v := ?_) (a' := ?_) T254 rfl rfl (by kernel_rfl) (fun _ _ _ h => h) (Or.inl ⟨by rfl,?_⟩) hHeld ?_ ?_
 rotate_left
 ·rintro w' hS
  have hc := rcell H.out.rd hS
  obtain ⟨hc1,hc2,hc3⟩ := hc
  go_simp
  with_reducible rfl
 rotate_left
 ·simp only [Act.put,LS_]
  rfl
 refine one_ (i := 9) (N := (some 18)) T260 rfl rfl (by kernel_rfl) (by decide) (fun K hK => ?_)
 refine goesV_ (HE.out) #[.string s,.int .i64 p] (by rfl) rfl rfl rfl (by (try simp only [List.map_toArray,List.map_cons,List.map_nil]); first | done | rfl) ?_
 refine (HG.out _).mono ?_
 rintro e w8 ⟨rfl,d8⟩
 refine ⟨_,rfl,?_⟩
 have n_ := Aq.mk (below_step HS.out d8.below)
 clear HS
 have HS := n_
 clear n_ d8
 refine hK.out _ _ HS.out (fun hHeld => ?_)
 clear hK K
 refine norm_ (a' := ?_) ?_ ?_
 rotate_left
 ·show Act.put _ (some 18) _ = _
  simp only [Act.put,LS_]
  rfl
 refine pure_ (i := 10) (N := (some 8)) (v := ?_) (a' := ?_) T265 rfl rfl (by kernel_rfl) (fun _ _ _ h => h) (Or.inl ⟨by rfl,?_⟩) ?_ ?_
 rotate_left
 ·intro w'
  go_simp
  with_reducible rfl
 rotate_left
 ·simp only [Act.put,LS_]
  rfl
 refine pure_ (i := 11) (N := (some 19)) (v := ?_) (a' := ?_) T270 rfl rfl (by kernel_rfl) (fun _ _ _ h => h) (Or.inl ⟨by rfl,?_⟩) ?_ ?_
 rotate_left
 ·intro w'
  go_simp
  with_reducible rfl
 rotate_left
 ·simp only [Act.put,LS_]
  rfl
 refine pure_ (i := 12) (N := (some 20)) (v := ?_) (a' := ?_) T274 rfl rfl (by kernel_rfl) (fun _ _ _ h => h) (Or.inl ⟨by rfl,?_⟩) ?_ ?_
 rotate_left
 ·intro w'
  go_simp
  with_reducible rfl
 rotate_left
 ·simp only [Act.put,LS_]
  rfl
 refine pure_ (i := 13) (N := (some 21)) (v := ?_) (a' := ?_) T278 rfl rfl (by kernel_rfl) (fun _ _ _ h => h) (Or.inl ⟨by rfl,?_⟩) ?_ ?_
 rotate_left
 ·intro w'
  go_simp
  with_reducible rfl
 rotate_left
 ·simp only [Act.put,LS_]
  rfl
 refine pure_ (i := 14) (N := (some 5)) (v := ?_) (a' := ?_) T281 rfl rfl (by kernel_rfl) (fun _ _ _ h => h) (Or.inl ⟨by rfl,?_⟩) ?_ ?_
 rotate_left
 ·intro w'
  go_simp
  with_reducible rfl
 rotate_left
 ·simp only [Act.put,LS_]
  rfl
 refine pure_ (i := 15) (N := (some 6)) (v := ?_) (a' := ?_) T283 rfl rfl (by kernel_rfl) (fun _ _ _ h => h) (Or.inl ⟨by rfl,?_⟩) ?_ ?_
 rotate_left
 ·intro w'
  go_simp
  with_reducible rfl
 rotate_left
 ·simp only [Act.put,LS_]
  rfl
 refine pure_ (i := 16) (N := (some 7)) (v := ?_) (a' := ?_) T284 rfl rfl (by kernel_rfl) (fun _ _ _ h => h) (Or.inl ⟨by rfl,?_⟩) ?_ ?_
 rotate_left
 ·intro w'
  go_simp
  with_reducible rfl
 rotate_left
 ·simp only [Act.put,LS_]
  rfl
 refine done_ (by kernel_rfl) ?_
 have H8 := Aq.mk (H.out.below HS.out)
 by_cases c : needed code ok = 0
 ·have c0 : (needed code ok == 0) = true := beq_iff_eq.mpr c
  have HCc := Aq.mk c
  clear c
  go_wp2_with (first
   | (go_at_call 72; (with_reducible refine (rneed_calls lo r f s p code tw last (er == 0) _ HL.out H8.out).mono ?_); rintro e9 w9 ⟨rfl,i9,k9⟩; rw [HOK.out] at i9; have H9 := Aq.mk i9; have K9 := Aq.mk ((Kf.of_below (r := r) (f := f) HLW.out HS.out).trans k9); clear i9 k9)
   | (go_at_call 51; (with_reducible refine (ok_calls lo r f s p _ tw last _ H9.out).mono ?_); rintro e10 w10 ⟨rfl,rfl⟩)
   | ((with_reducible refine gate_store (p := 32) rfl ?_); refine st (v := .int .i64 q) rfl rfl rfl H9.out.rd sz3' rfl rfl rfl (by simp) ?_; intro w3 h3 b3 k3; have H3 := Aq.mk (Rs.mk h3 ((k3.2 f (blk_lt H9.out.ft) (Ne.symm H9.out.ne) (by simp)).trans H9.out.ft)); have K3 := Aq.mk (K9.out.trans (Kf.of_keep (f := f) (.inl rfl) (b3 _ HL2.out) k3)); clear h3 b3 k3))
  go_ret
  exact ⟨by rw [sel_pos HCc.out]; rfl,by rw [sel_pos HCc.out]; exact H3.out,K3.out⟩
 ·have c0 : (needed code ok == 0) = false := beq_eq_false_iff_ne.mpr c
  have HCc := Aq.mk c
  clear c
  go_wp2_with (first
   | (go_at_call 72; (with_reducible refine (rneed_calls lo r f s p code tw last (er == 0) _ HL.out H8.out).mono ?_); rintro e9 w9 ⟨rfl,i9,k9⟩; rw [HOK.out] at i9; have H9 := Aq.mk i9; have K9 := Aq.mk ((Kf.of_below (r := r) (f := f) HLW.out HS.out).trans k9); clear i9 k9)
   | (go_at_call 51; (with_reducible refine (ok_calls lo r f s p _ tw last _ H9.out).mono ?_); rintro e10 w10 ⟨rfl,rfl⟩))
  go_ret
  exact ⟨by rw [sel_neg HCc.out]; rfl,by rw [sel_neg HCc.out]; exact H9.out,K9.out⟩
theorem enters105 : ∀ args w,(callFunc 105 args).run Try.prog w = .ok (.enter 105 args) w := fun args w => enters_ Try.func105 (by kernel_rfl) rfl args w
set_option maxRecDepth 100000 in
set_option maxHeartbeats 8000000 in
theorem u8_calls (lo r f : Nat) (s : ByteArray) (p code : Int) (tw last : Bool) (w : World) (hl : lo ≤ f) (hl2 : lo ≤ r) (h : Rs w r f s p code tw last) (k : Nat) (x q er : Int) (hf : wire_U8.f k s p = some (x,q,er)) :
  Calls Try.prog 75 #[.pointer (some ⟨r,0,none⟩)] w fun ex w' => ex = .returned (.int .i64 (sel (needed code (er == 0)) x 0)) ∧ Rs w' r f s (sel (needed code (er == 0)) q p) (needed code (er == 0)) tw last ∧ Kf lo r f w w' := by
 have H := Aq.mk h
 have HL := Aq.mk hl
 have HL2 := Aq.mk hl2
 have HF := Aq.mk hf
 clear h hl hl2 hf
 go_enter Try.func75,Try.ntmps75
 go_wp2_with (go_at_call 103; (refine (number_calls lo r f s p code tw last _ HL.out HL2.out H.out 105 x q er enters105 (fun w => wire_U8.calls k s p x q er w HF.out)).mono ?_); rintro e1 w1 ⟨rfl,i1,k1⟩; have H1 := Aq.mk i1; have K1 := Aq.mk k1; clear i1 k1)
 go_ret
 exact ⟨rfl,H1.out,K1.out⟩
theorem enters33 : ∀ args w,(callFunc 33 args).run Try.prog w = .ok (.enter 33 args) w := fun args w => enters_ Try.func33 (by kernel_rfl) rfl args w
set_option maxRecDepth 100000 in
set_option maxHeartbeats 8000000 in
theorem u16_calls (lo r f : Nat) (s : ByteArray) (p code : Int) (tw last : Bool) (w : World) (hl : lo ≤ f) (hl2 : lo ≤ r) (h : Rs w r f s p code tw last) (k : Nat) (x q er : Int) (hf : wire_U16.f k s p = some (x,q,er)) :
  Calls Try.prog 70 #[.pointer (some ⟨r,0,none⟩)] w fun ex w' => ex = .returned (.int .i64 (sel (needed code (er == 0)) x 0)) ∧ Rs w' r f s (sel (needed code (er == 0)) q p) (needed code (er == 0)) tw last ∧ Kf lo r f w w' := by
 have H := Aq.mk h
 have HL := Aq.mk hl
 have HL2 := Aq.mk hl2
 have HF := Aq.mk hf
 clear h hl hl2 hf
 go_enter Try.func70,Try.ntmps70
 go_wp2_with (go_at_call 103; (refine (number_calls lo r f s p code tw last _ HL.out HL2.out H.out 33 x q er enters33 (fun w => wire_U16.calls k s p x q er w HF.out)).mono ?_); rintro e1 w1 ⟨rfl,i1,k1⟩; have H1 := Aq.mk i1; have K1 := Aq.mk k1; clear i1 k1)
 go_ret
 exact ⟨rfl,H1.out,K1.out⟩
theorem enters116 : ∀ args w,(callFunc 116 args).run Try.prog w = .ok (.enter 116 args) w := fun args w => enters_ Try.func116 (by kernel_rfl) rfl args w
set_option maxRecDepth 100000 in
set_option maxHeartbeats 8000000 in
theorem u32_calls (lo r f : Nat) (s : ByteArray) (p code : Int) (tw last : Bool) (w : World) (hl : lo ≤ f) (hl2 : lo ≤ r) (h : Rs w r f s p code tw last) (k : Nat) (x q er : Int) (hf : wire_U32.f k s p = some (x,q,er)) :
  Calls Try.prog 104 #[.pointer (some ⟨r,0,none⟩)] w fun ex w' => ex = .returned (.int .i64 (sel (needed code (er == 0)) x 0)) ∧ Rs w' r f s (sel (needed code (er == 0)) q p) (needed code (er == 0)) tw last ∧ Kf lo r f w w' := by
 have H := Aq.mk h
 have HL := Aq.mk hl
 have HL2 := Aq.mk hl2
 have HF := Aq.mk hf
 clear h hl hl2 hf
 go_enter Try.func104,Try.ntmps104
 go_wp2_with (go_at_call 103; (refine (number_calls lo r f s p code tw last _ HL.out HL2.out H.out 116 x q er enters116 (fun w => wire_U32.calls k s p x q er w HF.out)).mono ?_); rintro e1 w1 ⟨rfl,i1,k1⟩; have H1 := Aq.mk i1; have K1 := Aq.mk k1; clear i1 k1)
 go_ret
 exact ⟨rfl,H1.out,K1.out⟩
set_option maxRecDepth 100000 in
set_option maxHeartbeats 8000000 in
theorem rvec_calls (lo r f : Nat) (s : ByteArray) (p code : Int) (tw last : Bool) (size least most : Int) (w : World) (hl : lo ≤ f) (hl2 : lo ≤ r) (h : Rs w r f s p code tw last) (k : Nat) (x : ByteArray) (q er : Int) (hg : wire_Vec.f k s p size = some (x,q,er)) (ok : Bool) (hok : vecOk x er least most = ok) :
  Calls Try.prog 71 #[.pointer (some ⟨r,0,none⟩),.int .i64 size,.int .i64 least,.int .i64 most] w fun ex w' => ex = .returned (.string (sel (needed code ok) x ⟨#[]⟩)) ∧ Rs w' r f s (sel (needed code ok) q p) (needed code ok) tw last ∧ Kf lo r f w w' := by
 have H := Aq.mk h
 have HL := Aq.mk hl
 clear h hl
 have HLW := Aq.mk (show lo ≤ w.heap.size from Nat.le_of_lt (Nat.lt_of_le_of_lt HL.out (blk_lt H.out.ft)))
 have HL2 := Aq.mk hl2
 have HG := Aq.mk hg
 unfold vecOk at hok
 have HOK := Aq.mk hok
 clear hl2 hg hok
 go_enter Try.func71,Try.ntmps71
 try go_wp2
 refine start_ (n := 17) (S := fun w' => Below w.heap.size w w') (ds := []) T20 (by kernel_rfl) rfl rfl (Below.refl w.heap.size w).drew (fun hHeld => ?_)
 have HS := Aq.mk (Below.refl w.heap.size w).drew
 generalize w.drew = w7 at HS hHeld ⊢
 refine pure_ (i := 0) (N := (some 13)) (v := ?_) (a' := ?_) T26 rfl rfl (by kernel_rfl) (fun _ _ _ h => h) (Or.inl ⟨by rfl,?_⟩) ?_ ?_
 rotate_left
 ·intro w'
  go_simp
  with_reducible rfl
 rotate_left
 ·simp only [Act.put,LS_]
  rfl
 refine pure_ (i := 1) (N := (some 14)) (v := ?_) (a' := ?_) T212 rfl rfl (by kernel_rfl) (fun _ _ _ h => h) (Or.inl ⟨by rfl,?_⟩) ?_ ?_
 rotate_left
 ·intro w'
  go_simp
  with_reducible rfl
 rotate_left
 ·simp only [Act.put,LS_]
  rfl
 refine pure_ (i := 2) (N := (some 15)) (v := ?_) (a' := ?_) T222 rfl rfl (by kernel_rfl) (fun _ _ _ h => h) (Or.inl ⟨by rfl,?_⟩) ?_ ?_
 rotate_left
 ·intro w'
  go_simp
  with_reducible rfl
 rotate_left
 ·simp only [Act.put,LS_]
  rfl
 refine take_ (i := 3) (N := (some 16)) (v := ?_) (a' := ?_) T227 rfl rfl (by kernel_rfl) (fun _ _ _ h => h) (Or.inl ⟨by rfl,?_⟩) hHeld ?_ ?_
 rotate_left
 ·rintro w' hS
  have hc := rcell H.out.rd hS
  obtain ⟨hc1,hc2,hc3⟩ := hc
  go_simp
  with_reducible rfl
 rotate_left
 ·simp only [Act.put,LS_]
  rfl
 refine pure_ (i := 4) (N := (some 17)) (v := ?_) (a' := ?_) T232 rfl rfl (by kernel_rfl) (fun _ _ _ h => h) (Or.inl ⟨by rfl,?_⟩) ?_ ?_
 rotate_left
 ·intro w'
  go_simp
  with_reducible rfl
 rotate_left
 ·simp only [Act.put,LS_]
  rfl
 refine pure_ (i := 5) (N := (some 18)) (v := ?_) (a' := ?_) T237 rfl rfl (by kernel_rfl) (fun _ _ _ h => h) (Or.inl ⟨by rfl,?_⟩) ?_ ?_
 rotate_left
 ·intro w'
  go_simp
  with_reducible rfl
 rotate_left
 ·simp only [Act.put,LS_]
  rfl
 refine pure_ (i := 6) (N := (some 19)) (v := ?_) (a' := ?_) T242 rfl rfl (by kernel_rfl) (fun _ _ _ h => h) (Or.inl ⟨by rfl,?_⟩) ?_ ?_
 rotate_left
 ·intro w'
  go_simp
  with_reducible rfl
 rotate_left
 ·simp only [Act.put,LS_]
  rfl
 refine take_ (i := 7) (N := (some 20)) (v := ?_) (a' := ?_) T248 rfl rfl (by kernel_rfl) (fun _ _ _ h => h) (Or.inl ⟨by rfl,?_⟩) hHeld ?_ ?_
 rotate_left
 ·rintro w' hS
  have hc := rcell H.out.rd hS
  obtain ⟨hc1,hc2,hc3⟩ := hc
  go_simp
  with_reducible rfl
 rotate_left
 ·simp only [Act.put,LS_]
  rfl
 refine pure_ (i := 8) (N := (some 21)) (v := ?_) (a' := ?_) T254 rfl rfl (by kernel_rfl) (fun _ _ _ h => h) (Or.inl ⟨by rfl,?_⟩) ?_ ?_
 rotate_left
 ·intro w'
  go_simp
  with_reducible rfl
 rotate_left
 ·simp only [Act.put,LS_]
  rfl
 refine one_ (i := 9) (N := (some 22)) T260 rfl rfl (by kernel_rfl) (by decide) (fun K hK => ?_)
 refine goes_ Try.func34 (by kernel_rfl) rfl #[.string s,.int .i64 p,.int .i64 size] (by rfl) rfl rfl (by (try simp only [List.map_toArray,List.map_cons,List.map_nil]); first | done | rfl) ?_
 refine (wire_Vec.calls k s p size x q er _ HG.out).mono ?_
 rintro e w8 ⟨rfl,d8⟩
 refine ⟨_,rfl,?_⟩
 have n_ := Aq.mk (below_step HS.out d8.below)
 clear HS
 have HS := n_
 clear n_ d8
 refine hK.out _ _ HS.out (fun hHeld => ?_)
 clear hK K
 refine norm_ (a' := ?_) ?_ ?_
 rotate_left
 ·show Act.put _ (some 22) _ = _
  simp only [Act.put,LS_]
  rfl
 refine pure_ (i := 10) (N := (some 12)) (v := ?_) (a' := ?_) T265 rfl rfl (by kernel_rfl) (fun _ _ _ h => h) (Or.inl ⟨by rfl,?_⟩) ?_ ?_
 rotate_left
 ·intro w'
  go_simp
  with_reducible rfl
 rotate_left
 ·simp only [Act.put,LS_]
  rfl
 refine pure_ (i := 11) (N := (some 23)) (v := ?_) (a' := ?_) T270 rfl rfl (by kernel_rfl) (fun _ _ _ h => h) (Or.inl ⟨by rfl,?_⟩) ?_ ?_
 rotate_left
 ·intro w'
  go_simp
  with_reducible rfl
 rotate_left
 ·simp only [Act.put,LS_]
  rfl
 refine pure_ (i := 12) (N := (some 24)) (v := ?_) (a' := ?_) T274 rfl rfl (by kernel_rfl) (fun _ _ _ h => h) (Or.inl ⟨by rfl,?_⟩) ?_ ?_
 rotate_left
 ·intro w'
  go_simp
  with_reducible rfl
 rotate_left
 ·simp only [Act.put,LS_]
  rfl
 refine pure_ (i := 13) (N := (some 25)) (v := ?_) (a' := ?_) T278 rfl rfl (by kernel_rfl) (fun _ _ _ h => h) (Or.inl ⟨by rfl,?_⟩) ?_ ?_
 rotate_left
 ·intro w'
  go_simp
  with_reducible rfl
 rotate_left
 ·simp only [Act.put,LS_]
  rfl
 refine pure_ (i := 14) (N := (some 9)) (v := ?_) (a' := ?_) T281 rfl rfl (by kernel_rfl) (fun _ _ _ h => h) (Or.inl ⟨by rfl,?_⟩) ?_ ?_
 rotate_left
 ·intro w'
  go_simp
  with_reducible rfl
 rotate_left
 ·simp only [Act.put,LS_]
  rfl
 refine pure_ (i := 15) (N := (some 10)) (v := ?_) (a' := ?_) T283 rfl rfl (by kernel_rfl) (fun _ _ _ h => h) (Or.inl ⟨by rfl,?_⟩) ?_ ?_
 rotate_left
 ·intro w'
  go_simp
  with_reducible rfl
 rotate_left
 ·simp only [Act.put,LS_]
  rfl
 refine pure_ (i := 16) (N := (some 11)) (v := ?_) (a' := ?_) T284 rfl rfl (by kernel_rfl) (fun _ _ _ h => h) (Or.inl ⟨by rfl,?_⟩) ?_ ?_
 rotate_left
 ·intro w'
  go_simp
  with_reducible rfl
 rotate_left
 ·simp only [Act.put,LS_]
  rfl
 refine done_ (by kernel_rfl) ?_
 have H8 := Aq.mk (H.out.below HS.out)
 by_cases c1 : (er == 0) = true
 ·by_cases c2 : least ≤ x.size
  ·have c2' := decide_eq_true c2
   by_cases c3 : (x.size : Int) ≤ most
   ·have c3' := decide_eq_true c3
    obtain rfl : ok = true := by rw [← HOK.out,c1,c2',c3']; rfl
    clear c2 c3
    by_cases c : needed code true = 0
    ·have c0 : (needed code true == 0) = true := beq_iff_eq.mpr c
     have HCc := Aq.mk c
     clear c
     go_wp2_with (first
      | (go_at_call 72; (with_reducible refine (rneed_calls lo r f s p code tw last true _ HL.out H8.out).mono ?_); rintro e9 w9 ⟨rfl,i9,k9⟩; have H9 := Aq.mk i9; have K9 := Aq.mk ((Kf.of_below (r := r) (f := f) HLW.out HS.out).trans k9); clear i9 k9)
      | (go_at_call 51; (with_reducible refine (ok_calls lo r f s p _ tw last _ H9.out).mono ?_); rintro e10 w10 ⟨rfl,rfl⟩)
      | ((with_reducible refine gate_store (p := 48) rfl ?_); refine st (v := .int .i64 q) rfl rfl rfl H9.out.rd sz3' rfl rfl rfl (by simp) ?_; intro w3 h3 b3 k3; have H3 := Aq.mk (Rs.mk h3 ((k3.2 f (blk_lt H9.out.ft) (Ne.symm H9.out.ne) (by simp)).trans H9.out.ft)); have K3 := Aq.mk (K9.out.trans (Kf.of_keep (f := f) (.inl rfl) (b3 _ HL2.out) k3)); clear h3 b3 k3))
     go_ret
     exact ⟨by rw [sel_pos HCc.out]; rfl,by rw [sel_pos HCc.out]; exact H3.out,K3.out⟩
    ·have c0 : (needed code true == 0) = false := beq_eq_false_iff_ne.mpr c
     have HCc := Aq.mk c
     clear c
     go_wp2_with (first
      | (go_at_call 72; (with_reducible refine (rneed_calls lo r f s p code tw last true _ HL.out H8.out).mono ?_); rintro e9 w9 ⟨rfl,i9,k9⟩; have H9 := Aq.mk i9; have K9 := Aq.mk ((Kf.of_below (r := r) (f := f) HLW.out HS.out).trans k9); clear i9 k9)
      | (go_at_call 51; (with_reducible refine (ok_calls lo r f s p _ tw last _ H9.out).mono ?_); rintro e10 w10 ⟨rfl,rfl⟩))
     go_ret
     exact ⟨by rw [sel_neg HCc.out]; rfl,by rw [sel_neg HCc.out]; exact H9.out,K9.out⟩
   ·have c3' := decide_eq_false c3
    obtain rfl : ok = false := by rw [← HOK.out,c1,c2',c3']; rfl
    clear c2 c3
    by_cases c : needed code false = 0
    ·have c0 : (needed code false == 0) = true := beq_iff_eq.mpr c
     have HCc := Aq.mk c
     clear c
     go_wp2_with (first
      | (go_at_call 72; (with_reducible refine (rneed_calls lo r f s p code tw last false _ HL.out H8.out).mono ?_); rintro e9 w9 ⟨rfl,i9,k9⟩; have H9 := Aq.mk i9; have K9 := Aq.mk ((Kf.of_below (r := r) (f := f) HLW.out HS.out).trans k9); clear i9 k9)
      | (go_at_call 51; (with_reducible refine (ok_calls lo r f s p _ tw last _ H9.out).mono ?_); rintro e10 w10 ⟨rfl,rfl⟩)
      | ((with_reducible refine gate_store (p := 48) rfl ?_); refine st (v := .int .i64 q) rfl rfl rfl H9.out.rd sz3' rfl rfl rfl (by simp) ?_; intro w3 h3 b3 k3; have H3 := Aq.mk (Rs.mk h3 ((k3.2 f (blk_lt H9.out.ft) (Ne.symm H9.out.ne) (by simp)).trans H9.out.ft)); have K3 := Aq.mk (K9.out.trans (Kf.of_keep (f := f) (.inl rfl) (b3 _ HL2.out) k3)); clear h3 b3 k3))
     go_ret
     exact ⟨by rw [sel_pos HCc.out]; rfl,by rw [sel_pos HCc.out]; exact H3.out,K3.out⟩
    ·have c0 : (needed code false == 0) = false := beq_eq_false_iff_ne.mpr c
     have HCc := Aq.mk c
     clear c
     go_wp2_with (first
      | (go_at_call 72; (with_reducible refine (rneed_calls lo r f s p code tw last false _ HL.out H8.out).mono ?_); rintro e9 w9 ⟨rfl,i9,k9⟩; have H9 := Aq.mk i9; have K9 := Aq.mk ((Kf.of_below (r := r) (f := f) HLW.out HS.out).trans k9); clear i9 k9)
      | (go_at_call 51; (with_reducible refine (ok_calls lo r f s p _ tw last _ H9.out).mono ?_); rintro e10 w10 ⟨rfl,rfl⟩))
     go_ret
     exact ⟨by rw [sel_neg HCc.out]; rfl,by rw [sel_neg HCc.out]; exact H9.out,K9.out⟩
  ·have c2' := decide_eq_false c2
   obtain rfl : ok = false := by rw [← HOK.out,c1,c2']; rfl
   clear c2
   by_cases c : needed code false = 0
   ·have c0 : (needed code false == 0) = true := beq_iff_eq.mpr c
    have HCc := Aq.mk c
    clear c
    go_wp2_with (first
     | (go_at_call 72; (with_reducible refine (rneed_calls lo r f s p code tw last false _ HL.out H8.out).mono ?_); rintro e9 w9 ⟨rfl,i9,k9⟩; have H9 := Aq.mk i9; have K9 := Aq.mk ((Kf.of_below (r := r) (f := f) HLW.out HS.out).trans k9); clear i9 k9)
     | (go_at_call 51; (with_reducible refine (ok_calls lo r f s p _ tw last _ H9.out).mono ?_); rintro e10 w10 ⟨rfl,rfl⟩)
     | ((with_reducible refine gate_store (p := 48) rfl ?_); refine st (v := .int .i64 q) rfl rfl rfl H9.out.rd sz3' rfl rfl rfl (by simp) ?_; intro w3 h3 b3 k3; have H3 := Aq.mk (Rs.mk h3 ((k3.2 f (blk_lt H9.out.ft) (Ne.symm H9.out.ne) (by simp)).trans H9.out.ft)); have K3 := Aq.mk (K9.out.trans (Kf.of_keep (f := f) (.inl rfl) (b3 _ HL2.out) k3)); clear h3 b3 k3))
    go_ret
    exact ⟨by rw [sel_pos HCc.out]; rfl,by rw [sel_pos HCc.out]; exact H3.out,K3.out⟩
   ·have c0 : (needed code false == 0) = false := beq_eq_false_iff_ne.mpr c
    have HCc := Aq.mk c
    clear c
    go_wp2_with (first
     | (go_at_call 72; (with_reducible refine (rneed_calls lo r f s p code tw last false _ HL.out H8.out).mono ?_); rintro e9 w9 ⟨rfl,i9,k9⟩; have H9 := Aq.mk i9; have K9 := Aq.mk ((Kf.of_below (r := r) (f := f) HLW.out HS.out).trans k9); clear i9 k9)
     | (go_at_call 51; (with_reducible refine (ok_calls lo r f s p _ tw last _ H9.out).mono ?_); rintro e10 w10 ⟨rfl,rfl⟩))
    go_ret
    exact ⟨by rw [sel_neg HCc.out]; rfl,by rw [sel_neg HCc.out]; exact H9.out,K9.out⟩
 ·rw [Bool.not_eq_true] at c1
  obtain rfl : ok = false := by rw [← HOK.out,c1]; rfl
  by_cases c : needed code false = 0
  ·have c0 : (needed code false == 0) = true := beq_iff_eq.mpr c
   have HCc := Aq.mk c
   clear c
   go_wp2_with (first
    | (go_at_call 72; (with_reducible refine (rneed_calls lo r f s p code tw last false _ HL.out H8.out).mono ?_); rintro e9 w9 ⟨rfl,i9,k9⟩; have H9 := Aq.mk i9; have K9 := Aq.mk ((Kf.of_below (r := r) (f := f) HLW.out HS.out).trans k9); clear i9 k9)
    | (go_at_call 51; (with_reducible refine (ok_calls lo r f s p _ tw last _ H9.out).mono ?_); rintro e10 w10 ⟨rfl,rfl⟩)
    | ((with_reducible refine gate_store (p := 48) rfl ?_); refine st (v := .int .i64 q) rfl rfl rfl H9.out.rd sz3' rfl rfl rfl (by simp) ?_; intro w3 h3 b3 k3; have H3 := Aq.mk (Rs.mk h3 ((k3.2 f (blk_lt H9.out.ft) (Ne.symm H9.out.ne) (by simp)).trans H9.out.ft)); have K3 := Aq.mk (K9.out.trans (Kf.of_keep (f := f) (.inl rfl) (b3 _ HL2.out) k3)); clear h3 b3 k3))
   go_ret
   exact ⟨by rw [sel_pos HCc.out]; rfl,by rw [sel_pos HCc.out]; exact H3.out,K3.out⟩
  ·have c0 : (needed code false == 0) = false := beq_eq_false_iff_ne.mpr c
   have HCc := Aq.mk c
   clear c
   go_wp2_with (first
    | (go_at_call 72; (with_reducible refine (rneed_calls lo r f s p code tw last false _ HL.out H8.out).mono ?_); rintro e9 w9 ⟨rfl,i9,k9⟩; have H9 := Aq.mk i9; have K9 := Aq.mk ((Kf.of_below (r := r) (f := f) HLW.out HS.out).trans k9); clear i9 k9)
    | (go_at_call 51; (with_reducible refine (ok_calls lo r f s p _ tw last _ H9.out).mono ?_); rintro e10 w10 ⟨rfl,rfl⟩))
   go_ret
   exact ⟨by rw [sel_neg HCc.out]; rfl,by rw [sel_neg HCc.out]; exact H9.out,K9.out⟩
theorem Rs.cell2 {W : World} {r f : Nat} {s : ByteArray} {p code : Int} {tw last : Bool} (h : Rs W r f s p code tw last) : W.cell? ⟨r,2,none⟩ = some (.pointer (some ⟨f,0,none⟩)) := (blk_cell h.rd 2).trans rfl
theorem built92 (x : ByteArray) (q : Option Addr) : Try.prog.built 92 [(0,.string x),(2,.pointer q)] = some #[.string x,.int .i64 0,.pointer q,.bool false] := by kernel_rfl
set_option maxRecDepth 100000 in
set_option maxHeartbeats 8000000 in
theorem rwithin_calls (lo r f : Nat) (s : ByteArray) (p code : Int) (tw last : Bool) (size : Int) (w : World) (hl : lo ≤ f) (hl2 : lo ≤ r) (h : Rs w r f s p code tw last) (k : Nat) (x : ByteArray) (q er : Int) (hg : wire_Vec.f k s p size = some (x,q,er)) (ok : Bool) (hok : vecOk x er 0 16777216 = ok) :
  Calls Try.prog 66 #[.pointer (some ⟨r,0,none⟩),.int .i64 size] w fun ex w' => ∃ r2,ex = .returned (.pointer (some ⟨r2,0,none⟩)) ∧ w.heap.size ≤ r2 ∧ Rs w' r f s (sel (needed code ok) q p) (needed code ok) tw last ∧ Rs w' r2 f (sel (needed code ok) x ⟨#[]⟩) 0 (needed code ok) tw false ∧ Kf lo r f w w' := by
 have H := Aq.mk h
 have HL := Aq.mk hl
 have HLW := Aq.mk (show lo ≤ w.heap.size from Nat.le_of_lt (Nat.lt_of_le_of_lt HL.out (blk_lt H.out.ft)))
 have HL2 := Aq.mk hl2
 have HG := Aq.mk hg
 have HOK := Aq.mk hok
 clear h hl hl2 hg hok
 go_enter Try.func66,Try.ntmps66
 try go_wp2
 refine start_ (n := 10) (S := fun w' => w'.cell? ⟨r,2,none⟩ = some (.pointer (some ⟨f,0,none⟩))) (ds := []) #[false,false,false,false,false,false,false,false,false,false] (by kernel_rfl) rfl rfl (H.out.below (Below.refl w.heap.size w).drew).cell2 (fun hHeld => ?_)
 have HS := Aq.mk (Below.refl w.heap.size w).drew
 generalize w.drew = w7 at HS hHeld ⊢
 refine pure_ (i := 0) (N := (some 5)) (v := ?_) (a' := ?_) #[true,false,false,false,false,false,false,false,false,false] rfl rfl (by kernel_rfl) (fun _ _ _ h => h) (Or.inl ⟨by rfl,?_⟩) ?_ ?_
 rotate_left
 ·intro w'
  go_simp
  with_reducible rfl
 rotate_left
 ·simp only [Act.put,LS_]
  rfl
 refine pure_ (i := 1) (N := (some 6)) (v := ?_) (a' := ?_) #[true,true,false,false,false,false,false,false,false,false] rfl rfl (by kernel_rfl) (fun _ _ _ h => h) (Or.inl ⟨by rfl,?_⟩) ?_ ?_
 rotate_left
 ·intro w'
  go_simp
  with_reducible rfl
 rotate_left
 ·simp only [Act.put,LS_]
  rfl
 refine pure_ (i := 3) (N := (some 8)) (v := ?_) (a' := ?_) #[true,true,false,true,false,false,false,false,false,false] rfl rfl (by kernel_rfl) (fun _ _ _ h => h) (Or.inl ⟨by rfl,?_⟩) ?_ ?_
 rotate_left
 ·intro w'
  go_simp
  with_reducible rfl
 rotate_left
 ·simp only [Act.put,LS_]
  rfl
 refine pure_ (i := 4) (N := (some 9)) (v := ?_) (a' := ?_) #[true,true,false,true,true,false,false,false,false,false] rfl rfl (by kernel_rfl) (fun _ _ _ h => h) (Or.inl ⟨by rfl,?_⟩) ?_ ?_
 rotate_left
 ·intro w'
  go_simp
  with_reducible rfl
 rotate_left
 ·simp only [Act.put,LS_]
  rfl
 refine pure_ (i := 5) (N := (some 10)) (v := ?_) (a' := ?_) #[true,true,false,true,true,true,false,false,false,false] rfl rfl (by kernel_rfl) (fun _ _ _ h => h) (Or.inl ⟨by rfl,?_⟩) ?_ ?_
 rotate_left
 ·intro w'
  go_simp
  with_reducible rfl
 rotate_left
 ·simp only [Act.put,LS_]
  rfl
 refine take_ (i := 6) (N := (some 11)) (v := ?_) (a' := ?_) #[true,true,false,true,true,true,true,false,false,false] rfl rfl (by kernel_rfl) (fun _ _ _ h => h) (Or.inl ⟨by rfl,?_⟩) hHeld ?_ ?_
 rotate_left
 ·rintro w' hS
  skip
  go_simp
  with_reducible rfl
 rotate_left
 ·simp only [Act.put,LS_]
  rfl
 refine one_ (i := 2) (N := (some 7)) #[true,true,true,true,true,true,true,false,false,false] rfl rfl (by kernel_rfl) (by decide) (fun K hK => ?_)
 refine goes_ Try.func71 (by kernel_rfl) rfl #[.pointer (some ⟨r,0,none⟩),.int .i64 size,.int .i64 0,.int .i64 16777216] (by rfl) rfl rfl (by (try simp only [List.map_toArray,List.map_cons,List.map_nil]); first | done | rfl) ?_
 refine (rvec_calls lo r f s p code tw last size 0 16777216 _ HL.out HL2.out (H.out.below HS.out) k x q er HG.out ok HOK.out).mono ?_
 rintro e w8 ⟨rfl,i8,k8⟩
 refine ⟨_,rfl,?_⟩
 have H8 := Aq.mk i8
 have K8 := Aq.mk ((Kf.of_below (r := r) (f := f) HLW.out HS.out).trans k8)
 have HZ8 := Aq.mk (Nat.le_trans HS.out.size k8.below.size)
 clear i8 k8
 refine hK.out _ _ H8.out.cell2 (fun hHeld => ?_)
 clear hK K
 refine norm_ (a' := ?_) ?_ ?_
 rotate_left
 ·show Act.put _ (some 7) _ = _
  simp only [Act.put,LS_]
  rfl
 refine one_ (i := 7) (N := (some 12)) #[true,true,true,true,true,true,true,true,false,false] rfl rfl (by kernel_rfl) (by decide) (fun K hK => ?_)
 refine value_ (w1 := w8) (v := .agg #[.string (sel (needed code ok) x ⟨#[]⟩),.int .i64 0,.pointer (some ⟨f,0,none⟩),.bool false]) (by rfl) rfl ?_ ?_
 ·have hb := run_build (P := Try.prog) w8 92 #[(0,.string (sel (needed code ok) x ⟨#[]⟩)),(2,.pointer (some ⟨f,0,none⟩))] _ (built92 _ _)
  first | (go_simp; done) | (go_simp; rfl) | (simp [execOp,Act.eval,Sem.run_bind,hb]; done)
 refine hK.out _ _ H8.out.cell2 (fun hHeld => ?_)
 clear hK K
 refine norm_ (a' := ?_) ?_ ?_
 rotate_left
 ·show Act.put _ (some 12) _ = _
  simp only [Act.put,LS_]
  rfl
 refine one_ (i := 8) (N := (some 13)) #[true,true,true,true,true,true,true,true,true,false] rfl rfl (by kernel_rfl) (by decide) (fun K hK => ?_)
 refine value_ (w1 := w8.alloc (.cells #[.string (sel (needed code ok) x ⟨#[]⟩),.int .i64 0,.pointer (some ⟨f,0,none⟩),.bool false] 92)) (v := .pointer (some ⟨w8.heap.size,0,none⟩)) (by rfl) rfl rfl ?_
 have b9 := below_alloc (Below.refl w8.heap.size w8) (.cells #[.string (sel (needed code ok) x ⟨#[]⟩),.int .i64 0,.pointer (some ⟨f,0,none⟩),.bool false] 92)
 have H9 := Aq.mk (H8.out.below b9)
 have N9 := Aq.mk (blk_new w8 (.cells #[.string (sel (needed code ok) x ⟨#[]⟩),.int .i64 0,.pointer (some ⟨f,0,none⟩),.bool false] 92))
 have K9 := Aq.mk (K8.out.trans (Kf.of_below (r := r) (f := f) (Nat.le_trans HLW.out HZ8.out) b9))
 clear b9
 refine hK.out _ _ H9.out.cell2 (fun hHeld => ?_)
 clear hK K
 refine norm_ (a' := ?_) ?_ ?_
 rotate_left
 ·show Act.put _ (some 13) _ = _
  simp only [Act.put,LS_]
  rfl
 refine pure_ (i := 9) (N := (some 4)) (v := ?_) (a' := ?_) #[true,true,true,true,true,true,true,true,true,true] rfl rfl (by kernel_rfl) (fun _ _ _ h => h) (Or.inl ⟨by rfl,?_⟩) ?_ ?_
 rotate_left
 ·intro w'
  go_simp
  with_reducible rfl
 rotate_left
 ·simp only [Act.put,LS_]
  rfl
 refine done_ (by kernel_rfl) ?_
 go_wp2
 go_ret
 exact ⟨w8.heap.size,rfl,HZ8.out,H9.out,⟨N9.out,H9.out.ft⟩,K9.out⟩
end Go.Proofs.Ytlkebjkpmiehcaa.Ms
end
section
namespace Go.Proofs.Ytlkebjkpmiehcaa.Ms
open Go.RowKit Go.Proofs.YtlkebjkpmiehcaaW.PrintWords Go.Proofs.YtlkebjkpmiehcaaW.PrintLast Go.Proofs.YtlkebjkpmiehcaaW.PrintMore Go.Proofs.Ytlkebjkpmiehcaa.X
set_option linter.unusedVariables false
set_option maxRecDepth 100000 in
set_option maxHeartbeats 8000000 in
theorem more_calls (r f : Nat) (s : ByteArray) (p code : Int) (tw last : Bool) (w : World) (h : Rs w r f s p code tw last) :
  Calls Try.prog 99 #[.pointer (some ⟨r,0,none⟩)] w fun ex w' => ex = .returned (.bool (code == 0 && decide (p < (s.size : Int)))) ∧ Below w.heap.size w w' := by
 have H := Aq.mk h
 clear h
 by_cases c : code = 0
 ·have c0 : (code == 0) = true := beq_iff_eq.mpr c
  clear c
  go_enter Try.func99,Try.ntmps99
  try go_wp2
  refine start_ (n := 15) (S := fun w' => Below w.heap.size w w') (ds := []) T22 (by kernel_rfl) rfl rfl (Below.refl w.heap.size w).drew (fun hHeld => ?_)
  have HS := Aq.mk (Below.refl w.heap.size w).drew
  generalize w.drew = w7 at HS hHeld ⊢
  refine pure_ (i := 0) (N := (some 3)) (v := ?_) (a' := ?_) T28 rfl rfl (by kernel_rfl) (fun _ _ _ h => h) (Or.inl ⟨by rfl,?_⟩) ?_ ?_
  rotate_left
  ·intro w'
   go_simp
   with_reducible rfl
  rotate_left
  ·simp only [Act.put,LS_]
   rfl
  refine one_ (i := 1) (N := (some 4)) T214 rfl rfl (by kernel_rfl) (by decide) (fun K hK => ?_)
  refine goes_ Try.func51 (by kernel_rfl) rfl #[.pointer (some ⟨r,0,none⟩)] (by rfl) rfl rfl (by (try simp only [List.map_toArray,List.map_cons,List.map_nil]); first | done | rfl) ?_
  refine (ok_calls 0 r f s p code tw last _ (H.out.below HS.out)).mono ?_
  rintro e w8 ⟨rfl,rfl⟩
  rw [c0]
  refine ⟨_,rfl,?_⟩
  refine hK.out _ _ HS.out (fun hHeld => ?_)
  clear hK K
  refine norm_ (a' := ?_) ?_ ?_
  rotate_left
  ·show Act.put _ (some 4) _ = _
   simp only [Act.put,LS_]
   rfl
  refine pure_ (i := 2) (N := (some 5)) (v := ?_) (a' := ?_) T224 rfl rfl (by kernel_rfl) (fun _ _ _ h => h) (Or.inl ⟨by rfl,?_⟩) ?_ ?_
  rotate_left
  ·intro w'
   go_simp
   with_reducible rfl
  rotate_left
  ·simp only [Act.put,LS_]
   rfl
  refine pure_ (i := 3) (N := (some 6)) (v := ?_) (a' := ?_) T229 rfl rfl (by kernel_rfl) (fun _ _ _ h => h) (Or.inl ⟨by rfl,?_⟩) ?_ ?_
  rotate_left
  ·intro w'
   go_simp
   with_reducible rfl
  rotate_left
  ·simp only [Act.put,LS_]
   rfl
  refine pure_ (i := 4) (N := (some 7)) (v := ?_) (a' := ?_) T234 rfl rfl (by kernel_rfl) (fun _ _ _ h => h) (Or.inl ⟨by rfl,?_⟩) ?_ ?_
  rotate_left
  ·intro w'
   go_simp
   with_reducible rfl
  rotate_left
  ·simp only [Act.put,LS_]
   rfl
  refine pure_ (i := 5) (N := (some 8)) (v := ?_) (a' := ?_) T239 rfl rfl (by kernel_rfl) (fun _ _ _ h => h) (Or.inl ⟨by rfl,?_⟩) ?_ ?_
  rotate_left
  ·intro w'
   go_simp
   with_reducible rfl
  rotate_left
  ·simp only [Act.put,LS_]
   rfl
  refine take_ (i := 6) (N := (some 9)) (v := ?_) (a' := ?_) T244 rfl rfl (by kernel_rfl) (fun _ _ _ h => h) (Or.inl ⟨by rfl,?_⟩) hHeld ?_ ?_
  rotate_left
  ·rintro w' hS
   have hc := rcell H.out.rd hS
   obtain ⟨hc1,hc2,hc3⟩ := hc
   go_simp
   with_reducible rfl
  rotate_left
  ·simp only [Act.put,LS_]
   rfl
  refine pure_ (i := 7) (N := (some 10)) (v := ?_) (a' := ?_) T250 rfl rfl (by kernel_rfl) (fun _ _ _ h => h) (Or.inl ⟨by rfl,?_⟩) ?_ ?_
  rotate_left
  ·intro w'
   go_simp
   with_reducible rfl
  rotate_left
  ·simp only [Act.put,LS_]
   rfl
  refine pure_ (i := 8) (N := (some 11)) (v := ?_) (a' := ?_) T256 rfl rfl (by kernel_rfl) (fun _ _ _ h => h) (Or.inl ⟨by rfl,?_⟩) ?_ ?_
  rotate_left
  ·intro w'
   go_simp
   with_reducible rfl
  rotate_left
  ·simp only [Act.put,LS_]
   rfl
  refine pure_ (i := 9) (N := (some 12)) (v := ?_) (a' := ?_) T262 rfl rfl (by kernel_rfl) (fun _ _ _ h => h) (Or.inl ⟨by rfl,?_⟩) ?_ ?_
  rotate_left
  ·intro w'
   go_simp
   with_reducible rfl
  rotate_left
  ·simp only [Act.put,LS_]
   rfl
  refine take_ (i := 10) (N := (some 13)) (v := ?_) (a' := ?_) T267 rfl rfl (by kernel_rfl) (fun _ _ _ h => h) (Or.inl ⟨by rfl,?_⟩) hHeld ?_ ?_
  rotate_left
  ·rintro w' hS
   have hc := rcell H.out.rd hS
   obtain ⟨hc1,hc2,hc3⟩ := hc
   go_simp
   with_reducible rfl
  rotate_left
  ·simp only [Act.put,LS_]
   rfl
  refine pure_ (i := 11) (N := (some 14)) (v := ?_) (a' := ?_) T272 rfl rfl (by kernel_rfl) (fun _ _ _ h => h) (Or.inl ⟨by rfl,?_⟩) ?_ ?_
  rotate_left
  ·intro w'
   go_simp
   with_reducible rfl
  rotate_left
  ·simp only [Act.put,LS_]
   rfl
  refine pure_ (i := 12) (N := (some 15)) (v := ?_) (a' := ?_) T276 rfl rfl (by kernel_rfl) (fun _ _ _ h => h) (Or.inl ⟨by rfl,?_⟩) ?_ ?_
  rotate_left
  ·intro w'
   go_simp
   with_reducible rfl
  rotate_left
  ·simp only [Act.put,LS_]
   rfl
  refine pure_ (i := 13) (N := (some 16)) (v := ?_) (a' := ?_) T280 rfl rfl (by kernel_rfl) (fun _ _ _ h => h) (Or.inl ⟨by rfl,?_⟩) ?_ ?_
  rotate_left
  ·intro w'
   go_simp
   with_reducible rfl
  rotate_left
  ·simp only [Act.put,LS_]
   rfl
  refine pure_ (i := 14) (N := (some 2)) (v := ?_) (a' := ?_) T286 rfl rfl (by kernel_rfl) (fun _ _ _ h => h) (Or.inl ⟨by rfl,?_⟩) ?_ ?_
  rotate_left
  ·intro w'
   go_simp
   with_reducible rfl
  rotate_left
  ·simp only [Act.put,LS_]
   rfl
  refine done_ (by kernel_rfl) ?_
  go_wp2
  go_ret
  exact ⟨by first | rfl | (rw [c0]; rfl),HS.out⟩
 ·have c0 : (code == 0) = false := beq_eq_false_iff_ne.mpr c
  clear c
  go_enter Try.func99,Try.ntmps99
  try go_wp2
  refine start_ (n := 15) (S := fun w' => Below w.heap.size w w') (ds := []) T22 (by kernel_rfl) rfl rfl (Below.refl w.heap.size w).drew (fun hHeld => ?_)
  have HS := Aq.mk (Below.refl w.heap.size w).drew
  generalize w.drew = w7 at HS hHeld ⊢
  refine pure_ (i := 0) (N := (some 3)) (v := ?_) (a' := ?_) T28 rfl rfl (by kernel_rfl) (fun _ _ _ h => h) (Or.inl ⟨by rfl,?_⟩) ?_ ?_
  rotate_left
  ·intro w'
   go_simp
   with_reducible rfl
  rotate_left
  ·simp only [Act.put,LS_]
   rfl
  refine one_ (i := 1) (N := (some 4)) T214 rfl rfl (by kernel_rfl) (by decide) (fun K hK => ?_)
  refine goes_ Try.func51 (by kernel_rfl) rfl #[.pointer (some ⟨r,0,none⟩)] (by rfl) rfl rfl (by (try simp only [List.map_toArray,List.map_cons,List.map_nil]); first | done | rfl) ?_
  refine (ok_calls 0 r f s p code tw last _ (H.out.below HS.out)).mono ?_
  rintro e w8 ⟨rfl,rfl⟩
  rw [c0]
  refine ⟨_,rfl,?_⟩
  refine hK.out _ _ HS.out (fun hHeld => ?_)
  clear hK K
  refine norm_ (a' := ?_) ?_ ?_
  rotate_left
  ·show Act.put _ (some 4) _ = _
   simp only [Act.put,LS_]
   rfl
  refine pure_ (i := 2) (N := (some 5)) (v := ?_) (a' := ?_) T224 rfl rfl (by kernel_rfl) (fun _ _ _ h => h) (Or.inl ⟨by rfl,?_⟩) ?_ ?_
  rotate_left
  ·intro w'
   go_simp
   with_reducible rfl
  rotate_left
  ·simp only [Act.put,LS_]
   rfl
  refine pure_ (i := 3) (N := (some 6)) (v := undef) (a' := ?_) T229 rfl rfl (by kernel_rfl) (fun _ _ _ h => h) (Or.inr ⟨by rfl,by rfl⟩) ?_ ?_
  rotate_left
  ·simp only [Act.put,LS_]
   rfl
  refine pure_ (i := 4) (N := (some 7)) (v := undef) (a' := ?_) T234 rfl rfl (by kernel_rfl) (fun _ _ _ h => h) (Or.inr ⟨by rfl,by rfl⟩) ?_ ?_
  rotate_left
  ·simp only [Act.put,LS_]
   rfl
  refine pure_ (i := 5) (N := (some 8)) (v := undef) (a' := ?_) T239 rfl rfl (by kernel_rfl) (fun _ _ _ h => h) (Or.inr ⟨by rfl,by rfl⟩) ?_ ?_
  rotate_left
  ·simp only [Act.put,LS_]
   rfl
  refine pure_ (i := 6) (N := (some 9)) (v := undef) (a' := ?_) T244 rfl rfl (by kernel_rfl) (fun _ _ _ h => h) (Or.inr ⟨by rfl,by rfl⟩) ?_ ?_
  rotate_left
  ·simp only [Act.put,LS_]
   rfl
  refine pure_ (i := 7) (N := (some 10)) (v := undef) (a' := ?_) T250 rfl rfl (by kernel_rfl) (fun _ _ _ h => h) (Or.inr ⟨by rfl,by rfl⟩) ?_ ?_
  rotate_left
  ·simp only [Act.put,LS_]
   rfl
  refine pure_ (i := 8) (N := (some 11)) (v := undef) (a' := ?_) T256 rfl rfl (by kernel_rfl) (fun _ _ _ h => h) (Or.inr ⟨by rfl,by rfl⟩) ?_ ?_
  rotate_left
  ·simp only [Act.put,LS_]
   rfl
  refine pure_ (i := 9) (N := (some 12)) (v := undef) (a' := ?_) T262 rfl rfl (by kernel_rfl) (fun _ _ _ h => h) (Or.inr ⟨by rfl,by rfl⟩) ?_ ?_
  rotate_left
  ·simp only [Act.put,LS_]
   rfl
  refine pure_ (i := 10) (N := (some 13)) (v := undef) (a' := ?_) T267 rfl rfl (by kernel_rfl) (fun _ _ _ h => h) (Or.inr ⟨by rfl,by rfl⟩) ?_ ?_
  rotate_left
  ·simp only [Act.put,LS_]
   rfl
  refine pure_ (i := 11) (N := (some 14)) (v := undef) (a' := ?_) T272 rfl rfl (by kernel_rfl) (fun _ _ _ h => h) (Or.inr ⟨by rfl,by rfl⟩) ?_ ?_
  rotate_left
  ·simp only [Act.put,LS_]
   rfl
  refine pure_ (i := 12) (N := (some 15)) (v := undef) (a' := ?_) T276 rfl rfl (by kernel_rfl) (fun _ _ _ h => h) (Or.inr ⟨by rfl,by rfl⟩) ?_ ?_
  rotate_left
  ·simp only [Act.put,LS_]
   rfl
  refine pure_ (i := 13) (N := (some 16)) (v := ?_) (a' := ?_) T280 rfl rfl (by kernel_rfl) (fun _ _ _ h => h) (Or.inl ⟨by rfl,?_⟩) ?_ ?_
  rotate_left
  ·intro w'
   go_simp
   with_reducible rfl
  rotate_left
  ·simp only [Act.put,LS_]
   rfl
  refine pure_ (i := 14) (N := (some 2)) (v := ?_) (a' := ?_) T286 rfl rfl (by kernel_rfl) (fun _ _ _ h => h) (Or.inl ⟨by rfl,?_⟩) ?_ ?_
  rotate_left
  ·intro w'
   go_simp
   with_reducible rfl
  rotate_left
  ·simp only [Act.put,LS_]
   rfl
  refine done_ (by kernel_rfl) ?_
  go_wp2
  go_ret
  exact ⟨by first | rfl | (rw [c0]; rfl),HS.out⟩
end Go.Proofs.Ytlkebjkpmiehcaa.Ms
end
section
namespace Go.Proofs.Ytlkebjkpmiehcaa.Pure
open Go.RowKit Go.Proofs.Ytlkebjkpmiehcaa.E Go.Proofs.YtlkebjkpmiehcaaW.PrintWords Go.Proofs.YtlkebjkpmiehcaaW.PrintLast Go.Proofs.YtlkebjkpmiehcaaW.PrintMore
set_option linter.unusedVariables false
set_option linter.unusedSimpArgs false
theorem w64 {a : Int} (h0 : -9223372036854775808 ≤ a) (h1 : a ≤ 9223372036854775807) : wrap64 a = a := by unfold wrap64; omega
theorem ev_const {α : Type} {x : Option α} {r : α} (h : x = some r) : Ev (fun _ => x) r := ⟨0,fun _ _ => h⟩
theorem wraps_i64 : ∀ n : Int,0 ≤ n → n < 2 ^ 63 → IntKind.i64.wrap n = n := by
 intro n h0 h1
 simp [IntKind.wrap,IntKind.bits,IntKind.signed]
 omega
def nv (s : ByteArray) (i : Int) : Nat → Int
 | 0 => 0
 | n + 1 => nv s i n * 256 + bt s (i + n)
theorem nv_bd (s : ByteArray) (i : Int) : ∀ n,0 ≤ nv s i n ∧ nv s i n < 256 ^ n
 | 0 => by simp [nv]
 | n + 1 => by
  have h := nv_bd s i n
  have b := bt_range s (i + n)
  simp only [nv]
  rw [Int.pow_succ]
  omega
theorem nv_bd4 (s : ByteArray) (i : Int) (n : Nat) (h : n ≤ 4) : 0 ≤ nv s i n ∧ nv s i n < 4294967296 := by
 have h1 := nv_bd s i n
 refine ⟨h1.1,Int.lt_of_lt_of_le h1.2 ?_⟩
 have : n = 0 ∨ n = 1 ∨ n = 2 ∨ n = 3 ∨ n = 4 := by omega
 rcases this with rfl | rfl | rfl | rfl | rfl <;> decide
theorem or_byte {x y : Int} (h0 : 0 ≤ x) (h1 : x < 4294967296) (h2 : 0 ≤ y) (h3 : y ≤ 255) : Go.bits .or .i64 (wrap64 (x * 256)) (wrap64 y) = x * 256 + y := by
 rw [w64 (by omega) (by omega),w64 (a := y) (by omega) (by omega)]
 exact Go.bits_join .i64 63 (by decide) wraps_i64 8 (x * 256) y (by omega) (by omega) (by omega) (by omega) (by omega) (by omega)
theorem number_loop (s : ByteArray) (a : Int) (n : Nat) (ha : 0 ≤ a) (hn : n ≤ 4) (h : a + n ≤ s.size) (hs : s.size ≤ 140737488351232) :
  ∀ d j : Nat,j + d = n → Ev (fun k => wire_number.l0 k s a n (nv s a j) n j) (nv s a n,a + n,0) := by
 intro d
 induction d with
 | zero =>
  intro j hj
  obtain rfl : j = n := by omega
  refine Ev.step (f := fun _ => some (nv s a j,a + (j : Int),0)) (fun k => ?_) (Ev.now _)
  simp only [wire_number.l0]
  rw [if_neg (by omega),w64 (a := a + (j : Int)) (by omega) (by omega)]
 | succ d ih =>
  intro j hj
  refine Ev.step (f := fun k => wire_number.l0 k s a n (nv s a (j + 1)) n ((j + 1 : Nat) : Int)) (fun k => ?_) (ih (j + 1) (by omega))
  simp only [wire_number.l0]
  have b := bt_range s (a + (j : Int))
  have v := nv_bd4 s a j (by omega)
  rw [if_pos (by omega),w64 (a := a + (j : Int)) (by omega) (by omega),if_pos (by omega),if_pos (by omega),or_byte v.1 v.2 b.1 b.2,w64 (a := (j : Int) + 1) (by omega) (by omega)]
  rfl
def CutAt (s : ByteArray) (a : Int) (n : Int) : Prop := a < 0 ∨ a > s.size ∨ s.size - a < n
theorem number_ok {s : ByteArray} {a : Int} {n : Nat} (ha : 0 ≤ a) (hn : n ≤ 4) (h : a + n ≤ s.size) (hs : s.size ≤ 140737488351232) :
  Ev (fun k => wire_number.f k s a n) (nv s a n,a + n,0) := by
 refine Ev.congr (f := fun k => wire_number.j0 k s a n false) (fun k => ?_) ?_
 ·unfold wire_number.f
  rw [if_neg (by omega),if_neg (by omega),w64 (by omega) (by omega)]
  congr 1
  exact decide_eq_false (by omega)
 ·refine Ev.step (f := fun k => wire_number.l0 k s a n 0 n 0) (fun k => ?_) (number_loop s a n ha hn h hs n 0 (by omega))
  simp only [wire_number.j0]
  rfl
theorem number_cut {s : ByteArray} {a : Int} {n : Int} (hc : CutAt s a n) (hs : s.size ≤ 140737488351232) :
  Ev (fun k => wire_number.f k s a n) (0,0,100) := by
 have key : Ev (fun k => wire_number.j0 k s a n true) (0,0,100) := Ev.step (f := fun _ => some (0,0,100)) (fun k => by simp only [wire_number.j0]; rfl) (Ev.now _)
 refine Ev.congr (f := fun k => wire_number.j0 k s a n true) (fun k => ?_) key
 unfold wire_number.f CutAt at *
 by_cases h0 : a < 0
 ·rw [if_pos h0]
 ·rw [if_neg h0]
  by_cases h1 : a > (s.size : Int)
  ·rw [if_pos h1]
  ·rw [if_neg h1,w64 (by omega) (by omega)]
   congr 1
   exact decide_eq_true (by omega)
theorem num_f (e : Int) : halberdlaw0_Num.f e = some e := rfl
theorem evPos {α : Type} {c : Prop} [Decidable c] {g f : Nat → Option α} {r : α} (h : c) (k : Ev g r) : Ev (fun n => if c then g n else f n) r := by
 obtain ⟨K,k⟩ := k
 exact ⟨K,fun n hn => by simp only []; rw [if_pos h]; exact k n hn⟩
theorem evNeg {α : Type} {c : Prop} [Decidable c] {g f : Nat → Option α} {r : α} (h : ¬ c) (k : Ev f r) : Ev (fun n => if c then g n else f n) r := by
 obtain ⟨K,k⟩ := k
 exact ⟨K,fun n hn => by simp only []; rw [if_neg h]; exact k n hn⟩
def numOf (s : ByteArray) (a : Int) (n : Nat) : Int × Int × Int :=
 if a < 0 ∨ a > s.size ∨ s.size - a < n then (0,0,100) else (nv s a n,a + n,0)
theorem number_any (s : ByteArray) (a : Int) (n : Nat) (hn : n ≤ 4) (hs : s.size ≤ 140737488351232) : Ev (fun k => wire_number.f k s a n) (numOf s a n) := by
 unfold numOf
 by_cases hc : a < 0 ∨ a > s.size ∨ s.size - a < n
 ·rw [if_pos hc]; exact number_cut hc hs
 ·rw [if_neg hc]; exact number_ok (by omega) hn (by omega) hs
theorem U16_any (s : ByteArray) (a : Int) (hs : s.size ≤ 140737488351232) : Ev (fun k => wire_U16.f k s a) (numOf s a 2) := by
 refine Ev.congr (f := fun k => (wire_number.f k s a ((2 : Nat) : Int)).bind _) (fun k => by unfold wire_U16.f; rfl) ?_
 exact Ev.bind (number_any s a 2 (by omega) hs) (Ev.now _)
def vecOf (s : ByteArray) (a : Int) (n : Nat) : ByteArray × Int × Int :=
 if a < 0 ∨ a > s.size ∨ s.size - a < n then (⟨#[]⟩,0,100)
 else if nv s a n > s.size - (a + n) then (⟨#[]⟩,0,100)
 else (s.extract (a + n).toNat (a + n + nv s a n).toNat,a + n + nv s a n,0)
theorem vec_ok {s : ByteArray} {a : Int} {n : Nat} (h1 : 1 ≤ n) (h3 : n ≤ 3) (hs : s.size ≤ 140737488351232) : Ev (fun k => wire_Vec.f k s a n) (vecOf s a n) := by
 refine Ev.congr (f := fun k => wire_Vec.j0 k s a n false) (fun k => ?_) ?_
 ·unfold wire_Vec.f
  rw [if_neg (by omega)]
  congr 1
  exact decide_eq_false (by omega)
 ·unfold vecOf
  by_cases hc : a < 0 ∨ a > s.size ∨ s.size - a < n
  ·rw [if_pos hc]
   refine Ev.step (f := fun k => (wire_number.f k s a n).bind _) (fun k => by simp only [wire_Vec.j0]; rfl) ?_
   exact Ev.bind (number_cut hc hs) (Ev.now _)
  ·rw [if_neg hc]
   refine Ev.step (f := fun k => (wire_number.f k s a n).bind _) (fun k => by simp only [wire_Vec.j0]; rfl) ?_
   have v := nv_bd4 s a n (by omega)
   refine Ev.bind (number_ok (by omega) (by omega) (by omega) hs) (ev_const ?_)
   simp only [if_true]
   rw [w64 (a := (s.size : Int) - (a + n)) (by omega) (by omega),w64 (a := a + n + nv s a n) (by omega) (by omega)]
   by_cases hl : nv s a n > s.size - (a + n)
   ·rw [if_pos hl,if_pos hl]
   ·rw [if_neg hl,if_neg hl,if_pos (by omega),if_pos (by omega),if_pos (by omega)]
theorem strOf_size (l : List Int) : (strOfNums l).size = l.length := by simp [strOfNums,ByteArray.size]
def beL : Nat → Int → List Int
 | 0,_ => []
 | n + 1,x => beL n (x / 256) ++ [x % 256]
theorem beL_length : ∀ (n : Nat) (x : Int),(beL n x).length = n
 | 0,_ => rfl
 | n + 1,x => by simp [beL,beL_length n]
theorem bytes_ok (x : Int) (n : Nat) (h0 : 1 ≤ n) (h1 : n ≤ 4) : wire_Bytes.f x n = some (strOfNums (beL n x)) := by
 have : n = 1 ∨ n = 2 ∨ n = 3 ∨ n = 4 := by omega
 rcases this with rfl | rfl | rfl | rfl <;> simp [wire_Bytes.f,beL,Int.ediv_ediv]
def putOf (x : Int) (n : Nat) : ByteArray × Int := if x < 256 ^ n then (strOfNums (beL n x),0) else (⟨#[]⟩,101)
theorem put_ok (x : Int) (n : Nat) (h0 : 1 ≤ n) (h1 : n ≤ 4) (hx : 0 ≤ x) : wire_Put.f x n = some (putOf x n) := by
 have hb := bytes_ok x n h0 h1
 unfold wire_Put.f putOf
 rw [if_neg (by omega),if_neg (by omega),if_neg (by omega),hb]
 have : n = 1 ∨ n = 2 ∨ n = 3 ∨ n = 4 := by omega
 rcases this with rfl | rfl | rfl | rfl <;> simp only [shr,wrap64,IntKind.bits] <;> simp <;> split <;> split <;> first | rfl | omega
theorem put_no (x n : Int) (h : n < 1 ∨ n > 4 ∨ x < 0) : wire_Put.f x n = some ((⟨#[]⟩ : ByteArray),101) := by
 unfold wire_Put.f
 by_cases h0 : n < 1
 ·rw [if_pos h0]
 ·rw [if_neg h0]
  by_cases h1 : n > 4
  ·rw [if_pos h1]
  ·rw [if_neg h1,if_pos (by omega)]
def putVecOf (s : ByteArray) (n : Nat) : ByteArray × Int := if (s.size : Int) < 256 ^ n then (strOfNums (beL n s.size) ++ s,0) else (⟨#[]⟩,101)
theorem putVec_ok (s : ByteArray) (n : Nat) (h0 : 1 ≤ n) (h1 : n ≤ 3) (hs : s.size ≤ 140737488351232) : wire_PutVec.f s n = some (putVecOf s n) := by
 have hb := bytes_ok s.size n h0 (by omega)
 unfold wire_PutVec.f putVecOf
 rw [if_neg (by omega),if_neg (by omega),hb]
 simp only [Option.bind_some]
 rw [strOf_size,beL_length,if_pos (c := n + s.size ≤ 9223372036854775807) (by omega)]
 have : n = 1 ∨ n = 2 ∨ n = 3 := by omega
 rcases this with rfl | rfl | rfl <;> simp only [shr,wrap64,IntKind.bits] <;> simp <;> split <;> split <;> first | rfl | omega
theorem bytesOf_app (a b : ByteArray) : bytesOf (a ++ b) = bytesOf a ++ bytesOf b := by
 unfold bytesOf
 simp
theorem map_toNat_inj : ∀ {l m : List UInt8},l.map (fun b => (b.toNat : Int)) = m.map (fun b => (b.toNat : Int)) → l = m
 | [],[],_ => rfl
 | [],_ :: _,h => by simp at h
 | _ :: _,[],h => by simp at h
 | x :: l,y :: m,h => by
  simp only [List.map_cons,List.cons.injEq] at h
  obtain ⟨h1,h2⟩ := h
  have h3 : x.toNat = y.toNat := by omega
  rw [UInt8.toNat_inj.mp h3,map_toNat_inj h2]
theorem bytesOf_inj {a b : ByteArray} (h : bytesOf a = bytesOf b) : a = b := by
 have h1 := map_toNat_inj h
 cases a; cases b
 congr 1
 exact Array.toList_inj.mp h1
def Byte (l : List Int) : Prop := ∀ x ∈ l,0 ≤ x ∧ x ≤ 255
theorem bytesOf_strOf {l : List Int} (h : Byte l) : bytesOf (strOfNums l) = l := by
 unfold bytesOf strOfNums
 simp only [List.map_map]
 refine (List.map_congr_left (g := id) (fun x hx => ?_)).trans (List.map_id l)
 have := h x hx
 simp only [Function.comp,id,UInt8.toNat_ofNat']
 omega
theorem beL_byte : ∀ (n : Nat) (x : Int),Byte (beL n x)
 | 0,x => by intro y hy; simp [beL] at hy
 | n + 1,x => by
  intro y hy
  simp only [beL,List.mem_append,List.mem_singleton] at hy
  rcases hy with hy | rfl
  ·exact beL_byte n _ y hy
  ·omega
theorem bytesOf_extract (s : ByteArray) (a b : Nat) : bytesOf (s.extract a b) = ((bytesOf s).drop a).take (b - a) := by
 unfold bytesOf
 rw [ByteArray.data_extract]
 simp [List.map_drop,List.map_take,List.extract_eq_take_drop]
def nvL (l : List Int) : Int := l.foldl (fun a b => a * 256 + b) 0
theorem nvL_snoc (l : List Int) (x : Int) : nvL (l ++ [x]) = nvL l * 256 + x := by simp [nvL]
theorem bt_get (s : ByteArray) (i : Int) : bt s i = (bytesOf s).getD i.toNat 0 := (rd_bytesOf s i).symm
theorem nv_list (s : ByteArray) (i : Nat) : ∀ n : Nat,i + n ≤ s.size → nv s i n = nvL (((bytesOf s).drop i).take n)
 | 0,_ => by simp [nv,nvL]
 | n + 1,h => by
  have hl := bytesOf_length s
  have e : ((bytesOf s).drop i).take (n + 1) = ((bytesOf s).drop i).take n ++ [(bytesOf s).getD (i + n) 0] := by
   rw [List.take_succ_eq_append_getElem (by rw [List.length_drop]; omega),List.getElem_drop,List.getD_eq_getElem?_getD,List.getElem?_eq_getElem (by omega)]
   rfl
  rw [e,nvL_snoc,nv,nv_list s i n (by omega),bt_get]
  have : ((i : Int) + (n : Int)).toNat = i + n := by omega
  rw [this]
theorem nvL_beL : ∀ (n : Nat) (x : Int),nvL (beL n x) = x % 256 ^ n
 | 0,x => by simp [beL,nvL]
 | n + 1,x => by
  have hp : (0 : Int) < 256 ^ n := Int.pow_pos (by decide)
  rw [beL,nvL_snoc,nvL_beL n,Int.pow_succ,Int.mul_comm (256 ^ n) 256]
  have h1 := Int.emod_add_mul_ediv x 256
  have h2 := Int.emod_add_mul_ediv (x / 256) (256 ^ n)
  have h3 := Int.emod_add_mul_ediv x (256 * 256 ^ n)
  have h4 : x / (256 * 256 ^ n) = x / 256 / 256 ^ n := by rw [Int.ediv_ediv_of_nonneg (by decide)]
  rw [h4] at h3
  generalize x / 256 / 256 ^ n = q at *
  generalize x / 256 % 256 ^ n = r at *
  generalize x % (256 * 256 ^ n) = z at *
  rw [Int.mul_assoc] at h3
  generalize (256 : Int) ^ n * q = u at *
  omega
def From (s : ByteArray) (p : Nat) (l : List Int) : Prop := p ≤ s.size ∧ (bytesOf s).drop p = l
theorem From.len {s : ByteArray} {p : Nat} {l : List Int} (h : From s p l) : p + l.length = s.size := by
 have := bytesOf_length s
 obtain ⟨h1,rfl⟩ := h
 rw [List.length_drop]
 omega
theorem From.skip {s : ByteArray} {p : Nat} {l m : List Int} (h : From s p (l ++ m)) : From s (p + l.length) m := by
 have hl := h.len
 refine ⟨by rw [List.length_append] at hl; omega,?_⟩
 rw [← List.drop_drop,h.2,List.drop_left]
theorem From.start (s : ByteArray) : From s 0 (bytesOf s) := ⟨Nat.zero_le _,rfl⟩
theorem From.number {s : ByteArray} {p n : Nat} {x : Int} {m : List Int} (h : From s p (beL n x ++ m)) : nv s p n = x % 256 ^ n ∧ From s (p + n) m := by
 have hl := h.len
 rw [List.length_append,beL_length] at hl
 refine ⟨?_,?_⟩
 ·rw [nv_list s p n (by omega),h.2,List.take_left' (beL_length n x),nvL_beL]
 ·have := h.skip
  rwa [beL_length] at this
theorem From.text {s t : ByteArray} {p : Nat} {m : List Int} (h : From s p (bytesOf t ++ m)) : s.extract p (p + t.size) = t ∧ From s (p + t.size) m := by
 refine ⟨bytesOf_inj ?_,?_⟩
 ·rw [bytesOf_extract,h.2,Nat.add_sub_cancel_left,List.take_left' (bytesOf_length t)]
 ·have := h.skip
  rwa [bytesOf_length] at this
def dupB (l : List Int) : Bool := decide (¬ l.Nodup)
theorem dupB_snoc (l : List Int) (x : Int) : dupB (l ++ [x]) = (dupB l || decide (x ∈ l)) := by
 unfold dupB
 rw [Bool.eq_iff_iff]
 have h : (l ++ [x]).Nodup ↔ l.Nodup ∧ x ∉ l := by
  rw [List.nodup_append]
  simp only [List.mem_singleton,forall_eq]
  refine ⟨fun ⟨a,_,c⟩ => ⟨a,fun h => c x h rfl⟩,fun ⟨a,c⟩ => ⟨a,List.nodup_cons.mpr ⟨List.not_mem_nil,List.nodup_nil⟩,fun y hy e => c (e ▸ hy)⟩⟩
 simp only [decide_eq_true_eq,Bool.or_eq_true,h]
 by_cases h1 : l.Nodup <;> by_cases h2 : x ∈ l <;> simp [h1,h2]
def kindsOf (l : List S41) : List Int := l.map S41.f0
theorem kinds_snoc (l : List S41) (x : S41) : kindsOf (l ++ [x]) = kindsOf l ++ [x.f0] := by simp [kindsOf]
def fin (acc : List S41) : Option (List S41) → List S41 × Int
 | none => ([],1600)
 | some l => if dupB (kindsOf (acc ++ l)) = true then ([],1601) else (acc ++ l,0)
def exL (s : ByteArray) : Nat → Int → Option (List S41)
 | 0,_ => some []
 | d + 1,p => if p < s.size then
   (if (numOf s p 2).2.2 = 0 then (if (vecOf s (p + 2) 2).2.2 = 0 then (exL s d (vecOf s (p + 2) 2).2.1).map (fun l => ⟨nv s p 2,(vecOf s (p + 2) 2).1⟩ :: l) else none) else none)
   else some []
theorem fin_cons (acc : List S41) (x : S41) (o : Option (List S41)) : fin acc (o.map (fun l => x :: l)) = fin (acc ++ [x]) o := by
 cases o with
 | none => rfl
 | some l => simp only [Option.map_some,fin,List.append_assoc,List.singleton_append]
theorem vec_bd {s : ByteArray} {p : Int} (h0 : 0 ≤ p) (h : (vecOf s p 2).2.2 = 0) : p + 2 ≤ (vecOf s p 2).2.1 ∧ (vecOf s p 2).2.1 ≤ s.size ∧ ((vecOf s p 2).1.size : Int) = (vecOf s p 2).2.1 - (p + 2) ∧ nv s p 2 = (vecOf s p 2).1.size := by
 unfold vecOf at h ⊢
 have v := nv_bd4 s p 2 (by omega)
 by_cases hc : p < 0 ∨ p > s.size ∨ s.size - p < (2 : Nat)
 ·rw [if_pos hc] at h; simp at h
 ·rw [if_neg hc] at h ⊢
  by_cases hl : nv s p 2 > s.size - (p + (2 : Nat))
  ·rw [if_pos hl] at h; simp at h
  ·rw [if_neg hl]
   have e : (s.extract (p + (2 : Nat)).toNat (p + (2 : Nat) + nv s p 2).toNat).size = (nv s p 2).toNat := by
    rw [ByteArray.size_extract]
    omega
   simp only [e]
   omega
theorem num_to {s : ByteArray} {p : Int} (h : (numOf s p 2).2.2 = 0) : numOf s p 2 = (nv s p 2,p + 2,0) ∧ p + 2 ≤ s.size := by
 unfold numOf at h ⊢
 by_cases hc : p < 0 ∨ p > s.size ∨ s.size - p < (2 : Nat)
 ·rw [if_pos hc] at h; simp at h
 ·rw [if_neg hc]
  exact ⟨rfl,by omega⟩
theorem wfn {x : Int} (h0 : 0 ≤ x) (h1 : x < 4294967296) : (Lit.int .i64 x).wf = true := by
 simp [Lit.wf,IntKind.min,IntKind.max,IntKind.signed,IntKind.bits]
 omega
theorem get_loop (s : ByteArray) (hs : s.size ≤ 16777216) : ∀ (d : Nat) (p : Int) (acc : List S41),0 ≤ p → p ≤ s.size → (s.size : Int) - p ≤ d → 4 * (acc.length : Int) ≤ p →
  Ev (fun k => ext_Get.l0 k s acc (kindsOf acc) (dupB (kindsOf acc)) p) (fin acc (exL s (d + 1) p)) := by
 intro d
 induction d with
 | zero =>
  intro p acc h0 h1 hd hl
  refine Ev.step (fun k => rfl) ?_
  simp only [ext_Get.l0]
  rw [exL]
  have hn : ¬ p < s.size := by omega
  refine evNeg hn ?_
  rw [if_neg hn]
  simp only [fin,List.append_nil]
  by_cases hu : dupB (kindsOf acc) = true
  ·exact evPos hu (by rw [if_pos hu]; exact Ev.now _)
  ·exact evNeg hu (by rw [if_neg hu]; exact Ev.now _)
 | succ d ih =>
  intro p acc h0 h1 hd hl
  refine Ev.step (fun k => rfl) ?_
  simp only [ext_Get.l0]
  rw [exL]
  by_cases hlt : p < s.size
  ·refine evPos hlt ?_
   rw [if_pos hlt]
   refine Ev.bind (U16_any s p (by omega)) ?_
   by_cases hn : (numOf s p 2).2.2 = 0
   ·refine evPos hn ?_
    rw [if_pos hn]
    obtain ⟨e,hp2⟩ := num_to hn
    have v := nv_bd4 s p 2 (by omega)
    rw [e]
    refine Ev.bind (vec_ok (s := s) (a := p + 2) (n := 2) (by omega) (by omega) (by omega)) ?_
    by_cases hv : (vecOf s (p + 2) 2).2.2 = 0
    ·refine evPos hv ?_
     rw [if_pos hv,fin_cons]
     obtain ⟨b1,b2,b3,_⟩ := vec_bd (by omega) hv
     have hlen : (kindsOf acc).length = acc.length := by simp [kindsOf]
     have key := ih (vecOf s (p + 2) 2).2.1 (acc ++ [⟨nv s p 2,(vecOf s (p + 2) 2).1⟩]) (by omega) b2 (by omega) (by simp only [List.length_append,List.length_singleton]; omega)
     rw [kinds_snoc,dupB_snoc] at key
     by_cases hu : dupB (kindsOf acc) = true
     ·refine evPos hu (evPos (wfn v.1 v.2) (evPos (by omega) (evPos (by omega) ?_)))
      rw [hu] at key
      exact key
     ·refine evNeg hu (evPos (wfn v.1 v.2) (evPos (by omega) (evPos (by omega) ?_)))
      have hu' : dupB (kindsOf acc) = false := by simpa using hu
      rw [hu'] at key
      exact key
    ·refine evNeg hv ?_
     rw [if_neg hv]
     exact Ev.now _
   ·refine evNeg hn ?_
    rw [if_neg hn]
    exact Ev.now _
  ·refine evNeg hlt ?_
   rw [if_neg hlt]
   simp only [fin,List.append_nil]
   by_cases hu : dupB (kindsOf acc) = true
   ·exact evPos hu (by rw [if_pos hu]; exact Ev.now _)
   ·exact evNeg hu (by rw [if_neg hu]; exact Ev.now _)
def getOf (s : ByteArray) : List S41 × Int := fin [] (exL s (s.size + 1) 0)
theorem get_any (s : ByteArray) (hs : s.size ≤ 16777216) : Ev (fun k => ext_Get.f k s) (getOf s) := by
 have h := get_loop s hs s.size 0 [] (by omega) (by omega) (by omega) (by simp)
 exact h
def okE (x : S41) : Prop := 0 ≤ x.f0 ∧ x.f0 ≤ 65535 ∧ x.f1.size ≤ 65535
instance (x : S41) : Decidable (okE x) := by unfold okE; infer_instance
def encE (x : S41) : ByteArray := strOfNums (beL 2 x.f0) ++ (strOfNums (beL 2 x.f1.size) ++ x.f1)
def encs (l : List S41) : ByteArray := l.foldl (fun a x => a ++ encE x) ⟨#[]⟩
theorem encs_snoc (l : List S41) (x : S41) : encs (l ++ [x]) = encs l ++ encE x := by simp [encs]
theorem encE_size {x : S41} (h : okE x) : (encE x).size ≤ 65539 := by
 have := h.2.2
 unfold encE
 rw [ByteArray.size_append,ByteArray.size_append,strOf_size,strOf_size,beL_length,beL_length]
 omega
def putL (pre : List S41) : List S41 → ByteArray × Int
 | [] => if dupB (kindsOf pre) = true then (⟨#[]⟩,1601) else (encs pre,0)
 | x :: r => if okE x then putL (pre ++ [x]) r else (⟨#[]⟩,1600)
theorem rd_mid (pre r : List S41) (x : S41) : rd_T41 (pre ++ x :: r) (pre.length : Int) = x := by
 simp [rd_T41,List.getD_eq_getElem?_getD]
theorem put2 {x : Int} (h0 : 0 ≤ x) (h1 : x ≤ 65535) : wire_Put.f x 2 = some (strOfNums (beL 2 x),0) := by
 have h := put_ok x 2 (by omega) (by omega) h0
 unfold putOf at h
 rw [if_pos (by omega)] at h
 exact h
theorem put2_no {x : Int} (h : ¬ (0 ≤ x ∧ x ≤ 65535)) : wire_Put.f x 2 = some ((⟨#[]⟩ : ByteArray),101) := by
 by_cases h0 : 0 ≤ x
 ·have h := put_ok x 2 (by omega) (by omega) h0
  unfold putOf at h
  rw [if_neg (by omega)] at h
  exact h
 ·exact put_no x 2 (by omega)
theorem pv2 {t : ByteArray} (ht : t.size ≤ 65535) : wire_PutVec.f t 2 = some (strOfNums (beL 2 t.size) ++ t,0) := by
 have h := putVec_ok t 2 (by omega) (by omega) (by omega)
 unfold putVecOf at h
 rw [if_pos (by omega)] at h
 exact h
theorem pv2_no {t : ByteArray} (ht : ¬ t.size ≤ 65535) (hs : t.size ≤ 140737488351232) : wire_PutVec.f t 2 = some ((⟨#[]⟩ : ByteArray),101) := by
 have h := putVec_ok t 2 (by omega) (by omega) hs
 unfold putVecOf at h
 rw [if_neg (by omega)] at h
 exact h
theorem put_loop : ∀ (r pre : List S41),(pre ++ r).length ≤ 16777216 → (∀ x ∈ r,x.f1.size ≤ 140737488351232) → (encs pre).size ≤ 65539 * pre.length →
  Ev (fun k => ext_Put.l0 k (encs pre) (kindsOf pre) (dupB (kindsOf pre)) (pre ++ r) ((pre ++ r).length : Int) pre.length) (putL pre r)
 | [],pre,hl,hb,he => by
  refine Ev.step (fun k => rfl) ?_
  simp only [ext_Put.l0,List.append_nil,putL]
  refine evNeg (by omega) ?_
  by_cases hu : dupB (kindsOf pre) = true
  ·exact evPos hu (by rw [if_pos hu]; exact Ev.now _)
  ·exact evNeg hu (by rw [if_neg hu]; exact Ev.now _)
 | x :: r,pre,hl,hb,he => by
  have hl2 : pre.length + r.length + 1 ≤ 16777216 := by simpa [Nat.add_assoc] using hl
  refine Ev.step (fun k => rfl) ?_
  simp only [ext_Put.l0,putL,rd_mid]
  refine evPos (by simp; omega) (evPos (by omega) (evPos (by simp; omega) ?_))
  have hx := hb x (by simp)
  by_cases hk : 0 ≤ x.f0 ∧ x.f0 ≤ 65535
  ·refine Ev.bind (ev_const (put2 hk.1 hk.2)) ?_
   by_cases hz : x.f1.size ≤ 65535
   ·refine Ev.bind (ev_const (pv2 hz)) (evPos rfl (evPos rfl ?_))
    have ho : okE x := ⟨hk.1,hk.2,hz⟩
    rw [if_pos ho]
    have hE := encE_size ho
    have hlen : (kindsOf pre).length = pre.length := by simp [kindsOf]
    have key := put_loop r (pre ++ [x]) (by simpa using hl) (fun y hy => hb y (List.mem_cons_of_mem _ hy)) (by rw [encs_snoc,ByteArray.size_append,List.length_append,List.length_singleton]; omega)
    rw [encs_snoc,kinds_snoc,dupB_snoc,List.append_assoc,List.singleton_append] at key
    have e1 : wrap64 ((pre.length : Int) + 1) = ((pre ++ [x]).length : Int) := by
     rw [w64 (by omega) (by omega),List.length_append,List.length_singleton]; omega
    have hE' : (strOfNums (beL 2 x.f0) ++ (strOfNums (beL 2 x.f1.size) ++ x.f1)).size ≤ 65539 := hE
    have hE2 : (strOfNums (beL 2 x.f0)).size + (strOfNums (beL 2 x.f1.size) ++ x.f1).size ≤ 65539 := by rw [← ByteArray.size_append]; exact hE'
    by_cases hu : dupB (kindsOf pre) = true
    ·refine evPos hu (evPos (wfn hk.1 (by omega)) (evPos (by omega) (evPos (by dsimp only; omega) (Ev.bind (ev_const rfl) (evPos (by rw [ByteArray.size_append]; dsimp only; omega) ?_)))))
     rw [e1]
     rw [hu] at key
     exact key
    ·refine evNeg hu (evPos (wfn hk.1 (by omega)) (evPos (by omega) (evPos (by dsimp only; omega) (Ev.bind (ev_const rfl) (evPos (by rw [ByteArray.size_append]; dsimp only; omega) ?_)))))
     rw [e1]
     have hu' : dupB (kindsOf pre) = false := by simpa using hu
     rw [hu'] at key
     exact key
   ·refine Ev.bind (ev_const (pv2_no hz hx)) (evPos rfl (evNeg (by decide) ?_))
    rw [if_neg (fun h => hz h.2.2)]
    exact Ev.now _
  ·rw [if_neg (fun h => hk ⟨h.1,h.2.1⟩)]
   refine Ev.bind (ev_const (put2_no hk)) ?_
   by_cases hz : x.f1.size ≤ 65535
   ·exact Ev.bind (ev_const (pv2 hz)) (evNeg (by simp) (Ev.now _))
   ·exact Ev.bind (ev_const (pv2_no hz hx)) (evNeg (by simp) (Ev.now _))
theorem put_any (l : List S41) (hl : l.length ≤ 16777216) (hb : ∀ x ∈ l,x.f1.size ≤ 140737488351232) : Ev (fun k => ext_Put.f k l) (putL [] l) := put_loop l [] hl hb (by simp [encs,ByteArray.size])
end Go.Proofs.Ytlkebjkpmiehcaa.Pure
end
section
namespace Go.Proofs.Ytlkebjkpmiehcaa.Ms
open Go.RowKit Go.Proofs.YtlkebjkpmiehcaaW.PrintWords Go.Proofs.YtlkebjkpmiehcaaW.PrintLast Go.Proofs.YtlkebjkpmiehcaaW.PrintMore Go.Proofs.Ytlkebjkpmiehcaa.X
open Go.Proofs.Ytlkebjkpmiehcaa.Pure (nv numOf vecOf nv_bd nv_bd4 number_any vec_ok)
set_option linter.unusedVariables false
theorem xe_number : wire_number.f = E.wire_number.f := by kernel_rfl
theorem xe_vec : wire_Vec.f = E.wire_Vec.f := by kernel_rfl
structure Rp where
 s : ByteArray
 p : Int
 c : Int
 t : Bool
 l : Bool
abbrev RS (W : World) (r f : Nat) (R : Rp) : Prop := Rs W r f R.s R.p R.c R.t R.l
structure Rp.Ok (R : Rp) : Prop where
 lo : 0 ≤ R.p
 hi : R.p ≤ R.s.size
 sz : R.s.size ≤ 65536
def Rp.need (R : Rp) (b : Bool) : Rp := { R with c := needed R.c b }
def Rp.allow (R : Rp) (b : Bool) : Rp := { R with c := allowed R.c b }
def Rp.fail (R : Rp) (e : Int) : Rp := { R with c := bad R.c e }
def Rp.done (R : Rp) : Rp := R.need (R.p == (R.s.size : Int))
def Rp.more (R : Rp) : Bool := R.c == 0 && decide (R.p < (R.s.size : Int))
def Rp.numC (R : Rp) (n : Nat) : Int := needed R.c ((numOf R.s R.p n).2.2 == 0)
def Rp.numV (R : Rp) (n : Nat) : Int := sel (R.numC n) (numOf R.s R.p n).1 0
def Rp.numR (R : Rp) (n : Nat) : Rp := { R with p := sel (R.numC n) (numOf R.s R.p n).2.1 R.p,c := R.numC n }
def Rp.vecC (R : Rp) (n : Nat) (least most : Int) : Int := needed R.c (vecOk (vecOf R.s R.p n).1 (vecOf R.s R.p n).2.2 least most)
def Rp.vecV (R : Rp) (n : Nat) (least most : Int) : ByteArray := sel (R.vecC n least most) (vecOf R.s R.p n).1 ⟨#[]⟩
def Rp.vecR (R : Rp) (n : Nat) (least most : Int) : Rp := { R with p := sel (R.vecC n least most) (vecOf R.s R.p n).2.1 R.p,c := R.vecC n least most }
def Rp.outR (R : Rp) (n : Nat) : Rp := R.vecR n 0 16777216
def Rp.inR (R : Rp) (n : Nat) : Rp := ⟨R.vecV n 0 16777216,0,R.vecC n 0 16777216,R.t,false⟩
def Rp.back (R I : Rp) : Rp := { R with c := I.c,t := I.t }
def Rp.bytC (R : Rp) (n : Int) : Int := needed R.c (decide (n ≤ (R.s.size : Int) - R.p))
def Rp.bytV (R : Rp) (n : Int) : ByteArray := sel (R.bytC n) (R.s.extract R.p.toNat (R.p + n).toNat) ⟨#[]⟩
def Rp.bytR (R : Rp) (n : Int) : Rp := { R with p := sel (R.bytC n) (R.p + n) R.p,c := R.bytC n }
theorem needed_zero {c : Int} {b : Bool} (h : needed c b = 0) : c = 0 ∧ b = true := by
 unfold needed bad at h
 cases b
 ·simp only [Bool.false_eq_true,if_false] at h
  split at h
  ·simp at h
  ·exact absurd h ‹_›
 ·exact ⟨h,rfl⟩
theorem allowed_zero {c : Int} {b : Bool} (h : allowed c b = 0) : c = 0 ∧ b = true := by
 unfold allowed bad at h
 cases b
 ·simp only [Bool.false_eq_true,if_false] at h
  split at h
  ·simp at h
  ·exact absurd h ‹_›
 ·exact ⟨h,rfl⟩
theorem Rp.Ok.need {R : Rp} (h : R.Ok) (b : Bool) : (R.need b).Ok := ⟨h.lo,h.hi,h.sz⟩
theorem Rp.Ok.allow {R : Rp} (h : R.Ok) (b : Bool) : (R.allow b).Ok := ⟨h.lo,h.hi,h.sz⟩
theorem Rp.Ok.fail {R : Rp} (h : R.Ok) (e : Int) : (R.fail e).Ok := ⟨h.lo,h.hi,h.sz⟩
theorem Rp.Ok.done {R : Rp} (h : R.Ok) : R.done.Ok := ⟨h.lo,h.hi,h.sz⟩
theorem Rp.Ok.back {R : Rp} (h : R.Ok) (I : Rp) : (R.back I).Ok := ⟨h.lo,h.hi,h.sz⟩
theorem num_ok {s : ByteArray} {p : Int} {n : Nat} (h0 : 0 ≤ p) (h1 : p ≤ s.size) : (numOf s p n).2.2 = 0 ∧ numOf s p n = (nv s p n,p + n,0) ∧ p + n ≤ s.size ∨ (numOf s p n) = (0,0,100) := by
 unfold numOf
 by_cases hc : p < 0 ∨ p > s.size ∨ s.size - p < n
 ·rw [if_pos hc]
  exact .inr rfl
 ·rw [if_neg hc]
  exact .inl ⟨rfl,rfl,by omega⟩
theorem Rp.numV_bd (R : Rp) (n : Nat) : 0 ≤ R.numV n ∧ R.numV n < 256 ^ n := by
 have hp : (0 : Int) < 256 ^ n := by exact Int.pow_pos (by decide)
 unfold Rp.numV sel numOf
 repeat' split
 all_goals first | exact nv_bd _ _ _ | exact ⟨by simp,hp⟩
theorem Rp.Ok.numR {R : Rp} (h : R.Ok) (n : Nat) : (R.numR n).Ok := by
 refine ⟨?_,?_,h.sz⟩ <;> (unfold Rp.numR sel; dsimp only; split)
 all_goals rename_i hc
 all_goals first | exact h.lo | exact h.hi | skip
 all_goals
  have hz := (needed_zero hc).2
  rcases num_ok (s := R.s) (p := R.p) (n := n) h.lo h.hi with ⟨_,h2,h3⟩ | h2
  ·rw [h2]
   have := h.lo
   first | exact h3 | (show 0 ≤ R.p + (n : Int); omega)
  ·rw [h2] at hz
   exact absurd hz (by decide)
theorem vec_bd' {s : ByteArray} {p : Int} {n : Nat} (h0 : 0 ≤ p) (h : (vecOf s p n).2.2 = 0) : p + n ≤ (vecOf s p n).2.1 ∧ (vecOf s p n).2.1 ≤ s.size ∧ ((vecOf s p n).1.size : Int) = (vecOf s p n).2.1 - (p + n) ∧ nv s p n = (vecOf s p n).1.size := by
 unfold vecOf at h ⊢
 have v := nv_bd s p n
 by_cases hc : p < 0 ∨ p > s.size ∨ s.size - p < n
 ·rw [if_pos hc] at h
  simp at h
 ·rw [if_neg hc] at h ⊢
  by_cases hl : nv s p n > s.size - (p + n)
  ·rw [if_pos hl] at h
   simp at h
  ·rw [if_neg hl]
   have e : (s.extract (p + n).toNat (p + n + nv s p n).toNat).size = (nv s p n).toNat := by
    rw [ByteArray.size_extract]
    omega
   simp only [e]
   omega
theorem vecC_zero {R : Rp} {n : Nat} {least most : Int} (h : R.vecC n least most = 0) : R.c = 0 ∧ (vecOf R.s R.p n).2.2 = 0 ∧ least ≤ (vecOf R.s R.p n).1.size ∧ ((vecOf R.s R.p n).1.size : Int) ≤ most := by
 obtain ⟨h1,h2⟩ := needed_zero h
 unfold vecOk at h2
 simp only [Bool.and_eq_true,beq_iff_eq,decide_eq_true_eq] at h2
 exact ⟨h1,h2.1.1,h2.1.2,h2.2⟩
theorem Rp.Ok.vecR {R : Rp} (h : R.Ok) (n : Nat) (least most : Int) : (R.vecR n least most).Ok := by
 refine ⟨?_,?_,h.sz⟩ <;> (unfold Rp.vecR sel; dsimp only; split)
 all_goals rename_i hc
 all_goals first | exact h.lo | exact h.hi | skip
 all_goals
  obtain ⟨h2,h3,_⟩ := vec_bd' h.lo (vecC_zero hc).2.1
  have := h.lo
  first | exact h3 | omega
theorem Rp.vecV_size {R : Rp} (h : R.Ok) (n : Nat) (least most : Int) : (R.vecV n least most).size ≤ R.s.size := by
 unfold Rp.vecV sel
 split
 ·rename_i hc
  have hb := vec_bd' h.lo (vecC_zero hc).2.1
  have := h.lo
  omega
 ·exact Nat.zero_le _
theorem Rp.Ok.inR {R : Rp} (h : R.Ok) (n : Nat) : (R.inR n).Ok := ⟨Int.le_refl _,by show (0 : Int) ≤ _; omega,Nat.le_trans (Rp.vecV_size h n 0 16777216) h.sz⟩
theorem Rp.Ok.outR {R : Rp} (h : R.Ok) (n : Nat) : (R.outR n).Ok := h.vecR n 0 16777216
theorem Rp.Ok.bytR {R : Rp} (h : R.Ok) {n : Int} (hn : 0 ≤ n) : (R.bytR n).Ok := by
 have h1 := h.lo
 have h2 := h.hi
 refine ⟨?_,?_,h.sz⟩ <;> (unfold Rp.bytR sel; dsimp only; split)
 ·omega
 ·exact h1
 ·rename_i hc
  have h3 := of_decide_eq_true (needed_zero hc).2
  omega
 ·exact h2
theorem ev_at {α : Type} {f : Nat → Option α} {r : α} (h : Ev f r) : ∃ k,f k = some r := by
 obtain ⟨K,h⟩ := h
 exact ⟨K,h K (Nat.le_refl _)⟩
theorem num_at (n : Nat) (s : ByteArray) (p : Int) (h4 : n ≤ 4) (hs : s.size ≤ 65536) : ∃ k,wire_number.f k s p n = some (numOf s p n) := by
 rw [xe_number]
 exact ev_at (number_any s p n h4 (by omega))
theorem vec_at (n : Nat) (s : ByteArray) (p : Int) (h1 : 1 ≤ n) (h3 : n ≤ 3) (hs : s.size ≤ 65536) : ∃ k,wire_Vec.f k s p n = some (vecOf s p n) := by
 rw [xe_vec]
 exact ev_at (vec_ok h1 h3 (by omega))
section
variable (lo r f : Nat) (R : Rp) (w : World)
theorem u16_c (hl : lo ≤ f) (hl2 : lo ≤ r) (h : RS w r f R) (ho : R.Ok) :
  Calls Try.prog 70 #[.pointer (some ⟨r,0,none⟩)] w fun ex w' => ex = .returned (.int .i64 (R.numV 2)) ∧ RS w' r f (R.numR 2) ∧ Kf lo r f w w' := by
 obtain ⟨k,hk⟩ := num_at 2 R.s R.p (by omega) ho.sz
 exact u16_calls lo r f R.s R.p R.c R.t R.l w hl hl2 h k _ _ _ (by unfold wire_U16.f; rw [show ((2 : Nat) : Int) = 2 from rfl] at hk; rw [hk]; rfl)
theorem u8_c (hl : lo ≤ f) (hl2 : lo ≤ r) (h : RS w r f R) (ho : R.Ok) :
  Calls Try.prog 75 #[.pointer (some ⟨r,0,none⟩)] w fun ex w' => ex = .returned (.int .i64 (R.numV 1)) ∧ RS w' r f (R.numR 1) ∧ Kf lo r f w w' := by
 obtain ⟨k,hk⟩ := num_at 1 R.s R.p (by omega) ho.sz
 exact u8_calls lo r f R.s R.p R.c R.t R.l w hl hl2 h k _ _ _ (by unfold wire_U8.f; rw [show ((1 : Nat) : Int) = 1 from rfl] at hk; rw [hk]; rfl)
theorem u32_c (hl : lo ≤ f) (hl2 : lo ≤ r) (h : RS w r f R) (ho : R.Ok) :
  Calls Try.prog 104 #[.pointer (some ⟨r,0,none⟩)] w fun ex w' => ex = .returned (.int .i64 (R.numV 4)) ∧ RS w' r f (R.numR 4) ∧ Kf lo r f w w' := by
 obtain ⟨k,hk⟩ := num_at 4 R.s R.p (by omega) ho.sz
 exact u32_calls lo r f R.s R.p R.c R.t R.l w hl hl2 h k _ _ _ (by unfold wire_U32.f; rw [show ((4 : Nat) : Int) = 4 from rfl] at hk; rw [hk]; rfl)
theorem rvec_c (z : Int) (n : Nat) (hz : z = n) (least most : Int) (h1 : 1 ≤ n) (h3 : n ≤ 3) (hl : lo ≤ f) (hl2 : lo ≤ r) (h : RS w r f R) (ho : R.Ok) :
  Calls Try.prog 71 #[.pointer (some ⟨r,0,none⟩),.int .i64 z,.int .i64 least,.int .i64 most] w fun ex w' => ex = .returned (.string (R.vecV n least most)) ∧ RS w' r f (R.vecR n least most) ∧ Kf lo r f w w' := by
 subst hz
 obtain ⟨k,hk⟩ := vec_at n R.s R.p h1 h3 ho.sz
 exact rvec_calls lo r f R.s R.p R.c R.t R.l n least most w hl hl2 h k _ _ _ hk _ rfl
theorem rwithin_c (z : Int) (n : Nat) (hz : z = n) (h1 : 1 ≤ n) (h3 : n ≤ 3) (hl : lo ≤ f) (hl2 : lo ≤ r) (h : RS w r f R) (ho : R.Ok) :
  Calls Try.prog 66 #[.pointer (some ⟨r,0,none⟩),.int .i64 z] w fun ex w' => ∃ r2,ex = .returned (.pointer (some ⟨r2,0,none⟩)) ∧ w.heap.size ≤ r2 ∧ RS w' r f (R.outR n) ∧ RS w' r2 f (R.inR n) ∧ Kf lo r f w w' := by
 subst hz
 obtain ⟨k,hk⟩ := vec_at n R.s R.p h1 h3 ho.sz
 exact rwithin_calls lo r f R.s R.p R.c R.t R.l n w hl hl2 h k _ _ _ hk _ rfl
theorem rneed_c (b : Bool) (hl : lo ≤ f) (h : RS w r f R) :
  Calls Try.prog 72 #[.pointer (some ⟨r,0,none⟩),.bool b] w fun ex w' => ex = .returned (.tuple #[]) ∧ RS w' r f (R.need b) ∧ Kf lo r f w w' := rneed_calls lo r f R.s R.p R.c R.t R.l b w hl h
theorem allow_c (b : Bool) (hl : lo ≤ f) (h : RS w r f R) :
  Calls Try.prog 76 #[.pointer (some ⟨r,0,none⟩),.bool b] w fun ex w' => ex = .returned (.tuple #[]) ∧ RS w' r f (R.allow b) ∧ Kf lo r f w w' := allow_calls lo r f R.s R.p R.c R.t R.l b w hl h
theorem fail_c (e : Int) (hl : lo ≤ f) (h : RS w r f R) :
  Calls Try.prog 50 #[.pointer (some ⟨r,0,none⟩),.int .i64 e] w fun ex w' => ex = .returned (.tuple #[]) ∧ RS w' r f (R.fail e) ∧ Kf lo r f w w' := fail_calls lo r f R.s R.p R.c e R.t R.l w hl h
theorem done_c (hl : lo ≤ f) (h : RS w r f R) :
  Calls Try.prog 77 #[.pointer (some ⟨r,0,none⟩)] w fun ex w' => ex = .returned (.tuple #[]) ∧ RS w' r f R.done ∧ Kf lo r f w w' := done_calls lo r f R.s R.p R.c R.t R.l w hl h
theorem ok_c (h : RS w r f R) :
  Calls Try.prog 51 #[.pointer (some ⟨r,0,none⟩)] w fun ex w' => ex = .returned (.bool (R.c == 0)) ∧ w' = w := ok_calls 0 r f R.s R.p R.c R.t R.l w h
theorem more_c (h : RS w r f R) :
  Calls Try.prog 99 #[.pointer (some ⟨r,0,none⟩)] w fun ex w' => ex = .returned (.bool R.more) ∧ Below w.heap.size w w' := more_calls r f R.s R.p R.c R.t R.l w h
end
end Go.Proofs.Ytlkebjkpmiehcaa.Ms
end
section
namespace Go.Proofs.Ytlkebjkpmiehcaa.Ms
open Go.RowKit Go.Proofs.YtlkebjkpmiehcaaW.PrintWords Go.Proofs.YtlkebjkpmiehcaaW.PrintLast Go.Proofs.YtlkebjkpmiehcaaW.PrintMore Go.Proofs.Ytlkebjkpmiehcaa.X
open Go.Proofs.Ytlkebjkpmiehcaa.Pure (nv numOf vecOf nv_bd nv_bd4 number_any vec_ok)
set_option linter.unusedVariables false
theorem wr64 {x : Int} (h0 : -9223372036854775808 ≤ x) (h1 : x ≤ 9223372036854775807) : IntKind.i64.wrap x = x := IntWalk.i64_in _ (by omega)
set_option maxRecDepth 100000 in
set_option maxHeartbeats 8000000 in
theorem bytes_c (lo r f : Nat) (R : Rp) (w : World) (n : Int) (hn : 0 ≤ n) (hn2 : n ≤ 65536) (hl : lo ≤ f) (hl2 : lo ≤ r) (h : RS w r f R) (ho : R.Ok) :
  Calls Try.prog 73 #[.pointer (some ⟨r,0,none⟩),.int .i64 n] w fun ex w' => ex = .returned (.string (R.bytV n)) ∧ RS w' r f (R.bytR n) ∧ Kf lo r f w w' := by
 have H := Aq.mk h
 have HL := Aq.mk hl
 have HL2 := Aq.mk hl2
 have HLW := Aq.mk (show lo ≤ w.heap.size from Nat.le_of_lt (Nat.lt_of_le_of_lt HL.out (blk_lt H.out.ft)))
 obtain ⟨s,q,code,tw,last⟩ := R
 obtain ⟨b1,b2,b3⟩ := ho
 dsimp only at b1 b2 b3
 clear h hl hl2
 obtain ⟨ok,hok⟩ : ∃ ok,decide (n ≤ (s.size : Int) - q) = ok := ⟨_,rfl⟩
 have HOK := Aq.mk hok
 unfold Rp.bytV Rp.bytR Rp.bytC
 dsimp only
 rw [hok]
 clear hok
 go_enter Try.func73,Try.ntmps73
 go_wp2
 have z1 : IntKind.i64.wrap ((s.size : Int) - q) = (s.size : Int) - q := wr64 (by omega) (by omega)
 refine start_ (n := 14) (S := fun w' => Below w.heap.size w w') (ds := [13]) #[false,false,false,false,false,false,false,false,false,false,false,false,false,false] (by kernel_rfl) rfl rfl (Below.refl w.heap.size w).drew (fun hHeld => ?_)
 have HS := Aq.mk (Below.refl w.heap.size w).drew
 generalize w.drew = w7 at HS hHeld ⊢
 refine pure_ (i := 0) (N := (some 5)) (v := ?_) (a' := ?_) #[true,false,false,false,false,false,false,false,false,false,false,false,false,false] rfl rfl (by kernel_rfl) (fun _ _ _ h => h) (Or.inl ⟨by rfl,?_⟩) ?_ ?_
 rotate_left
 ·intro w'
  go_simp
  with_reducible rfl
 rotate_left
 ·simp only [Act.put,LS_]
  rfl
 refine pure_ (i := 1) (N := (some 6)) (v := ?_) (a' := ?_) #[true,true,false,false,false,false,false,false,false,false,false,false,false,false] rfl rfl (by kernel_rfl) (fun _ _ _ h => h) (Or.inl ⟨by rfl,?_⟩) ?_ ?_
 rotate_left
 ·intro w'
  go_simp
  with_reducible rfl
 rotate_left
 ·simp only [Act.put,LS_]
  rfl
 refine pure_ (i := 2) (N := (some 7)) (v := ?_) (a' := ?_) #[true,true,true,false,false,false,false,false,false,false,false,false,false,false] rfl rfl (by kernel_rfl) (fun _ _ _ h => h) (Or.inl ⟨by rfl,?_⟩) ?_ ?_
 rotate_left
 ·intro w'
  go_simp
  with_reducible rfl
 rotate_left
 ·simp only [Act.put,LS_]
  rfl
 refine pure_ (i := 3) (N := (some 8)) (v := ?_) (a' := ?_) #[true,true,true,true,false,false,false,false,false,false,false,false,false,false] rfl rfl (by kernel_rfl) (fun _ _ _ h => h) (Or.inl ⟨by rfl,?_⟩) ?_ ?_
 rotate_left
 ·intro w'
  go_simp
  with_reducible rfl
 rotate_left
 ·simp only [Act.put,LS_]
  rfl
 refine pure_ (i := 4) (N := (some 9)) (v := ?_) (a' := ?_) #[true,true,true,true,true,false,false,false,false,false,false,false,false,false] rfl rfl (by kernel_rfl) (fun _ _ _ h => h) (Or.inl ⟨by rfl,?_⟩) ?_ ?_
 rotate_left
 ·intro w'
  go_simp
  with_reducible rfl
 rotate_left
 ·simp only [Act.put,LS_]
  rfl
 refine take_ (i := 5) (N := (some 10)) (v := ?_) (a' := ?_) #[true,true,true,true,true,true,false,false,false,false,false,false,false,false] rfl rfl (by kernel_rfl) (fun _ _ _ h => h) (Or.inl ⟨by rfl,?_⟩) hHeld ?_ ?_
 rotate_left
 ·rintro w' hS
  have hc := rcell H.out.rd hS
  obtain ⟨hc1,hc2,hc3⟩ := hc
  go_simp
  with_reducible rfl
 rotate_left
 ·simp only [Act.put,LS_]
  rfl
 refine pure_ (i := 6) (N := (some 11)) (v := ?_) (a' := ?_) #[true,true,true,true,true,true,true,false,false,false,false,false,false,false] rfl rfl (by kernel_rfl) (fun _ _ _ h => h) (Or.inl ⟨by rfl,?_⟩) ?_ ?_
 rotate_left
 ·intro w'
  go_simp
  with_reducible rfl
 rotate_left
 ·simp only [Act.put,LS_]
  rfl
 refine pure_ (i := 7) (N := (some 12)) (v := ?_) (a' := ?_) #[true,true,true,true,true,true,true,true,false,false,false,false,false,false] rfl rfl (by kernel_rfl) (fun _ _ _ h => h) (Or.inl ⟨by rfl,?_⟩) ?_ ?_
 rotate_left
 ·intro w'
  go_simp
  with_reducible rfl
 rotate_left
 ·simp only [Act.put,LS_]
  rfl
 refine pure_ (i := 8) (N := (some 13)) (v := ?_) (a' := ?_) #[true,true,true,true,true,true,true,true,true,false,false,false,false,false] rfl rfl (by kernel_rfl) (fun _ _ _ h => h) (Or.inl ⟨by rfl,?_⟩) ?_ ?_
 rotate_left
 ·intro w'
  go_simp
  with_reducible rfl
 rotate_left
 ·simp only [Act.put,LS_]
  rfl
 refine pure_ (i := 9) (N := (some 14)) (v := ?_) (a' := ?_) #[true,true,true,true,true,true,true,true,true,true,false,false,false,false] rfl rfl (by kernel_rfl) (fun _ _ _ h => h) (Or.inl ⟨by rfl,?_⟩) ?_ ?_
 rotate_left
 ·intro w'
  go_simp
  with_reducible rfl
 rotate_left
 ·simp only [Act.put,LS_]
  rfl
 refine take_ (i := 10) (N := (some 15)) (v := ?_) (a' := ?_) #[true,true,true,true,true,true,true,true,true,true,true,false,false,false] rfl rfl (by kernel_rfl) (fun _ _ _ h => h) (Or.inl ⟨by rfl,?_⟩) hHeld ?_ ?_
 rotate_left
 ·rintro w' hS
  have hc := rcell H.out.rd hS
  obtain ⟨hc1,hc2,hc3⟩ := hc
  go_simp
  with_reducible rfl
 rotate_left
 ·simp only [Act.put,LS_]
  rfl
 refine pure_ (i := 11) (N := (some 16)) (v := ?_) (a' := ?_) #[true,true,true,true,true,true,true,true,true,true,true,true,false,false] rfl rfl (by kernel_rfl) (fun _ _ _ h => h) (Or.inl ⟨by rfl,?_⟩) ?_ ?_
 rotate_left
 ·intro w'
  go_simp
  with_reducible rfl
 rotate_left
 ·simp only [Act.put,LS_]
  rfl
 refine pure_ (i := 12) (N := (some 17)) (v := ?_) (a' := ?_) #[true,true,true,true,true,true,true,true,true,true,true,true,true,false] rfl rfl (by kernel_rfl) (fun _ _ _ h => h) (Or.inl ⟨by rfl,?_⟩) ?_ ?_
 rotate_left
 ·intro w'
  go_simp
  with_reducible rfl
 rotate_left
 ·simp only [Act.put,LS_]
  rfl
 refine last_ (i := 13) (N := (some 18)) #[true,true,true,true,true,true,true,true,true,true,true,true,true,true] rfl rfl (by kernel_rfl) (by decide) (fun K hK => ?_)
 refine goes_ (f := 72) Try.func72 (by kernel_rfl) rfl #[.pointer (some ⟨r,0,none⟩),.bool (decide (n ≤ (s.size : Int) - q))] (by rfl) rfl rfl (by (try simp only [List.map_toArray,List.map_cons,List.map_nil]); first | done | rfl) ?_
 refine (rneed_calls lo r f s q code tw last (decide (n ≤ (s.size : Int) - q)) _ HL.out (H.out.below HS.out)).mono ?_
 rintro e w8 ⟨rfl,i8,k8⟩
 refine ⟨_,rfl,?_⟩
 rw [HOK.out] at i8
 have H8 := Aq.mk i8
 have K8 := Aq.mk ((Kf.of_below (r := r) (f := f) HLW.out HS.out).trans k8)
 clear i8 k8
 refine hK.out _ _ ?_
 clear hK K
 refine norm_ (a' := ?_) ?_ ?_
 rotate_left
 ·show Act.put _ (some 18) _ = _
  simp only [Act.put,LS_]
  rfl
 refine done_ (by kernel_rfl) ?_
 clear z1
 by_cases c : needed code ok = 0
 ·have c0 : (needed code ok == 0) = true := beq_iff_eq.mpr c
  have HCc := Aq.mk c
  have b4 : n ≤ (s.size : Int) - q := of_decide_eq_true (HOK.out.trans (needed_zero c).2)
  clear c
  have zz : IntKind.i64.wrap (q + n) = q + n := wr64 (by omega) (by omega)
  go_wp2_with (first
   | (go_at_call 51; (with_reducible refine (ok_calls lo r f s q _ tw last _ H8.out).mono ?_); rintro e10 w10 ⟨rfl,rfl⟩)
   | ((with_reducible refine gate_dst (N := 25) rfl ?_); refine ld (v := .int .i64 q) rfl rfl rfl H8.out.rd Try.underlying3 rfl rfl ?_)
   | ((with_reducible refine gate_store (p := 29) rfl ?_); refine st (v := .int .i64 (q + n)) rfl rfl rfl H8.out.rd sz3' rfl rfl rfl (by simp) ?_; intro w3 h3 b3 k3; have H3 := Aq.mk (Rs.mk h3 ((k3.2 f (blk_lt H8.out.ft) (Ne.symm H8.out.ne) (by simp)).trans H8.out.ft)); have K3 := Aq.mk (K8.out.trans (Kf.of_keep (f := f) (.inl rfl) (b3 _ HL2.out) k3)); clear h3 b3 k3))
  have z2 : IntKind.i64.wrap q = q := wr64 (by omega) (by omega)
  have z3 : q ≤ q + n := by omega
  have z4 : q + n ≤ (s.size : Int) := by omega
  refine start_ (n := 16) (S := fun w' => Below w3.heap.size w3 w') (ds := []) #[false,false,false,false,false,false,false,false,false,false,false,false,false,false,false,false] (by kernel_rfl) rfl rfl (Below.refl w3.heap.size w3).drew (fun hHeld => ?_)
  have HS3 := Aq.mk (Below.refl w3.heap.size w3).drew
  generalize w3.drew = w5 at HS3 hHeld ⊢
  refine pure_ (i := 0) (N := (some 30)) (v := ?_) (a' := ?_) #[true,false,false,false,false,false,false,false,false,false,false,false,false,false,false,false] rfl rfl (by kernel_rfl) (fun _ _ _ h => h) (Or.inl ⟨by rfl,?_⟩) ?_ ?_
  rotate_left
  ·intro w'
   go_simp
   with_reducible rfl
  rotate_left
  ·simp only [Act.put,LS_]
   rfl
  refine pure_ (i := 1) (N := (some 31)) (v := ?_) (a' := ?_) #[true,true,false,false,false,false,false,false,false,false,false,false,false,false,false,false] rfl rfl (by kernel_rfl) (fun _ _ _ h => h) (Or.inl ⟨by rfl,?_⟩) ?_ ?_
  rotate_left
  ·intro w'
   go_simp
   with_reducible rfl
  rotate_left
  ·simp only [Act.put,LS_]
   rfl
  refine pure_ (i := 2) (N := (some 32)) (v := ?_) (a' := ?_) #[true,true,true,false,false,false,false,false,false,false,false,false,false,false,false,false] rfl rfl (by kernel_rfl) (fun _ _ _ h => h) (Or.inl ⟨by rfl,?_⟩) ?_ ?_
  rotate_left
  ·intro w'
   go_simp
   with_reducible rfl
  rotate_left
  ·simp only [Act.put,LS_]
   rfl
  refine take_ (i := 3) (N := (some 33)) (v := ?_) (a' := ?_) #[true,true,true,true,false,false,false,false,false,false,false,false,false,false,false,false] rfl rfl (by kernel_rfl) (fun _ _ _ h => h) (Or.inl ⟨by rfl,?_⟩) hHeld ?_ ?_
  rotate_left
  ·rintro w' hS
   have hc := rcell H3.out.rd hS
   obtain ⟨hc1,hc2,hc3⟩ := hc
   go_simp
   with_reducible rfl
  rotate_left
  ·simp only [Act.put,LS_]
   rfl
  refine pure_ (i := 4) (N := (some 34)) (v := ?_) (a' := ?_) #[true,true,true,true,true,false,false,false,false,false,false,false,false,false,false,false] rfl rfl (by kernel_rfl) (fun _ _ _ h => h) (Or.inl ⟨by rfl,?_⟩) ?_ ?_
  rotate_left
  ·intro w'
   go_simp
   with_reducible rfl
  rotate_left
  ·simp only [Act.put,LS_]
   rfl
  refine pure_ (i := 5) (N := (some 35)) (v := ?_) (a' := ?_) #[true,true,true,true,true,true,false,false,false,false,false,false,false,false,false,false] rfl rfl (by kernel_rfl) (fun _ _ _ h => h) (Or.inl ⟨by rfl,?_⟩) ?_ ?_
  rotate_left
  ·intro w'
   go_simp
   with_reducible rfl
  rotate_left
  ·simp only [Act.put,LS_]
   rfl
  refine pure_ (i := 6) (N := (some 36)) (v := ?_) (a' := ?_) #[true,true,true,true,true,true,true,false,false,false,false,false,false,false,false,false] rfl rfl (by kernel_rfl) (fun _ _ _ h => h) (Or.inl ⟨by rfl,?_⟩) ?_ ?_
  rotate_left
  ·intro w'
   go_simp
   with_reducible rfl
  rotate_left
  ·simp only [Act.put,LS_]
   rfl
  refine take_ (i := 7) (N := (some 37)) (v := ?_) (a' := ?_) #[true,true,true,true,true,true,true,true,false,false,false,false,false,false,false,false] rfl rfl (by kernel_rfl) (fun _ _ _ h => h) (Or.inl ⟨by rfl,?_⟩) hHeld ?_ ?_
  rotate_left
  ·rintro w' hS
   have hc := rcell H3.out.rd hS
   obtain ⟨hc1,hc2,hc3⟩ := hc
   go_simp
   with_reducible rfl
  rotate_left
  ·simp only [Act.put,LS_]
   rfl
  refine pure_ (i := 8) (N := (some 38)) (v := ?_) (a' := ?_) #[true,true,true,true,true,true,true,true,true,false,false,false,false,false,false,false] rfl rfl (by kernel_rfl) (fun _ _ _ h => h) (Or.inl ⟨by rfl,?_⟩) ?_ ?_
  rotate_left
  ·intro w'
   go_simp
   with_reducible rfl
  rotate_left
  ·simp only [Act.put,LS_]
   rfl
  refine pure_ (i := 9) (N := (some 39)) (v := ?_) (a' := ?_) #[true,true,true,true,true,true,true,true,true,true,false,false,false,false,false,false] rfl rfl (by kernel_rfl) (fun _ _ _ h => h) (Or.inl ⟨by rfl,?_⟩) ?_ ?_
  rotate_left
  ·intro w'
   go_simp
   with_reducible rfl
  rotate_left
  ·simp only [Act.put,LS_]
   rfl
  refine pure_ (i := 10) (N := (some 40)) (v := ?_) (a' := ?_) #[true,true,true,true,true,true,true,true,true,true,true,false,false,false,false,false] rfl rfl (by kernel_rfl) (fun _ _ _ h => h) (Or.inl ⟨by rfl,?_⟩) ?_ ?_
  rotate_left
  ·intro w'
   go_simp
   with_reducible rfl
  rotate_left
  ·simp only [Act.put,LS_]
   rfl
  refine pure_ (i := 11) (N := (some 41)) (v := ?_) (a' := ?_) #[true,true,true,true,true,true,true,true,true,true,true,true,false,false,false,false] rfl rfl (by kernel_rfl) (fun _ _ _ h => h) (Or.inl ⟨by rfl,?_⟩) ?_ ?_
  rotate_left
  ·intro w'
   go_simp
   with_reducible rfl
  rotate_left
  ·simp only [Act.put,LS_]
   rfl
  refine pure_ (i := 12) (N := (some 42)) (v := ?_) (a' := ?_) #[true,true,true,true,true,true,true,true,true,true,true,true,true,false,false,false] rfl rfl (by kernel_rfl) (fun _ _ _ h => h) (Or.inl ⟨by rfl,?_⟩) ?_ ?_
  rotate_left
  ·intro w'
   go_simp
   with_reducible rfl
  rotate_left
  ·simp only [Act.put,LS_]
   rfl
  refine take_ (i := 13) (N := (some 43)) (v := ?_) (a' := ?_) #[true,true,true,true,true,true,true,true,true,true,true,true,true,true,false,false] rfl rfl (by kernel_rfl) (fun _ _ _ h => h) (Or.inl ⟨by rfl,?_⟩) hHeld ?_ ?_
  rotate_left
  ·rintro w' hS
   have hc := rcell H3.out.rd hS
   obtain ⟨hc1,hc2,hc3⟩ := hc
   go_simp
   with_reducible rfl
  rotate_left
  ·simp only [Act.put,LS_]
   rfl
  refine pure_ (i := 14) (N := (some 44)) (v := ?_) (a' := ?_) #[true,true,true,true,true,true,true,true,true,true,true,true,true,true,true,false] rfl rfl (by kernel_rfl) (fun _ _ _ h => h) (Or.inl ⟨by rfl,?_⟩) ?_ ?_
  rotate_left
  ·intro w'
   have bb := b1
   go_simp
   with_reducible rfl
  rotate_left
  ·simp only [Act.put,LS_]
   rfl
  refine pure_ (i := 15) (N := (some 4)) (v := ?_) (a' := ?_) #[true,true,true,true,true,true,true,true,true,true,true,true,true,true,true,true] rfl rfl (by kernel_rfl) (fun _ _ _ h => h) (Or.inl ⟨by rfl,?_⟩) ?_ ?_
  rotate_left
  ·intro w'
   go_simp
   with_reducible rfl
  rotate_left
  ·simp only [Act.put,LS_]
   rfl
  refine done_ (by kernel_rfl) ?_
  go_wp2
  go_ret
  exact ⟨by rw [sel_pos HCc.out]; rfl,by rw [sel_pos HCc.out]; exact H3.out.below HS3.out,K3.out.trans (Kf.of_below (Nat.le_trans (show lo ≤ f from HL.out) (Nat.le_of_lt (blk_lt H3.out.ft))) HS3.out)⟩
 ·have c0 : (needed code ok == 0) = false := beq_eq_false_iff_ne.mpr c
  have HCc := Aq.mk c
  clear c
  go_wp2_with (first
   | (go_at_call 51; (with_reducible refine (ok_calls lo r f s q _ tw last _ H8.out).mono ?_); rintro e10 w10 ⟨rfl,rfl⟩))
  go_ret
  exact ⟨by rw [sel_neg HCc.out]; rfl,by rw [sel_neg HCc.out]; exact H8.out,K8.out⟩
theorem RS.sz {W : World} {r f : Nat} {R : Rp} (h : RS W r f R) : r < W.heap.size ∧ f < W.heap.size := ⟨blk_lt h.rd,blk_lt h.ft⟩
theorem RS.wsz {W : World} {r f lo : Nat} {R : Rp} (h : RS W r f R) (hl : lo ≤ f) : lo ≤ W.heap.size := Nat.le_of_lt (Nat.lt_of_le_of_lt hl (blk_lt h.ft))
theorem RS.back {w1 w2 : World} {lo r r2 f : Nat} {P I I' : Rp} (h : RS w1 r f P) (hn : r ≠ r2) (k : Kf lo r2 f w1 w2) (h2 : RS w2 r2 f I') : RS w2 r f (P.back I') := ⟨k.keep r _ h.rd hn h.ne,h2.ft⟩
theorem Kf.inner {lo r r2 f : Nat} {w w1 w2 : World} (h : Kf lo r f w w1) (hn : w.heap.size ≤ r2) (k : Kf lo r2 f w1 w2) : Kf lo r f w w2 :=
 ⟨h.below.trans k.below,fun i o hi hr hf => k.keep i o (h.keep i o hi hr hf) (by have := blk_lt hi; omega) hf⟩
theorem Kf.size {lo r f : Nat} {w w1 : World} (h : Kf lo r f w w1) : w.heap.size ≤ w1.heap.size := h.below.size
def Rp.verR (R : Rp) : Rp := (R.numR 2).allow (R.numV 2 == 771)
theorem Rp.Ok.verR {R : Rp} (h : R.Ok) : R.verR.Ok := (h.numR 2).allow _
set_option maxRecDepth 100000 in
set_option maxHeartbeats 8000000 in
theorem version_c (lo r f : Nat) (R : Rp) (w : World) (hl : lo ≤ f) (hl2 : lo ≤ r) (h : RS w r f R) (ho : R.Ok) :
  Calls Try.prog 93 #[.pointer (some ⟨r,0,none⟩)] w fun ex w' => ex = .returned (.tuple #[]) ∧ RS w' r f R.verR ∧ Kf lo r f w w' := by
 have H := Aq.mk h
 have HL := Aq.mk hl
 have HL2 := Aq.mk hl2
 have HO := Aq.mk ho
 clear h hl hl2 ho
 go_enter Try.func93,Try.ntmps93
 go_wp2_with (first
  | (go_at_call 70; (with_reducible refine (u16_c lo r f R _ HL.out HL2.out H.out HO.out).mono ?_); rintro e1 w1 ⟨rfl,i1,k1⟩; have H1 := Aq.mk i1; have K1 := Aq.mk k1; clear i1 k1)
  | (go_at_call 76; (with_reducible refine (allow_c lo r f (R.numR 2) _ (R.numV 2 == 771) HL.out H1.out).mono ?_); rintro e2 w2 ⟨rfl,i2,k2⟩; have H2 := Aq.mk i2; have K2 := Aq.mk (K1.out.trans k2); clear i2 k2))
 first | go_end0 | ((try simp only [Exit.inBlock,Exit.then]); refine bodyPost_ret (results_none rfl _ _ _) rfl ?_)
 exact ⟨rfl,H2.out,K2.out⟩
def Rp.barE (R : Rp) : Int := (Go.Proofs.Ytlkebjkpmiehcaa.Pure.getOf (R.vecV 2 0 65536)).2
def Rp.setT (R : Rp) : Rp := { R with t := true }
def Rp.barR (R : Rp) : Rp := if R.barE = 1601 then (R.vecR 2 0 65536).setT else if R.barE = 1600 then (R.vecR 2 0 65536).fail 1700 else R.vecR 2 0 65536
theorem Rp.Ok.barR {R : Rp} (h : R.Ok) : R.barR.Ok := by
 unfold Rp.barR
 have h2 := h.vecR 2 0 65536
 split
 ·exact ⟨h2.lo,h2.hi,h2.sz⟩
 ·split
  ·exact h2.fail _
  ·exact h2
theorem get_at (s : ByteArray) (hs : s.size ≤ 65536) : ∃ k,E.ext_Get.f k s = some ((Go.Proofs.Ytlkebjkpmiehcaa.Pure.getOf s).1,(Go.Proofs.Ytlkebjkpmiehcaa.Pure.getOf s).2) := ev_at (Go.Proofs.Ytlkebjkpmiehcaa.Pure.get_any s (by omega))
theorem sz4 : (Try.prog.info? 4).map (·.size) = some 1 := by kernel_rfl
set_option maxRecDepth 100000 in
set_option maxHeartbeats 8000000 in
theorem bare_c (lo r f : Nat) (R : Rp) (w : World) (hl : lo ≤ f) (hl2 : lo ≤ r) (h : RS w r f R) (ho : R.Ok) :
  Calls Try.prog 102 #[.pointer (some ⟨r,0,none⟩)] w fun ex w' => ex = .returned (.tuple #[]) ∧ RS w' r f R.barR ∧ Kf lo r f w w' := by
 have H := Aq.mk h
 have HL := Aq.mk hl
 have HL2 := Aq.mk hl2
 have HO := Aq.mk ho
 clear h hl hl2 ho
 obtain ⟨k,hk⟩ := get_at (R.vecV 2 0 65536) (Nat.le_trans (Rp.vecV_size HO.out 2 0 65536) HO.out.sz)
 obtain ⟨e,he⟩ : ∃ e,(Go.Proofs.Ytlkebjkpmiehcaa.Pure.getOf (R.vecV 2 0 65536)).2 = e := ⟨_,rfl⟩
 rw [he] at hk
 have HG := Aq.mk hk
 have HE := Aq.mk (show R.barE = e from he)
 clear hk he
 unfold Rp.barR
 rw [HE.out]
 by_cases c1 : e = 1601
 ·subst c1
  rw [if_pos rfl]
  go_enter Try.func102,Try.ntmps102
  go_wp2_with (first
    | (go_at_call 71; (with_reducible refine (rvec_c lo r f R _ 2 2 rfl 0 65536 (by omega) (by omega) HL.out HL2.out H.out HO.out).mono ?_); rintro e1 w1 ⟨rfl,i1,k1⟩; have H1 := Aq.mk i1; have K1 := Aq.mk k1; clear i1 k1)
    | (go_at_call 12; (with_reducible refine (E.ext_Get.calls k _ _ _ _ HG.out).mono ?_); rintro e2 w2 ⟨v2,rfl,r2,b2⟩; have H2 := Aq.mk (H1.out.below b2); have K2 := Aq.mk (K1.out.trans (Kf.of_below (r := r) (f := f) (H1.out.wsz HL.out) b2)); clear r2 b2)
    | ((with_reducible refine gate_dst (N := 18) rfl ?_); refine ld (v := .pointer (some ⟨f,0,none⟩)) rfl rfl rfl H2.out.rd Try.underlying88 rfl rfl ?_)
    | ((with_reducible refine gate_store (p := 20) rfl ?_); refine st (v := .bool true) rfl rfl rfl H2.out.ft sz4 rfl rfl rfl (by simp) ?_; intro w3 h3 b3 k3; have H3 := Aq.mk (Rs.mk ((k3.2 r (blk_lt H2.out.rd) H2.out.ne (by simp)).trans H2.out.rd) h3); have K3 := Aq.mk (K2.out.trans (Kf.of_keep (r := r) (.inr rfl) (b3 _ HL.out) k3)); clear h3 b3 k3))
  first | go_end0 | ((try simp only [Exit.inBlock,Exit.then]); refine bodyPost_ret (results_none rfl _ _ _) rfl ?_)
  exact ⟨rfl,H3.out,K3.out⟩
 ·by_cases c2 : e = 1600
  ·subst c2
   rw [if_neg (by decide),if_pos rfl]
   go_enter Try.func102,Try.ntmps102
   go_wp2_with (first
     | (go_at_call 71; (with_reducible refine (rvec_c lo r f R _ 2 2 rfl 0 65536 (by omega) (by omega) HL.out HL2.out H.out HO.out).mono ?_); rintro e1 w1 ⟨rfl,i1,k1⟩; have H1 := Aq.mk i1; have K1 := Aq.mk k1; clear i1 k1)
     | (go_at_call 12; (with_reducible refine (E.ext_Get.calls k _ _ _ _ HG.out).mono ?_); rintro e2 w2 ⟨v2,rfl,r2,b2⟩; have H2 := Aq.mk (H1.out.below b2); have K2 := Aq.mk (K1.out.trans (Kf.of_below (r := r) (f := f) (H1.out.wsz HL.out) b2)); clear r2 b2)
     | (go_at_call 50; (with_reducible refine (fail_c lo r f (R.vecR 2 0 65536) _ 1700 HL.out H2.out).mono ?_); rintro e3 w3 ⟨rfl,i3,k3⟩; have H3 := Aq.mk i3; have K3 := Aq.mk (K2.out.trans k3); clear i3 k3))
   first | go_end0 | ((try simp only [Exit.inBlock,Exit.then]); refine bodyPost_ret (results_none rfl _ _ _) rfl ?_)
   exact ⟨rfl,H3.out,K3.out⟩
  ·rw [if_neg c1,if_neg c2]
   have d1 : (e == 1601) = false := beq_eq_false_iff_ne.mpr c1
   have d2 : (e == 1600) = false := beq_eq_false_iff_ne.mpr c2
   clear c1 c2
   go_enter Try.func102,Try.ntmps102
   go_wp2_with (first
     | (go_at_call 71; (with_reducible refine (rvec_c lo r f R _ 2 2 rfl 0 65536 (by omega) (by omega) HL.out HL2.out H.out HO.out).mono ?_); rintro e1 w1 ⟨rfl,i1,k1⟩; have H1 := Aq.mk i1; have K1 := Aq.mk k1; clear i1 k1)
     | (go_at_call 12; (with_reducible refine (E.ext_Get.calls k _ _ _ _ HG.out).mono ?_); rintro e2 w2 ⟨v2,rfl,r2,b2⟩; have H2 := Aq.mk (H1.out.below b2); have K2 := Aq.mk (K1.out.trans (Kf.of_below (r := r) (f := f) (H1.out.wsz HL.out) b2)); clear r2 b2))
   first | go_end0 | ((try simp only [Exit.inBlock,Exit.then]); refine bodyPost_ret (results_none rfl _ _ _) rfl ?_)
   exact ⟨rfl,H2.out,K2.out⟩
section
variable {ops : Array Oper} {rest : List Oper} {o : Oper} {a : Act} {Q : Exit → Act → World → Prop} {w : World}
theorem wsz66 : (Try.prog.info? 66).map (·.size) = some 2 := by kernel_rfl
theorem wsz111 : (Try.prog.info? 111).map (·.size) = some 2 := by kernel_rfl
theorem zero66 : (Try.prog.info? 66).map (·.zero) = some (some (.agg #[.int .i64 0,.string ⟨#[]⟩])) := by kernel_rfl
theorem zero111 : (Try.prog.info? 111).map (·.zero) = some (some (.agg #[.string ⟨#[]⟩,.int .i64 0])) := by kernel_rfl
theorem allocT {t : TypeId} {zs : Array Value} (hz : (Try.prog.info? t).map (·.zero) = some (some (.agg zs))) (hgd : o.guard = none) (ho : o.op = .alloc t)
  (H : ∀ g,g = w.heap.size → ∀ w1,w1.heap[g]? = some (.cells zs t (0,0)) → Below w.heap.size w w1 → wpList Try.prog ops Q rest (a.put o.dst (.pointer (some ⟨g,0,none⟩))) w1) : wpList Try.prog ops Q (o :: rest) a w := by
 refine Kd.event_run hgd ?_ (H _ rfl _ (blk_new w (.cells zs t)) (below_alloc (Below.refl _ _) _))
 obtain ⟨i0,hi,hz⟩ := Option.map_eq_some_iff.1 hz
 unfold execOp
 simp only [ho,Instr.alloc,zeroValue,typeInfo,Sem.run_bind]
 simp [hi,hz]
 rfl
theorem stRow2 {n : TypeId} (hsz : (Try.prog.info? n).map (·.size) = some 2) (hgd : o.guard = none) {p x : Operand} (ho : o.op = .store n p x) {g : Nat} (hp : a.eval p = .pointer (some ⟨g,0,none⟩))
  {cs zs : Array Value} (hx : a.eval x = .agg cs) {t : TypeId} (h : w.heap[g]? = some (.cells zs t (0,0))) (hz : zs.size = 2) (hc : cs.size = 2) (h1 : cs.toList.all (·.oneCell') = true)
  (H : ∀ w1,w1.heap[g]? = some (.cells cs t (0,0)) → (∀ lo,lo ≤ g → Below lo w w1) → KeepBut w w1 g none → wpList Try.prog ops Q rest (a.put o.dst undef) w1) : wpList Try.prog ops Q (o :: rest) a w := by
 refine wpList_plain hgd fun K hK => wp_store_row n p x ho g cs hp hx t zs h (by rw [hc]; exact hsz) (by rw [hz,hc]) (by rw [← Array.all_toList]; exact h1) (hK _ _ (H _ ?_ ?_ ?_))
 ·simp [World.setRow,Array.getElem?_modify,h]
 ·intro lo hl
  refine ⟨rfl,rfl,rfl,by simp [World.setRow],fun k hk => ?_⟩
  simp only [World.setRow,Array.getElem?_modify]
  rw [if_neg (by omega)]
 ·refine ⟨by simp [World.setRow],fun k hk hne _ => ?_⟩
  simp only [World.setRow,Array.getElem?_modify]
  rw [if_neg (Ne.symm hne)]
end
def Rp.shaV (R : Rp) : S66 := ⟨R.numV 2,(R.numR 2).vecV 2 1 65536⟩
def Rp.shaR (R : Rp) : Rp := (R.numR 2).vecR 2 1 65536
def Rp.ideV (R : Rp) : S111 := ⟨R.vecV 2 1 65536,(R.vecR 2 1 65536).numV 4⟩
def Rp.ideR (R : Rp) : Rp := (R.vecR 2 1 65536).numR 4
theorem Rp.Ok.shaR {R : Rp} (h : R.Ok) : R.shaR.Ok := (h.numR 2).vecR _ _ _
theorem Rp.Ok.ideR {R : Rp} (h : R.Ok) : R.ideR.Ok := (h.vecR _ _ _).numR 4
set_option maxRecDepth 100000 in
set_option maxHeartbeats 8000000 in
theorem share_c (lo r f : Nat) (R : Rp) (w : World) (hl : lo ≤ f) (hl2 : lo ≤ r) (h : RS w r f R) (ho : R.Ok) :
  Calls Try.prog 114 #[.pointer (some ⟨r,0,none⟩)] w fun ex w' => ex = .returned (.agg #[.int .i64 R.shaV.f0,.string R.shaV.f1]) ∧ RS w' r f R.shaR ∧ Kf lo r f w w' := by
 have H := Aq.mk h
 have HL := Aq.mk hl
 have HL2 := Aq.mk hl2
 have HO := Aq.mk ho
 clear h hl hl2 ho
 go_enter Try.func114,Try.ntmps114
 go_wp2_with (first
  | ((with_reducible refine gate_dst (N := 2) rfl ?_); refine allocT zero66 rfl rfl ?_; intro g eg w0 h0 b0; have HG := Aq.mk h0; have HE := Aq.mk eg; have H0 := Aq.mk (H.out.below b0); have K0 := Aq.mk (Kf.of_below (r := r) (f := f) (H.out.wsz HL.out) b0); clear h0 b0 eg)
  | (go_at_call 70; (with_reducible refine (u16_c lo r f R _ HL.out HL2.out H0.out HO.out).mono ?_); rintro e1 w1 ⟨rfl,i1,k1⟩; have HG1 := Aq.mk (k1.keep g _ HG.out (by have := HE.out; have := H.out.sz; omega) (by have := HE.out; have := H.out.sz; omega)); have H1 := Aq.mk i1; have K1 := Aq.mk (K0.out.trans k1); clear i1 k1)
  | (go_at_call 71; (with_reducible refine (rvec_c lo r f (R.numR 2) _ 2 2 rfl 1 65536 (by omega) (by omega) HL.out HL2.out H1.out (HO.out.numR 2)).mono ?_); rintro e2 w2 ⟨rfl,i2,k2⟩; have HG2 := Aq.mk (k2.keep g _ HG1.out (by have := HE.out; have := H.out.sz; omega) (by have := HE.out; have := H.out.sz; omega)); have H2 := Aq.mk i2; have K2 := Aq.mk (K1.out.trans k2); clear i2 k2)
  | ((with_reducible refine gate_store (p := 2) rfl ?_); refine stRow2 wsz66 rfl rfl rfl rfl HG2.out rfl rfl rfl ?_; intro w3 h3 b3 k3; have HG3 := Aq.mk h3; have H3 := Aq.mk (Rs.mk ((k3.2 r (blk_lt H2.out.rd) (by have := HE.out; have := H.out.sz; omega) (by simp)).trans H2.out.rd) ((k3.2 f (blk_lt H2.out.ft) (by have := HE.out; have := H.out.sz; omega) (by simp)).trans H2.out.ft)); have K3 := Aq.mk (Kf.mk (K2.out.below.trans (b3 _ (by have := HE.out; have := H.out.wsz HL.out; omega))) (fun i o hi hr hf => (k3.2 i (blk_lt (K2.out.keep i o hi hr hf)) (by have := HE.out; have := blk_lt hi; omega) (by simp)).trans (K2.out.keep i o hi hr hf))); clear h3 b3 k3))
 refine bodyPost_ret (results_cell_row rfl _ _ g 66 _ (0,0) _ rfl HG3.out Try.underlying66 rfl wsz66) rfl ?_
 exact ⟨rfl,H3.out,K3.out⟩
set_option maxRecDepth 100000 in
set_option maxHeartbeats 8000000 in
theorem identity_c (lo r f : Nat) (R : Rp) (w : World) (hl : lo ≤ f) (hl2 : lo ≤ r) (h : RS w r f R) (ho : R.Ok) :
  Calls Try.prog 119 #[.pointer (some ⟨r,0,none⟩)] w fun ex w' => ex = .returned (.agg #[.string R.ideV.f0,.int .i64 R.ideV.f1]) ∧ RS w' r f R.ideR ∧ Kf lo r f w w' := by
 have H := Aq.mk h
 have HL := Aq.mk hl
 have HL2 := Aq.mk hl2
 have HO := Aq.mk ho
 clear h hl hl2 ho
 go_enter Try.func119,Try.ntmps119
 go_wp2_with (first
  | ((with_reducible refine gate_dst (N := 2) rfl ?_); refine allocT zero111 rfl rfl ?_; intro g eg w0 h0 b0; have HG := Aq.mk h0; have HE := Aq.mk eg; have H0 := Aq.mk (H.out.below b0); have K0 := Aq.mk (Kf.of_below (r := r) (f := f) (H.out.wsz HL.out) b0); clear h0 b0 eg)
  | (go_at_call 71; (with_reducible refine (rvec_c lo r f R _ 2 2 rfl 1 65536 (by omega) (by omega) HL.out HL2.out H0.out HO.out).mono ?_); rintro e1 w1 ⟨rfl,i1,k1⟩; have HG1 := Aq.mk (k1.keep g _ HG.out (by have := HE.out; have := H.out.sz; omega) (by have := HE.out; have := H.out.sz; omega)); have H1 := Aq.mk i1; have K1 := Aq.mk (K0.out.trans k1); clear i1 k1)
  | (go_at_call 104; (with_reducible refine (u32_c lo r f (R.vecR 2 1 65536) _ HL.out HL2.out H1.out (HO.out.vecR _ _ _)).mono ?_); rintro e2 w2 ⟨rfl,i2,k2⟩; have HG2 := Aq.mk (k2.keep g _ HG1.out (by have := HE.out; have := H.out.sz; omega) (by have := HE.out; have := H.out.sz; omega)); have H2 := Aq.mk i2; have K2 := Aq.mk (K1.out.trans k2); clear i2 k2)
  | ((with_reducible refine gate_store (p := 2) rfl ?_); refine stRow2 wsz111 rfl rfl rfl rfl HG2.out rfl rfl rfl ?_; intro w3 h3 b3 k3; have HG3 := Aq.mk h3; have H3 := Aq.mk (Rs.mk ((k3.2 r (blk_lt H2.out.rd) (by have := HE.out; have := H.out.sz; omega) (by simp)).trans H2.out.rd) ((k3.2 f (blk_lt H2.out.ft) (by have := HE.out; have := H.out.sz; omega) (by simp)).trans H2.out.ft)); have K3 := Aq.mk (Kf.mk (K2.out.below.trans (b3 _ (by have := HE.out; have := H.out.wsz HL.out; omega))) (fun i o hi hr hf => (k3.2 i (blk_lt (K2.out.keep i o hi hr hf)) (by have := HE.out; have := blk_lt hi; omega) (by simp)).trans (K2.out.keep i o hi hr hf))); clear h3 b3 k3))
 refine bodyPost_ret (results_cell_row rfl _ _ g 111 _ (0,0) _ rfl HG3.out Try.underlying111 rfl wsz111) rfl ?_
 exact ⟨rfl,H3.out,K3.out⟩
def Rp.nam1 (R : Rp) : Rp := ((R.inR 2).numR 1).need ((R.inR 2).numV 1 == 0)
def Rp.namV (R : Rp) : ByteArray := R.nam1.vecV 2 1 64
def Rp.namR (R : Rp) : Rp := (R.outR 2).back (R.nam1.vecR 2 1 64).done
theorem Rp.Ok.nam1 {R : Rp} (h : R.Ok) : R.nam1.Ok := ((h.inR 2).numR 1).need _
theorem Rp.Ok.namR {R : Rp} (h : R.Ok) : R.namR.Ok := (h.outR 2).back _
set_option maxRecDepth 100000 in
set_option maxHeartbeats 8000000 in
theorem name_c (lo r f : Nat) (R : Rp) (w : World) (hl : lo ≤ f) (hl2 : lo ≤ r) (h : RS w r f R) (ho : R.Ok) :
  Calls Try.prog 112 #[.pointer (some ⟨r,0,none⟩)] w fun ex w' => ex = .returned (.string R.namV) ∧ RS w' r f R.namR ∧ Kf lo r f w w' := by
 have H := Aq.mk h
 have HL := Aq.mk hl
 have HL2 := Aq.mk hl2
 have HO := Aq.mk ho
 clear h hl hl2 ho
 go_enter Try.func112,Try.ntmps112
 go_wp2_with (first
  | (go_at_call 66; (with_reducible refine (rwithin_c lo r f R _ 2 2 rfl (by omega) (by omega) HL.out HL2.out H.out HO.out).mono ?_); rintro e1 w1 ⟨r2,rfl,n1,i1,j1,k1⟩; have HN := Aq.mk n1; have HP := Aq.mk i1; have H1 := Aq.mk j1; have K1 := Aq.mk k1; have HL3 := Aq.mk (show lo ≤ r2 from Nat.le_trans (H.out.wsz HL.out) n1); have HNE := Aq.mk (show r ≠ r2 from by have := H.out.sz; omega); clear n1 i1 j1 k1)
  | (go_at_call 75; (with_reducible refine (u8_c lo r2 f (R.inR 2) _ HL.out HL3.out H1.out (HO.out.inR 2)).mono ?_); rintro e2 w2 ⟨rfl,i2,k2⟩; have H2 := Aq.mk i2; have K2 := Aq.mk k2; clear i2 k2)
  | (go_at_call 72; (with_reducible refine (rneed_c lo r2 f ((R.inR 2).numR 1) _ ((R.inR 2).numV 1 == 0) HL.out H2.out).mono ?_); rintro e3 w3 ⟨rfl,i3,k3⟩; have H3 := Aq.mk (show RS w3 r2 f R.nam1 from i3); have K3 := Aq.mk (K2.out.trans k3); clear i3 k3)
  | (go_at_call 71; (with_reducible refine (rvec_c lo r2 f R.nam1 _ 2 2 rfl 1 64 (by omega) (by omega) HL.out HL3.out H3.out HO.out.nam1).mono ?_); rintro e4 w4 ⟨rfl,i4,k4⟩; have H4 := Aq.mk i4; have K4 := Aq.mk (K3.out.trans k4); clear i4 k4)
  | (go_at_call 77; (with_reducible refine (done_c lo r2 f (R.nam1.vecR 2 1 64) _ HL.out H4.out).mono ?_); rintro e5 w5 ⟨rfl,i5,k5⟩; have H5 := Aq.mk i5; have K5 := Aq.mk (K4.out.trans k5); clear i5 k5))
 go_ret
 exact ⟨rfl,HP.out.back (I := R) HNE.out K5.out H5.out,K1.out.inner HN.out K5.out⟩
def Rp.cerV (R : Rp) : ByteArray := R.vecV 3 1 16777216
def Rp.cerR (R : Rp) : Rp := (R.vecR 3 1 16777216).barR
def Rp.binV (R : Rp) : ByteArray := R.vecV 1 32 255
def Rp.binR (R : Rp) : Rp := R.vecR 1 32 255
theorem Rp.Ok.cerR {R : Rp} (h : R.Ok) : R.cerR.Ok := (h.vecR _ _ _).barR
theorem Rp.Ok.binR {R : Rp} (h : R.Ok) : R.binR.Ok := h.vecR _ _ _
set_option maxRecDepth 100000 in
set_option maxHeartbeats 8000000 in
theorem cert_c (lo r f : Nat) (R : Rp) (w : World) (hl : lo ≤ f) (hl2 : lo ≤ r) (h : RS w r f R) (ho : R.Ok) :
  Calls Try.prog 101 #[.pointer (some ⟨r,0,none⟩)] w fun ex w' => ex = .returned (.string R.cerV) ∧ RS w' r f R.cerR ∧ Kf lo r f w w' := by
 have H := Aq.mk h
 have HL := Aq.mk hl
 have HL2 := Aq.mk hl2
 have HO := Aq.mk ho
 clear h hl hl2 ho
 go_enter Try.func101,Try.ntmps101
 go_wp2_with (first
  | (go_at_call 71; (with_reducible refine (rvec_c lo r f R _ 3 3 rfl 1 16777216 (by omega) (by omega) HL.out HL2.out H.out HO.out).mono ?_); rintro e1 w1 ⟨rfl,i1,k1⟩; have H1 := Aq.mk i1; have K1 := Aq.mk k1; clear i1 k1)
  | (go_at_call 102; (with_reducible refine (bare_c lo r f (R.vecR 3 1 16777216) _ HL.out HL2.out H1.out (HO.out.vecR _ _ _)).mono ?_); rintro e2 w2 ⟨rfl,i2,k2⟩; have H2 := Aq.mk i2; have K2 := Aq.mk (K1.out.trans k2); clear i2 k2))
 go_ret
 exact ⟨rfl,H2.out,K2.out⟩
set_option maxRecDepth 100000 in
set_option maxHeartbeats 8000000 in
theorem binder_c (lo r f : Nat) (R : Rp) (w : World) (hl : lo ≤ f) (hl2 : lo ≤ r) (h : RS w r f R) (ho : R.Ok) :
  Calls Try.prog 120 #[.pointer (some ⟨r,0,none⟩)] w fun ex w' => ex = .returned (.string R.binV) ∧ RS w' r f R.binR ∧ Kf lo r f w w' := by
 have H := Aq.mk h
 have HL := Aq.mk hl
 have HL2 := Aq.mk hl2
 have HO := Aq.mk ho
 clear h hl hl2 ho
 go_enter Try.func120,Try.ntmps120
 go_wp2_with (first
  | (go_at_call 71; (with_reducible refine (rvec_c lo r f R _ 1 1 rfl 32 255 (by omega) (by omega) HL.out HL2.out H.out HO.out).mono ?_); rintro e1 w1 ⟨rfl,i1,k1⟩; have H1 := Aq.mk i1; have K1 := Aq.mk k1; clear i1 k1))
 go_ret
 exact ⟨rfl,H1.out,K1.out⟩
end Go.Proofs.Ytlkebjkpmiehcaa.Ms
end
section
namespace Go.Proofs.Ytlkebjkpmiehcaa.Ms
open Go.RowKit Go.Proofs.YtlkebjkpmiehcaaW.PrintWords Go.Proofs.YtlkebjkpmiehcaaW.PrintLast Go.Proofs.YtlkebjkpmiehcaaW.PrintMore Go.Proofs.Ytlkebjkpmiehcaa.X
open Go.Proofs.Ytlkebjkpmiehcaa.Pure (nv numOf vecOf nv_bd nv_bd4 number_any vec_ok)
set_option linter.unusedVariables false
def Rp.mu (R : Rp) : Nat := if R.c = 0 then (R.s.size - R.p.toNat) else 0
theorem mu_pos {R : Rp} (h0 : 0 ≤ R.p) (h : R.more = true) : 0 < R.mu := by
 unfold Rp.more at h
 simp only [Bool.and_eq_true,beq_iff_eq,decide_eq_true_eq] at h
 unfold Rp.mu
 rw [if_pos h.1]
 omega
theorem mu_le (R : Rp) : R.mu ≤ R.s.size := by
 unfold Rp.mu
 split <;> omega
theorem mu_zero {R : Rp} (h : ¬ R.more = true) (ho : R.Ok) : R.mu = 0 := by
 unfold Rp.more at h
 simp only [Bool.and_eq_true,beq_iff_eq,decide_eq_true_eq] at h
 unfold Rp.mu
 split
 ·have := ho.lo
  omega
 ·rfl
theorem mu_lt {R R' : Rp} (h : R.more = true) (hs : R'.s = R.s) (h0 : 0 ≤ R.p) (hp : R'.c = 0 → R.p < R'.p) : R'.mu < R.mu := by
 have hm := mu_pos h0 h
 unfold Rp.more at h
 simp only [Bool.and_eq_true,beq_iff_eq,decide_eq_true_eq] at h
 unfold Rp.mu at hm ⊢
 rw [if_pos h.1,hs] at *
 split
 ·have := hp ‹_›
  omega
 ·exact hm
structure OneOk {α : Type} (one : Rp → α × Rp) : Prop where
 ok : ∀ R,R.Ok → (one R).2.Ok
 mu : ∀ R,R.Ok → R.more = true → (one R).2.mu < R.mu
 st : ∀ R,R.Ok → (one R).2.c = 0 → R.c = 0
def rAll {α : Type} (one : Rp → α × Rp) : Nat → Rp → List α × Rp
 | 0,R => ([],R)
 | k + 1,R => if R.more = true then ((one R).1 :: (rAll one k (one R).2).1,(rAll one k (one R).2).2) else ([],R)
def allV {α : Type} (one : Rp → α × Rp) (R : Rp) : List α := (rAll one R.s.size R).1
def allR {α : Type} (one : Rp → α × Rp) (R : Rp) : Rp := (rAll one R.s.size R).2
def Rp.lst (R : Rp) (n : Nat) : Rp := (R.inR n).need (decide (0 < (R.inR n).s.size))
def lstV {α : Type} (one : Rp → α × Rp) (R : Rp) (n : Nat) : List α := allV one (R.lst n)
def lstR {α : Type} (one : Rp → α × Rp) (R : Rp) (n : Nat) : Rp := (R.outR n).back (allR one (R.lst n))
theorem rAll_ok {α : Type} {one : Rp → α × Rp} (h : OneOk one) : ∀ (k : Nat) (R : Rp),R.Ok → (rAll one k R).2.Ok
 | 0,_,ho => ho
 | k + 1,R,ho => by
  unfold rAll
  split
  ·exact rAll_ok h k _ (h.ok R ho)
  ·exact ho
theorem rAll_st {α : Type} {one : Rp → α × Rp} (h : OneOk one) : ∀ (k : Nat) (R : Rp),R.Ok → (rAll one k R).2.c = 0 → R.c = 0
 | 0,_,_,hc => hc
 | k + 1,R,ho,hc => by
  unfold rAll at hc
  split at hc
  ·exact h.st R ho (rAll_st h k _ (h.ok R ho) hc)
  ·exact hc
theorem Rp.Ok.allR {α : Type} {one : Rp → α × Rp} (h : OneOk one) {R : Rp} (ho : R.Ok) : (Ms.allR one R).Ok := rAll_ok h _ R ho
theorem Rp.Ok.lst {R : Rp} (ho : R.Ok) (n : Nat) : (R.lst n).Ok := (ho.inR n).need _
theorem Rp.Ok.lstR {α : Type} {one : Rp → α × Rp} {R : Rp} (ho : R.Ok) (n : Nat) : (Ms.lstR one R n).Ok := (ho.outR n).back _
def oneNum (n : Nat) (R : Rp) : Int × Rp := (R.numV n,R.numR n)
def oneSha (R : Rp) : S66 × Rp := (R.shaV,R.shaR)
def oneIde (R : Rp) : S111 × Rp := (R.ideV,R.ideR)
def oneCer (R : Rp) : ByteArray × Rp := (R.cerV,R.cerR)
def oneBin (R : Rp) : ByteArray × Rp := (R.binV,R.binR)
theorem numR_c {R : Rp} {n : Nat} (h : (R.numR n).c = 0) (ho : R.Ok) : R.c = 0 ∧ (R.numR n).p = R.p + n := by
 have hz := needed_zero h
 refine ⟨hz.1,?_⟩
 show sel (R.numC n) _ _ = _
 rw [sel_pos (show R.numC n = 0 from h)]
 rcases num_ok (s := R.s) (p := R.p) (n := n) ho.lo ho.hi with ⟨_,h2,_⟩ | h2
 ·rw [h2]
 ·have := hz.2
  rw [h2] at this
  exact absurd this (by decide)
theorem vecR_c {R : Rp} {n : Nat} {least most : Int} (h : (R.vecR n least most).c = 0) (ho : R.Ok) : R.c = 0 ∧ R.p + n ≤ (R.vecR n least most).p := by
 have hz := vecC_zero h
 refine ⟨hz.1,?_⟩
 show _ ≤ sel (R.vecC n least most) _ _
 rw [sel_pos (show R.vecC n least most = 0 from h)]
 exact (vec_bd' ho.lo hz.2.1).1
theorem barR_s (R : Rp) : R.barR.s = R.s := by
 unfold Rp.barR
 split
 ·rfl
 ·split <;> rfl
theorem barR_p (R : Rp) : R.barR.p = (R.vecR 2 0 65536).p := by
 unfold Rp.barR
 split
 ·rfl
 ·split <;> rfl
theorem bad_zero {c e : Int} (h : bad c e = 0) : c = 0 := by
 unfold bad at h
 split at h
 ·assumption
 ·exact h
theorem barR_c {R : Rp} (h : R.barR.c = 0) : (R.vecR 2 0 65536).c = 0 := by
 unfold Rp.barR at h
 split at h
 ·exact h
 ·split at h
  ·exact bad_zero h
  ·exact h
theorem oneNum_ok (n : Nat) (hn : 1 ≤ n) : OneOk (oneNum n) := ⟨fun R h => h.numR n,fun R ho hm => mu_lt hm rfl ho.lo fun hc => by
 have := (numR_c hc ho).2
 show R.p < (R.numR n).p
 omega,fun R ho hc => (numR_c hc ho).1⟩
theorem oneSha_ok : OneOk oneSha := ⟨fun R h => h.shaR,fun R ho hm => mu_lt hm rfl ho.lo fun hc => by
 have h1 := vecR_c hc (ho.numR 2)
 have h2 := (numR_c h1.1 ho).2
 show R.p < ((R.numR 2).vecR 2 1 65536).p
 omega,fun R ho hc => (numR_c (vecR_c hc (ho.numR 2)).1 ho).1⟩
theorem oneIde_ok : OneOk oneIde := ⟨fun R h => h.ideR,fun R ho hm => mu_lt hm rfl ho.lo fun hc => by
 have h1 := numR_c hc (ho.vecR _ _ _)
 have h2 := (vecR_c h1.1 ho).2
 show R.p < ((R.vecR 2 1 65536).numR 4).p
 omega,fun R ho hc => (vecR_c (numR_c hc (ho.vecR _ _ _)).1 ho).1⟩
theorem oneBin_ok : OneOk oneBin := ⟨fun R h => h.binR,fun R ho hm => mu_lt hm rfl ho.lo fun hc => by
 have h2 := (vecR_c hc ho).2
 show R.p < (R.vecR 1 32 255).p
 omega,fun R ho hc => (vecR_c hc ho).1⟩
theorem oneCer_ok : OneOk oneCer := ⟨fun R h => h.cerR,fun R ho hm => mu_lt hm (barR_s _) ho.lo fun hc => by
 have h0 := barR_c hc
 have h1 := vecR_c h0 (ho.vecR _ _ _)
 have h2 := (vecR_c h1.1 ho).2
 show R.p < Rp.p (Rp.barR _)
 rw [barR_p]
 have h3 := h1.2
 omega,fun R ho hc => (vecR_c (vecR_c (barR_c hc) (ho.vecR _ _ _)).1 ho).1⟩
theorem Kf.over {lo r f B : Nat} {w W w1 : World} (h : Kf lo r f w W) (hb : Below B W w1) (hl : lo ≤ B) (hB : w.heap.size ≤ B) : Kf lo r f w w1 :=
 ⟨h.below.trans (hb.mono hl),fun i o hi hr hf => (hb.block i (Nat.lt_of_lt_of_le (blk_lt hi) hB)).trans (h.keep i o hi hr hf)⟩
theorem RS.over {W w1 : World} {r f B : Nat} {R : Rp} (h : RS W r f R) (hb : Below B W w1) (hr : r < B) (hf : f < B) : RS w1 r f R := ⟨(hb.block r hr).trans h.rd,(hb.block f hf).trans h.ft⟩
theorem R_kf {α : Type} {d : Kd α} {e : Nat} {W W1 : World} {base lo r f : Nat} {v : Value} {xs : List α} (h : d.R e W base (fun _ => True) v xs) (k : Kf lo r f W W1) (hr : r < base) (hf : f < base) : d.R e W1 base (fun _ => True) v xs :=
 Kd.R_mono (Kd.R_move (Kd.R_bound h) (fun i hi => by
  obtain ⟨_,h2,h3,q,_,cells,hc⟩ := hi
  rw [hc]
  exact k.keep i _ hc (by omega) (by omega))) (fun _ _ => trivial)
theorem inf9 : (Try.prog.info? 9).map (fun i => (i.zero,i.size,i.bytes)) = some (some (.string ⟨#[]⟩),1,16) := by kernel_rfl
theorem inf66 : (Try.prog.info? 66).map (fun i => (i.zero,i.size,i.bytes)) = some (some (.agg #[(.int .i64 0),(.string ⟨#[]⟩)]),2,24) := by kernel_rfl
theorem inf111 : (Try.prog.info? 111).map (fun i => (i.zero,i.size,i.bytes)) = some (some (.agg #[(.string ⟨#[]⟩),(.int .i64 0)]),2,24) := by kernel_rfl
structure OneC {α : Type} (k : Nat) (enc : α → Value) (one : Rp → α × Rp) : Prop where
 ok : OneOk one
 enters : ∀ args w,(callFunc k args).run Try.prog w = .ok (.enter k args) w
 calls : ∀ (lo r f : Nat) (R : Rp) (w : World),lo ≤ f → lo ≤ r → RS w r f R → R.Ok →
  Calls Try.prog k #[.pointer (some ⟨r,0,none⟩)] w fun ex w' => ex = .returned (enc (one R).1) ∧ RS w' r f (one R).2 ∧ Kf lo r f w w'
theorem oneU16 : OneC 70 (.int .i64) (oneNum 2) := ⟨oneNum_ok 2 (by omega),fun args w => enters_ Try.func70 (by kernel_rfl) rfl args w,fun lo r f R w h1 h2 h3 h4 => u16_c lo r f R w h1 h2 h3 h4⟩
theorem oneU8 : OneC 75 (.int .i64) (oneNum 1) := ⟨oneNum_ok 1 (by omega),fun args w => enters_ Try.func75 (by kernel_rfl) rfl args w,fun lo r f R w h1 h2 h3 h4 => u8_c lo r f R w h1 h2 h3 h4⟩
theorem oneShare : OneC 114 (fun x : S66 => .agg #[.int .i64 x.f0,.string x.f1]) oneSha := ⟨oneSha_ok,fun args w => enters_ Try.func114 (by kernel_rfl) rfl args w,fun lo r f R w h1 h2 h3 h4 => share_c lo r f R w h1 h2 h3 h4⟩
theorem oneIdent : OneC 119 (fun x : S111 => .agg #[.string x.f0,.int .i64 x.f1]) oneIde := ⟨oneIde_ok,fun args w => enters_ Try.func119 (by kernel_rfl) rfl args w,fun lo r f R w h1 h2 h3 h4 => identity_c lo r f R w h1 h2 h3 h4⟩
theorem oneCert : OneC 101 .string oneCer := ⟨oneCer_ok,fun args w => enters_ Try.func101 (by kernel_rfl) rfl args w,fun lo r f R w h1 h2 h3 h4 => cert_c lo r f R w h1 h2 h3 h4⟩
theorem oneBinder : OneC 120 .string oneBin := ⟨oneBin_ok,fun args w => enters_ Try.func120 (by kernel_rfl) rfl args w,fun lo r f R w h1 h2 h3 h4 => binder_c lo r f R w h1 h2 h3 h4⟩
theorem len_bd {n m b : Nat} (h : n + m ≤ 65536) (hm : 0 < m) (hb : b ≤ 24) : (n + 1) * b ≤ 140737488355328 := Nat.le_trans (Nat.mul_le_mul_left _ hb) (by omega)
set_option maxRecDepth 100000 in
set_option maxHeartbeats 8000000 in
theorem all_int {k : Nat} {one : Rp → Int × Rp} (hk : OneC k (.int .i64) one) (lo r f : Nat) (R : Rp) (w : World) (hl : lo ≤ f) (hl2 : lo ≤ r) (h : RS w r f R) (ho : R.Ok) :
  Calls Try.prog 111 #[.pointer (some ⟨r,0,none⟩),.func (.func k) #[] #[]] w fun ex w' => ∃ v,ex = .returned v ∧ Kd.R (Kd.int .i64) 3 w' w.heap.size (fun _ => True) v (allV one R) ∧ RS w' r f (allR one R) ∧ Kf lo r f w w' := by
 have H := Aq.mk h
 have HL := Aq.mk hl
 have HL2 := Aq.mk hl2
 have HO := Aq.mk ho
 have HLW := Aq.mk (h.wsz hl)
 have HC := Aq.mk hk
 have eg := hk.enters
 clear h hl hl2 ho hk
 go_enter Try.func111,Try.ntmps111
 go_wp2
 go_loopg [5] R.s.size (fun gk v wr => ∃ (xs : List Int) (R' : Rp),Aq (RS wr r f R') ∧ Aq R'.Ok ∧ Aq (Kd.R (Kd.int .i64) 3 wr w.heap.size (fun _ => True) v xs) ∧ Aq (Kf lo r f w wr) ∧ Aq (R'.mu ≤ gk ∧ xs.length + R'.mu ≤ 65536) ∧ Aq (xs ++ (rAll one gk R').1 = allV one R ∧ (rAll one gk R').2 = allR one R))
 case atStart => exact ⟨[],R,H,HO,⟨Kd.R_nil _ _ _ _ _⟩,⟨Kf.refl _ _ _ _⟩,⟨mu_le R,by have := mu_le R; have := HO.out.sz; simp only [List.length_nil]; omega⟩,⟨rfl,rfl⟩⟩
 case round =>
 obtain ⟨xs,R',Hi,Oi,Ri,Ki,Mi,Ei⟩ := hrel
 have HLi := Aq.mk (show lo ≤ wr.heap.size from Nat.le_trans HLW.out Ki.out.size)
 by_cases hm : R'.more = true
 ·have HM := Aq.mk hm
  obtain ⟨gk',hgk⟩ : ∃ g,gk = g + 1 := ⟨gk - 1,by have := mu_pos Oi.out.lo hm; have := Mi.out.1; omega⟩
  subst hgk
  obtain ⟨y,hy⟩ : ∃ y,(one R').1 = y := ⟨_,rfl⟩
  have HY := Aq.mk hy
  clear hy
  go_wp2_with (first
   | (go_at_call 99; (with_reducible refine (more_c r f R' _ Hi.out).mono ?_); rintro e1 w1 ⟨rfl,b1⟩; have H1 := Aq.mk (Hi.out.below b1); have K1 := Aq.mk (Ki.out.over b1 HLi.out Ki.out.size); have R1 := Aq.mk (Kd.R_below Ri.out b1); clear b1)
   | ((refine (HC.out.calls lo r f R' _ HL.out HL2.out H1.out Oi.out).mono ?_); rintro e2 w2 ⟨rfl,i2,k2⟩; rw [HY.out]; have H2 := Aq.mk i2; have K2 := Aq.mk (K1.out.trans k2); have R2 := Aq.mk (R_kf R1.out k2 H.out.sz.1 H.out.sz.2); clear i2 k2)
   | ((with_reducible refine gate_builtin (b := .append) (xs := #[.tmp 8,.tmp 12]) rfl ?_); at_builtin; refine Kd.R_append (Kd.int .i64) (w0 := w2) w.heap.size rfl (.tmp 8) (.tmp 12) 44 3 (.int .i64 0) 8 rfl Try.underlying44 info3 rfl (by decide) (by omega) u5 xs y [.int .i64 y] (fun _ => True) (fun _ => False) rfl rfl ?aP (fun _ hk => hk.elim) ?aF R2.out ?aB ?aS ?aL ?_; (case aP => exact rfl); (case aF => exact (fun _ _ => trivial)); (case aB => exact Below.refl _ _); (case aS => exact K2.out.size); (case aL => exact len_bd Mi.out.2 (mu_pos Oi.out.lo HM.out) (by omega)); intro v3 w3 ho3 hb3 hg3 hat3; have H3 := Aq.mk (H2.out.over hb3 H.out.sz.1 H.out.sz.2); have K3 := Aq.mk (K2.out.over hb3 HLW.out (Nat.le_refl _)); have R3 := Aq.mk ho3; clear ho3 hb3 hg3 hat3))
  have E3 := Aq.mk (show (xs ++ [y]) ++ (rAll one gk' (one R').2).1 = allV one R ∧ (rAll one gk' (one R').2).2 = allR one R from by
   have := Ei.out
   unfold rAll at this
   rw [if_pos HM.out] at this
   rw [← HY.out,List.append_assoc]
   exact this)
  have M3 := Aq.mk (show (one R').2.mu ≤ gk' ∧ (xs ++ [y]).length + (one R').2.mu ≤ 65536 from by
   have h1 := HC.out.ok.mu R' Oi.out HM.out
   have h2 := Mi.out
   rw [List.length_append,List.length_singleton]
   omega)
  have O3 := Aq.mk (HC.out.ok.ok R' Oi.out)
  go_roundg gk'
  case rel => exact ⟨xs ++ [y],(one R').2,H3,O3,R3,K3,M3,E3⟩
  case measure => omega
 ·have hmf : R'.more = false := by simpa using hm
  have hz := mu_zero hm Oi.out
  have E1 := Aq.mk (show xs = allV one R ∧ R' = allR one R from by
   have h0 := Ei.out
   have h2 : rAll one gk R' = ([],R') := by
    cases gk with
    | zero => rfl
    | succ n => unfold rAll; rw [if_neg hm]
   rw [h2] at h0
   exact ⟨by simpa using h0.1,h0.2⟩)
  clear hm hz
  go_wp2_with (first
   | (go_at_call 99; (with_reducible refine (more_c r f R' _ Hi.out).mono ?_); rintro e1 w1 ⟨rfl,b1⟩; have H1 := Aq.mk (Hi.out.below b1); have K1 := Aq.mk (Ki.out.over b1 HLi.out Ki.out.size); have R1 := Aq.mk (Kd.R_below Ri.out b1); clear b1))
  go_ret
  exact ⟨u5,rfl,by rw [← E1.out.1]; exact R1.out,by rw [← E1.out.2]; exact H1.out,K1.out⟩
set_option maxRecDepth 100000 in
set_option maxHeartbeats 8000000 in
theorem list_int {k : Nat} {one : Rp → Int × Rp} (hk : OneC k (.int .i64) one) (lo r f : Nat) (R : Rp) (w : World) (z : Int) (n : Nat) (hz : z = n) (h1 : 1 ≤ n) (h3 : n ≤ 3) (hl : lo ≤ f) (hl2 : lo ≤ r) (h : RS w r f R) (ho : R.Ok) :
  Calls Try.prog 94 #[.pointer (some ⟨r,0,none⟩),.int .i64 z,.func (.func k) #[] #[]] w fun ex w' => ∃ v,ex = .returned v ∧ Kd.R (Kd.int .i64) 3 w' w.heap.size (fun _ => True) v (lstV one R n) ∧ RS w' r f (lstR one R n) ∧ Kf lo r f w w' := by
 have H := Aq.mk h
 have HL := Aq.mk hl
 have HL2 := Aq.mk hl2
 have HO := Aq.mk ho
 have HLW := Aq.mk (h.wsz hl)
 have HC := Aq.mk hk
 have HZ := Aq.mk hz
 clear h hl hl2 ho hk hz
 go_enter Try.func94,Try.ntmps94
 go_wp2_with (first
  | (go_at_call 66; (with_reducible refine (rwithin_c lo r f R _ z n HZ.out h1 h3 HL.out HL2.out H.out HO.out).mono ?_); rintro e1 w1 ⟨r2,rfl,n1,i1,j1,k1⟩; have HN := Aq.mk n1; have HP := Aq.mk i1; have H1 := Aq.mk j1; have K1 := Aq.mk k1; have HL3 := Aq.mk (show lo ≤ r2 from Nat.le_trans (H.out.wsz HL.out) n1); have HNE := Aq.mk (show r ≠ r2 from by have := H.out.sz; omega); clear n1 i1 j1 k1)
  | ((with_reducible refine gate_dst (N := 15) rfl ?_); refine ld (v := .string (R.inR n).s) rfl rfl rfl H1.out.rd Try.underlying9 rfl rfl ?_)
  | (go_at_call 72; (with_reducible refine (rneed_c lo r2 f (R.inR n) _ (decide (0 < (R.inR n).s.size)) HL.out H1.out).mono ?_); rintro e3 w3 ⟨rfl,i3,k3⟩; have H3 := Aq.mk (show RS w3 r2 f (R.lst n) from i3); have K3 := Aq.mk k3; clear i3 k3)
  | (go_at_call 111; (refine (all_int HC.out lo r2 f (R.lst n) _ HL.out HL3.out H3.out (HO.out.lst n)).mono ?_); rintro e4 w4 ⟨v4,rfl,r4,i4,k4⟩; have H4 := Aq.mk i4; have K4 := Aq.mk (K3.out.trans k4); have R4 := Aq.mk (Kd.R_lower r4 (Nat.le_trans K1.out.size K3.out.size)); clear i4 k4 r4))
 go_ret
 exact ⟨v4,rfl,R4.out,HP.out.back (I := R) HNE.out K4.out H4.out,K1.out.inner HN.out K4.out⟩
set_option maxRecDepth 100000 in
set_option maxHeartbeats 8000000 in
theorem all_str {k : Nat} {one : Rp → ByteArray × Rp} (hk : OneC k .string one) (lo r f : Nat) (R : Rp) (w : World) (hl : lo ≤ f) (hl2 : lo ≤ r) (h : RS w r f R) (ho : R.Ok) :
  Calls Try.prog 100 #[.pointer (some ⟨r,0,none⟩),.func (.func k) #[] #[]] w fun ex w' => ∃ v,ex = .returned v ∧ Kd.R Kd.string 9 w' w.heap.size (fun _ => True) v (allV one R) ∧ RS w' r f (allR one R) ∧ Kf lo r f w w' := by
 have H := Aq.mk h
 have HL := Aq.mk hl
 have HL2 := Aq.mk hl2
 have HO := Aq.mk ho
 have HLW := Aq.mk (h.wsz hl)
 have HC := Aq.mk hk
 have eg := hk.enters
 clear h hl hl2 ho hk
 go_enter Try.func100,Try.ntmps100
 go_wp2
 go_loopg [5] R.s.size (fun gk v wr => ∃ (xs : List ByteArray) (R' : Rp),Aq (RS wr r f R') ∧ Aq R'.Ok ∧ Aq (Kd.R Kd.string 9 wr w.heap.size (fun _ => True) v xs) ∧ Aq (Kf lo r f w wr) ∧ Aq (R'.mu ≤ gk ∧ xs.length + R'.mu ≤ 65536) ∧ Aq (xs ++ (rAll one gk R').1 = allV one R ∧ (rAll one gk R').2 = allR one R))
 case atStart => exact ⟨[],R,H,HO,⟨Kd.R_nil _ _ _ _ _⟩,⟨Kf.refl _ _ _ _⟩,⟨mu_le R,by have := mu_le R; have := HO.out.sz; simp only [List.length_nil]; omega⟩,⟨rfl,rfl⟩⟩
 case round =>
 obtain ⟨xs,R',Hi,Oi,Ri,Ki,Mi,Ei⟩ := hrel
 have HLi := Aq.mk (show lo ≤ wr.heap.size from Nat.le_trans HLW.out Ki.out.size)
 by_cases hm : R'.more = true
 ·have HM := Aq.mk hm
  obtain ⟨gk',hgk⟩ : ∃ g,gk = g + 1 := ⟨gk - 1,by have := mu_pos Oi.out.lo hm; have := Mi.out.1; omega⟩
  subst hgk
  obtain ⟨y,hy⟩ : ∃ y,(one R').1 = y := ⟨_,rfl⟩
  have HY := Aq.mk hy
  clear hy
  go_wp2_with (first
   | (go_at_call 99; (with_reducible refine (more_c r f R' _ Hi.out).mono ?_); rintro e1 w1 ⟨rfl,b1⟩; have H1 := Aq.mk (Hi.out.below b1); have K1 := Aq.mk (Ki.out.over b1 HLi.out Ki.out.size); have R1 := Aq.mk (Kd.R_below Ri.out b1); clear b1)
   | ((refine (HC.out.calls lo r f R' _ HL.out HL2.out H1.out Oi.out).mono ?_); rintro e2 w2 ⟨rfl,i2,k2⟩; rw [HY.out]; have H2 := Aq.mk i2; have K2 := Aq.mk (K1.out.trans k2); have R2 := Aq.mk (R_kf R1.out k2 H.out.sz.1 H.out.sz.2); clear i2 k2)
   | ((with_reducible refine gate_builtin (b := .append) (xs := #[.tmp 8,.tmp 12]) rfl ?_); at_builtin; refine Kd.R_append Kd.string (w0 := w2) w.heap.size rfl (.tmp 8) (.tmp 12) 47 9 (.string ⟨#[]⟩) 16 rfl Try.underlying47 inf9 rfl (by decide) (by omega) u5 xs y [.string y] (fun _ => True) (fun _ => False) rfl rfl ?aP (fun _ hk => hk.elim) ?aF R2.out ?aB ?aS ?aL ?_; (case aP => exact rfl); (case aF => exact (fun _ _ => trivial)); (case aB => exact Below.refl _ _); (case aS => exact K2.out.size); (case aL => exact len_bd Mi.out.2 (mu_pos Oi.out.lo HM.out) (by omega)); intro v3 w3 ho3 hb3 hg3 hat3; have H3 := Aq.mk (H2.out.over hb3 H.out.sz.1 H.out.sz.2); have K3 := Aq.mk (K2.out.over hb3 HLW.out (Nat.le_refl _)); have R3 := Aq.mk ho3; clear ho3 hb3 hg3 hat3))
  have E3 := Aq.mk (show (xs ++ [y]) ++ (rAll one gk' (one R').2).1 = allV one R ∧ (rAll one gk' (one R').2).2 = allR one R from by
   have := Ei.out
   unfold rAll at this
   rw [if_pos HM.out] at this
   rw [← HY.out,List.append_assoc]
   exact this)
  have M3 := Aq.mk (show (one R').2.mu ≤ gk' ∧ (xs ++ [y]).length + (one R').2.mu ≤ 65536 from by
   have h1 := HC.out.ok.mu R' Oi.out HM.out
   have h2 := Mi.out
   rw [List.length_append,List.length_singleton]
   omega)
  have O3 := Aq.mk (HC.out.ok.ok R' Oi.out)
  go_roundg gk'
  case rel => exact ⟨xs ++ [y],(one R').2,H3,O3,R3,K3,M3,E3⟩
  case measure => omega
 ·have hmf : R'.more = false := by simpa using hm
  have hz := mu_zero hm Oi.out
  have E1 := Aq.mk (show xs = allV one R ∧ R' = allR one R from by
   have h0 := Ei.out
   have h2 : rAll one gk R' = ([],R') := by
    cases gk with
    | zero => rfl
    | succ n => unfold rAll; rw [if_neg hm]
   rw [h2] at h0
   exact ⟨by simpa using h0.1,h0.2⟩)
  clear hm hz
  go_wp2_with (first
   | (go_at_call 99; (with_reducible refine (more_c r f R' _ Hi.out).mono ?_); rintro e1 w1 ⟨rfl,b1⟩; have H1 := Aq.mk (Hi.out.below b1); have K1 := Aq.mk (Ki.out.over b1 HLi.out Ki.out.size); have R1 := Aq.mk (Kd.R_below Ri.out b1); clear b1))
  go_ret
  exact ⟨u5,rfl,by rw [← E1.out.1]; exact R1.out,by rw [← E1.out.2]; exact H1.out,K1.out⟩
set_option maxRecDepth 100000 in
set_option maxHeartbeats 8000000 in
theorem all_sha {k : Nat} {one : Rp → S66 × Rp} (hk : OneC k (fun x : S66 => .agg #[.int .i64 x.f0,.string x.f1]) one) (lo r f : Nat) (R : Rp) (w : World) (hl : lo ≤ f) (hl2 : lo ≤ r) (h : RS w r f R) (ho : R.Ok) :
  Calls Try.prog 117 #[.pointer (some ⟨r,0,none⟩),.func (.func k) #[] #[]] w fun ex w' => ∃ v,ex = .returned v ∧ Kd.R k66 66 w' w.heap.size (fun _ => True) v (allV one R) ∧ RS w' r f (allR one R) ∧ Kf lo r f w w' := by
 have H := Aq.mk h
 have HL := Aq.mk hl
 have HL2 := Aq.mk hl2
 have HO := Aq.mk ho
 have HLW := Aq.mk (h.wsz hl)
 have HC := Aq.mk hk
 have eg := hk.enters
 clear h hl hl2 ho hk
 go_enter Try.func117,Try.ntmps117
 go_wp2
 go_loopg [5] R.s.size (fun gk v wr => ∃ (xs : List S66) (R' : Rp),Aq (RS wr r f R') ∧ Aq R'.Ok ∧ Aq (Kd.R k66 66 wr w.heap.size (fun _ => True) v xs) ∧ Aq (Kf lo r f w wr) ∧ Aq (R'.mu ≤ gk ∧ xs.length + R'.mu ≤ 65536) ∧ Aq (xs ++ (rAll one gk R').1 = allV one R ∧ (rAll one gk R').2 = allR one R))
 case atStart => exact ⟨[],R,H,HO,⟨Kd.R_nil _ _ _ _ _⟩,⟨Kf.refl _ _ _ _⟩,⟨mu_le R,by have := mu_le R; have := HO.out.sz; simp only [List.length_nil]; omega⟩,⟨rfl,rfl⟩⟩
 case round =>
 obtain ⟨xs,R',Hi,Oi,Ri,Ki,Mi,Ei⟩ := hrel
 have HLi := Aq.mk (show lo ≤ wr.heap.size from Nat.le_trans HLW.out Ki.out.size)
 by_cases hm : R'.more = true
 ·have HM := Aq.mk hm
  obtain ⟨gk',hgk⟩ : ∃ g,gk = g + 1 := ⟨gk - 1,by have := mu_pos Oi.out.lo hm; have := Mi.out.1; omega⟩
  subst hgk
  obtain ⟨y,hy⟩ : ∃ y,(one R').1 = y := ⟨_,rfl⟩
  have HY := Aq.mk hy
  clear hy
  go_wp2_with (first
   | (go_at_call 99; (with_reducible refine (more_c r f R' _ Hi.out).mono ?_); rintro e1 w1 ⟨rfl,b1⟩; have H1 := Aq.mk (Hi.out.below b1); have K1 := Aq.mk (Ki.out.over b1 HLi.out Ki.out.size); have R1 := Aq.mk (Kd.R_below Ri.out b1); clear b1)
   | ((refine (HC.out.calls lo r f R' _ HL.out HL2.out H1.out Oi.out).mono ?_); rintro e2 w2 ⟨rfl,i2,k2⟩; rw [HY.out]; have H2 := Aq.mk i2; have K2 := Aq.mk (K1.out.trans k2); have R2 := Aq.mk (R_kf R1.out k2 H.out.sz.1 H.out.sz.2); clear i2 k2)
   | ((with_reducible refine gate_builtin (b := .append) (xs := #[.tmp 8,.tmp 12]) rfl ?_); at_builtin; refine Kd.R_append k66 (w0 := w2) w.heap.size rfl (.tmp 8) (.tmp 12) 45 66 (.agg #[(.int .i64 0),(.string ⟨#[]⟩)]) 24 rfl Try.underlying45 inf66 rfl (by decide) (by omega) u5 xs y [.int .i64 y.f0,.string y.f1] (fun _ => True) (fun _ => False) rfl rfl ?aP (fun _ hk => hk.elim) ?aF R2.out ?aB ?aS ?aL ?_; (case aP => exact k66_mkM _ _ _ y); (case aF => exact (fun _ _ => trivial)); (case aB => exact Below.refl _ _); (case aS => exact K2.out.size); (case aL => exact len_bd Mi.out.2 (mu_pos Oi.out.lo HM.out) (by omega)); intro v3 w3 ho3 hb3 hg3 hat3; have H3 := Aq.mk (H2.out.over hb3 H.out.sz.1 H.out.sz.2); have K3 := Aq.mk (K2.out.over hb3 HLW.out (Nat.le_refl _)); have R3 := Aq.mk ho3; clear ho3 hb3 hg3 hat3))
  have E3 := Aq.mk (show (xs ++ [y]) ++ (rAll one gk' (one R').2).1 = allV one R ∧ (rAll one gk' (one R').2).2 = allR one R from by
   have := Ei.out
   unfold rAll at this
   rw [if_pos HM.out] at this
   rw [← HY.out,List.append_assoc]
   exact this)
  have M3 := Aq.mk (show (one R').2.mu ≤ gk' ∧ (xs ++ [y]).length + (one R').2.mu ≤ 65536 from by
   have h1 := HC.out.ok.mu R' Oi.out HM.out
   have h2 := Mi.out
   rw [List.length_append,List.length_singleton]
   omega)
  have O3 := Aq.mk (HC.out.ok.ok R' Oi.out)
  go_roundg gk'
  case rel => exact ⟨xs ++ [y],(one R').2,H3,O3,R3,K3,M3,E3⟩
  case measure => omega
 ·have hmf : R'.more = false := by simpa using hm
  have hz := mu_zero hm Oi.out
  have E1 := Aq.mk (show xs = allV one R ∧ R' = allR one R from by
   have h0 := Ei.out
   have h2 : rAll one gk R' = ([],R') := by
    cases gk with
    | zero => rfl
    | succ n => unfold rAll; rw [if_neg hm]
   rw [h2] at h0
   exact ⟨by simpa using h0.1,h0.2⟩)
  clear hm hz
  go_wp2_with (first
   | (go_at_call 99; (with_reducible refine (more_c r f R' _ Hi.out).mono ?_); rintro e1 w1 ⟨rfl,b1⟩; have H1 := Aq.mk (Hi.out.below b1); have K1 := Aq.mk (Ki.out.over b1 HLi.out Ki.out.size); have R1 := Aq.mk (Kd.R_below Ri.out b1); clear b1))
  go_ret
  exact ⟨u5,rfl,by rw [← E1.out.1]; exact R1.out,by rw [← E1.out.2]; exact H1.out,K1.out⟩
set_option maxRecDepth 100000 in
set_option maxHeartbeats 8000000 in
theorem list_sha {k : Nat} {one : Rp → S66 × Rp} (hk : OneC k (fun x : S66 => .agg #[.int .i64 x.f0,.string x.f1]) one) (lo r f : Nat) (R : Rp) (w : World) (z : Int) (n : Nat) (hz : z = n) (h1 : 1 ≤ n) (h3 : n ≤ 3) (hl : lo ≤ f) (hl2 : lo ≤ r) (h : RS w r f R) (ho : R.Ok) :
  Calls Try.prog 113 #[.pointer (some ⟨r,0,none⟩),.int .i64 z,.func (.func k) #[] #[]] w fun ex w' => ∃ v,ex = .returned v ∧ Kd.R k66 66 w' w.heap.size (fun _ => True) v (lstV one R n) ∧ RS w' r f (lstR one R n) ∧ Kf lo r f w w' := by
 have H := Aq.mk h
 have HL := Aq.mk hl
 have HL2 := Aq.mk hl2
 have HO := Aq.mk ho
 have HLW := Aq.mk (h.wsz hl)
 have HC := Aq.mk hk
 have HZ := Aq.mk hz
 clear h hl hl2 ho hk hz
 go_enter Try.func113,Try.ntmps113
 go_wp2_with (first
  | (go_at_call 66; (with_reducible refine (rwithin_c lo r f R _ z n HZ.out h1 h3 HL.out HL2.out H.out HO.out).mono ?_); rintro e1 w1 ⟨r2,rfl,n1,i1,j1,k1⟩; have HN := Aq.mk n1; have HP := Aq.mk i1; have H1 := Aq.mk j1; have K1 := Aq.mk k1; have HL3 := Aq.mk (show lo ≤ r2 from Nat.le_trans (H.out.wsz HL.out) n1); have HNE := Aq.mk (show r ≠ r2 from by have := H.out.sz; omega); clear n1 i1 j1 k1)
  | ((with_reducible refine gate_dst (N := 15) rfl ?_); refine ld (v := .string (R.inR n).s) rfl rfl rfl H1.out.rd Try.underlying9 rfl rfl ?_)
  | (go_at_call 72; (with_reducible refine (rneed_c lo r2 f (R.inR n) _ (decide (0 < (R.inR n).s.size)) HL.out H1.out).mono ?_); rintro e3 w3 ⟨rfl,i3,k3⟩; have H3 := Aq.mk (show RS w3 r2 f (R.lst n) from i3); have K3 := Aq.mk k3; clear i3 k3)
  | (go_at_call 117; (refine (all_sha HC.out lo r2 f (R.lst n) _ HL.out HL3.out H3.out (HO.out.lst n)).mono ?_); rintro e4 w4 ⟨v4,rfl,r4,i4,k4⟩; have H4 := Aq.mk i4; have K4 := Aq.mk (K3.out.trans k4); have R4 := Aq.mk (Kd.R_lower r4 (Nat.le_trans K1.out.size K3.out.size)); clear i4 k4 r4))
 go_ret
 exact ⟨v4,rfl,R4.out,HP.out.back (I := R) HNE.out K4.out H4.out,K1.out.inner HN.out K4.out⟩
set_option maxRecDepth 100000 in
set_option maxHeartbeats 8000000 in
theorem all_ide {k : Nat} {one : Rp → S111 × Rp} (hk : OneC k (fun x : S111 => .agg #[.string x.f0,.int .i64 x.f1]) one) (lo r f : Nat) (R : Rp) (w : World) (hl : lo ≤ f) (hl2 : lo ≤ r) (h : RS w r f R) (ho : R.Ok) :
  Calls Try.prog 121 #[.pointer (some ⟨r,0,none⟩),.func (.func k) #[] #[]] w fun ex w' => ∃ v,ex = .returned v ∧ Kd.R k111 111 w' w.heap.size (fun _ => True) v (allV one R) ∧ RS w' r f (allR one R) ∧ Kf lo r f w w' := by
 have H := Aq.mk h
 have HL := Aq.mk hl
 have HL2 := Aq.mk hl2
 have HO := Aq.mk ho
 have HLW := Aq.mk (h.wsz hl)
 have HC := Aq.mk hk
 have eg := hk.enters
 clear h hl hl2 ho hk
 go_enter Try.func121,Try.ntmps121
 go_wp2
 go_loopg [5] R.s.size (fun gk v wr => ∃ (xs : List S111) (R' : Rp),Aq (RS wr r f R') ∧ Aq R'.Ok ∧ Aq (Kd.R k111 111 wr w.heap.size (fun _ => True) v xs) ∧ Aq (Kf lo r f w wr) ∧ Aq (R'.mu ≤ gk ∧ xs.length + R'.mu ≤ 65536) ∧ Aq (xs ++ (rAll one gk R').1 = allV one R ∧ (rAll one gk R').2 = allR one R))
 case atStart => exact ⟨[],R,H,HO,⟨Kd.R_nil _ _ _ _ _⟩,⟨Kf.refl _ _ _ _⟩,⟨mu_le R,by have := mu_le R; have := HO.out.sz; simp only [List.length_nil]; omega⟩,⟨rfl,rfl⟩⟩
 case round =>
 obtain ⟨xs,R',Hi,Oi,Ri,Ki,Mi,Ei⟩ := hrel
 have HLi := Aq.mk (show lo ≤ wr.heap.size from Nat.le_trans HLW.out Ki.out.size)
 by_cases hm : R'.more = true
 ·have HM := Aq.mk hm
  obtain ⟨gk',hgk⟩ : ∃ g,gk = g + 1 := ⟨gk - 1,by have := mu_pos Oi.out.lo hm; have := Mi.out.1; omega⟩
  subst hgk
  obtain ⟨y,hy⟩ : ∃ y,(one R').1 = y := ⟨_,rfl⟩
  have HY := Aq.mk hy
  clear hy
  go_wp2_with (first
   | (go_at_call 99; (with_reducible refine (more_c r f R' _ Hi.out).mono ?_); rintro e1 w1 ⟨rfl,b1⟩; have H1 := Aq.mk (Hi.out.below b1); have K1 := Aq.mk (Ki.out.over b1 HLi.out Ki.out.size); have R1 := Aq.mk (Kd.R_below Ri.out b1); clear b1)
   | ((refine (HC.out.calls lo r f R' _ HL.out HL2.out H1.out Oi.out).mono ?_); rintro e2 w2 ⟨rfl,i2,k2⟩; rw [HY.out]; have H2 := Aq.mk i2; have K2 := Aq.mk (K1.out.trans k2); have R2 := Aq.mk (R_kf R1.out k2 H.out.sz.1 H.out.sz.2); clear i2 k2)
   | ((with_reducible refine gate_builtin (b := .append) (xs := #[.tmp 8,.tmp 12]) rfl ?_); at_builtin; refine Kd.R_append k111 (w0 := w2) w.heap.size rfl (.tmp 8) (.tmp 12) 46 111 (.agg #[(.string ⟨#[]⟩),(.int .i64 0)]) 24 rfl Try.underlying46 inf111 rfl (by decide) (by omega) u5 xs y [.string y.f0,.int .i64 y.f1] (fun _ => True) (fun _ => False) rfl rfl ?aP (fun _ hk => hk.elim) ?aF R2.out ?aB ?aS ?aL ?_; (case aP => exact k111_mkM _ _ _ y); (case aF => exact (fun _ _ => trivial)); (case aB => exact Below.refl _ _); (case aS => exact K2.out.size); (case aL => exact len_bd Mi.out.2 (mu_pos Oi.out.lo HM.out) (by omega)); intro v3 w3 ho3 hb3 hg3 hat3; have H3 := Aq.mk (H2.out.over hb3 H.out.sz.1 H.out.sz.2); have K3 := Aq.mk (K2.out.over hb3 HLW.out (Nat.le_refl _)); have R3 := Aq.mk ho3; clear ho3 hb3 hg3 hat3))
  have E3 := Aq.mk (show (xs ++ [y]) ++ (rAll one gk' (one R').2).1 = allV one R ∧ (rAll one gk' (one R').2).2 = allR one R from by
   have := Ei.out
   unfold rAll at this
   rw [if_pos HM.out] at this
   rw [← HY.out,List.append_assoc]
   exact this)
  have M3 := Aq.mk (show (one R').2.mu ≤ gk' ∧ (xs ++ [y]).length + (one R').2.mu ≤ 65536 from by
   have h1 := HC.out.ok.mu R' Oi.out HM.out
   have h2 := Mi.out
   rw [List.length_append,List.length_singleton]
   omega)
  have O3 := Aq.mk (HC.out.ok.ok R' Oi.out)
  go_roundg gk'
  case rel => exact ⟨xs ++ [y],(one R').2,H3,O3,R3,K3,M3,E3⟩
  case measure => omega
 ·have hmf : R'.more = false := by simpa using hm
  have hz := mu_zero hm Oi.out
  have E1 := Aq.mk (show xs = allV one R ∧ R' = allR one R from by
   have h0 := Ei.out
   have h2 : rAll one gk R' = ([],R') := by
    cases gk with
    | zero => rfl
    | succ n => unfold rAll; rw [if_neg hm]
   rw [h2] at h0
   exact ⟨by simpa using h0.1,h0.2⟩)
  clear hm hz
  go_wp2_with (first
   | (go_at_call 99; (with_reducible refine (more_c r f R' _ Hi.out).mono ?_); rintro e1 w1 ⟨rfl,b1⟩; have H1 := Aq.mk (Hi.out.below b1); have K1 := Aq.mk (Ki.out.over b1 HLi.out Ki.out.size); have R1 := Aq.mk (Kd.R_below Ri.out b1); clear b1))
  go_ret
  exact ⟨u5,rfl,by rw [← E1.out.1]; exact R1.out,by rw [← E1.out.2]; exact H1.out,K1.out⟩
set_option maxRecDepth 100000 in
set_option maxHeartbeats 8000000 in
theorem list_ide {k : Nat} {one : Rp → S111 × Rp} (hk : OneC k (fun x : S111 => .agg #[.string x.f0,.int .i64 x.f1]) one) (lo r f : Nat) (R : Rp) (w : World) (z : Int) (n : Nat) (hz : z = n) (h1 : 1 ≤ n) (h3 : n ≤ 3) (hl : lo ≤ f) (hl2 : lo ≤ r) (h : RS w r f R) (ho : R.Ok) :
  Calls Try.prog 118 #[.pointer (some ⟨r,0,none⟩),.int .i64 z,.func (.func k) #[] #[]] w fun ex w' => ∃ v,ex = .returned v ∧ Kd.R k111 111 w' w.heap.size (fun _ => True) v (lstV one R n) ∧ RS w' r f (lstR one R n) ∧ Kf lo r f w w' := by
 have H := Aq.mk h
 have HL := Aq.mk hl
 have HL2 := Aq.mk hl2
 have HO := Aq.mk ho
 have HLW := Aq.mk (h.wsz hl)
 have HC := Aq.mk hk
 have HZ := Aq.mk hz
 clear h hl hl2 ho hk hz
 go_enter Try.func118,Try.ntmps118
 go_wp2_with (first
  | (go_at_call 66; (with_reducible refine (rwithin_c lo r f R _ z n HZ.out h1 h3 HL.out HL2.out H.out HO.out).mono ?_); rintro e1 w1 ⟨r2,rfl,n1,i1,j1,k1⟩; have HN := Aq.mk n1; have HP := Aq.mk i1; have H1 := Aq.mk j1; have K1 := Aq.mk k1; have HL3 := Aq.mk (show lo ≤ r2 from Nat.le_trans (H.out.wsz HL.out) n1); have HNE := Aq.mk (show r ≠ r2 from by have := H.out.sz; omega); clear n1 i1 j1 k1)
  | ((with_reducible refine gate_dst (N := 15) rfl ?_); refine ld (v := .string (R.inR n).s) rfl rfl rfl H1.out.rd Try.underlying9 rfl rfl ?_)
  | (go_at_call 72; (with_reducible refine (rneed_c lo r2 f (R.inR n) _ (decide (0 < (R.inR n).s.size)) HL.out H1.out).mono ?_); rintro e3 w3 ⟨rfl,i3,k3⟩; have H3 := Aq.mk (show RS w3 r2 f (R.lst n) from i3); have K3 := Aq.mk k3; clear i3 k3)
  | (go_at_call 121; (refine (all_ide HC.out lo r2 f (R.lst n) _ HL.out HL3.out H3.out (HO.out.lst n)).mono ?_); rintro e4 w4 ⟨v4,rfl,r4,i4,k4⟩; have H4 := Aq.mk i4; have K4 := Aq.mk (K3.out.trans k4); have R4 := Aq.mk (Kd.R_lower r4 (Nat.le_trans K1.out.size K3.out.size)); clear i4 k4 r4))
 go_ret
 exact ⟨v4,rfl,R4.out,HP.out.back (I := R) HNE.out K4.out H4.out,K1.out.inner HN.out K4.out⟩
end Go.Proofs.Ytlkebjkpmiehcaa.Ms
end
section
namespace Go.Proofs.Ytlkebjkpmiehcaa.Ms
open Go.RowKit Go.Proofs.YtlkebjkpmiehcaaW.PrintWords Go.Proofs.YtlkebjkpmiehcaaW.PrintLast Go.Proofs.YtlkebjkpmiehcaaW.PrintMore Go.Proofs.Ytlkebjkpmiehcaa.X
set_option linter.unusedVariables false
structure Mv where
 f0 : Int
 f1 : ByteArray
 f2 : ByteArray
 f3 : List Int
 f4 : ByteArray
 f5 : List Int
 f6 : List Int
 f7 : List Int
 f8 : List Int
 f9 : List S66
 f10 : List S111
 f11 : List ByteArray
 f12 : Int
 f13 : List Int
 f14 : List ByteArray
 f15 : Int
 f16 : ByteArray
 f17 : Int
 f18 : Int
 f19 : ByteArray
 f20 : Int
structure Hd where
 A3 : Option Addr
 c3 : Nat
 A5 : Option Addr
 c5 : Nat
 A6 : Option Addr
 c6 : Nat
 A7 : Option Addr
 c7 : Nat
 A8 : Option Addr
 c8 : Nat
 A9 : Option Addr
 c9 : Nat
 A10 : Option Addr
 c10 : Nat
 A11 : Option Addr
 c11 : Nat
 A13 : Option Addr
 c13 : Nat
 A14 : Option Addr
 c14 : Nat
def cells (m : Mv) (h : Hd) : Array Value := #[.int .i64 m.f0,.string m.f1,.string m.f2,.slice h.A3 m.f3.length h.c3,.string m.f4,.slice h.A5 m.f5.length h.c5,.slice h.A6 m.f6.length h.c6,.slice h.A7 m.f7.length h.c7,.slice h.A8 m.f8.length h.c8,.slice h.A9 m.f9.length h.c9,.slice h.A10 m.f10.length h.c10,.slice h.A11 m.f11.length h.c11,.int .i64 m.f12,.slice h.A13 m.f13.length h.c13,.slice h.A14 m.f14.length h.c14,.int .i64 m.f15,.string m.f16,.int .i64 m.f17,.int .i64 m.f18,.string m.f19,.int .i64 m.f20]
structure Reads (w : World) (m : Mv) (h : Hd) : Prop where
 r3 : Kd.C (Kd.int .i64) w h.A3 m.f3.length m.f3
 l3 : m.f3.length ≤ h.c3
 r5 : Kd.C (Kd.int .i64) w h.A5 m.f5.length m.f5
 l5 : m.f5.length ≤ h.c5
 r6 : Kd.C (Kd.int .i64) w h.A6 m.f6.length m.f6
 l6 : m.f6.length ≤ h.c6
 r7 : Kd.C (Kd.int .i64) w h.A7 m.f7.length m.f7
 l7 : m.f7.length ≤ h.c7
 r8 : Kd.C (Kd.int .i64) w h.A8 m.f8.length m.f8
 l8 : m.f8.length ≤ h.c8
 r9 : Kd.C k66 w h.A9 m.f9.length m.f9
 l9 : m.f9.length ≤ h.c9
 r10 : Kd.C k111 w h.A10 m.f10.length m.f10
 l10 : m.f10.length ≤ h.c10
 r11 : Kd.C Kd.string w h.A11 m.f11.length m.f11
 l11 : m.f11.length ≤ h.c11
 r13 : Kd.C (Kd.int .i64) w h.A13 m.f13.length m.f13
 l13 : m.f13.length ≤ h.c13
 r14 : Kd.C Kd.string w h.A14 m.f14.length m.f14
 l14 : m.f14.length ≤ h.c14
theorem Reads.below {w w2 : World} {m : Mv} {h : Hd} (r : Reads w m h) (b : Below w.heap.size w w2) : Reads w2 m h := ⟨Kd.C_below r.r3 b,r.l3,Kd.C_below r.r5 b,r.l5,Kd.C_below r.r6 b,r.l6,Kd.C_below r.r7 b,r.l7,Kd.C_below r.r8 b,r.l8,Kd.C_below r.r9 b,r.l9,Kd.C_below r.r10 b,r.l10,Kd.C_below r.r11 b,r.l11,Kd.C_below r.r13 b,r.l13,Kd.C_below r.r14 b,r.l14⟩
def Mv.unused (m : Mv) : Mv := if m.f0 = 1 then { m with f4 := ByteArray.empty,f7 := [],f8 := [],f10 := [],f11 := [],f1 := ByteArray.empty,f2 := ByteArray.empty,f3 := [],f5 := [],f6 := [],f9 := [] } else if m.f0 = 2 then { m with f12 := 0,f1 := ByteArray.empty,f2 := ByteArray.empty,f3 := [],f5 := [],f6 := [],f9 := [] } else if m.f0 = 11 then { m with f14 := [] } else if m.f0 = 4 then { m with f17 := 0,f18 := 0,f19 := ByteArray.empty,f16 := ByteArray.empty } else if m.f0 = 20 then { m with f16 := ByteArray.empty } else if m.f0 = 15 then { m with f15 := 0,f16 := ByteArray.empty } else if m.f0 = 24 then { m with f20 := 0 } else m
def Hd.unused (m : Mv) (h : Hd) : Hd := if m.f0 = 1 then { h with A7 := none,c7 := 0,A8 := none,c8 := 0,A10 := none,c10 := 0,A11 := none,c11 := 0,A3 := none,c3 := 0,A5 := none,c5 := 0,A6 := none,c6 := 0,A9 := none,c9 := 0 } else if m.f0 = 2 then { h with A3 := none,c3 := 0,A5 := none,c5 := 0,A6 := none,c6 := 0,A9 := none,c9 := 0 } else if m.f0 = 11 then { h with A14 := none,c14 := 0 } else if m.f0 = 4 then h else if m.f0 = 20 then h else if m.f0 = 15 then h else if m.f0 = 24 then h else h
theorem sz3 : (Try.prog.info? 3).map (·.size) = some 1 := by kernel_rfl
theorem sz9 : (Try.prog.info? 9).map (·.size) = some 1 := by kernel_rfl
theorem sz44 : (Try.prog.info? 44).map (·.size) = some 1 := by kernel_rfl
theorem sz45 : (Try.prog.info? 45).map (·.size) = some 1 := by kernel_rfl
theorem sz46 : (Try.prog.info? 46).map (·.size) = some 1 := by kernel_rfl
theorem sz47 : (Try.prog.info? 47).map (·.size) = some 1 := by kernel_rfl
theorem sz49 : (Try.prog.info? 49).map (·.size) = some 21 := by kernel_rfl
theorem C_nil {α : Type} (d : Kd α) (w : World) : Kd.C d w none 0 [] := Kd.C_nil _ _
def zcells : Array Value := #[.int .i64 0,.string ⟨#[]⟩,.string ⟨#[]⟩,.slice none 0 0,.string ⟨#[]⟩,.slice none 0 0,.slice none 0 0,.slice none 0 0,.slice none 0 0,.slice none 0 0,.slice none 0 0,.slice none 0 0,.int .i64 0,.slice none 0 0,.slice none 0 0,.int .i64 0,.string ⟨#[]⟩,.int .i64 0,.int .i64 0,.string ⟨#[]⟩,.int .i64 0]
theorem box49 {ops : Array Oper} {rest : List Oper} {o : Oper} {a : Act} {Q : Exit → Act → World → Prop} {w : World} {x : Operand} (hgd : o.guard = none) (ho : o.op = .box 49 x) {cs : Array Value} (hx : a.eval x = .agg cs)
  (H : ∀ g,g = w.heap.size → ∀ w1,w1.heap[g]? = some (.cells cs 49 (0,0)) → Below w.heap.size w w1 → wpList Try.prog ops Q rest (a.put o.dst (.pointer (some ⟨g,0,none⟩))) w1) : wpList Try.prog ops Q (o :: rest) a w := by
 refine Kd.event_run hgd ?_ (H _ rfl _ (blk_new w _) (below_alloc (Below.refl _ _) _))
 unfold execOp
 simp only [ho,hx]
 rfl
theorem zero49 : (Try.prog.info? 49).map (·.zero) = some (some (.agg #[.int .i64 0,.string ⟨#[]⟩,.string ⟨#[]⟩,.slice none 0 0,.string ⟨#[]⟩,.slice none 0 0,.slice none 0 0,.slice none 0 0,.slice none 0 0,.slice none 0 0,.slice none 0 0,.slice none 0 0,.int .i64 0,.slice none 0 0,.slice none 0 0,.int .i64 0,.string ⟨#[]⟩,.int .i64 0,.int .i64 0,.string ⟨#[]⟩,.int .i64 0])) := by kernel_rfl
theorem alloc49 {ops : Array Oper} {rest : List Oper} {o : Oper} {a : Act} {Q : Exit → Act → World → Prop} {w : World} (hgd : o.guard = none) (ho : o.op = .alloc 49)
  (H : ∀ g,g = w.heap.size → ∀ cs,cs.size = 21 → ∀ w1,w1.heap[g]? = some (.cells cs 49 (0,0)) → Below w.heap.size w w1 → wpList Try.prog ops Q rest (a.put o.dst (.pointer (some ⟨g,0,none⟩))) w1) : wpList Try.prog ops Q (o :: rest) a w := by
 refine Kd.event_run hgd ?_ (H _ rfl zcells rfl _ (blk_new w (.cells zcells 49)) (below_alloc (Below.refl _ _) _))
 obtain ⟨i0,hi,hz⟩ := Option.map_eq_some_iff.1 zero49
 unfold execOp
 simp only [ho,Instr.alloc,zeroValue,typeInfo,Sem.run_bind]
 simp [hi,hz]
 rfl
def Mv.texts (m : Mv) : Nat := m.f1.size + m.f2.size + m.f4.size + m.f16.size + m.f19.size
def Mv.lists (m : Mv) : Nat := m.f3.length + m.f5.length + m.f6.length + m.f7.length + m.f8.length + m.f9.length + m.f10.length + m.f11.length + m.f13.length + m.f14.length
def Mv.zero (m : Mv) : Bool := m.texts == 0 && m.lists == 0 && m.f12 == 0 && m.f15 == 0 && m.f17 == 0 && m.f18 == 0 && m.f20 == 0
theorem zero_f (m : Mv) (ht : m.texts ≤ 9223372036854775807) (hl : m.lists ≤ 9223372036854775807) : msg_zero.f m.f0 m.f1 m.f2 m.f3 m.f4 m.f5 m.f6 m.f7 m.f8 m.f9 m.f10 m.f11 m.f12 m.f13 m.f14 m.f15 m.f16 m.f17 m.f18 m.f19 m.f20 = some m.zero := by
 unfold Mv.texts at ht
 unfold Mv.lists at hl
 have e (s : ByteArray) : (s.toList = ([] : List UInt8)) ↔ s.size = 0 := by
  rw [ByteArray.toList_eq]
  exact ⟨fun h => by have := congrArg List.length h; simpa using this,fun h => List.eq_nil_of_length_eq_zero (by simpa using h)⟩
 have w64 (x : Int) (h0 : 0 ≤ x) (h1 : x ≤ 9223372036854775807) : wrap64 x = x := (i64_w x).symm.trans (IntWalk.i64_in x (by omega))
 unfold msg_zero.f Mv.zero Mv.texts Mv.lists
 simp only [Option.bind_some,ByteArray.size_append,e]
 rw [if_pos (by omega),if_pos (by omega),if_pos (by omega),if_pos (by omega)]
 simp (disch := omega) only [w64]
 by_cases h1 : m.f1.size + m.f2.size + m.f4.size + m.f16.size + m.f19.size = 0
 ·rw [if_pos h1]
  by_cases h2 : m.f3.length + m.f5.length + m.f6.length + m.f7.length + m.f8.length + m.f9.length + m.f10.length + m.f11.length + m.f13.length + m.f14.length = 0
  ·rw [if_pos (by omega)]
   by_cases h3 : m.f12 = 0 <;> by_cases h4 : m.f15 = 0 <;> by_cases h5 : m.f17 = 0 <;> by_cases h6 : m.f18 = 0 <;> simp [h1,h2,h3,h4,h5,h6]
  ·rw [if_neg (by omega)]
   rw [show ((m.f3.length + m.f5.length + m.f6.length + m.f7.length + m.f8.length + m.f9.length + m.f10.length + m.f11.length + m.f13.length + m.f14.length) == 0) = false from beq_eq_false_iff_ne.mpr h2]
   simp
 ·rw [if_neg h1]
  rw [show ((m.f1.size + m.f2.size + m.f4.size + m.f16.size + m.f19.size) == 0) = false from beq_eq_false_iff_ne.mpr h1]
  simp
theorem zero_calls (m : Mv) (h : Hd) (w : World) (rd : Reads w m h) (ht : m.texts ≤ 9223372036854775807) (hl : m.lists ≤ 9223372036854775807) :
  Calls Try.prog 45 #[.agg (cells m h)] w fun e w' => e = .returned (.bool m.zero) ∧ Below w.heap.size w w' :=
 msg_zero.calls m.f0 m.f1 m.f2 h.A3 h.c3 m.f3 m.f4 h.A5 h.c5 m.f5 h.A6 h.c6 m.f6 h.A7 h.c7 m.f7 h.A8 h.c8 m.f8 h.A9 h.c9 m.f9 h.A10 h.c10 m.f10 h.A11 h.c11 m.f11 m.f12 h.A13 h.c13 m.f13 h.A14 h.c14 m.f14 m.f15 m.f16 m.f17 m.f18 m.f19 m.f20 m.zero w rd.r3 rd.l3 rd.r5 rd.l5 rd.r6 rd.l6 rd.r7 rd.l7 rd.r8 rd.l8 rd.r9 rd.l9 rd.r10 rd.l10 rd.r11 rd.l11 rd.r13 rd.l13 rd.r14 rd.l14 (zero_f m ht hl)
def Mv.retry (m : Mv) : Bool := m.f0 == 2 && m.f1.toList == ([207,33,173,116,229,154,97,17,190,29,140,2,30,101,184,145,194,162,17,22,122,187,140,94,7,158,9,226,200,168,51,156] : List UInt8)
theorem retry_calls (m : Mv) (h : Hd) (w : World) (rd : Reads w m h) :
  Calls Try.prog 30 #[.agg (cells m h)] w fun e w' => e = .returned (.bool m.retry) ∧ Below w.heap.size w w' :=
 msg_Retry.calls m.f0 m.f1 m.f2 h.A3 h.c3 m.f3 m.f4 h.A5 h.c5 m.f5 h.A6 h.c6 m.f6 h.A7 h.c7 m.f7 h.A8 h.c8 m.f8 h.A9 h.c9 m.f9 h.A10 h.c10 m.f10 h.A11 h.c11 m.f11 m.f12 h.A13 h.c13 m.f13 h.A14 h.c14 m.f14 m.f15 m.f16 m.f17 m.f18 m.f19 m.f20 m.retry w rd.r3 rd.l3 rd.r5 rd.l5 rd.r6 rd.l6 rd.r7 rd.l7 rd.r8 rd.l8 rd.r9 rd.l9 rd.r10 rd.l10 rd.r11 rd.l11 rd.r13 rd.l13 rd.r14 rd.l14 (by
  unfold msg_Retry.f Mv.retry
  by_cases h0 : m.f0 = 2 <;> simp [h0])
end Go.Proofs.Ytlkebjkpmiehcaa.Ms
end
