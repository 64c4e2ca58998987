-- Written by a program of this session (wip/tools/xprint.py), over the kit's printer.
import Derived.Test.YtonemdclfgckoaaXx0
import Derived.Test.YtonemdclfgckoaaXx7
namespace Go.Proofs.Ytonemdclfgckoaa.X
open Go.RowKit Go.Proofs.YtonemdclfgckoaaW.PrintWords Go.Proofs.YtonemdclfgckoaaW.PrintLast Go.Proofs.YtonemdclfgckoaaW.PrintMore
attribute [local go_sem] max2_int min2_int max_two min_two max_three min_three max_four min_four   -- for this text's walks alone
set_option linter.unusedVariables false
set_option linter.unusedSimpArgs false

/-! ### halberdref13_Integer: function 11 -/
def halberdref13_Integer.l0 : Nat → ByteArray → Option (ByteArray × Int)
 | 0,_ => none
 | k + 1,x0 => if (x0.size : Int) > 0 then (if (bt x0 0) = 0 then (if 1 ≤ (x0.size : Int) then (halberdref13_Integer.l0 k (x0.extract 1 x0.size)) else (none)) else (if x0.toList = ([] : List UInt8) then (if 1 + x0.size ≤ 9223372036854775807 then ((halberdref13_Tl.f k 2 ((⟨#[0]⟩ : ByteArray) ++ x0)).bind fun t169 => (some (t169,0))) else (none)) else (if (bt x0 0) > 127 then (if 1 + x0.size ≤ 9223372036854775807 then ((halberdref13_Tl.f k 2 ((⟨#[0]⟩ : ByteArray) ++ x0)).bind fun t171 => (some (t171,0))) else (none)) else ((halberdref13_Tl.f k 2 x0).bind fun t172 => (some (t172,0)))))) else (if x0.toList = ([] : List UInt8) then (if 1 + x0.size ≤ 9223372036854775807 then ((halberdref13_Tl.f k 2 ((⟨#[0]⟩ : ByteArray) ++ x0)).bind fun t174 => (some (t174,0))) else (none)) else (none))
def halberdref13_Integer.f (k : Nat) (a0 : ByteArray) : Option (ByteArray × Int) := if (a0.size : Int) > 64 then (some ((⟨#[]⟩ : ByteArray),1300)) else (halberdref13_Integer.l0 k a0)
theorem halberdref13_Integer.mono_l : ∀ k,(∀ y0,LeO (halberdref13_Integer.l0 k y0) (halberdref13_Integer.l0 (k + 1) y0))
 | 0 => fun _ r h => by simp [halberdref13_Integer.l0] at h
 | k + 1 => by
  have ih0 := halberdref13_Integer.mono_l k
  ·intro y0
   unfold halberdref13_Integer.l0
   repeat' first
   | (with_reducible exact ih0 _)
   | (with_reducible exact halberdref13_Tl.mono _ _ _)
   | (with_reducible exact LeO.refl _)
   | (with_reducible exact LeO.none _)
   | (with_reducible refine LeO.ite ?_ ?_)
   | (with_reducible refine LeO.bind ?_ (fun _ => ?_))
   | exact ih0 _
   | exact halberdref13_Tl.mono _ _ _
   | exact LeO.none _
   | refine LeO.ite ?_ ?_
   | refine LeO.bind ?_ (fun _ => ?_)
theorem halberdref13_Integer.mono : ∀ a0 k,LeO (halberdref13_Integer.f k a0) (halberdref13_Integer.f (k + 1) a0) := by
 intro a0 k
 have ih0 := halberdref13_Integer.mono_l k
 unfold halberdref13_Integer.f
 repeat' first
   | (with_reducible exact ih0 _)
   | (with_reducible exact halberdref13_Tl.mono _ _ _)
   | (with_reducible exact LeO.refl _)
   | (with_reducible exact LeO.none _)
   | (with_reducible refine LeO.ite ?_ ?_)
   | (with_reducible refine LeO.bind ?_ (fun _ => ?_))
   | exact ih0 _
   | exact halberdref13_Tl.mono _ _ _
   | exact LeO.none _
   | refine LeO.ite ?_ ?_
   | refine LeO.bind ?_ (fun _ => ?_)
set_option maxHeartbeats 8000000 in
set_option maxRecDepth 100000 in
theorem halberdref13_Integer.calls (k : Nat) (a0 : ByteArray) (r1 : ByteArray) (r2 : Int) (w : World) (h : halberdref13_Integer.f k a0 = some (r1,r2)) :
  Calls Try.prog 11 #[.string a0] w fun e w' => e = .returned (.tuple #[.string r1,.int .i64 r2]) ∧ Below w.heap.size w w' := by
 have HB := Aside0.mk (Below.refl w.heap.size w)
 have H : (if (a0.size : Int) > 64 then (some ((⟨#[]⟩ : ByteArray),1300)) else (halberdref13_Integer.l0 k a0)) = some (r1,r2) := h
 clear h
 by_cases c2 : (a0.size : Int) > 64
 ·rw [if_pos c2] at H
  have c2b0 : decide (64 < (a0.size : Int)) = true := decide_eq_true c2
  have c2b1 : decide (64 < a0.size) = true := decide_eq_true (by omega)
  clear c2
  simp only [Option.some.injEq,Prod.mk.injEq] at H
  obtain ⟨rfl,rfl⟩ := H
  go_enter Try.func11,Try.ntmps11
  go_wp2
  go_ret2
  exact ⟨by first | rfl | (simp [errW_none,errW_some] <;> rfl) | (simp [*,errW_none,errW_some] <;> rfl),by repeat (first | (with_reducible first | exact HB.out | apply below_alloc | apply pw_below_drewN | apply below_drew1) | exact HB.out)⟩
 ·rw [if_neg c2] at H
  have c2b0 : decide (64 < (a0.size : Int)) = false := decide_eq_false c2
  have c2b1 : decide (64 < a0.size) = false := decide_eq_false (by omega)
  clear c2
  have H' := Aside0.mk H
  clear H
  go_enter Try.func11,Try.ntmps11
  go_wp2
  go_loopg [0] k (fun kq v0 w' => ∃ (x0_1 : ByteArray),v0 = .string x0_1 ∧ Aside0 (halberdref13_Integer.l0 kq x0_1 = some (r1,r2)) ∧ Aside0 (kq ≤ k) ∧ Aside0 (Below w.heap.size w w'))
  case atStart => exact ⟨(a0),(by first | rfl | (simp; done) | (simp [*]; done)),H',⟨Nat.le_refl _⟩,⟨by repeat (first | (with_reducible first | exact HB.out | apply below_alloc | apply pw_below_drewN | apply below_drew1) | exact HB.out)⟩⟩
  case round =>
   clear H'
   try clear c1
   try clear c2
   try clear c2b0
   try clear c2b1
   try clear p2
   obtain ⟨x0_1,rfl,HA,HK1,HB⟩ := hrel
   cases gk with
   | zero => exact absurd HA.out (by simp [halberdref13_Integer.l0])
   | succ k1 =>
    have H := HA.out
    clear HA
    simp only [halberdref13_Integer.l0] at H
    by_cases c3 : (x0_1.size : Int) > 0
    ·rw [if_pos c3] at H
     have c3b0 : decide (0 < (x0_1.size : Int)) = true := decide_eq_true c3
     have c3b1 : decide (0 < x0_1.size) = true := decide_eq_true (by omega)
     clear c3
     by_cases c5 : (bt x0_1 0) = 0
     ·rw [if_pos c5] at H
      have c5b0 : ((bt x0_1 0) == 0) = true := beq_iff_eq.mpr c5
      have c5b1 : ((bt x0_1 0) != 0) = false := bne_eq_false_iff_eq.mpr c5
      clear c5
      by_cases c6 : 1 ≤ (x0_1.size : Int)
      ·rw [if_pos c6] at H
       have c6b0 := eq_true c6
       have c6b1 : decide (1 ≤ (x0_1.size : Int)) = true := decide_eq_true c6
       clear c6
       have H' := Aside0.mk H
       clear H
       have p4 : 0 ≤ (0 : Int) := (by omega)
       have q4 : 0 < x0_1.size := (by have : (0 : Int) < (x0_1.size : Int) := of_decide_eq_true (by first | (with_reducible assumption) | assumption); omega)
       have hx4 : ∀ h : 0 < x0_1.size,((x0_1[0]'h).toNat : Int) = bt x0_1 0 := bt_at x0_1 0
       clear p4
       have qi4 : (0 < (x0_1.size : Int)) = True := eq_true (of_decide_eq_true (by first | (with_reducible assumption) | assumption))
       replace q4 := eq_true q4
       go_wp2
       go_roundg k1
       case measure => have := HK1.out; omega
       case rel => exact ⟨(x0_1.extract 1 x0_1.size),(by first | rfl | (simp; done) | (simp [*]; done)),H',⟨by have := HK1.out; omega⟩,⟨by repeat (first | (with_reducible first | exact HB.out | apply below_alloc | apply pw_below_drewN | apply below_drew1) | exact HB.out)⟩⟩
      ·rw [if_neg c6] at H
       exact absurd H (by simp)
     ·rw [if_neg c5] at H
      have c5b0 : ((bt x0_1 0) == 0) = false := beq_eq_false_iff_ne.mpr c5
      have c5b1 : ((bt x0_1 0) != 0) = true := bne_iff_ne.mpr c5
      by_cases c7 : x0_1.toList = ([] : List UInt8)
      ·rw [if_pos c7] at H
       have c7b0 : (x0_1.toList == ([] : List UInt8)) = true := beq_iff_eq.mpr c7
       have c7b1 : (x0_1.toList != ([] : List UInt8)) = false := bne_eq_false_iff_eq.mpr c7
       clear c7
       by_cases c8 : 1 + x0_1.size ≤ 9223372036854775807
       ·rw [if_pos c8] at H
        have c8b0 := eq_true c8
        have c8b1 : decide (1 + x0_1.size ≤ 9223372036854775807) = true := decide_eq_true c8
        try have c8b2 : (9223372036854775807 < 1 + x0_1.size) = False := eq_false (Nat.not_lt.2 c8)
        obtain ⟨ys168,hys168⟩ : ∃ y_ : ByteArray,y_ = ((⟨#[0]⟩ : ByteArray) ++ x0_1) := ⟨_,rfl⟩
        replace H : ((halberdref13_Tl.f k1 2 ys168).bind fun t169 => (some (t169,0))) = some (r1,r2) := by first | (rw [hys168]; with_reducible exact H) | (have H2_ := (Option.bind_some _ _).symm.trans H; rw [hys168]; with_reducible exact H2_) | (have H2_ := (Option.bind_some _ _).symm.trans H; with_reducible exact H2_) | with_reducible exact H | (rw [hys168]; exact H) | exact H
        have Nys168 := Aside0.mk hys168
        clear hys168
        have Sys168 := Nys168.out.symm
        replace H := Option.bind_eq_some_iff.mp H
        obtain ⟨t169,A90,H⟩ := H
        replace H : (some (t169,0)) = some (r1,r2) := H
        have A9 := Aside0.mk A90
        clear A90
        simp only [Option.some.injEq,Prod.mk.injEq] at H
        obtain ⟨rfl,rfl⟩ := H
        have p4 : 0 ≤ (0 : Int) := (by omega)
        have q4 : 0 < x0_1.size := (by have : (0 : Int) < (x0_1.size : Int) := of_decide_eq_true (by first | (with_reducible assumption) | assumption); omega)
        have hx4 : ∀ h : 0 < x0_1.size,((x0_1[0]'h).toNat : Int) = bt x0_1 0 := bt_at x0_1 0
        clear p4
        have qi4 : (0 < (x0_1.size : Int)) = True := eq_true (of_decide_eq_true (by first | (with_reducible assumption) | assumption))
        replace q4 := eq_true q4
        go_wp2_with (first | ((with_reducible refine gate_callee (f := 21) rfl ?_); refine goesL_ (some 27) rfl rfl Try.func21 (by kernel_rfl) rfl #[.int .i64 2,.string ys168] rfl (by (try simp only [List.map_toArray,List.map_cons,List.map_nil]); first | done | rfl | (simp only [List.length_drop,List.length_take]; rfl)) ?_; (with_reducible refine (halberdref13_Tl.calls k1 2 ys168 t169 _ A9.out).mono ?_); rintro e w10 ⟨rfl,hb⟩; refine ⟨_,rfl,?_⟩; have n0_ := Aside0.mk (below_step (by repeat (first | (with_reducible first | exact HB.out | apply below_alloc | apply pw_below_drewN | apply below_drew1) | exact HB.out)) hb); clear HB; have HB := n0_; clear n0_; (try clear hb); (try clear hb2); (try clear hk); (try clear hi)))
        go_ret2
        exact ⟨by first | rfl | (simp [errW_none,errW_some] <;> rfl) | (simp [*,errW_none,errW_some] <;> rfl),by repeat (first | (with_reducible first | exact HB.out | apply below_alloc | apply pw_below_drewN | apply below_drew1) | exact HB.out)⟩
       ·rw [if_neg c8] at H
        exact absurd H (by simp)
      ·rw [if_neg c7] at H
       have c7b0 : (x0_1.toList == ([] : List UInt8)) = false := beq_eq_false_iff_ne.mpr c7
       have c7b1 : (x0_1.toList != ([] : List UInt8)) = true := bne_iff_ne.mpr c7
       by_cases c12 : (bt x0_1 0) > 127
       ·rw [if_pos c12] at H
        have c12b0 : decide (127 < (bt x0_1 0)) = true := decide_eq_true c12
        clear c12
        by_cases c13 : 1 + x0_1.size ≤ 9223372036854775807
        ·rw [if_pos c13] at H
         have c13b0 := eq_true c13
         have c13b1 : decide (1 + x0_1.size ≤ 9223372036854775807) = true := decide_eq_true c13
         try have c13b2 : (9223372036854775807 < 1 + x0_1.size) = False := eq_false (Nat.not_lt.2 c13)
         obtain ⟨ys170,hys170⟩ : ∃ y_ : ByteArray,y_ = ((⟨#[0]⟩ : ByteArray) ++ x0_1) := ⟨_,rfl⟩
         replace H : ((halberdref13_Tl.f k1 2 ys170).bind fun t171 => (some (t171,0))) = some (r1,r2) := by first | (rw [hys170]; with_reducible exact H) | (have H2_ := (Option.bind_some _ _).symm.trans H; rw [hys170]; with_reducible exact H2_) | (have H2_ := (Option.bind_some _ _).symm.trans H; with_reducible exact H2_) | with_reducible exact H | (rw [hys170]; exact H) | exact H
         have Nys170 := Aside0.mk hys170
         clear hys170
         have Sys170 := Nys170.out.symm
         replace H := Option.bind_eq_some_iff.mp H
         obtain ⟨t171,A140,H⟩ := H
         replace H : (some (t171,0)) = some (r1,r2) := H
         have A14 := Aside0.mk A140
         clear A140
         simp only [Option.some.injEq,Prod.mk.injEq] at H
         obtain ⟨rfl,rfl⟩ := H
         have p4 : 0 ≤ (0 : Int) := (by omega)
         have q4 : 0 < x0_1.size := (by have : (0 : Int) < (x0_1.size : Int) := of_decide_eq_true (by first | (with_reducible assumption) | assumption); omega)
         have hx4 : ∀ h : 0 < x0_1.size,((x0_1[0]'h).toNat : Int) = bt x0_1 0 := bt_at x0_1 0
         clear p4
         have qi4 : (0 < (x0_1.size : Int)) = True := eq_true (of_decide_eq_true (by first | (with_reducible assumption) | assumption))
         replace q4 := eq_true q4
         have p11 : 0 ≤ (0 : Int) := (by omega)
         have q11 : 0 < x0_1.size := (by have : (0 : Int) < (x0_1.size : Int) := of_decide_eq_true (by first | (with_reducible assumption) | assumption); omega)
         have hx11 : ∀ h : 0 < x0_1.size,((x0_1[0]'h).toNat : Int) = bt x0_1 0 := bt_at x0_1 0
         clear p11
         have qi11 : (0 < (x0_1.size : Int)) = True := eq_true (of_decide_eq_true (by first | (with_reducible assumption) | assumption))
         replace q11 := eq_true q11
         go_wp2_with (first | ((with_reducible refine gate_callee (f := 21) rfl ?_); refine goesL_ (some 27) rfl rfl Try.func21 (by kernel_rfl) rfl #[.int .i64 2,.string ys170] rfl (by (try simp only [List.map_toArray,List.map_cons,List.map_nil]); first | done | rfl | (simp only [List.length_drop,List.length_take]; rfl)) ?_; (with_reducible refine (halberdref13_Tl.calls k1 2 ys170 t171 _ A14.out).mono ?_); rintro e w15 ⟨rfl,hb⟩; refine ⟨_,rfl,?_⟩; have n0_ := Aside0.mk (below_step (by repeat (first | (with_reducible first | exact HB.out | apply below_alloc | apply pw_below_drewN | apply below_drew1) | exact HB.out)) hb); clear HB; have HB := n0_; clear n0_; (try clear hb); (try clear hb2); (try clear hk); (try clear hi)))
         go_ret2
         exact ⟨by first | rfl | (simp [errW_none,errW_some] <;> rfl) | (simp [*,errW_none,errW_some] <;> rfl),by repeat (first | (with_reducible first | exact HB.out | apply below_alloc | apply pw_below_drewN | apply below_drew1) | exact HB.out)⟩
        ·rw [if_neg c13] at H
         exact absurd H (by simp)
       ·rw [if_neg c12] at H
        have c12b0 : decide (127 < (bt x0_1 0)) = false := decide_eq_false c12
        clear c12
        replace H := Option.bind_eq_some_iff.mp H
        obtain ⟨t172,A160,H⟩ := H
        replace H : (some (t172,0)) = some (r1,r2) := H
        have A16 := Aside0.mk A160
        clear A160
        simp only [Option.some.injEq,Prod.mk.injEq] at H
        obtain ⟨rfl,rfl⟩ := H
        have p4 : 0 ≤ (0 : Int) := (by omega)
        have q4 : 0 < x0_1.size := (by have : (0 : Int) < (x0_1.size : Int) := of_decide_eq_true (by first | (with_reducible assumption) | assumption); omega)
        have hx4 : ∀ h : 0 < x0_1.size,((x0_1[0]'h).toNat : Int) = bt x0_1 0 := bt_at x0_1 0
        clear p4
        have qi4 : (0 < (x0_1.size : Int)) = True := eq_true (of_decide_eq_true (by first | (with_reducible assumption) | assumption))
        replace q4 := eq_true q4
        have p11 : 0 ≤ (0 : Int) := (by omega)
        have q11 : 0 < x0_1.size := (by have : (0 : Int) < (x0_1.size : Int) := of_decide_eq_true (by first | (with_reducible assumption) | assumption); omega)
        have hx11 : ∀ h : 0 < x0_1.size,((x0_1[0]'h).toNat : Int) = bt x0_1 0 := bt_at x0_1 0
        clear p11
        have qi11 : (0 < (x0_1.size : Int)) = True := eq_true (of_decide_eq_true (by first | (with_reducible assumption) | assumption))
        replace q11 := eq_true q11
        go_wp2_with (first | ((with_reducible refine gate_callee (f := 21) rfl ?_); refine goesL_ (some 27) rfl rfl Try.func21 (by kernel_rfl) rfl #[.int .i64 2,.string x0_1] rfl (by (try simp only [List.map_toArray,List.map_cons,List.map_nil]); first | done | rfl | (simp only [List.length_drop,List.length_take]; rfl)) ?_; (with_reducible refine (halberdref13_Tl.calls k1 2 x0_1 t172 _ A16.out).mono ?_); rintro e w17 ⟨rfl,hb⟩; refine ⟨_,rfl,?_⟩; have n0_ := Aside0.mk (below_step (by repeat (first | (with_reducible first | exact HB.out | apply below_alloc | apply pw_below_drewN | apply below_drew1) | exact HB.out)) hb); clear HB; have HB := n0_; clear n0_; (try clear hb); (try clear hb2); (try clear hk); (try clear hi)))
        go_ret2
        exact ⟨by first | rfl | (simp [errW_none,errW_some] <;> rfl) | (simp [*,errW_none,errW_some] <;> rfl),by repeat (first | (with_reducible first | exact HB.out | apply below_alloc | apply pw_below_drewN | apply below_drew1) | exact HB.out)⟩
    ·rw [if_neg c3] at H
     have c3b0 : decide (0 < (x0_1.size : Int)) = false := decide_eq_false c3
     have c3b1 : decide (0 < x0_1.size) = false := decide_eq_false (by omega)
     clear c3
     by_cases c18 : x0_1.toList = ([] : List UInt8)
     ·rw [if_pos c18] at H
      have c18b0 : (x0_1.toList == ([] : List UInt8)) = true := beq_iff_eq.mpr c18
      have c18b1 : (x0_1.toList != ([] : List UInt8)) = false := bne_eq_false_iff_eq.mpr c18
      clear c18
      by_cases c19 : 1 + x0_1.size ≤ 9223372036854775807
      ·rw [if_pos c19] at H
       have c19b0 := eq_true c19
       have c19b1 : decide (1 + x0_1.size ≤ 9223372036854775807) = true := decide_eq_true c19
       try have c19b2 : (9223372036854775807 < 1 + x0_1.size) = False := eq_false (Nat.not_lt.2 c19)
       obtain ⟨ys173,hys173⟩ : ∃ y_ : ByteArray,y_ = ((⟨#[0]⟩ : ByteArray) ++ x0_1) := ⟨_,rfl⟩
       replace H : ((halberdref13_Tl.f k1 2 ys173).bind fun t174 => (some (t174,0))) = some (r1,r2) := by first | (rw [hys173]; with_reducible exact H) | (have H2_ := (Option.bind_some _ _).symm.trans H; rw [hys173]; with_reducible exact H2_) | (have H2_ := (Option.bind_some _ _).symm.trans H; with_reducible exact H2_) | with_reducible exact H | (rw [hys173]; exact H) | exact H
       have Nys173 := Aside0.mk hys173
       clear hys173
       have Sys173 := Nys173.out.symm
       replace H := Option.bind_eq_some_iff.mp H
       obtain ⟨t174,A200,H⟩ := H
       replace H : (some (t174,0)) = some (r1,r2) := H
       have A20 := Aside0.mk A200
       clear A200
       simp only [Option.some.injEq,Prod.mk.injEq] at H
       obtain ⟨rfl,rfl⟩ := H
       go_wp2_with (first | ((with_reducible refine gate_callee (f := 21) rfl ?_); refine goesL_ (some 27) rfl rfl Try.func21 (by kernel_rfl) rfl #[.int .i64 2,.string ys173] rfl (by (try simp only [List.map_toArray,List.map_cons,List.map_nil]); first | done | rfl | (simp only [List.length_drop,List.length_take]; rfl)) ?_; (with_reducible refine (halberdref13_Tl.calls k1 2 ys173 t174 _ A20.out).mono ?_); rintro e w21 ⟨rfl,hb⟩; refine ⟨_,rfl,?_⟩; have n0_ := Aside0.mk (below_step (by repeat (first | (with_reducible first | exact HB.out | apply below_alloc | apply pw_below_drewN | apply below_drew1) | exact HB.out)) hb); clear HB; have HB := n0_; clear n0_; (try clear hb); (try clear hb2); (try clear hk); (try clear hi)))
       go_ret2
       exact ⟨by first | rfl | (simp [errW_none,errW_some] <;> rfl) | (simp [*,errW_none,errW_some] <;> rfl),by repeat (first | (with_reducible first | exact HB.out | apply below_alloc | apply pw_below_drewN | apply below_drew1) | exact HB.out)⟩
      ·rw [if_neg c19] at H
       exact absurd H (by simp)
     ·rw [if_neg c18] at H
      exact absurd H (by simp)

end Go.Proofs.Ytonemdclfgckoaa.X
