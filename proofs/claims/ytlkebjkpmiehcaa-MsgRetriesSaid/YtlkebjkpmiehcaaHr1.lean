/- Words, contracts and lemmas that the claim needs, in the order in which they build. Conditions: each lemma's own. -/
import Derived.Below
import Derived.Deep.Draws
import Derived.Deep.AppendLies
import Derived.Maps.AppendAt
import Derived.OwnWalk
import Derived.Laws.BytesArg
import Derived.Laws.MakeOwn
import Derived.Laws.OwnMore
import Derived.Deep.OwnRows
import Derived.Tactics
import Derived.Lib.ConvBytes
import Derived.Laws.Slices
import Derived.WalkKit
import Derived.KernelRfl
import Derived.RowKit3
import Derived.Deep.LoopGhost
import Derived.Deep.QuietTactic
import Derived.BigQuiet
import Derived.WideLaws
import Derived.Deep.DeepCutAuto
import Derived.Deep.CutBlock
import Derived.Deep.RegionHeld3
import Derived.Laws.Rows
import Derived.Lib.AppendStr
import Derived.ArgAppend
import Derived.Laws.IdiomCopy
import Derived.OrdersHeld
import Derived.Laws.BitsLemmas
import Derived.RowKit
import Derived.Laws.Tables
import Derived.Maps.OwnOps
import Derived.Maps.Views
import Derived.Test.YtlkebjkpmiehcaaProg
import Derived.Test.YtlkebjkpmiehcaaHr0
section
namespace Go.Proofs.Ytlkebjkpmiehcaa.X
open Go.RowKit Go.Proofs.YtlkebjkpmiehcaaW.PrintWords Go.Proofs.YtlkebjkpmiehcaaW.PrintLast Go.Proofs.YtlkebjkpmiehcaaW.PrintMore
attribute [local go_sem] max2_int min2_int max_two min_two max_three min_three max_four min_four   
set_option linter.unusedVariables false
set_option linter.unusedSimpArgs false
def errW : Option Int → Value
  | none => .nilIface
  | some c => .iface 0 (.int .i64 c)
theorem errW_none : errW none = .nilIface := rfl
theorem errW_some (c : Int) : errW (some c) = .iface 0 (.int .i64 c) := rfl
theorem info3 : (Try.prog.info? 3).map (fun i => (i.zero, i.size, i.bytes)) = some (some (.int .i64 0), 1, 8) := by kernel_rfl
theorem info5 : (Try.prog.info? 5).map (fun i => (i.zero, i.size, i.bytes)) = some (some (.int .u8 0), 1, 1) := by kernel_rfl
theorem info41 : (Try.prog.info? 41).map (fun i => (i.zero, i.size, i.bytes)) = some (some (.agg #[(.int .i64 0), (.string ⟨#[]⟩)]), 2, 24) := by kernel_rfl
structure S41 where
  f0 : Int
  f1 : ByteArray
def z41 : S41 := ⟨(0 : Int), (⟨#[]⟩ : ByteArray)⟩
def k41 : Kd S41 := Kd.iso (Kd.pair (Kd.int .i64) Kd.string) (fun x : S41 => (x.f0, x.f1))
theorem k41_open {w : World} {x : S41} {cs : List Value} (h : k41.K w x cs) : cs = [.int .i64 x.f0, .string x.f1] := by
  obtain ⟨_, _, rfl, rfl, rfl⟩ := h
  exact rfl
theorem k41_mkM (w : World) (base : Nat) (ok : Nat → Prop) (x : S41)  : k41.M w base ok x [.int .i64 x.f0, .string x.f1] := ⟨[.int .i64 x.f0], [.string x.f1], rfl, rfl, rfl⟩
def rd_T41 (xs : List S41) (i : Int) : S41 := xs.getD i.toNat z41
theorem at_T41 {w : World} {A : Option Addr} {n : Nat} {xs : List S41} (h : Kd.C k41 w A n xs) (i : Int) (h0 : 0 ≤ i) (h1 : i < n) : ∃ ad , A = some ad ∧ w.cell? (ad.add (i.toNat * 2)) = some (.int .i64 (rd_T41 xs i).f0) ∧ w.cell? ⟨(ad.add (i.toNat * 2)).block, (ad.add (i.toNat * 2)).off + 1, none⟩ = some (.string (rd_T41 xs i).f1) := by
  obtain ⟨ad, c, e, _, hK, hc0⟩ := Kd.C_get h z41 i h0 h1
  have hc : ∀ j u, c[j]? = some u → w.cell? (ad.add (i.toNat * 2 + j)) = some u := hc0
  obtain rfl := k41_open hK
  exact ⟨ad, e, hc 0 _ rfl, by rw [← add_field _ _ 1 (by omega)]; exact hc 1 _ rfl⟩
structure S66 where
  f0 : Int
  f1 : ByteArray
def z66 : S66 := ⟨(0 : Int), (⟨#[]⟩ : ByteArray)⟩
def k66 : Kd S66 := Kd.iso (Kd.pair (Kd.int .i64) Kd.string) (fun x : S66 => (x.f0, x.f1))
theorem k66_open {w : World} {x : S66} {cs : List Value} (h : k66.K w x cs) : cs = [.int .i64 x.f0, .string x.f1] := by
  obtain ⟨_, _, rfl, rfl, rfl⟩ := h
  exact rfl
theorem k66_mkM (w : World) (base : Nat) (ok : Nat → Prop) (x : S66)  : k66.M w base ok x [.int .i64 x.f0, .string x.f1] := ⟨[.int .i64 x.f0], [.string x.f1], rfl, rfl, rfl⟩
def rd_T66 (xs : List S66) (i : Int) : S66 := xs.getD i.toNat z66
theorem at_T66 {w : World} {A : Option Addr} {n : Nat} {xs : List S66} (h : Kd.C k66 w A n xs) (i : Int) (h0 : 0 ≤ i) (h1 : i < n) : ∃ ad , A = some ad ∧ w.cell? (ad.add (i.toNat * 2)) = some (.int .i64 (rd_T66 xs i).f0) ∧ w.cell? ⟨(ad.add (i.toNat * 2)).block, (ad.add (i.toNat * 2)).off + 1, none⟩ = some (.string (rd_T66 xs i).f1) := by
  obtain ⟨ad, c, e, _, hK, hc0⟩ := Kd.C_get h z66 i h0 h1
  have hc : ∀ j u, c[j]? = some u → w.cell? (ad.add (i.toNat * 2 + j)) = some u := hc0
  obtain rfl := k66_open hK
  exact ⟨ad, e, hc 0 _ rfl, by rw [← add_field _ _ 1 (by omega)]; exact hc 1 _ rfl⟩
structure S111 where
  f0 : ByteArray
  f1 : Int
def k111 : Kd S111 := Kd.iso (Kd.pair Kd.string (Kd.int .i64)) (fun x : S111 => (x.f0, x.f1))
end Go.Proofs.Ytlkebjkpmiehcaa.X
end
section
namespace Go.Proofs.Ytlkebjkpmiehcaa.X
open Go.RowKit Go.Proofs.YtlkebjkpmiehcaaW.PrintWords Go.Proofs.YtlkebjkpmiehcaaW.PrintLast Go.Proofs.YtlkebjkpmiehcaaW.PrintMore
attribute [local go_sem] max2_int min2_int max_two min_two max_three min_three max_four min_four   
set_option linter.unusedVariables false
set_option linter.unusedSimpArgs false
def wire_Bytes.f (a0 : Int) (a1 : Int) : Option (ByteArray) := if a1 = 4 then (if ([] : List Int).length < 140737488355328 then ((some (([] : List Int) ++ [(a0 / 16777216) % 256] : List Int)).bind fun y140 => (if y140.length < 140737488355328 then ((some (y140 ++ [(a0 / 65536) % 256] : List Int)).bind fun y143 => (if y143.length < 140737488355328 then ((some (y143 ++ [(a0 / 256) % 256] : List Int)).bind fun y146 => (if y146.length < 140737488355328 then (some (strOfNums (y146 ++ [(a0) % 256]))) else (none))) else (none))) else (none))) else (none)) else (if a1 = 3 then (if ([] : List Int).length < 140737488355328 then ((some (([] : List Int) ++ [(a0 / 65536) % 256] : List Int)).bind fun y152 => (if y152.length < 140737488355328 then ((some (y152 ++ [(a0 / 256) % 256] : List Int)).bind fun y155 => (if y155.length < 140737488355328 then (some (strOfNums (y155 ++ [(a0) % 256]))) else (none))) else (none))) else (none)) else (if a1 = 2 then (if ([] : List Int).length < 140737488355328 then ((some (([] : List Int) ++ [(a0 / 256) % 256] : List Int)).bind fun y161 => (if y161.length < 140737488355328 then (some (strOfNums (y161 ++ [(a0) % 256]))) else (none))) else (none)) else (if ([] : List Int).length < 140737488355328 then (some (strOfNums (([] : List Int) ++ [(a0) % 256]))) else (none))))
set_option maxHeartbeats 8000000 in
set_option maxRecDepth 100000 in
theorem wire_Bytes.calls (a0 : Int) (a1 : Int) (r : ByteArray) (w : World) (h : wire_Bytes.f a0 a1 = some r) :
    Calls Try.prog 47 #[.int .i64 a0, .int .i64 a1] w fun e w' => e = .returned (.string r) ∧ Below w.heap.size w w' := by
  have HB := Aside0.mk (Below.refl w.heap.size w)
  have H : (if a1 = 4 then (if ([] : List Int).length < 140737488355328 then ((some (([] : List Int) ++ [(a0 / 16777216) % 256] : List Int)).bind fun y140 => (if y140.length < 140737488355328 then ((some (y140 ++ [(a0 / 65536) % 256] : List Int)).bind fun y143 => (if y143.length < 140737488355328 then ((some (y143 ++ [(a0 / 256) % 256] : List Int)).bind fun y146 => (if y146.length < 140737488355328 then (some (strOfNums (y146 ++ [(a0) % 256]))) else (none))) else (none))) else (none))) else (none)) else (if a1 = 3 then (if ([] : List Int).length < 140737488355328 then ((some (([] : List Int) ++ [(a0 / 65536) % 256] : List Int)).bind fun y152 => (if y152.length < 140737488355328 then ((some (y152 ++ [(a0 / 256) % 256] : List Int)).bind fun y155 => (if y155.length < 140737488355328 then (some (strOfNums (y155 ++ [(a0) % 256]))) else (none))) else (none))) else (none)) else (if a1 = 2 then (if ([] : List Int).length < 140737488355328 then ((some (([] : List Int) ++ [(a0 / 256) % 256] : List Int)).bind fun y161 => (if y161.length < 140737488355328 then (some (strOfNums (y161 ++ [(a0) % 256]))) else (none))) else (none)) else (if ([] : List Int).length < 140737488355328 then (some (strOfNums (([] : List Int) ++ [(a0) % 256]))) else (none))))) = some r := h
  clear h
  by_cases c3 : a1 = 4
  · rw [if_pos c3] at H
    have c3b0 : (a1 == 4) = true := beq_iff_eq.mpr c3
    have c3b1 : (a1 != 4) = false := bne_eq_false_iff_eq.mpr c3
    clear c3
    by_cases c4 : ([] : List Int).length < 140737488355328
    · rw [if_pos c4] at H
      have LMc4 := Aside0.mk c4
      clear c4
      obtain ⟨y140, hy140⟩ : ∃ y_ : List Int, y_ = (([] : List Int) ++ [(a0 / 16777216) % 256]) := ⟨_, rfl⟩
      replace H : (if y140.length < 140737488355328 then ((some (y140 ++ [(a0 / 65536) % 256] : List Int)).bind fun y143 => (if y143.length < 140737488355328 then ((some (y143 ++ [(a0 / 256) % 256] : List Int)).bind fun y146 => (if y146.length < 140737488355328 then (some (strOfNums (y146 ++ [(a0) % 256]))) else (none))) else (none))) else (none)) = some r := by first | (rw [hy140]; with_reducible exact H) | (have H2_ := (Option.bind_some _ _).symm.trans H; rw [hy140]; with_reducible exact H2_) | (have H2_ := (Option.bind_some _ _).symm.trans H; with_reducible exact H2_) | with_reducible exact H | (rw [hy140]; exact H) | exact H
      have Ny140 := Aside0.mk hy140
      clear hy140
      by_cases c5 : y140.length < 140737488355328
      · rw [if_pos c5] at H
        have LMc5 := Aside0.mk c5
        clear c5
        obtain ⟨y143, hy143⟩ : ∃ y_ : List Int, y_ = (y140 ++ [(a0 / 65536) % 256]) := ⟨_, rfl⟩
        replace H : (if y143.length < 140737488355328 then ((some (y143 ++ [(a0 / 256) % 256] : List Int)).bind fun y146 => (if y146.length < 140737488355328 then (some (strOfNums (y146 ++ [(a0) % 256]))) else (none))) else (none)) = some r := by first | (rw [hy143]; with_reducible exact H) | (have H2_ := (Option.bind_some _ _).symm.trans H; rw [hy143]; with_reducible exact H2_) | (have H2_ := (Option.bind_some _ _).symm.trans H; with_reducible exact H2_) | with_reducible exact H | (rw [hy143]; exact H) | exact H
        have Ny143 := Aside0.mk hy143
        clear hy143
        by_cases c6 : y143.length < 140737488355328
        · rw [if_pos c6] at H
          have LMc6 := Aside0.mk c6
          clear c6
          obtain ⟨y146, hy146⟩ : ∃ y_ : List Int, y_ = (y143 ++ [(a0 / 256) % 256]) := ⟨_, rfl⟩
          replace H : (if y146.length < 140737488355328 then (some (strOfNums (y146 ++ [(a0) % 256]))) else (none)) = some r := by first | (rw [hy146]; with_reducible exact H) | (have H2_ := (Option.bind_some _ _).symm.trans H; rw [hy146]; with_reducible exact H2_) | (have H2_ := (Option.bind_some _ _).symm.trans H; with_reducible exact H2_) | with_reducible exact H | (rw [hy146]; exact H) | exact H
          have Ny146 := Aside0.mk hy146
          clear hy146
          by_cases c7 : y146.length < 140737488355328
          · rw [if_pos c7] at H
            have LMc7 := Aside0.mk c7
            clear c7
            obtain ⟨y149, hy149⟩ : ∃ y_ : List Int, y_ = (y146 ++ [(a0) % 256]) := ⟨_, rfl⟩
            replace H : (some (strOfNums y149)) = some r := by first | (rw [hy149]; with_reducible exact H) | (have H2_ := (Option.bind_some _ _).symm.trans H; rw [hy149]; with_reducible exact H2_) | (have H2_ := (Option.bind_some _ _).symm.trans H; with_reducible exact H2_) | with_reducible exact H | (rw [hy149]; exact H) | exact H
            have Ny149 := Aside0.mk hy149
            clear hy149
            obtain rfl := Option.some.inj H
            go_enter Try.func47, Try.ntmps47
            go_wp2_with (first | ((with_reducible refine gate_builtin (b := .append) (xs := #[.tmp 13, .tmp 17]) rfl ?_); at_builtin; refine Kd.R_append (Kd.int .u8) (w0 := w) w.heap.size rfl (.tmp 13) (.tmp 17) 39 5 (.int .u8 0) 1 rfl Try.underlying39 info5 rfl (by decide) (by omega) (.slice none 0 0) ([] : List Int) ((a0 / 16777216) % 256) [.int .u8 ((a0 / 16777216) % 256)] (fun _ => True) (fun _ => False) rfl rfl ?aP (fun _ hk => hk.elim) ?aF ?aO ?aB ?aS ?aL ?_; (case aP => exact rfl); (case aB => exact (by repeat (first | (with_reducible first | exact HB.out | apply below_alloc | apply pw_below_drewN | apply below_drew1) | exact HB.out))); (case aF => exact (fun _ _ => trivial)); (case aO => exact ((Kd.R_nil _ _ _ _ (fun _ => True)))); (case aS => exact (below_size (by repeat (first | (with_reducible first | exact HB.out | apply below_alloc | apply pw_below_drewN | apply below_drew1) | exact HB.out)))); (case aL => have := LMc4.out; omega); intro v141 w8 ho hb hg hat; rw [← Ny140.out] at ho; have n0_ := Aside0.mk (hb); have n1_ := Aside0.mk (ho); clear HB; have HB := n0_; have HO142 := n1_; clear n0_ n1_; clear ho hb hg hat) | ((with_reducible refine gate_builtin (b := .append) (xs := #[.tmp 19, .tmp 23]) rfl ?_); at_builtin; refine Kd.R_append (Kd.int .u8) (w0 := w) w.heap.size rfl (.tmp 19) (.tmp 23) 39 5 (.int .u8 0) 1 rfl Try.underlying39 info5 rfl (by decide) (by omega) v141 y140 ((a0 / 65536) % 256) [.int .u8 ((a0 / 65536) % 256)] (fun _ => True) (fun _ => False) rfl rfl ?aP (fun _ hk => hk.elim) ?aF ?aO ?aB ?aS ?aL ?_; (case aP => exact rfl); (case aB => exact (by repeat (first | (with_reducible first | exact HB.out | apply below_alloc | apply pw_below_drewN | apply below_drew1) | exact HB.out))); (case aF => exact (fun _ _ => trivial)); (case aO => exact (by (with_reducible repeat (first | apply Kd.R_alloc | apply Kd.R_drewN | apply Kd.R_drew)); exact HO142.out)); (case aS => exact (below_size (by repeat (first | (with_reducible first | exact HB.out | apply below_alloc | apply pw_below_drewN | apply below_drew1) | exact HB.out)))); (case aL => have := LMc5.out; omega); intro v144 w9 ho hb hg hat; rw [← Ny143.out] at ho; have n0_ := Aside0.mk (hb); have n1_ := Aside0.mk (ho); clear HB; clear HO142; have HB := n0_; have HO145 := n1_; clear n0_ n1_; clear ho hb hg hat) | ((with_reducible refine gate_builtin (b := .append) (xs := #[.tmp 25, .tmp 29]) rfl ?_); at_builtin; refine Kd.R_append (Kd.int .u8) (w0 := w) w.heap.size rfl (.tmp 25) (.tmp 29) 39 5 (.int .u8 0) 1 rfl Try.underlying39 info5 rfl (by decide) (by omega) v144 y143 ((a0 / 256) % 256) [.int .u8 ((a0 / 256) % 256)] (fun _ => True) (fun _ => False) rfl rfl ?aP (fun _ hk => hk.elim) ?aF ?aO ?aB ?aS ?aL ?_; (case aP => exact rfl); (case aB => exact (by repeat (first | (with_reducible first | exact HB.out | apply below_alloc | apply pw_below_drewN | apply below_drew1) | exact HB.out))); (case aF => exact (fun _ _ => trivial)); (case aO => exact (by (with_reducible repeat (first | apply Kd.R_alloc | apply Kd.R_drewN | apply Kd.R_drew)); exact HO145.out)); (case aS => exact (below_size (by repeat (first | (with_reducible first | exact HB.out | apply below_alloc | apply pw_below_drewN | apply below_drew1) | exact HB.out)))); (case aL => have := LMc6.out; omega); intro v147 w10 ho hb hg hat; rw [← Ny146.out] at ho; have n0_ := Aside0.mk (hb); have n1_ := Aside0.mk (ho); clear HB; clear HO145; have HB := n0_; have HO148 := n1_; clear n0_ n1_; clear ho hb hg hat) | ((with_reducible refine gate_builtin (b := .append) (xs := #[.tmp 31, .tmp 34]) rfl ?_); at_builtin; refine Kd.R_append (Kd.int .u8) (w0 := w) w.heap.size rfl (.tmp 31) (.tmp 34) 39 5 (.int .u8 0) 1 rfl Try.underlying39 info5 rfl (by decide) (by omega) v147 y146 ((a0) % 256) [.int .u8 ((a0) % 256)] (fun _ => True) (fun _ => False) rfl rfl ?aP (fun _ hk => hk.elim) ?aF ?aO ?aB ?aS ?aL ?_; (case aP => exact rfl); (case aB => exact (by repeat (first | (with_reducible first | exact HB.out | apply below_alloc | apply pw_below_drewN | apply below_drew1) | exact HB.out))); (case aF => exact (fun _ _ => trivial)); (case aO => exact (by (with_reducible repeat (first | apply Kd.R_alloc | apply Kd.R_drewN | apply Kd.R_drew)); exact HO148.out)); (case aS => exact (below_size (by repeat (first | (with_reducible first | exact HB.out | apply below_alloc | apply pw_below_drewN | apply below_drew1) | exact HB.out)))); (case aL => have := LMc7.out; omega); intro v150 w11 ho hb hg hat; rw [← Ny149.out] at ho; have n0_ := Aside0.mk (hb); have n1_ := Aside0.mk (ho); clear HB; clear HO148; have HB := n0_; have HO151 := n1_; clear n0_ n1_; clear ho hb hg hat; have hcv12 := own_string (P := Try.prog) Try.underlying39 Try.underlying5 Try.underlying9 (Kd.own_of_R HO151.out)))
            go_ret
            exact ⟨by first | rfl | (simp [errW_none, errW_some] <;> rfl) | (simp [*, errW_none, errW_some] <;> rfl), by repeat (first | (with_reducible first | exact HB.out | apply below_alloc | apply pw_below_drewN | apply below_drew1) | exact HB.out)⟩
          · rw [if_neg c7] at H
            exact absurd H (by simp)
        · rw [if_neg c6] at H
          exact absurd H (by simp)
      · rw [if_neg c5] at H
        exact absurd H (by simp)
    · rw [if_neg c4] at H
      exact absurd H (by simp)
  · rw [if_neg c3] at H
    have c3b0 : (a1 == 4) = false := beq_eq_false_iff_ne.mpr c3
    have c3b1 : (a1 != 4) = true := bne_iff_ne.mpr c3
    by_cases c13 : a1 = 3
    · rw [if_pos c13] at H
      have c13b0 : (a1 == 3) = true := beq_iff_eq.mpr c13
      have c13b1 : (a1 != 3) = false := bne_eq_false_iff_eq.mpr c13
      clear c13
      by_cases c14 : ([] : List Int).length < 140737488355328
      · rw [if_pos c14] at H
        have LMc14 := Aside0.mk c14
        clear c14
        obtain ⟨y152, hy152⟩ : ∃ y_ : List Int, y_ = (([] : List Int) ++ [(a0 / 65536) % 256]) := ⟨_, rfl⟩
        replace H : (if y152.length < 140737488355328 then ((some (y152 ++ [(a0 / 256) % 256] : List Int)).bind fun y155 => (if y155.length < 140737488355328 then (some (strOfNums (y155 ++ [(a0) % 256]))) else (none))) else (none)) = some r := by first | (rw [hy152]; with_reducible exact H) | (have H2_ := (Option.bind_some _ _).symm.trans H; rw [hy152]; with_reducible exact H2_) | (have H2_ := (Option.bind_some _ _).symm.trans H; with_reducible exact H2_) | with_reducible exact H | (rw [hy152]; exact H) | exact H
        have Ny152 := Aside0.mk hy152
        clear hy152
        by_cases c15 : y152.length < 140737488355328
        · rw [if_pos c15] at H
          have LMc15 := Aside0.mk c15
          clear c15
          obtain ⟨y155, hy155⟩ : ∃ y_ : List Int, y_ = (y152 ++ [(a0 / 256) % 256]) := ⟨_, rfl⟩
          replace H : (if y155.length < 140737488355328 then (some (strOfNums (y155 ++ [(a0) % 256]))) else (none)) = some r := by first | (rw [hy155]; with_reducible exact H) | (have H2_ := (Option.bind_some _ _).symm.trans H; rw [hy155]; with_reducible exact H2_) | (have H2_ := (Option.bind_some _ _).symm.trans H; with_reducible exact H2_) | with_reducible exact H | (rw [hy155]; exact H) | exact H
          have Ny155 := Aside0.mk hy155
          clear hy155
          by_cases c16 : y155.length < 140737488355328
          · rw [if_pos c16] at H
            have LMc16 := Aside0.mk c16
            clear c16
            obtain ⟨y158, hy158⟩ : ∃ y_ : List Int, y_ = (y155 ++ [(a0) % 256]) := ⟨_, rfl⟩
            replace H : (some (strOfNums y158)) = some r := by first | (rw [hy158]; with_reducible exact H) | (have H2_ := (Option.bind_some _ _).symm.trans H; rw [hy158]; with_reducible exact H2_) | (have H2_ := (Option.bind_some _ _).symm.trans H; with_reducible exact H2_) | with_reducible exact H | (rw [hy158]; exact H) | exact H
            have Ny158 := Aside0.mk hy158
            clear hy158
            obtain rfl := Option.some.inj H
            go_enter Try.func47, Try.ntmps47
            go_wp2_with (first | ((with_reducible refine gate_builtin (b := .append) (xs := #[.tmp 19, .tmp 23]) rfl ?_); at_builtin; refine Kd.R_append (Kd.int .u8) (w0 := w) w.heap.size rfl (.tmp 19) (.tmp 23) 39 5 (.int .u8 0) 1 rfl Try.underlying39 info5 rfl (by decide) (by omega) (.slice none 0 0) ([] : List Int) ((a0 / 65536) % 256) [.int .u8 ((a0 / 65536) % 256)] (fun _ => True) (fun _ => False) rfl rfl ?aP (fun _ hk => hk.elim) ?aF ?aO ?aB ?aS ?aL ?_; (case aP => exact rfl); (case aB => exact (by repeat (first | (with_reducible first | exact HB.out | apply below_alloc | apply pw_below_drewN | apply below_drew1) | exact HB.out))); (case aF => exact (fun _ _ => trivial)); (case aO => exact ((Kd.R_nil _ _ _ _ (fun _ => True)))); (case aS => exact (below_size (by repeat (first | (with_reducible first | exact HB.out | apply below_alloc | apply pw_below_drewN | apply below_drew1) | exact HB.out)))); (case aL => have := LMc14.out; omega); intro v153 w17 ho hb hg hat; rw [← Ny152.out] at ho; have n0_ := Aside0.mk (hb); have n1_ := Aside0.mk (ho); clear HB; have HB := n0_; have HO154 := n1_; clear n0_ n1_; clear ho hb hg hat) | ((with_reducible refine gate_builtin (b := .append) (xs := #[.tmp 25, .tmp 29]) rfl ?_); at_builtin; refine Kd.R_append (Kd.int .u8) (w0 := w) w.heap.size rfl (.tmp 25) (.tmp 29) 39 5 (.int .u8 0) 1 rfl Try.underlying39 info5 rfl (by decide) (by omega) v153 y152 ((a0 / 256) % 256) [.int .u8 ((a0 / 256) % 256)] (fun _ => True) (fun _ => False) rfl rfl ?aP (fun _ hk => hk.elim) ?aF ?aO ?aB ?aS ?aL ?_; (case aP => exact rfl); (case aB => exact (by repeat (first | (with_reducible first | exact HB.out | apply below_alloc | apply pw_below_drewN | apply below_drew1) | exact HB.out))); (case aF => exact (fun _ _ => trivial)); (case aO => exact (by (with_reducible repeat (first | apply Kd.R_alloc | apply Kd.R_drewN | apply Kd.R_drew)); exact HO154.out)); (case aS => exact (below_size (by repeat (first | (with_reducible first | exact HB.out | apply below_alloc | apply pw_below_drewN | apply below_drew1) | exact HB.out)))); (case aL => have := LMc15.out; omega); intro v156 w18 ho hb hg hat; rw [← Ny155.out] at ho; have n0_ := Aside0.mk (hb); have n1_ := Aside0.mk (ho); clear HB; clear HO154; have HB := n0_; have HO157 := n1_; clear n0_ n1_; clear ho hb hg hat) | ((with_reducible refine gate_builtin (b := .append) (xs := #[.tmp 31, .tmp 34]) rfl ?_); at_builtin; refine Kd.R_append (Kd.int .u8) (w0 := w) w.heap.size rfl (.tmp 31) (.tmp 34) 39 5 (.int .u8 0) 1 rfl Try.underlying39 info5 rfl (by decide) (by omega) v156 y155 ((a0) % 256) [.int .u8 ((a0) % 256)] (fun _ => True) (fun _ => False) rfl rfl ?aP (fun _ hk => hk.elim) ?aF ?aO ?aB ?aS ?aL ?_; (case aP => exact rfl); (case aB => exact (by repeat (first | (with_reducible first | exact HB.out | apply below_alloc | apply pw_below_drewN | apply below_drew1) | exact HB.out))); (case aF => exact (fun _ _ => trivial)); (case aO => exact (by (with_reducible repeat (first | apply Kd.R_alloc | apply Kd.R_drewN | apply Kd.R_drew)); exact HO157.out)); (case aS => exact (below_size (by repeat (first | (with_reducible first | exact HB.out | apply below_alloc | apply pw_below_drewN | apply below_drew1) | exact HB.out)))); (case aL => have := LMc16.out; omega); intro v159 w19 ho hb hg hat; rw [← Ny158.out] at ho; have n0_ := Aside0.mk (hb); have n1_ := Aside0.mk (ho); clear HB; clear HO157; have HB := n0_; have HO160 := n1_; clear n0_ n1_; clear ho hb hg hat; have hcv20 := own_string (P := Try.prog) Try.underlying39 Try.underlying5 Try.underlying9 (Kd.own_of_R HO160.out)))
            go_ret
            exact ⟨by first | rfl | (simp [errW_none, errW_some] <;> rfl) | (simp [*, errW_none, errW_some] <;> rfl), by repeat (first | (with_reducible first | exact HB.out | apply below_alloc | apply pw_below_drewN | apply below_drew1) | exact HB.out)⟩
          · rw [if_neg c16] at H
            exact absurd H (by simp)
        · rw [if_neg c15] at H
          exact absurd H (by simp)
      · rw [if_neg c14] at H
        exact absurd H (by simp)
    · rw [if_neg c13] at H
      have c13b0 : (a1 == 3) = false := beq_eq_false_iff_ne.mpr c13
      have c13b1 : (a1 != 3) = true := bne_iff_ne.mpr c13
      by_cases c21 : a1 = 2
      · rw [if_pos c21] at H
        have c21b0 : (a1 == 2) = true := beq_iff_eq.mpr c21
        have c21b1 : (a1 != 2) = false := bne_eq_false_iff_eq.mpr c21
        clear c21
        by_cases c22 : ([] : List Int).length < 140737488355328
        · rw [if_pos c22] at H
          have LMc22 := Aside0.mk c22
          clear c22
          obtain ⟨y161, hy161⟩ : ∃ y_ : List Int, y_ = (([] : List Int) ++ [(a0 / 256) % 256]) := ⟨_, rfl⟩
          replace H : (if y161.length < 140737488355328 then (some (strOfNums (y161 ++ [(a0) % 256]))) else (none)) = some r := by first | (rw [hy161]; with_reducible exact H) | (have H2_ := (Option.bind_some _ _).symm.trans H; rw [hy161]; with_reducible exact H2_) | (have H2_ := (Option.bind_some _ _).symm.trans H; with_reducible exact H2_) | with_reducible exact H | (rw [hy161]; exact H) | exact H
          have Ny161 := Aside0.mk hy161
          clear hy161
          by_cases c23 : y161.length < 140737488355328
          · rw [if_pos c23] at H
            have LMc23 := Aside0.mk c23
            clear c23
            obtain ⟨y164, hy164⟩ : ∃ y_ : List Int, y_ = (y161 ++ [(a0) % 256]) := ⟨_, rfl⟩
            replace H : (some (strOfNums y164)) = some r := by first | (rw [hy164]; with_reducible exact H) | (have H2_ := (Option.bind_some _ _).symm.trans H; rw [hy164]; with_reducible exact H2_) | (have H2_ := (Option.bind_some _ _).symm.trans H; with_reducible exact H2_) | with_reducible exact H | (rw [hy164]; exact H) | exact H
            have Ny164 := Aside0.mk hy164
            clear hy164
            obtain rfl := Option.some.inj H
            go_enter Try.func47, Try.ntmps47
            go_wp2_with (first | ((with_reducible refine gate_builtin (b := .append) (xs := #[.tmp 25, .tmp 29]) rfl ?_); at_builtin; refine Kd.R_append (Kd.int .u8) (w0 := w) w.heap.size rfl (.tmp 25) (.tmp 29) 39 5 (.int .u8 0) 1 rfl Try.underlying39 info5 rfl (by decide) (by omega) (.slice none 0 0) ([] : List Int) ((a0 / 256) % 256) [.int .u8 ((a0 / 256) % 256)] (fun _ => True) (fun _ => False) rfl rfl ?aP (fun _ hk => hk.elim) ?aF ?aO ?aB ?aS ?aL ?_; (case aP => exact rfl); (case aB => exact (by repeat (first | (with_reducible first | exact HB.out | apply below_alloc | apply pw_below_drewN | apply below_drew1) | exact HB.out))); (case aF => exact (fun _ _ => trivial)); (case aO => exact ((Kd.R_nil _ _ _ _ (fun _ => True)))); (case aS => exact (below_size (by repeat (first | (with_reducible first | exact HB.out | apply below_alloc | apply pw_below_drewN | apply below_drew1) | exact HB.out)))); (case aL => have := LMc22.out; omega); intro v162 w24 ho hb hg hat; rw [← Ny161.out] at ho; have n0_ := Aside0.mk (hb); have n1_ := Aside0.mk (ho); clear HB; have HB := n0_; have HO163 := n1_; clear n0_ n1_; clear ho hb hg hat) | ((with_reducible refine gate_builtin (b := .append) (xs := #[.tmp 31, .tmp 34]) rfl ?_); at_builtin; refine Kd.R_append (Kd.int .u8) (w0 := w) w.heap.size rfl (.tmp 31) (.tmp 34) 39 5 (.int .u8 0) 1 rfl Try.underlying39 info5 rfl (by decide) (by omega) v162 y161 ((a0) % 256) [.int .u8 ((a0) % 256)] (fun _ => True) (fun _ => False) rfl rfl ?aP (fun _ hk => hk.elim) ?aF ?aO ?aB ?aS ?aL ?_; (case aP => exact rfl); (case aB => exact (by repeat (first | (with_reducible first | exact HB.out | apply below_alloc | apply pw_below_drewN | apply below_drew1) | exact HB.out))); (case aF => exact (fun _ _ => trivial)); (case aO => exact (by (with_reducible repeat (first | apply Kd.R_alloc | apply Kd.R_drewN | apply Kd.R_drew)); exact HO163.out)); (case aS => exact (below_size (by repeat (first | (with_reducible first | exact HB.out | apply below_alloc | apply pw_below_drewN | apply below_drew1) | exact HB.out)))); (case aL => have := LMc23.out; omega); intro v165 w25 ho hb hg hat; rw [← Ny164.out] at ho; have n0_ := Aside0.mk (hb); have n1_ := Aside0.mk (ho); clear HB; clear HO163; have HB := n0_; have HO166 := n1_; clear n0_ n1_; clear ho hb hg hat; have hcv26 := own_string (P := Try.prog) Try.underlying39 Try.underlying5 Try.underlying9 (Kd.own_of_R HO166.out)))
            go_ret
            exact ⟨by first | rfl | (simp [errW_none, errW_some] <;> rfl) | (simp [*, errW_none, errW_some] <;> rfl), by repeat (first | (with_reducible first | exact HB.out | apply below_alloc | apply pw_below_drewN | apply below_drew1) | exact HB.out)⟩
          · rw [if_neg c23] at H
            exact absurd H (by simp)
        · rw [if_neg c22] at H
          exact absurd H (by simp)
      · rw [if_neg c21] at H
        have c21b0 : (a1 == 2) = false := beq_eq_false_iff_ne.mpr c21
        have c21b1 : (a1 != 2) = true := bne_iff_ne.mpr c21
        by_cases c27 : ([] : List Int).length < 140737488355328
        · rw [if_pos c27] at H
          have LMc27 := Aside0.mk c27
          clear c27
          obtain ⟨y167, hy167⟩ : ∃ y_ : List Int, y_ = (([] : List Int) ++ [(a0) % 256]) := ⟨_, rfl⟩
          replace H : (some (strOfNums y167)) = some r := by first | (rw [hy167]; with_reducible exact H) | (have H2_ := (Option.bind_some _ _).symm.trans H; rw [hy167]; with_reducible exact H2_) | (have H2_ := (Option.bind_some _ _).symm.trans H; with_reducible exact H2_) | with_reducible exact H | (rw [hy167]; exact H) | exact H
          have Ny167 := Aside0.mk hy167
          clear hy167
          obtain rfl := Option.some.inj H
          go_enter Try.func47, Try.ntmps47
          go_wp2_with (first | ((with_reducible refine gate_builtin (b := .append) (xs := #[.tmp 31, .tmp 34]) rfl ?_); at_builtin; refine Kd.R_append (Kd.int .u8) (w0 := w) w.heap.size rfl (.tmp 31) (.tmp 34) 39 5 (.int .u8 0) 1 rfl Try.underlying39 info5 rfl (by decide) (by omega) (.slice none 0 0) ([] : List Int) ((a0) % 256) [.int .u8 ((a0) % 256)] (fun _ => True) (fun _ => False) rfl rfl ?aP (fun _ hk => hk.elim) ?aF ?aO ?aB ?aS ?aL ?_; (case aP => exact rfl); (case aB => exact (by repeat (first | (with_reducible first | exact HB.out | apply below_alloc | apply pw_below_drewN | apply below_drew1) | exact HB.out))); (case aF => exact (fun _ _ => trivial)); (case aO => exact ((Kd.R_nil _ _ _ _ (fun _ => True)))); (case aS => exact (below_size (by repeat (first | (with_reducible first | exact HB.out | apply below_alloc | apply pw_below_drewN | apply below_drew1) | exact HB.out)))); (case aL => have := LMc27.out; omega); intro v168 w28 ho hb hg hat; rw [← Ny167.out] at ho; have n0_ := Aside0.mk (hb); have n1_ := Aside0.mk (ho); clear HB; have HB := n0_; have HO169 := n1_; clear n0_ n1_; clear ho hb hg hat; have hcv29 := own_string (P := Try.prog) Try.underlying39 Try.underlying5 Try.underlying9 (Kd.own_of_R HO169.out)))
          go_ret
          exact ⟨by first | rfl | (simp [errW_none, errW_some] <;> rfl) | (simp [*, errW_none, errW_some] <;> rfl), by repeat (first | (with_reducible first | exact HB.out | apply below_alloc | apply pw_below_drewN | apply below_drew1) | exact HB.out)⟩
        · rw [if_neg c27] at H
          exact absurd H (by simp)
def wire_Put.f (a0 : Int) (a1 : Int) : Option (ByteArray × Int) := if a1 < 1 then (some ((⟨#[]⟩ : ByteArray), 101)) else (if a1 > 4 then (some ((⟨#[]⟩ : ByteArray), 101)) else (if a0 < 0 then (some ((⟨#[]⟩ : ByteArray), 101)) else (if 0 ≤ (wrap64 (8 * a1)) then (if (shr .i64 a0 (wrap64 (8 * a1))) = 0 then ((wire_Bytes.f a0 a1).bind fun t170 => (some (t170, 0))) else (some ((⟨#[]⟩ : ByteArray), 101))) else (none))))
set_option maxHeartbeats 8000000 in
set_option maxRecDepth 100000 in
theorem wire_Put.calls (a0 : Int) (a1 : Int) (r1 : ByteArray) (r2 : Int) (w : World) (h : wire_Put.f a0 a1 = some (r1, r2)) :
    Calls Try.prog 39 #[.int .i64 a0, .int .i64 a1] w fun e w' => e = .returned (.tuple #[.string r1, .int .i64 r2]) ∧ Below w.heap.size w w' := by
  have HB := Aside0.mk (Below.refl w.heap.size w)
  have H : (if a1 < 1 then (some ((⟨#[]⟩ : ByteArray), 101)) else (if a1 > 4 then (some ((⟨#[]⟩ : ByteArray), 101)) else (if a0 < 0 then (some ((⟨#[]⟩ : ByteArray), 101)) else (if 0 ≤ (wrap64 (8 * a1)) then (if (shr .i64 a0 (wrap64 (8 * a1))) = 0 then ((wire_Bytes.f a0 a1).bind fun t170 => (some (t170, 0))) else (some ((⟨#[]⟩ : ByteArray), 101))) else (none))))) = some (r1, r2) := h
  clear h
  by_cases c3 : a1 < 1
  · rw [if_pos c3] at H
    have c3b0 : decide (a1 < 1) = true := decide_eq_true c3
    clear c3
    simp only [Option.some.injEq, Prod.mk.injEq] at H
    obtain ⟨rfl, rfl⟩ := H
    go_enter Try.func39, Try.ntmps39
    go_wp2
    go_ret2
    exact ⟨by first | rfl | (simp [errW_none, errW_some] <;> rfl) | (simp [*, errW_none, errW_some] <;> rfl), by repeat (first | (with_reducible first | exact HB.out | apply below_alloc | apply pw_below_drewN | apply below_drew1) | exact HB.out)⟩
  · rw [if_neg c3] at H
    have c3b0 : decide (a1 < 1) = false := decide_eq_false c3
    clear c3
    by_cases c4 : a1 > 4
    · rw [if_pos c4] at H
      have c4b0 : decide (4 < a1) = true := decide_eq_true c4
      clear c4
      simp only [Option.some.injEq, Prod.mk.injEq] at H
      obtain ⟨rfl, rfl⟩ := H
      go_enter Try.func39, Try.ntmps39
      go_wp2
      go_ret2
      exact ⟨by first | rfl | (simp [errW_none, errW_some] <;> rfl) | (simp [*, errW_none, errW_some] <;> rfl), by repeat (first | (with_reducible first | exact HB.out | apply below_alloc | apply pw_below_drewN | apply below_drew1) | exact HB.out)⟩
    · rw [if_neg c4] at H
      have c4b0 : decide (4 < a1) = false := decide_eq_false c4
      clear c4
      by_cases c5 : a0 < 0
      · rw [if_pos c5] at H
        have c5b0 : decide (a0 < 0) = true := decide_eq_true c5
        clear c5
        simp only [Option.some.injEq, Prod.mk.injEq] at H
        obtain ⟨rfl, rfl⟩ := H
        go_enter Try.func39, Try.ntmps39
        go_wp2
        go_ret2
        exact ⟨by first | rfl | (simp [errW_none, errW_some] <;> rfl) | (simp [*, errW_none, errW_some] <;> rfl), by repeat (first | (with_reducible first | exact HB.out | apply below_alloc | apply pw_below_drewN | apply below_drew1) | exact HB.out)⟩
      · rw [if_neg c5] at H
        have c5b0 : decide (a0 < 0) = false := decide_eq_false c5
        clear c5
        obtain ⟨ji6, hji6⟩ : ∃ j_ : Int, (wrap64 (8 * a1)) = j_ := ⟨_, rfl⟩
        replace H : (if 0 ≤ (ji6) then (if (shr .i64 a0 (ji6)) = 0 then ((wire_Bytes.f a0 a1).bind fun t170 => (some (t170, 0))) else (some ((⟨#[]⟩ : ByteArray), 101))) else (none)) = some (r1, r2) := by first | (rw [hji6] at H; exact H) | (simp only [hji6] at H ⊢; exact H)
        have hji6w : (IntKind.i64.wrap (8 * a1)) = ji6 := (i64_w _).trans hji6
        by_cases c7 : 0 ≤ (ji6)
        · rw [if_pos c7] at H
          have c7b0 := eq_true c7
          have c7b1 : decide (0 ≤ (ji6)) = true := decide_eq_true c7
          clear c7
          obtain ⟨ji8, hji8⟩ : ∃ j_ : Int, (shr .i64 a0 (ji6)) = j_ := ⟨_, rfl⟩
          replace H : (if (ji8) = 0 then ((wire_Bytes.f a0 a1).bind fun t170 => (some (t170, 0))) else (some ((⟨#[]⟩ : ByteArray), 101))) = some (r1, r2) := by first | (rw [hji8] at H; exact H) | (simp only [hji8] at H ⊢; exact H)
          have hji8_ : (a0 / 2 ^ min (ji6).toNat 64) = ji8 := hji8
          have hji8z : (ji6) ≤ 64 → (a0 / 2 ^ (ji6).toNat) = ji8 := shr_small hji8
          by_cases c9 : (ji8) = 0
          · rw [if_pos c9] at H
            have c9b0 : ((ji8) == 0) = true := beq_iff_eq.mpr c9
            have c9b1 : ((ji8) != 0) = false := bne_eq_false_iff_eq.mpr c9
            clear c9
            replace H := Option.bind_eq_some_iff.mp H
            obtain ⟨t170, A100, H⟩ := H
            replace H : (some (t170, 0)) = some (r1, r2) := H
            have A10 := Aside0.mk A100
            clear A100
            simp only [Option.some.injEq, Prod.mk.injEq] at H
            obtain ⟨rfl, rfl⟩ := H
            go_enter Try.func39, Try.ntmps39
            go_wp2_with (first | ((with_reducible refine gate_callee (f := 47) rfl ?_); refine goesL_ (some 25) rfl rfl Try.func47 (by kernel_rfl) rfl #[.int .i64 a0, .int .i64 a1] rfl (by (try simp only [List.map_toArray, List.map_cons, List.map_nil]); first | done | rfl | (simp only [List.length_drop, List.length_take]; rfl)) ?_; (with_reducible refine (wire_Bytes.calls a0 a1 t170 _ A10.out).mono ?_); rintro e w11 ⟨rfl, hb⟩; refine ⟨_, rfl, ?_⟩; have n0_ := Aside0.mk (below_step (by repeat (first | (with_reducible first | exact HB.out | apply below_alloc | apply pw_below_drewN | apply below_drew1) | exact HB.out)) hb); clear HB; have HB := n0_; clear n0_; (try clear hb); (try clear hb2); (try clear hk); (try clear hi)))
            go_ret2
            exact ⟨by first | rfl | (simp [errW_none, errW_some] <;> rfl) | (simp only [← hji6, ← hji8]; first | rfl | (simp [errW_none, errW_some] <;> rfl)) | (simp [*, errW_none, errW_some] <;> rfl), by repeat (first | (with_reducible first | exact HB.out | apply below_alloc | apply pw_below_drewN | apply below_drew1) | exact HB.out)⟩
          · rw [if_neg c9] at H
            have c9b0 : ((ji8) == 0) = false := beq_eq_false_iff_ne.mpr c9
            have c9b1 : ((ji8) != 0) = true := bne_iff_ne.mpr c9
            simp only [Option.some.injEq, Prod.mk.injEq] at H
            obtain ⟨rfl, rfl⟩ := H
            go_enter Try.func39, Try.ntmps39
            go_wp2
            go_ret2
            exact ⟨by first | rfl | (simp [errW_none, errW_some] <;> rfl) | (simp only [← hji6, ← hji8]; first | rfl | (simp [errW_none, errW_some] <;> rfl)) | (simp [*, errW_none, errW_some] <;> rfl), by repeat (first | (with_reducible first | exact HB.out | apply below_alloc | apply pw_below_drewN | apply below_drew1) | exact HB.out)⟩
        · rw [if_neg c7] at H
          exact absurd H (by simp)
def wire_PutVec.f (a0 : ByteArray) (a1 : Int) : Option (ByteArray × Int) := if a1 < 1 then (some ((⟨#[]⟩ : ByteArray), 101)) else (if a1 > 3 then (some ((⟨#[]⟩ : ByteArray), 101)) else (if 0 ≤ (wrap64 (8 * a1)) then (if (shr .i64 (a0.size : Int) (wrap64 (8 * a1))) = 0 then ((wire_Bytes.f (a0.size : Int) a1).bind fun t171 => (if t171.size + a0.size ≤ 9223372036854775807 then (some ((t171 ++ a0), 0)) else (none))) else (some ((⟨#[]⟩ : ByteArray), 101))) else (none)))
set_option maxHeartbeats 8000000 in
set_option maxRecDepth 100000 in
theorem wire_PutVec.calls (a0 : ByteArray) (a1 : Int) (r1 : ByteArray) (r2 : Int) (w : World) (h : wire_PutVec.f a0 a1 = some (r1, r2)) :
    Calls Try.prog 40 #[.string a0, .int .i64 a1] w fun e w' => e = .returned (.tuple #[.string r1, .int .i64 r2]) ∧ Below w.heap.size w w' := by
  have HB := Aside0.mk (Below.refl w.heap.size w)
  have H : (if a1 < 1 then (some ((⟨#[]⟩ : ByteArray), 101)) else (if a1 > 3 then (some ((⟨#[]⟩ : ByteArray), 101)) else (if 0 ≤ (wrap64 (8 * a1)) then (if (shr .i64 (a0.size : Int) (wrap64 (8 * a1))) = 0 then ((wire_Bytes.f (a0.size : Int) a1).bind fun t171 => (if t171.size + a0.size ≤ 9223372036854775807 then (some ((t171 ++ a0), 0)) else (none))) else (some ((⟨#[]⟩ : ByteArray), 101))) else (none)))) = some (r1, r2) := h
  clear h
  by_cases c3 : a1 < 1
  · rw [if_pos c3] at H
    have c3b0 : decide (a1 < 1) = true := decide_eq_true c3
    clear c3
    simp only [Option.some.injEq, Prod.mk.injEq] at H
    obtain ⟨rfl, rfl⟩ := H
    go_enter Try.func40, Try.ntmps40
    go_wp2
    go_ret2
    exact ⟨by first | rfl | (simp [errW_none, errW_some] <;> rfl) | (simp [*, errW_none, errW_some] <;> rfl), by repeat (first | (with_reducible first | exact HB.out | apply below_alloc | apply pw_below_drewN | apply below_drew1) | exact HB.out)⟩
  · rw [if_neg c3] at H
    have c3b0 : decide (a1 < 1) = false := decide_eq_false c3
    clear c3
    by_cases c4 : a1 > 3
    · rw [if_pos c4] at H
      have c4b0 : decide (3 < a1) = true := decide_eq_true c4
      clear c4
      simp only [Option.some.injEq, Prod.mk.injEq] at H
      obtain ⟨rfl, rfl⟩ := H
      go_enter Try.func40, Try.ntmps40
      go_wp2
      go_ret2
      exact ⟨by first | rfl | (simp [errW_none, errW_some] <;> rfl) | (simp [*, errW_none, errW_some] <;> rfl), by repeat (first | (with_reducible first | exact HB.out | apply below_alloc | apply pw_below_drewN | apply below_drew1) | exact HB.out)⟩
    · rw [if_neg c4] at H
      have c4b0 : decide (3 < a1) = false := decide_eq_false c4
      clear c4
      obtain ⟨ji5, hji5⟩ : ∃ j_ : Int, (wrap64 (8 * a1)) = j_ := ⟨_, rfl⟩
      replace H : (if 0 ≤ (ji5) then (if (shr .i64 (a0.size : Int) (ji5)) = 0 then ((wire_Bytes.f (a0.size : Int) a1).bind fun t171 => (if t171.size + a0.size ≤ 9223372036854775807 then (some ((t171 ++ a0), 0)) else (none))) else (some ((⟨#[]⟩ : ByteArray), 101))) else (none)) = some (r1, r2) := by first | (rw [hji5] at H; exact H) | (simp only [hji5] at H ⊢; exact H)
      have hji5w : (IntKind.i64.wrap (8 * a1)) = ji5 := (i64_w _).trans hji5
      by_cases c6 : 0 ≤ (ji5)
      · rw [if_pos c6] at H
        have c6b0 := eq_true c6
        have c6b1 : decide (0 ≤ (ji5)) = true := decide_eq_true c6
        clear c6
        obtain ⟨ji7, hji7⟩ : ∃ j_ : Int, (shr .i64 (a0.size : Int) (ji5)) = j_ := ⟨_, rfl⟩
        replace H : (if (ji7) = 0 then ((wire_Bytes.f (a0.size : Int) a1).bind fun t171 => (if t171.size + a0.size ≤ 9223372036854775807 then (some ((t171 ++ a0), 0)) else (none))) else (some ((⟨#[]⟩ : ByteArray), 101))) = some (r1, r2) := by first | (rw [hji7] at H; exact H) | (simp only [hji7] at H ⊢; exact H)
        have hji7_ : ((a0.size : Int) / 2 ^ min (ji5).toNat 64) = ji7 := hji7
        have hji7z : (ji5) ≤ 64 → ((a0.size : Int) / 2 ^ (ji5).toNat) = ji7 := shr_small hji7
        by_cases c8 : (ji7) = 0
        · rw [if_pos c8] at H
          have c8b0 : ((ji7) == 0) = true := beq_iff_eq.mpr c8
          have c8b1 : ((ji7) != 0) = false := bne_eq_false_iff_eq.mpr c8
          clear c8
          replace H := Option.bind_eq_some_iff.mp H
          obtain ⟨t171, A90, H⟩ := H
          replace H : (if t171.size + a0.size ≤ 9223372036854775807 then (some ((t171 ++ a0), 0)) else (none)) = some (r1, r2) := H
          have A9 := Aside0.mk A90
          clear A90
          by_cases c10 : t171.size + a0.size ≤ 9223372036854775807
          · rw [if_pos c10] at H
            have c10b0 := eq_true c10
            have c10b1 : decide (t171.size + a0.size ≤ 9223372036854775807) = true := decide_eq_true c10
            try have c10b2 : (9223372036854775807 < t171.size + a0.size) = False := eq_false (Nat.not_lt.2 c10)
            obtain ⟨ys172, hys172⟩ : ∃ y_ : ByteArray, y_ = (t171 ++ a0) := ⟨_, rfl⟩
            replace H : (some (ys172, 0)) = some (r1, r2) := by first | (rw [hys172]; with_reducible exact H) | (have H2_ := (Option.bind_some _ _).symm.trans H; rw [hys172]; with_reducible exact H2_) | (have H2_ := (Option.bind_some _ _).symm.trans H; with_reducible exact H2_) | with_reducible exact H | (rw [hys172]; exact H) | exact H
            have Nys172 := Aside0.mk hys172
            clear hys172
            have Sys172 := Nys172.out.symm
            simp only [Option.some.injEq, Prod.mk.injEq] at H
            obtain ⟨rfl, rfl⟩ := H
            go_enter Try.func40, Try.ntmps40
            go_wp2_with (first | ((with_reducible refine gate_callee (f := 47) rfl ?_); refine goesL_ (some 23) rfl rfl Try.func47 (by kernel_rfl) rfl #[.int .i64 (a0.size : Int), .int .i64 a1] rfl (by (try simp only [List.map_toArray, List.map_cons, List.map_nil]); first | done | rfl | (simp only [List.length_drop, List.length_take]; rfl)) ?_; (with_reducible refine (wire_Bytes.calls (a0.size : Int) a1 t171 _ A9.out).mono ?_); rintro e w11 ⟨rfl, hb⟩; refine ⟨_, rfl, ?_⟩; have n0_ := Aside0.mk (below_step (by repeat (first | (with_reducible first | exact HB.out | apply below_alloc | apply pw_below_drewN | apply below_drew1) | exact HB.out)) hb); clear HB; have HB := n0_; clear n0_; (try clear hb); (try clear hb2); (try clear hk); (try clear hi)))
            go_ret2
            exact ⟨by first | rfl | (simp [errW_none, errW_some] <;> rfl) | (simp only [← hji5, ← hji7]; first | rfl | (simp [errW_none, errW_some] <;> rfl)) | (simp [*, errW_none, errW_some] <;> rfl), by repeat (first | (with_reducible first | exact HB.out | apply below_alloc | apply pw_below_drewN | apply below_drew1) | exact HB.out)⟩
          · rw [if_neg c10] at H
            exact absurd H (by simp)
        · rw [if_neg c8] at H
          have c8b0 : ((ji7) == 0) = false := beq_eq_false_iff_ne.mpr c8
          have c8b1 : ((ji7) != 0) = true := bne_iff_ne.mpr c8
          simp only [Option.some.injEq, Prod.mk.injEq] at H
          obtain ⟨rfl, rfl⟩ := H
          go_enter Try.func40, Try.ntmps40
          go_wp2
          go_ret2
          exact ⟨by first | rfl | (simp [errW_none, errW_some] <;> rfl) | (simp only [← hji5, ← hji7]; first | rfl | (simp [errW_none, errW_some] <;> rfl)) | (simp [*, errW_none, errW_some] <;> rfl), by repeat (first | (with_reducible first | exact HB.out | apply below_alloc | apply pw_below_drewN | apply below_drew1) | exact HB.out)⟩
      · rw [if_neg c6] at H
        exact absurd H (by simp)
end Go.Proofs.Ytlkebjkpmiehcaa.X
end
section
namespace Go.Proofs.Ytlkebjkpmiehcaa.X
open Go.RowKit Go.Proofs.YtlkebjkpmiehcaaW.PrintWords Go.Proofs.YtlkebjkpmiehcaaW.PrintLast Go.Proofs.YtlkebjkpmiehcaaW.PrintMore
attribute [local go_sem] max2_int min2_int max_two min_two max_three min_three max_four min_four   
set_option linter.unusedVariables false
set_option linter.unusedSimpArgs false
def msg_known.f (a0 : Int) : Option (Bool) := if a0 = 1 then (some true) else (if a0 = 2 then (some true) else (if a0 = 4 then (some true) else (if a0 = 8 then (some true) else (if a0 = 11 then (some true) else (if a0 = 15 then (some true) else (if a0 = 20 then (some true) else (if a0 = 24 then (some true) else (some false))))))))
set_option maxHeartbeats 8000000 in
set_option maxRecDepth 100000 in
theorem msg_known.calls (a0 : Int) (r : Bool) (w : World) (h : msg_known.f a0 = some r) :
    Calls Try.prog 43 #[.int .i64 a0] w fun e w' => e = .returned (.bool r) ∧ Drawn0 w w' := by
  have H : (if a0 = 1 then (some true) else (if a0 = 2 then (some true) else (if a0 = 4 then (some true) else (if a0 = 8 then (some true) else (if a0 = 11 then (some true) else (if a0 = 15 then (some true) else (if a0 = 20 then (some true) else (if a0 = 24 then (some true) else (some false))))))))) = some r := h
  clear h
  by_cases c2 : a0 = 1
  · rw [if_pos c2] at H
    have c2b0 : (a0 == 1) = true := beq_iff_eq.mpr c2
    have c2b1 : (a0 != 1) = false := bne_eq_false_iff_eq.mpr c2
    clear c2
    obtain rfl := Option.some.inj H
    go_enter Try.func43, Try.ntmps43
    go_wp2
    go_ret
    exact ⟨by first | rfl | (simp; done) | (simp [*]; done), by repeat (first | exact Drawn0.refl _ | apply Drawn0.step)⟩
  · rw [if_neg c2] at H
    have c2b0 : (a0 == 1) = false := beq_eq_false_iff_ne.mpr c2
    have c2b1 : (a0 != 1) = true := bne_iff_ne.mpr c2
    by_cases c3 : a0 = 2
    · rw [if_pos c3] at H
      have c3b0 : (a0 == 2) = true := beq_iff_eq.mpr c3
      have c3b1 : (a0 != 2) = false := bne_eq_false_iff_eq.mpr c3
      clear c3
      obtain rfl := Option.some.inj H
      go_enter Try.func43, Try.ntmps43
      go_wp2
      go_ret
      exact ⟨by first | rfl | (simp; done) | (simp [*]; done), by repeat (first | exact Drawn0.refl _ | apply Drawn0.step)⟩
    · rw [if_neg c3] at H
      have c3b0 : (a0 == 2) = false := beq_eq_false_iff_ne.mpr c3
      have c3b1 : (a0 != 2) = true := bne_iff_ne.mpr c3
      by_cases c4 : a0 = 4
      · rw [if_pos c4] at H
        have c4b0 : (a0 == 4) = true := beq_iff_eq.mpr c4
        have c4b1 : (a0 != 4) = false := bne_eq_false_iff_eq.mpr c4
        clear c4
        obtain rfl := Option.some.inj H
        go_enter Try.func43, Try.ntmps43
        go_wp2
        go_ret
        exact ⟨by first | rfl | (simp; done) | (simp [*]; done), by repeat (first | exact Drawn0.refl _ | apply Drawn0.step)⟩
      · rw [if_neg c4] at H
        have c4b0 : (a0 == 4) = false := beq_eq_false_iff_ne.mpr c4
        have c4b1 : (a0 != 4) = true := bne_iff_ne.mpr c4
        by_cases c5 : a0 = 8
        · rw [if_pos c5] at H
          have c5b0 : (a0 == 8) = true := beq_iff_eq.mpr c5
          have c5b1 : (a0 != 8) = false := bne_eq_false_iff_eq.mpr c5
          clear c5
          obtain rfl := Option.some.inj H
          go_enter Try.func43, Try.ntmps43
          go_wp2
          go_ret
          exact ⟨by first | rfl | (simp; done) | (simp [*]; done), by repeat (first | exact Drawn0.refl _ | apply Drawn0.step)⟩
        · rw [if_neg c5] at H
          have c5b0 : (a0 == 8) = false := beq_eq_false_iff_ne.mpr c5
          have c5b1 : (a0 != 8) = true := bne_iff_ne.mpr c5
          by_cases c6 : a0 = 11
          · rw [if_pos c6] at H
            have c6b0 : (a0 == 11) = true := beq_iff_eq.mpr c6
            have c6b1 : (a0 != 11) = false := bne_eq_false_iff_eq.mpr c6
            clear c6
            obtain rfl := Option.some.inj H
            go_enter Try.func43, Try.ntmps43
            go_wp2
            go_ret
            exact ⟨by first | rfl | (simp; done) | (simp [*]; done), by repeat (first | exact Drawn0.refl _ | apply Drawn0.step)⟩
          · rw [if_neg c6] at H
            have c6b0 : (a0 == 11) = false := beq_eq_false_iff_ne.mpr c6
            have c6b1 : (a0 != 11) = true := bne_iff_ne.mpr c6
            by_cases c7 : a0 = 15
            · rw [if_pos c7] at H
              have c7b0 : (a0 == 15) = true := beq_iff_eq.mpr c7
              have c7b1 : (a0 != 15) = false := bne_eq_false_iff_eq.mpr c7
              clear c7
              obtain rfl := Option.some.inj H
              go_enter Try.func43, Try.ntmps43
              go_wp2
              go_ret
              exact ⟨by first | rfl | (simp; done) | (simp [*]; done), by repeat (first | exact Drawn0.refl _ | apply Drawn0.step)⟩
            · rw [if_neg c7] at H
              have c7b0 : (a0 == 15) = false := beq_eq_false_iff_ne.mpr c7
              have c7b1 : (a0 != 15) = true := bne_iff_ne.mpr c7
              by_cases c8 : a0 = 20
              · rw [if_pos c8] at H
                have c8b0 : (a0 == 20) = true := beq_iff_eq.mpr c8
                have c8b1 : (a0 != 20) = false := bne_eq_false_iff_eq.mpr c8
                clear c8
                obtain rfl := Option.some.inj H
                go_enter Try.func43, Try.ntmps43
                go_wp2
                go_ret
                exact ⟨by first | rfl | (simp; done) | (simp [*]; done), by repeat (first | exact Drawn0.refl _ | apply Drawn0.step)⟩
              · rw [if_neg c8] at H
                have c8b0 : (a0 == 20) = false := beq_eq_false_iff_ne.mpr c8
                have c8b1 : (a0 != 20) = true := bne_iff_ne.mpr c8
                by_cases c9 : a0 = 24
                · rw [if_pos c9] at H
                  have c9b0 : (a0 == 24) = true := beq_iff_eq.mpr c9
                  have c9b1 : (a0 != 24) = false := bne_eq_false_iff_eq.mpr c9
                  clear c9
                  obtain rfl := Option.some.inj H
                  go_enter Try.func43, Try.ntmps43
                  go_wp2
                  go_ret
                  exact ⟨by first | rfl | (simp; done) | (simp [*]; done), by repeat (first | exact Drawn0.refl _ | apply Drawn0.step)⟩
                · rw [if_neg c9] at H
                  have c9b0 : (a0 == 24) = false := beq_eq_false_iff_ne.mpr c9
                  have c9b1 : (a0 != 24) = true := bne_iff_ne.mpr c9
                  obtain rfl := Option.some.inj H
                  go_enter Try.func43, Try.ntmps43
                  go_wp2
                  go_ret
                  exact ⟨by first | rfl | (simp; done) | (simp [*]; done), by repeat (first | exact Drawn0.refl _ | apply Drawn0.step)⟩
def IsS83 (w0 W : World) (g : Nat) (f0 : List Int) (f1 : Bool) : Prop := ∃ A0 c0, W.heap[g]? = some (.cells #[.slice A0 f0.length c0, .bool f1] 83 (0, 0)) ∧ w0.heap.size ≤ g ∧ Kd.C (Kd.int .u8) w0 A0 f0.length f0
theorem IsS83.grown {w0 W : World} {g : Nat} {f0 : List Int} {f1 : Bool} {W1 : World} {row : Option Nat} (h : IsS83 w0 W g f0 f1) (hw : W.grownBy W1 row) (hne : some g ≠ row) : IsS83 w0 W1 g f0 f1 := by
  obtain ⟨A0, c0, hb, hg, hr0⟩ := h
  exact ⟨A0, c0, blk_grown hb hw hne, hg, hr0⟩
theorem IsS83.kept {w0 W : World} {g : Nat} {f0 : List Int} {f1 : Bool} {W1 : World} {S : Nat → Prop} (h : IsS83 w0 W g f0 f1) (hk : Kept W W1 S) (hne : ¬ S g) : IsS83 w0 W1 g f0 f1 := by
  obtain ⟨A0, c0, hb, hg, hr0⟩ := h
  exact ⟨A0, c0, blk_kept hb hk hne, hg, hr0⟩
theorem IsS83.below {w0 W : World} {g : Nat} {f0 : List Int} {f1 : Bool} {W1 : World} (h : IsS83 w0 W g f0 f1) (hw : Below W.heap.size W W1) : IsS83 w0 W1 g f0 f1 := h.grown (grown_of_below hw none) (by simp)
theorem IsS83.alloc {w0 W : World} {g : Nat} {f0 : List Int} {f1 : Bool} (h : IsS83 w0 W g f0 f1) (o : Obj) : IsS83 w0 (W.alloc o) g f0 f1 := h.below (below_alloc (Below.refl _ _) o)
theorem IsS83.drewN {w0 W : World} {g : Nat} {f0 : List Int} {f1 : Bool} (h : IsS83 w0 W g f0 f1) (m : Nat) : IsS83 w0 (W.drewN m) g f0 f1 := h
theorem IsS83.drew {w0 W : World} {g : Nat} {f0 : List Int} {f1 : Bool} (h : IsS83 w0 W g f0 f1) : IsS83 w0 W.drew g f0 f1 := h
theorem IsS83.at_ {w0 W : World} {g : Nat} {f0 : List Int} {f1 : Bool} {w' : World} {m : Nat} (hq : W.drewN m = w') (h : IsS83 w0 W g f0 f1) : IsS83 w0 w' g f0 f1 := by subst hq; exact IsS83.drewN h m
theorem IsS83.apart {w0 W : World} {g : Nat} {f0 : List Int} {f1 : Bool} {α : Type} {d : Kd α} {e : Nat} {base : Nat} {ok : Nat → Prop} {v : Value} {xs : List α} (h : IsS83 w0 W g f0 f1) (ho : d.R e W base ok v xs) (ht : ∀ q, q ∈ e :: d.E → q ≠ 83) : d.R e W base (fun k => ok k ∧ k ≠ g) v xs := by
  obtain ⟨A0, c0, hb, hg, hr0⟩ := h
  exact Kd.R_types ho hb ht
theorem IsS83.own_ne {w0 W : World} {g : Nat} {f0 : List Int} {f1 : Bool} {α : Type} {d : Kd α} {e : Nat} {base : Nat} {ok : Nat → Prop} {v : Value} {xs : List α} (h : IsS83 w0 W g f0 f1) (ho : d.R e W base ok v xs) (ht : e ≠ 83) : some g ≠ v.ownBlock := by
  obtain ⟨A0, c0, hb, hg, hr0⟩ := h
  exact Kd.R_ne ho hb ht
theorem IsS83.lt {w0 W : World} {g : Nat} {f0 : List Int} {f1 : Bool} (h : IsS83 w0 W g f0 f1) : g < W.heap.size := by
  obtain ⟨A0, c0, hb, hg, hr0⟩ := h
  exact blk_lt hb
theorem IsS83.ge {w0 W : World} {g : Nat} {f0 : List Int} {f1 : Bool} (h : IsS83 w0 W g f0 f1) : w0.heap.size ≤ g := by
  obtain ⟨A0, c0, hb, hg, hr0⟩ := h
  exact hg
def msg_Retry.f (a0_0 : Int) (a0_1 : ByteArray) (a0_2 : ByteArray) (l0_3 : List Int) (a0_4 : ByteArray) (l0_5 : List Int) (l0_6 : List Int) (l0_7 : List Int) (l0_8 : List Int) (l0_9 : List (S66)) (l0_10 : List (S111)) (l0_11 : List ByteArray) (a0_12 : Int) (l0_13 : List Int) (l0_14 : List ByteArray) (a0_15 : Int) (a0_16 : ByteArray) (a0_17 : Int) (a0_18 : Int) (a0_19 : ByteArray) (a0_20 : Int) : Option (Bool) := if a0_0 = 2 then (some (a0_1.toList == ([207, 33, 173, 116, 229, 154, 97, 17, 190, 29, 140, 2, 30, 101, 184, 145, 194, 162, 17, 22, 122, 187, 140, 94, 7, 158, 9, 226, 200, 168, 51, 156] : List UInt8))) else (some false)
set_option maxHeartbeats 8000000 in
set_option maxRecDepth 100000 in
theorem msg_Retry.calls (a0_0 : Int) (a0_1 : ByteArray) (a0_2 : ByteArray) (A0_3 : Option Addr) (c0_3 : Nat) (l0_3 : List Int) (a0_4 : ByteArray) (A0_5 : Option Addr) (c0_5 : Nat) (l0_5 : List Int) (A0_6 : Option Addr) (c0_6 : Nat) (l0_6 : List Int) (A0_7 : Option Addr) (c0_7 : Nat) (l0_7 : List Int) (A0_8 : Option Addr) (c0_8 : Nat) (l0_8 : List Int) (A0_9 : Option Addr) (c0_9 : Nat) (l0_9 : List (S66)) (A0_10 : Option Addr) (c0_10 : Nat) (l0_10 : List (S111)) (A0_11 : Option Addr) (c0_11 : Nat) (l0_11 : List ByteArray) (a0_12 : Int) (A0_13 : Option Addr) (c0_13 : Nat) (l0_13 : List Int) (A0_14 : Option Addr) (c0_14 : Nat) (l0_14 : List ByteArray) (a0_15 : Int) (a0_16 : ByteArray) (a0_17 : Int) (a0_18 : Int) (a0_19 : ByteArray) (a0_20 : Int) (r : Bool) (w : World) (hr0_3 : Kd.C (Kd.int .i64) w A0_3 l0_3.length l0_3) (hc0_3 : l0_3.length ≤ c0_3) (hr0_5 : Kd.C (Kd.int .i64) w A0_5 l0_5.length l0_5) (hc0_5 : l0_5.length ≤ c0_5) (hr0_6 : Kd.C (Kd.int .i64) w A0_6 l0_6.length l0_6) (hc0_6 : l0_6.length ≤ c0_6) (hr0_7 : Kd.C (Kd.int .i64) w A0_7 l0_7.length l0_7) (hc0_7 : l0_7.length ≤ c0_7) (hr0_8 : Kd.C (Kd.int .i64) w A0_8 l0_8.length l0_8) (hc0_8 : l0_8.length ≤ c0_8) (hr0_9 : Kd.C k66 w A0_9 l0_9.length l0_9) (hc0_9 : l0_9.length ≤ c0_9) (hr0_10 : Kd.C k111 w A0_10 l0_10.length l0_10) (hc0_10 : l0_10.length ≤ c0_10) (hr0_11 : Kd.C Kd.string w A0_11 l0_11.length l0_11) (hc0_11 : l0_11.length ≤ c0_11) (hr0_13 : Kd.C (Kd.int .i64) w A0_13 l0_13.length l0_13) (hc0_13 : l0_13.length ≤ c0_13) (hr0_14 : Kd.C Kd.string w A0_14 l0_14.length l0_14) (hc0_14 : l0_14.length ≤ c0_14) (h : msg_Retry.f a0_0 a0_1 a0_2 l0_3 a0_4 l0_5 l0_6 l0_7 l0_8 l0_9 l0_10 l0_11 a0_12 l0_13 l0_14 a0_15 a0_16 a0_17 a0_18 a0_19 a0_20 = some r) :
    Calls Try.prog 30 #[.agg #[.int .i64 a0_0, .string a0_1, .string a0_2, .slice A0_3 l0_3.length c0_3, .string a0_4, .slice A0_5 l0_5.length c0_5, .slice A0_6 l0_6.length c0_6, .slice A0_7 l0_7.length c0_7, .slice A0_8 l0_8.length c0_8, .slice A0_9 l0_9.length c0_9, .slice A0_10 l0_10.length c0_10, .slice A0_11 l0_11.length c0_11, .int .i64 a0_12, .slice A0_13 l0_13.length c0_13, .slice A0_14 l0_14.length c0_14, .int .i64 a0_15, .string a0_16, .int .i64 a0_17, .int .i64 a0_18, .string a0_19, .int .i64 a0_20]] w fun e w' => e = .returned (.bool r) ∧ Below w.heap.size w w' := by
  have hu49 := Try.underlying49
  have HR0_3 := Aside0.mk hr0_3
  have HC0_3 := Aside0.mk hc0_3
  clear hr0_3 hc0_3
  have HR0_5 := Aside0.mk hr0_5
  have HC0_5 := Aside0.mk hc0_5
  clear hr0_5 hc0_5
  have HR0_6 := Aside0.mk hr0_6
  have HC0_6 := Aside0.mk hc0_6
  clear hr0_6 hc0_6
  have HR0_7 := Aside0.mk hr0_7
  have HC0_7 := Aside0.mk hc0_7
  clear hr0_7 hc0_7
  have HR0_8 := Aside0.mk hr0_8
  have HC0_8 := Aside0.mk hc0_8
  clear hr0_8 hc0_8
  have HR0_9 := Aside0.mk hr0_9
  have HC0_9 := Aside0.mk hc0_9
  clear hr0_9 hc0_9
  have HR0_10 := Aside0.mk hr0_10
  have HC0_10 := Aside0.mk hc0_10
  clear hr0_10 hc0_10
  have HR0_11 := Aside0.mk hr0_11
  have HC0_11 := Aside0.mk hc0_11
  clear hr0_11 hc0_11
  have HR0_13 := Aside0.mk hr0_13
  have HC0_13 := Aside0.mk hc0_13
  clear hr0_13 hc0_13
  have HR0_14 := Aside0.mk hr0_14
  have HC0_14 := Aside0.mk hc0_14
  clear hr0_14 hc0_14
  have HB := Aside0.mk (Below.refl w.heap.size w)
  have H : (if a0_0 = 2 then (some (a0_1.toList == ([207, 33, 173, 116, 229, 154, 97, 17, 190, 29, 140, 2, 30, 101, 184, 145, 194, 162, 17, 22, 122, 187, 140, 94, 7, 158, 9, 226, 200, 168, 51, 156] : List UInt8))) else (some false)) = some r := h
  clear h
  by_cases c2 : a0_0 = 2
  · rw [if_pos c2] at H
    have c2b0 : (a0_0 == 2) = true := beq_iff_eq.mpr c2
    have c2b1 : (a0_0 != 2) = false := bne_eq_false_iff_eq.mpr c2
    clear c2
    obtain rfl := Option.some.inj H
    go_enter Try.func30, Try.ntmps30
    go_wp2_with (first | ((with_reducible refine gate_dst (N := 1) rfl ?_); refine box_event ?hg (N := 1) ?hd (cs := #[.int .i64 a0_0, .string a0_1, .string a0_2, .slice A0_3 l0_3.length c0_3, .string a0_4, .slice A0_5 l0_5.length c0_5, .slice A0_6 l0_6.length c0_6, .slice A0_7 l0_7.length c0_7, .slice A0_8 l0_8.length c0_8, .slice A0_9 l0_9.length c0_9, .slice A0_10 l0_10.length c0_10, .slice A0_11 l0_11.length c0_11, .int .i64 a0_12, .slice A0_13 l0_13.length c0_13, .slice A0_14 l0_14.length c0_14, .int .i64 a0_15, .string a0_16, .int .i64 a0_17, .int .i64 a0_18, .string a0_19, .int .i64 a0_20]) (t := 49) ?hr ?_; (case hd => rfl); (case hg => rfl); (case hr => first | (go_simp; done) | (go_simp; rfl)); intro gb209 hg w3 hbox hb; have n0_ := Aside0.mk (below_step (by repeat (first | (with_reducible first | exact HB.out | apply below_alloc | apply pw_below_drewN | apply below_drew1) | exact HB.out)) hb); have n1_ := Aside0.mk (hbox); have n2_ := Aside0.mk ((by rw [hg]; exact (below_size (by repeat (first | (with_reducible first | exact HB.out | apply below_alloc | apply pw_below_drewN | apply below_drew1) | exact HB.out))) : w.heap.size ≤ gb209)); have n3_ := Aside0.mk ((by rw [hg]; exact (below_size (by repeat (first | (with_reducible first | exact HB.out | apply below_alloc | apply pw_below_drewN | apply below_drew1) | exact HB.out))) : w.heap.size ≤ gb209)); clear HB; have HB := n0_; have BK209 := n1_; have GW209 := n2_; have GE209 := n3_; clear n0_ n1_ n2_ n3_; clear hb hbox hg; have hcz4_0 : w3.cell? ⟨gb209, 0, none⟩ = some (.int .i64 a0_0) := (blk_cell BK209.out 0).trans rfl; have hcz4_1 : w3.cell? ⟨gb209, 1, none⟩ = some (.string a0_1) := (blk_cell BK209.out 1).trans rfl; have hcz4_2 : w3.cell? ⟨gb209, 2, none⟩ = some (.string a0_2) := (blk_cell BK209.out 2).trans rfl; have hcz4_3 : w3.cell? ⟨gb209, 3, none⟩ = some (.slice A0_3 l0_3.length c0_3) := (blk_cell BK209.out 3).trans rfl; have hcz4_4 : w3.cell? ⟨gb209, 4, none⟩ = some (.string a0_4) := (blk_cell BK209.out 4).trans rfl; have hcz4_5 : w3.cell? ⟨gb209, 5, none⟩ = some (.slice A0_5 l0_5.length c0_5) := (blk_cell BK209.out 5).trans rfl; have hcz4_6 : w3.cell? ⟨gb209, 6, none⟩ = some (.slice A0_6 l0_6.length c0_6) := (blk_cell BK209.out 6).trans rfl; have hcz4_7 : w3.cell? ⟨gb209, 7, none⟩ = some (.slice A0_7 l0_7.length c0_7) := (blk_cell BK209.out 7).trans rfl; have hcz4_8 : w3.cell? ⟨gb209, 8, none⟩ = some (.slice A0_8 l0_8.length c0_8) := (blk_cell BK209.out 8).trans rfl; have hcz4_9 : w3.cell? ⟨gb209, 9, none⟩ = some (.slice A0_9 l0_9.length c0_9) := (blk_cell BK209.out 9).trans rfl; have hcz4_10 : w3.cell? ⟨gb209, 10, none⟩ = some (.slice A0_10 l0_10.length c0_10) := (blk_cell BK209.out 10).trans rfl; have hcz4_11 : w3.cell? ⟨gb209, 11, none⟩ = some (.slice A0_11 l0_11.length c0_11) := (blk_cell BK209.out 11).trans rfl; have hcz4_12 : w3.cell? ⟨gb209, 12, none⟩ = some (.int .i64 a0_12) := (blk_cell BK209.out 12).trans rfl; have hcz4_13 : w3.cell? ⟨gb209, 13, none⟩ = some (.slice A0_13 l0_13.length c0_13) := (blk_cell BK209.out 13).trans rfl; have hcz4_14 : w3.cell? ⟨gb209, 14, none⟩ = some (.slice A0_14 l0_14.length c0_14) := (blk_cell BK209.out 14).trans rfl; have hcz4_15 : w3.cell? ⟨gb209, 15, none⟩ = some (.int .i64 a0_15) := (blk_cell BK209.out 15).trans rfl; have hcz4_16 : w3.cell? ⟨gb209, 16, none⟩ = some (.string a0_16) := (blk_cell BK209.out 16).trans rfl; have hcz4_17 : w3.cell? ⟨gb209, 17, none⟩ = some (.int .i64 a0_17) := (blk_cell BK209.out 17).trans rfl; have hcz4_18 : w3.cell? ⟨gb209, 18, none⟩ = some (.int .i64 a0_18) := (blk_cell BK209.out 18).trans rfl; have hcz4_19 : w3.cell? ⟨gb209, 19, none⟩ = some (.string a0_19) := (blk_cell BK209.out 19).trans rfl; have hcz4_20 : w3.cell? ⟨gb209, 20, none⟩ = some (.int .i64 a0_20) := (blk_cell BK209.out 20).trans rfl; have hfz4_0 := blk_frozen BK209.out 0; have hfz4_1 := blk_frozen BK209.out 1; have hfz4_2 := blk_frozen BK209.out 2; have hfz4_3 := blk_frozen BK209.out 3; have hfz4_4 := blk_frozen BK209.out 4; have hfz4_5 := blk_frozen BK209.out 5; have hfz4_6 := blk_frozen BK209.out 6; have hfz4_7 := blk_frozen BK209.out 7; have hfz4_8 := blk_frozen BK209.out 8; have hfz4_9 := blk_frozen BK209.out 9; have hfz4_10 := blk_frozen BK209.out 10; have hfz4_11 := blk_frozen BK209.out 11; have hfz4_12 := blk_frozen BK209.out 12; have hfz4_13 := blk_frozen BK209.out 13; have hfz4_14 := blk_frozen BK209.out 14; have hfz4_15 := blk_frozen BK209.out 15; have hfz4_16 := blk_frozen BK209.out 16; have hfz4_17 := blk_frozen BK209.out 17; have hfz4_18 := blk_frozen BK209.out 18; have hfz4_19 := blk_frozen BK209.out 19; have hfz4_20 := blk_frozen BK209.out 20))
    go_ret
    exact ⟨by first | rfl | (simp [errW_none, errW_some] <;> rfl) | (simp [*, errW_none, errW_some] <;> rfl), by repeat (first | (with_reducible first | exact HB.out | apply below_alloc | apply pw_below_drewN | apply below_drew1 | refine below_set ?_ GE209.out) | exact HB.out)⟩
  · rw [if_neg c2] at H
    have c2b0 : (a0_0 == 2) = false := beq_eq_false_iff_ne.mpr c2
    have c2b1 : (a0_0 != 2) = true := bne_iff_ne.mpr c2
    obtain rfl := Option.some.inj H
    go_enter Try.func30, Try.ntmps30
    go_wp2_with (first | ((with_reducible refine gate_dst (N := 1) rfl ?_); refine box_event ?hg (N := 1) ?hd (cs := #[.int .i64 a0_0, .string a0_1, .string a0_2, .slice A0_3 l0_3.length c0_3, .string a0_4, .slice A0_5 l0_5.length c0_5, .slice A0_6 l0_6.length c0_6, .slice A0_7 l0_7.length c0_7, .slice A0_8 l0_8.length c0_8, .slice A0_9 l0_9.length c0_9, .slice A0_10 l0_10.length c0_10, .slice A0_11 l0_11.length c0_11, .int .i64 a0_12, .slice A0_13 l0_13.length c0_13, .slice A0_14 l0_14.length c0_14, .int .i64 a0_15, .string a0_16, .int .i64 a0_17, .int .i64 a0_18, .string a0_19, .int .i64 a0_20]) (t := 49) ?hr ?_; (case hd => rfl); (case hg => rfl); (case hr => first | (go_simp; done) | (go_simp; rfl)); intro gb209 hg w5 hbox hb; have n0_ := Aside0.mk (below_step (by repeat (first | (with_reducible first | exact HB.out | apply below_alloc | apply pw_below_drewN | apply below_drew1) | exact HB.out)) hb); have n1_ := Aside0.mk (hbox); have n2_ := Aside0.mk ((by rw [hg]; exact (below_size (by repeat (first | (with_reducible first | exact HB.out | apply below_alloc | apply pw_below_drewN | apply below_drew1) | exact HB.out))) : w.heap.size ≤ gb209)); have n3_ := Aside0.mk ((by rw [hg]; exact (below_size (by repeat (first | (with_reducible first | exact HB.out | apply below_alloc | apply pw_below_drewN | apply below_drew1) | exact HB.out))) : w.heap.size ≤ gb209)); clear HB; have HB := n0_; have BK209 := n1_; have GW209 := n2_; have GE209 := n3_; clear n0_ n1_ n2_ n3_; clear hb hbox hg; have hcz6_0 : w5.cell? ⟨gb209, 0, none⟩ = some (.int .i64 a0_0) := (blk_cell BK209.out 0).trans rfl; have hcz6_1 : w5.cell? ⟨gb209, 1, none⟩ = some (.string a0_1) := (blk_cell BK209.out 1).trans rfl; have hcz6_2 : w5.cell? ⟨gb209, 2, none⟩ = some (.string a0_2) := (blk_cell BK209.out 2).trans rfl; have hcz6_3 : w5.cell? ⟨gb209, 3, none⟩ = some (.slice A0_3 l0_3.length c0_3) := (blk_cell BK209.out 3).trans rfl; have hcz6_4 : w5.cell? ⟨gb209, 4, none⟩ = some (.string a0_4) := (blk_cell BK209.out 4).trans rfl; have hcz6_5 : w5.cell? ⟨gb209, 5, none⟩ = some (.slice A0_5 l0_5.length c0_5) := (blk_cell BK209.out 5).trans rfl; have hcz6_6 : w5.cell? ⟨gb209, 6, none⟩ = some (.slice A0_6 l0_6.length c0_6) := (blk_cell BK209.out 6).trans rfl; have hcz6_7 : w5.cell? ⟨gb209, 7, none⟩ = some (.slice A0_7 l0_7.length c0_7) := (blk_cell BK209.out 7).trans rfl; have hcz6_8 : w5.cell? ⟨gb209, 8, none⟩ = some (.slice A0_8 l0_8.length c0_8) := (blk_cell BK209.out 8).trans rfl; have hcz6_9 : w5.cell? ⟨gb209, 9, none⟩ = some (.slice A0_9 l0_9.length c0_9) := (blk_cell BK209.out 9).trans rfl; have hcz6_10 : w5.cell? ⟨gb209, 10, none⟩ = some (.slice A0_10 l0_10.length c0_10) := (blk_cell BK209.out 10).trans rfl; have hcz6_11 : w5.cell? ⟨gb209, 11, none⟩ = some (.slice A0_11 l0_11.length c0_11) := (blk_cell BK209.out 11).trans rfl; have hcz6_12 : w5.cell? ⟨gb209, 12, none⟩ = some (.int .i64 a0_12) := (blk_cell BK209.out 12).trans rfl; have hcz6_13 : w5.cell? ⟨gb209, 13, none⟩ = some (.slice A0_13 l0_13.length c0_13) := (blk_cell BK209.out 13).trans rfl; have hcz6_14 : w5.cell? ⟨gb209, 14, none⟩ = some (.slice A0_14 l0_14.length c0_14) := (blk_cell BK209.out 14).trans rfl; have hcz6_15 : w5.cell? ⟨gb209, 15, none⟩ = some (.int .i64 a0_15) := (blk_cell BK209.out 15).trans rfl; have hcz6_16 : w5.cell? ⟨gb209, 16, none⟩ = some (.string a0_16) := (blk_cell BK209.out 16).trans rfl; have hcz6_17 : w5.cell? ⟨gb209, 17, none⟩ = some (.int .i64 a0_17) := (blk_cell BK209.out 17).trans rfl; have hcz6_18 : w5.cell? ⟨gb209, 18, none⟩ = some (.int .i64 a0_18) := (blk_cell BK209.out 18).trans rfl; have hcz6_19 : w5.cell? ⟨gb209, 19, none⟩ = some (.string a0_19) := (blk_cell BK209.out 19).trans rfl; have hcz6_20 : w5.cell? ⟨gb209, 20, none⟩ = some (.int .i64 a0_20) := (blk_cell BK209.out 20).trans rfl; have hfz6_0 := blk_frozen BK209.out 0; have hfz6_1 := blk_frozen BK209.out 1; have hfz6_2 := blk_frozen BK209.out 2; have hfz6_3 := blk_frozen BK209.out 3; have hfz6_4 := blk_frozen BK209.out 4; have hfz6_5 := blk_frozen BK209.out 5; have hfz6_6 := blk_frozen BK209.out 6; have hfz6_7 := blk_frozen BK209.out 7; have hfz6_8 := blk_frozen BK209.out 8; have hfz6_9 := blk_frozen BK209.out 9; have hfz6_10 := blk_frozen BK209.out 10; have hfz6_11 := blk_frozen BK209.out 11; have hfz6_12 := blk_frozen BK209.out 12; have hfz6_13 := blk_frozen BK209.out 13; have hfz6_14 := blk_frozen BK209.out 14; have hfz6_15 := blk_frozen BK209.out 15; have hfz6_16 := blk_frozen BK209.out 16; have hfz6_17 := blk_frozen BK209.out 17; have hfz6_18 := blk_frozen BK209.out 18; have hfz6_19 := blk_frozen BK209.out 19; have hfz6_20 := blk_frozen BK209.out 20))
    go_ret
    exact ⟨by first | rfl | (simp [errW_none, errW_some] <;> rfl) | (simp [*, errW_none, errW_some] <;> rfl), by repeat (first | (with_reducible first | exact HB.out | apply below_alloc | apply pw_below_drewN | apply below_drew1 | refine below_set ?_ GE209.out) | exact HB.out)⟩
end Go.Proofs.Ytlkebjkpmiehcaa.X
end
section
namespace Go.Proofs.Ytlkebjkpmiehcaa.Ms
open Go.RowKit Go.Proofs.YtlkebjkpmiehcaaW.PrintWords Go.Proofs.YtlkebjkpmiehcaaW.PrintLast Go.Proofs.YtlkebjkpmiehcaaW.PrintMore Go.Proofs.Ytlkebjkpmiehcaa.X
set_option linter.unusedVariables false
def Wt (lo : Nat) (W : World) (g : Nat) (s : ByteArray) (b : Bool) : Prop :=
  ∃ v, W.heap[g]? = some (.cells #[v, .bool b] 83 (0, 0)) ∧ lo ≤ g ∧ W.ownsRow lo 5 1 v s.size (Lib.strCells s)
structure Fr (lo g : Nat) (w w' : World) : Prop where
  below : Below lo w w'
  keep : ∀ k cs t, w.heap[k]? = some (.cells cs t (0, 0)) → k ≠ g → t ≠ 5 → w'.heap[k]? = some (.cells cs t (0, 0))
theorem Fr.refl (lo g : Nat) (w : World) : Fr lo g w w := ⟨Below.refl _ _, fun _ _ _ h _ _ => h⟩
theorem Fr.trans {lo g : Nat} {a b c : World} (h : Fr lo g a b) (k : Fr lo g b c) : Fr lo g a c := ⟨h.below.trans k.below, fun i cs t hi hg ht => k.keep i cs t (h.keep i cs t hi hg ht) hg ht⟩
theorem Fr.of_below {lo g : Nat} {w w' : World} (hl : lo ≤ w.heap.size) (h : Below w.heap.size w w') : Fr lo g w w' := ⟨h.mono hl, fun k cs t hk _ _ => (h.block k (blk_lt hk)).trans hk⟩
theorem Fr.of_keep {lo g : Nat} {w w' : World} (h : Below lo w w') (k : KeepBut w w' g none) : Fr lo g w w' := ⟨h, fun i cs t hi hg _ => (k.2 i (blk_lt hi) hg (by simp)).trans hi⟩
theorem Fr.blk {lo g : Nat} {w w' : World} (h : Fr lo g w w') {k : Nat} {cs : Array Value} {t : TypeId} (hk : w.heap[k]? = some (.cells cs t (0, 0))) (hg : k ≠ g) (ht : t ≠ 5) : w'.heap[k]? = some (.cells cs t (0, 0)) := h.keep k cs t hk hg ht
theorem Wt.lt {lo g : Nat} {W : World} {s : ByteArray} {b : Bool} (h : Wt lo W g s b) : lo ≤ g ∧ g < W.heap.size := by
  obtain ⟨v, h1, h2, h3⟩ := h
  exact ⟨h2, blk_lt h1⟩
theorem Wt.size {lo g : Nat} {W : World} {s : ByteArray} {b : Bool} (h : Wt lo W g s b) : lo ≤ W.heap.size := Nat.le_of_lt (Nat.lt_of_le_of_lt h.lt.1 h.lt.2)
theorem Wt.below {lo g : Nat} {W W' : World} {s : ByteArray} {b : Bool} (h : Wt lo W g s b) (hb : Below W.heap.size W W') : Wt lo W' g s b := by
  obtain ⟨v, h1, h2, h3⟩ := h
  exact ⟨v, (hb.block g (blk_lt h1)).trans h1, h2, h3.kept (grown_of_below hb none) (by cases v.ownBlock <;> simp)⟩
theorem row_ne {lo g : Nat} {W : World} {v : Value} {cs : Array Value} {t : TypeId} {n : Nat} {xs : List Value} (ht5 : t ≠ 5) (h1 : W.heap[g]? = some (.cells cs t (0, 0))) (h3 : W.ownsRow lo 5 1 v n xs) : some g ≠ v.ownBlock := by
  rcases h3.2 with ⟨rfl, _⟩ | ⟨k, cap, cur, rfl, _, hh, _⟩
  · simp [Value.ownBlock]
  · intro e
    have e' : g = k := by simpa [Value.ownBlock] using e
    subst e'
    rw [h1] at hh
    injection hh with hh
    injection hh with _ ht
    exact ht5 ht
theorem Wt.row {lo g : Nat} {W : World} {v : Value} {b : Bool} {n : Nat} {xs : List Value} (h1 : W.heap[g]? = some (.cells #[v, .bool b] 83 (0, 0))) (h3 : W.ownsRow lo 5 1 v n xs) : some g ≠ v.ownBlock := row_ne (by decide) h1 h3
theorem cell0 {w : World} {g : Nat} {v : Value} {b : Bool} (h : w.heap[g]? = some (.cells #[v, .bool b] 83 (0, 0))) : w.cell? ⟨g, 0, none⟩ = some v := (blk_cell h 0).trans rfl
theorem cell1 {w : World} {g : Nat} {v : Value} {b : Bool} (h : w.heap[g]? = some (.cells #[v, .bool b] 83 (0, 0))) : w.cell? ⟨g, 1, none⟩ = some (.bool b) := (blk_cell h 1).trans rfl
theorem Wt.bad {lo g : Nat} {W : World} {s : ByteArray} {b : Bool} (h : Wt lo W g s b) (b' : Bool) : Wt lo (W.setCell ⟨g, 1, none⟩ (.bool b')) g s b' := by
  obtain ⟨v, h1, h2, h3⟩ := h
  exact ⟨v, blk_set h1 1 _, h2, own_setCell h3 (Wt.row h1 h3) _⟩
theorem keep_store {lo g : Nat} {w : World} (hl : lo ≤ g) (i : Nat) (u : Value) : Below lo w (w.setCell ⟨g, i, none⟩ u) ∧ KeepBut w (w.setCell ⟨g, i, none⟩ u) g none := ⟨(Below.refl lo w).setCell hl u, (KeepBut.refl w g none).set_ i u⟩
set_option maxRecDepth 100000 in
set_option maxHeartbeats 8000000 in
theorem need_calls (lo g : Nat) (s : ByteArray) (b is : Bool) (w : World) (h : Wt lo w g s b) :
    Calls Try.prog 61 #[.pointer (some ⟨g, 0, none⟩), .bool is] w fun e w' => e = .returned (.tuple #[]) ∧ Wt lo w' g s (b || !is) ∧ Below lo w w' ∧ KeepBut w w' g none := by
  have HW := Aside0.mk h
  obtain ⟨v, h1, h2, h3⟩ := h
  have hc := cell1 h1
  have hf := blk_frozen h1 1
  clear h1 h3
  cases b
  · cases is
    all_goals
      go_enter Try.func61, Try.ntmps61
      go_wp2
      first | go_end0 | ((try simp only [Exit.inBlock, Exit.then]); refine bodyPost_ret (results_none rfl _ _ _) rfl ?_)
      exact ⟨rfl, HW.out.bad _, keep_store h2 1 _⟩
  · go_enter Try.func61, Try.ntmps61
    go_wp2
    first | go_end0 | ((try simp only [Exit.inBlock, Exit.then]); refine bodyPost_ret (results_none rfl _ _ _) rfl ?_)
    exact ⟨rfl, HW.out.bad _, keep_store h2 1 _⟩
end Go.Proofs.Ytlkebjkpmiehcaa.Ms
end
section
namespace Go.Proofs.Ytlkebjkpmiehcaa.Ms
open Go.RowKit Go.Proofs.YtlkebjkpmiehcaaW.PrintWords Go.Proofs.YtlkebjkpmiehcaaW.PrintLast Go.Proofs.YtlkebjkpmiehcaaW.PrintMore Go.Proofs.Ytlkebjkpmiehcaa.X
set_option linter.unusedVariables false
structure Mid (lo g : Nat) (w : World) (s : ByteArray) (b : Bool) (v : Value) : Prop where
  row : ∃ v0, w.heap[g]? = some (.cells #[v0, .bool b] 83 (0, 0))
  ge : lo ≤ g
  own : w.ownsRow lo 5 1 v s.size (Lib.strCells s)
theorem strCells_append (a b : ByteArray) : Lib.strCells (a ++ b) = Lib.strCells a ++ Lib.strCells b := by
  simp [Lib.strCells, ByteArray.data_append]
theorem app_bytes {ops : Array Oper} {rest : List Oper} {o : Oper} {a : Act} {Q : Exit → Act → World → Prop} {w : World} (hgd : o.guard = none) (sl x : Operand)
    (ho : o.op = .call { callee := .builtin .append, args := #[sl, x], argTypes := #[39, 9] }) (lo g : Nat) (s t : ByteArray) (b : Bool) (v : Value)
    (hs : a.eval sl = v) (hx : a.eval x = .string t) (h1 : w.heap[g]? = some (.cells #[v, .bool b] 83 (0, 0))) (h2 : lo ≤ g) (h3 : w.ownsRow lo 5 1 v s.size (Lib.strCells s)) (hn : s.size + t.size ≤ 140737488355328)
    (H : ∀ v' w', Mid lo g w' (s ++ t) b v' → Fr lo g w w' → wpList Try.prog ops Q rest (a.put o.dst v') w') : wpList Try.prog ops Q (o :: rest) a w := by
  have hinfo := info5
  obtain ⟨i0, hi, hzz⟩ := Option.map_eq_some_iff.1 hinfo
  simp only [Prod.mk.injEq] at hzz
  obtain ⟨hz0, hz1, hz2⟩ := hzz
  refine Lib.wpList_append_own_string w hgd sl x 39 9 ho lo 5 i0 Try.underlying39 (by kernel_rfl) hi hz0 hz1 hz2 v s.size (Lib.strCells s) hs h3 t hx (by simp only [maxLen]; omega) hn (by have := blk_lt h1; omega) ?_
  intro v1 w1 hown hg _
  have hz : s.size + t.size = (s ++ t).size := by rw [ByteArray.size_append]
  refine H v1 w1 ⟨⟨v, blk_grown h1 hg (Wt.row h1 h3)⟩, h2, by rw [strCells_append, ← hz]; exact hown⟩ ⟨(Below.refl lo w).grown hg (by have := blk_lt h1; omega) (fun k hk => (h3.lt k hk).1), fun k cs ty hk hgk hty => blk_grown hk hg ?_⟩
  exact row_ne hty hk h3
theorem Mid.store {lo g : Nat} {w : World} {s : ByteArray} {b : Bool} {v : Value} (h : Mid lo g w s b v) : Wt lo (w.setCell ⟨g, 0, none⟩ v) g s b := by
  obtain ⟨v0, h1⟩ := h.row
  have h4 : some g ≠ v.ownBlock := row_ne (by decide) h1 h.own
  exact ⟨v, blk_set h1 0 v, h.ge, own_setCell h.own h4 _⟩
set_option maxRecDepth 100000 in
set_option maxHeartbeats 8000000 in
theorem num_calls (lo g : Nat) (s t : ByteArray) (b : Bool) (x size e : Int) (w : World) (h : Wt lo w g s b) (hf : wire_Put.f x size = some (t, e)) (hn : s.size + t.size ≤ 140737488355328) :
    Calls Try.prog 60 #[.pointer (some ⟨g, 0, none⟩), .int .i64 x, .int .i64 size] w fun ex w' => ex = .returned (.tuple #[]) ∧ Wt lo w' g (s ++ t) (b || !(e == 0)) ∧ Fr lo g w w' := by
  have HW := Aside0.mk h
  have HF := Aside0.mk hf
  have HN := Aside0.mk hn
  clear h hf hn
  go_enter Try.func60, Try.ntmps60
  go_wp2_with (first
    | (go_at_call 39; (with_reducible refine (wire_Put.calls x size t e _ HF.out).mono ?_); rintro e1 w1 ⟨rfl, b1⟩; have HW1 := Aside0.mk (HW.out.below b1); have HR1 := Aside0.mk (Fr.of_below (g := g) HW.out.size b1); clear b1)
    | (go_at_call 61; (with_reducible refine (need_calls lo g s b (e == 0) _ HW1.out).mono ?_); rintro e2 w2 ⟨rfl, i2, b2, k2⟩; have HR2 := Aside0.mk (HR1.out.trans (Fr.of_keep b2 k2)); obtain ⟨v, h1, h2, h3⟩ := i2; obtain ⟨A, c, rfl⟩ := own_slice h3; have HB2 := Aside0.mk h1; have HO2 := Aside0.mk h3; have HL := Aside0.mk h2; have hc := cell0 h1; clear h1 h2 h3 b2 k2)
    | ((with_reducible refine gate_builtin (b := .append) (xs := #[.tmp 22, .tmp 23]) rfl ?_); at_builtin; refine app_bytes rfl _ _ rfl lo g s t _ _ rfl rfl HB2.out HL.out HO2.out HN.out ?_; intro v3 w3 m3 f3; obtain ⟨A3, c3, rfl⟩ := own_slice m3.own; have HM3 := Aside0.mk m3; have HR3 := Aside0.mk (HR2.out.trans f3); obtain ⟨v4, h4⟩ := m3.row; have hz := blk_frozen h4 0; have hc4 := cell0 h4; clear f3 h4 m3))
  first | go_end0 | ((try simp only [Exit.inBlock, Exit.then]); refine bodyPost_ret (results_none rfl _ _ _) rfl ?_)
  exact ⟨rfl, by have h5 := HM3.out.store; simp only [ByteArray.size_append] at h5; exact h5, HR3.out.trans (Fr.of_keep (keep_store HL.out 0 _).1 (keep_store HL.out 0 _).2)⟩
def vecOk (v : ByteArray) (e least most : Int) : Bool := e == 0 && decide (least ≤ v.size) && decide ((v.size : Int) ≤ most)
set_option maxRecDepth 100000 in
set_option maxHeartbeats 8000000 in
theorem vec_calls (lo g : Nat) (s v t : ByteArray) (b : Bool) (size least most e : Int) (w : World) (h : Wt lo w g s b) (hf : wire_PutVec.f v size = some (t, e)) (hn : s.size + t.size ≤ 140737488355328) :
    Calls Try.prog 57 #[.pointer (some ⟨g, 0, none⟩), .string v, .int .i64 size, .int .i64 least, .int .i64 most] w fun ex w' => ex = .returned (.tuple #[]) ∧ Wt lo w' g (s ++ t) (b || !(vecOk v e least most)) ∧ Fr lo g w w' := by
  have HW := Aside0.mk h
  have HF := Aside0.mk hf
  have HN := Aside0.mk hn
  obtain ⟨ok, hok⟩ : ∃ ok, vecOk v e least most = ok := ⟨_, rfl⟩
  rw [hok]
  have HK := Aside0.mk hok
  unfold vecOk at hok
  clear h hf hn
  by_cases c1 : (e == 0) = true
  · by_cases c2 : least ≤ v.size
    · have c2' := decide_eq_true c2
      by_cases c3 : (v.size : Int) ≤ most
      · have c3' := decide_eq_true c3
        obtain rfl : ok = true := by rw [← hok, c1, c2', c3']; rfl
        clear hok c2 c3
        go_enter Try.func57, Try.ntmps57
        go_wp2_with (first
          | (go_at_call 40; (with_reducible refine (wire_PutVec.calls v size t e _ HF.out).mono ?_); rintro e1 w1 ⟨rfl, b1⟩; have HW1 := Aside0.mk (HW.out.below b1); have HR1 := Aside0.mk (Fr.of_below (g := g) HW.out.size b1); clear b1)
          | (go_at_call 61; (with_reducible refine (need_calls lo g s b true _ HW1.out).mono ?_); rintro e2 w2 ⟨rfl, i2, b2, k2⟩; have HR2 := Aside0.mk (HR1.out.trans (Fr.of_keep b2 k2)); obtain ⟨v0, h1, h2, h3⟩ := i2; obtain ⟨A, c, rfl⟩ := own_slice h3; have HB2 := Aside0.mk h1; have HO2 := Aside0.mk h3; have HL := Aside0.mk h2; have hc := cell0 h1; clear h1 h2 h3 b2 k2)
          | ((with_reducible refine gate_builtin (b := .append) (xs := #[.tmp 38, .tmp 39]) rfl ?_); at_builtin; refine app_bytes rfl _ _ rfl lo g s t _ _ rfl rfl HB2.out HL.out HO2.out HN.out ?_; intro v3 w3 m3 f3; obtain ⟨A3, c3, rfl⟩ := own_slice m3.own; have HM3 := Aside0.mk m3; have HR3 := Aside0.mk (HR2.out.trans f3); obtain ⟨v4, h4⟩ := m3.row; have hz := blk_frozen h4 0; have hc4 := cell0 h4; clear f3 h4 m3))
        first | go_end0 | ((try simp only [Exit.inBlock, Exit.then]); refine bodyPost_ret (results_none rfl _ _ _) rfl ?_)
        exact ⟨rfl, by have h5 := HM3.out.store; simp only [ByteArray.size_append] at h5; exact h5, HR3.out.trans (Fr.of_keep (keep_store HL.out 0 _).1 (keep_store HL.out 0 _).2)⟩
      · have c3' := decide_eq_false c3
        obtain rfl : ok = false := by rw [← hok, c1, c2', c3']; rfl
        clear hok c2 c3
        go_enter Try.func57, Try.ntmps57
        go_wp2_with (first
          | (go_at_call 40; (with_reducible refine (wire_PutVec.calls v size t e _ HF.out).mono ?_); rintro e1 w1 ⟨rfl, b1⟩; have HW1 := Aside0.mk (HW.out.below b1); have HR1 := Aside0.mk (Fr.of_below (g := g) HW.out.size b1); clear b1)
          | (go_at_call 61; (with_reducible refine (need_calls lo g s b false _ HW1.out).mono ?_); rintro e2 w2 ⟨rfl, i2, b2, k2⟩; have HR2 := Aside0.mk (HR1.out.trans (Fr.of_keep b2 k2)); obtain ⟨v0, h1, h2, h3⟩ := i2; obtain ⟨A, c, rfl⟩ := own_slice h3; have HB2 := Aside0.mk h1; have HO2 := Aside0.mk h3; have HL := Aside0.mk h2; have hc := cell0 h1; clear h1 h2 h3 b2 k2)
          | ((with_reducible refine gate_builtin (b := .append) (xs := #[.tmp 38, .tmp 39]) rfl ?_); at_builtin; refine app_bytes rfl _ _ rfl lo g s t _ _ rfl rfl HB2.out HL.out HO2.out HN.out ?_; intro v3 w3 m3 f3; obtain ⟨A3, c3, rfl⟩ := own_slice m3.own; have HM3 := Aside0.mk m3; have HR3 := Aside0.mk (HR2.out.trans f3); obtain ⟨v4, h4⟩ := m3.row; have hz := blk_frozen h4 0; have hc4 := cell0 h4; clear f3 h4 m3))
        first | go_end0 | ((try simp only [Exit.inBlock, Exit.then]); refine bodyPost_ret (results_none rfl _ _ _) rfl ?_)
        exact ⟨rfl, by have h5 := HM3.out.store; simp only [ByteArray.size_append] at h5; exact h5, HR3.out.trans (Fr.of_keep (keep_store HL.out 0 _).1 (keep_store HL.out 0 _).2)⟩
    · have c2' := decide_eq_false c2
      obtain rfl : ok = false := by rw [← hok, c1, c2']; rfl
      clear hok c2
      go_enter Try.func57, Try.ntmps57
      go_wp2_with (first
        | (go_at_call 40; (with_reducible refine (wire_PutVec.calls v size t e _ HF.out).mono ?_); rintro e1 w1 ⟨rfl, b1⟩; have HW1 := Aside0.mk (HW.out.below b1); have HR1 := Aside0.mk (Fr.of_below (g := g) HW.out.size b1); clear b1)
        | (go_at_call 61; (with_reducible refine (need_calls lo g s b false _ HW1.out).mono ?_); rintro e2 w2 ⟨rfl, i2, b2, k2⟩; have HR2 := Aside0.mk (HR1.out.trans (Fr.of_keep b2 k2)); obtain ⟨v0, h1, h2, h3⟩ := i2; obtain ⟨A, c, rfl⟩ := own_slice h3; have HB2 := Aside0.mk h1; have HO2 := Aside0.mk h3; have HL := Aside0.mk h2; have hc := cell0 h1; clear h1 h2 h3 b2 k2)
        | ((with_reducible refine gate_builtin (b := .append) (xs := #[.tmp 38, .tmp 39]) rfl ?_); at_builtin; refine app_bytes rfl _ _ rfl lo g s t _ _ rfl rfl HB2.out HL.out HO2.out HN.out ?_; intro v3 w3 m3 f3; obtain ⟨A3, c3, rfl⟩ := own_slice m3.own; have HM3 := Aside0.mk m3; have HR3 := Aside0.mk (HR2.out.trans f3); obtain ⟨v4, h4⟩ := m3.row; have hz := blk_frozen h4 0; have hc4 := cell0 h4; clear f3 h4 m3))
      first | go_end0 | ((try simp only [Exit.inBlock, Exit.then]); refine bodyPost_ret (results_none rfl _ _ _) rfl ?_)
      exact ⟨rfl, by have h5 := HM3.out.store; simp only [ByteArray.size_append] at h5; exact h5, HR3.out.trans (Fr.of_keep (keep_store HL.out 0 _).1 (keep_store HL.out 0 _).2)⟩
  · rw [Bool.not_eq_true] at c1
    obtain rfl : ok = false := by rw [← hok, c1]; rfl
    clear hok
    go_enter Try.func57, Try.ntmps57
    go_wp2_with (first
      | (go_at_call 40; (with_reducible refine (wire_PutVec.calls v size t e _ HF.out).mono ?_); rintro e1 w1 ⟨rfl, b1⟩; have HW1 := Aside0.mk (HW.out.below b1); have HR1 := Aside0.mk (Fr.of_below (g := g) HW.out.size b1); clear b1)
      | (go_at_call 61; (with_reducible refine (need_calls lo g s b false _ HW1.out).mono ?_); rintro e2 w2 ⟨rfl, i2, b2, k2⟩; have HR2 := Aside0.mk (HR1.out.trans (Fr.of_keep b2 k2)); obtain ⟨v0, h1, h2, h3⟩ := i2; obtain ⟨A, c, rfl⟩ := own_slice h3; have HB2 := Aside0.mk h1; have HO2 := Aside0.mk h3; have HL := Aside0.mk h2; have hc := cell0 h1; clear h1 h2 h3 b2 k2)
      | ((with_reducible refine gate_builtin (b := .append) (xs := #[.tmp 38, .tmp 39]) rfl ?_); at_builtin; refine app_bytes rfl _ _ rfl lo g s t _ _ rfl rfl HB2.out HL.out HO2.out HN.out ?_; intro v3 w3 m3 f3; obtain ⟨A3, c3, rfl⟩ := own_slice m3.own; have HM3 := Aside0.mk m3; have HR3 := Aside0.mk (HR2.out.trans f3); obtain ⟨v4, h4⟩ := m3.row; have hz := blk_frozen h4 0; have hc4 := cell0 h4; clear f3 h4 m3))
    first | go_end0 | ((try simp only [Exit.inBlock, Exit.then]); refine bodyPost_ret (results_none rfl _ _ _) rfl ?_)
    exact ⟨rfl, by have h5 := HM3.out.store; simp only [ByteArray.size_append] at h5; exact h5, HR3.out.trans (Fr.of_keep (keep_store HL.out 0 _).1 (keep_store HL.out 0 _).2)⟩
end Go.Proofs.Ytlkebjkpmiehcaa.Ms
end
section
namespace Go.Proofs.Ytlkebjkpmiehcaa.Ms
open Go.RowKit Go.Proofs.YtlkebjkpmiehcaaW.PrintWords Go.Proofs.YtlkebjkpmiehcaaW.PrintLast Go.Proofs.YtlkebjkpmiehcaaW.PrintMore Go.Proofs.Ytlkebjkpmiehcaa.X
set_option linter.unusedVariables false
theorem built83 : Try.prog.built 83 [] = some #[.slice none 0 0, .bool false] := by kernel_rfl
theorem build83 {ops : Array Oper} {rest : List Oper} {o : Oper} {a : Act} {Q : Exit → Act → World → Prop} {w : World} (hgd : o.guard = none) (ho : o.op = .build 83 #[])
    (H : wpList Try.prog ops Q rest (a.put o.dst (.agg #[.slice none 0 0, .bool false])) w) : wpList Try.prog ops Q (o :: rest) a w := by
  refine wpList_plain hgd fun K hK => ?_
  unfold Oper.wp execOp
  have hr := run_build (P := Try.prog) w 83 #[] _ built83
  have he : (#[] : Array (Nat × Operand)).map (fun x => (x.fst, a.eval x.snd)) = #[] := by simp
  simp only [ho, Sem.run_bind]
  rw [he, hr]
  exact hK _ _ H
theorem box83 {ops : Array Oper} {rest : List Oper} {o : Oper} {a : Act} {Q : Exit → Act → World → Prop} {w : World} (hgd : o.guard = none) (x : Operand) (ho : o.op = .box 83 x) (hx : a.eval x = .agg #[.slice none 0 0, .bool false])
    (H : ∀ g, g = w.heap.size → ∀ w1, Wt w.heap.size w1 g ByteArray.empty false → Below w.heap.size w w1 → wpList Try.prog ops Q rest (a.put o.dst (.pointer (some ⟨g, 0, none⟩))) w1) : wpList Try.prog ops Q (o :: rest) a w := by
  refine Kd.event_run hgd ?_ (H _ rfl _ ⟨.slice none 0 0, blk_new w _, Nat.le_refl _, World.ownsRow_nil _ _ _ _⟩ (below_alloc (Below.refl _ _) _))
  unfold execOp
  simp only [ho, hx]
  rfl
theorem own_bytes {W : World} {lo n : Nat} {v : Value} {s : ByteArray} (h : W.ownsRow lo 5 1 v n (Lib.strCells s)) : (convert 39 9 v).run Try.prog W = .ok (.string s) W := by
  have h2 : W.ownsRow lo 5 1 v n (nums .u8 (bytesOf s)) := by
    have : nums .u8 (bytesOf s) = Lib.strCells s := by simp [nums, bytesOf, Lib.strCells]
    rw [this]
    exact h
  rw [own_string Try.underlying39 (by kernel_rfl) (by kernel_rfl) h2]
  congr 2
  unfold strOfNums bytesOf
  congr 1
  have hid : ((fun n : Int => UInt8.ofNat n.toNat) ∘ fun b : UInt8 => (b.toNat : Int)) = id := by
    funext b
    simp
  rw [List.map_map, hid, List.map_id]
abbrev Writes (k : Nat) (cap : Array Value) (w : World) (u : ByteArray) (bu : Bool) : Prop :=
  ∀ w1 g1, Below w.heap.size w w1 → Wt w.heap.size w1 g1 ByteArray.empty false →
    Calls Try.prog k (#[.pointer (some ⟨g1, 0, none⟩)] ++ cap) w1 fun ex w' => ex = .returned (.tuple #[]) ∧ Wt w.heap.size w' g1 u bu ∧ Fr w.heap.size g1 w1 w'
end Go.Proofs.Ytlkebjkpmiehcaa.Ms
end
section
namespace Go.Proofs.Ytlkebjkpmiehcaa.Ms
open Go.RowKit Go.Proofs.YtlkebjkpmiehcaaW.PrintWords Go.Proofs.YtlkebjkpmiehcaaW.PrintLast Go.Proofs.YtlkebjkpmiehcaaW.PrintMore Go.Proofs.Ytlkebjkpmiehcaa.X
set_option linter.unusedVariables false
section
variable {ops : Array Oper} {rest : List Oper} {o : Oper} {a : Act} {Q : Exit → Act → World → Prop} {w : World}
theorem isAgg_no {ty : TypeId} {d : TypeDesc} (hu : Try.prog.underlying ty = some d) (hd : (match d with | .struct _ | .array _ _ => true | _ => false) = false) (w : World) : (isAgg ty).run Try.prog w = .ok false w := by
  unfold isAgg
  rw [Sem.run_bind, run_underlying hu w]
  cases d <;> simp_all
theorem ld {ty : TypeId} {x : Operand} (hgd : o.guard = none) (ho : o.op = .load ty x) {g i : Nat} (hx : a.eval x = .pointer (some ⟨g, i, none⟩)) {cs : Array Value} {t : TypeId} (h : w.heap[g]? = some (.cells cs t (0, 0)))
    {d : TypeDesc} (hu : Try.prog.underlying ty = some d) (hd : (match d with | .struct _ | .array _ _ => true | _ => false) = false) {v : Value} (hv : cs[i]? = some v) (H : wpList Try.prog ops Q rest (a.put o.dst v) w) : wpList Try.prog ops Q (o :: rest) a w := by
  refine Kd.event_run hgd ?_ H
  have hc : w.cell? ⟨g, i, none⟩ = some v := by rw [blk_cell h i]; exact hv
  unfold execOp
  simp [ho, hx, Instr.loadAt, Instr.sureAddr, Sem.run_bind, loadVar, isAgg_no hu hd, load, Sem.run, hc]
theorem st {ty : TypeId} {p x : Operand} (hgd : o.guard = none) (ho : o.op = .store ty p x) {g i : Nat} (hp : a.eval p = .pointer (some ⟨g, i, none⟩)) {cs : Array Value} {t : TypeId} (h : w.heap[g]? = some (.cells cs t (0, 0)))
    (hs : (Try.prog.info? ty).map (·.size) = some 1) {v : Value} (hx : a.eval x = v) (hv : v.cells = #[v]) (h1 : v.oneCell' = true) (hi : i < cs.size)
    (H : ∀ w1, w1.heap[g]? = some (.cells (cs.setIfInBounds i v) t (0, 0)) → (∀ lo, lo ≤ g → Below lo w w1) → KeepBut w w1 g none → wpList Try.prog ops Q rest (a.put o.dst undef) w1) : wpList Try.prog ops Q (o :: rest) a w := by
  refine wpList_plain hgd fun K hK => ?_
  have hc : w.cell? ⟨g, i, none⟩ = some cs[i] := by rw [blk_cell h i]; exact Array.getElem?_eq_getElem hi
  have hst : (store ⟨g, i, none⟩ v).run Try.prog w = .ok () (w.setCell ⟨g, i, none⟩ v) := by
    rw [run_store _ _ _ _ _ h1]
    simp [stored, hc, blk_frozen h i]
  obtain ⟨i0, hi0, hz⟩ := Option.map_eq_some_iff.1 hs
  unfold Oper.wp execOp
  simp only [ho, hp, hx, Instr.storeAt, Instr.sureAddr, Sem.run_bind, Sem.run_pure, Result.andThen_ok]
  have hsv : (storeVar ty ⟨g, i, none⟩ v).run Try.prog w = .ok () (w.setCell ⟨g, i, none⟩ v) := by
    have ha : (⟨g, i, none⟩ : Addr).add 0 = ⟨g, i, none⟩ := by simp [Addr.add]
    simp [storeVar, sizeOf, typeInfo, hi0, hz, hv, storeCells, ha, hst, Sem.run_bind]
  rw [hsv]
  exact hK _ _ (H (w.setCell ⟨g, i, none⟩ v) (blk_set h i v) (fun lo hl => (keep_store hl i v).1) ((keep_store (Nat.le_refl g) i v).2))
end
end Go.Proofs.Ytlkebjkpmiehcaa.Ms
end
section
namespace Go.Proofs.Ytlkebjkpmiehcaa.Ms
open Go.RowKit Go.Proofs.YtlkebjkpmiehcaaW.PrintWords Go.Proofs.YtlkebjkpmiehcaaW.PrintLast Go.Proofs.YtlkebjkpmiehcaaW.PrintMore Go.Proofs.Ytlkebjkpmiehcaa.X
set_option linter.unusedVariables false
structure Rs (W : World) (r f : Nat) (s : ByteArray) (p code : Int) (tw last : Bool) : Prop where
  rd : W.heap[r]? = some (.cells #[.string s, .int .i64 p, .pointer (some ⟨f, 0, none⟩), .bool last] 92 (0, 0))
  ft : W.heap[f]? = some (.cells #[.int .i64 code, .bool tw] 90 (0, 0))
structure Kf (lo r f : Nat) (w w' : World) : Prop where
  below : Below lo w w'
  keep : ∀ k o, w.heap[k]? = some o → k ≠ r → k ≠ f → w'.heap[k]? = some o
theorem Kf.refl (lo r f : Nat) (w : World) : Kf lo r f w w := ⟨Below.refl _ _, fun _ _ h _ _ => h⟩
theorem Kf.trans {lo r f : Nat} {a b c : World} (h : Kf lo r f a b) (k : Kf lo r f b c) : Kf lo r f a c := ⟨h.below.trans k.below, fun i o hi hr hf => k.keep i o (h.keep i o hi hr hf) hr hf⟩
theorem Kf.of_below {lo r f : Nat} {w w' : World} (hl : lo ≤ w.heap.size) (h : Below w.heap.size w w') : Kf lo r f w w' := ⟨h.mono hl, fun k o hk _ _ => (h.block k (blk_lt hk)).trans hk⟩
theorem Kf.of_keep {lo r f g : Nat} {w w' : World} (hg : g = r ∨ g = f) (h : Below lo w w') (k : KeepBut w w' g none) : Kf lo r f w w' := ⟨h, fun i o hi hr hf => (k.2 i (blk_lt hi) (by rcases hg with rfl | rfl <;> assumption) (by simp)).trans hi⟩
theorem Rs.ne {W : World} {r f : Nat} {s : ByteArray} {p code : Int} {tw last : Bool} (h : Rs W r f s p code tw last) : r ≠ f := blk_ne h.rd h.ft (by decide)
theorem Rs.below {W W' : World} {r f : Nat} {s : ByteArray} {p code : Int} {tw last : Bool} (h : Rs W r f s p code tw last) (b : Below W.heap.size W W') : Rs W' r f s p code tw last := ⟨(b.block r (blk_lt h.rd)).trans h.rd, (b.block f (blk_lt h.ft)).trans h.ft⟩
def bad (code e : Int) : Int := if code = 0 then e else code
theorem sz23 : (Try.prog.info? 23).map (·.size) = some 1 := by kernel_rfl
set_option maxRecDepth 100000 in
set_option maxHeartbeats 8000000 in
theorem fail_calls (lo r f : Nat) (s : ByteArray) (p code e : Int) (tw last : Bool) (w : World) (hl : lo ≤ f) (h : Rs w r f s p code tw last) :
    Calls Try.prog 50 #[.pointer (some ⟨r, 0, none⟩), .int .i64 e] w fun ex w' => ex = .returned (.tuple #[]) ∧ Rs w' r f s p (bad code e) tw last ∧ Kf lo r f w w' := by
  have H := Aside0.mk h
  have HL := Aside0.mk hl
  clear h hl
  by_cases c : code = 0
  · have c0 : (code == 0) = true := beq_iff_eq.mpr c
    rw [show bad code e = e from if_pos c]
    clear c
    go_enter Try.func50, Try.ntmps50
    go_wp2_with (first
      | ((with_reducible refine gate_dst (N := 7) rfl ?_); refine ld (v := .pointer (some ⟨f, 0, none⟩)) rfl rfl rfl H.out.rd Try.underlying88 rfl rfl ?_)
      | ((with_reducible refine gate_dst (N := 10) rfl ?_); refine ld (v := .int .i64 code) rfl rfl rfl H.out.ft Try.underlying23 rfl rfl ?_)
      | ((with_reducible refine gate_dst (N := 15) rfl ?_); refine ld (v := .pointer (some ⟨f, 0, none⟩)) rfl rfl rfl H.out.rd Try.underlying88 rfl rfl ?_)
      | ((with_reducible refine gate_store (p := 18) rfl ?_); refine st (v := .int .i64 e) rfl rfl rfl H.out.ft sz23 rfl rfl rfl (by simp) ?_; intro w3 h3 b3 k3; have H3 := Aside0.mk (Rs.mk ((k3.2 r (blk_lt H.out.rd) H.out.ne (by simp)).trans H.out.rd) h3); have K3 := Aside0.mk (Kf.of_keep (r := r) (.inr rfl) (b3 _ HL.out) k3); clear h3 b3 k3))
    first | go_end0 | ((try simp only [Exit.inBlock, Exit.then]); refine bodyPost_ret (results_none rfl _ _ _) rfl ?_)
    exact ⟨rfl, H3.out, K3.out⟩
  · have c0 : (code == 0) = false := beq_eq_false_iff_ne.mpr c
    rw [show bad code e = code from if_neg c]
    clear c
    go_enter Try.func50, Try.ntmps50
    go_wp2_with (first
      | ((with_reducible refine gate_dst (N := 7) rfl ?_); refine ld (v := .pointer (some ⟨f, 0, none⟩)) rfl rfl rfl H.out.rd Try.underlying88 rfl rfl ?_)
      | ((with_reducible refine gate_dst (N := 10) rfl ?_); refine ld (v := .int .i64 code) rfl rfl rfl H.out.ft Try.underlying23 rfl rfl ?_))
    first | go_end0 | ((try simp only [Exit.inBlock, Exit.then]); refine bodyPost_ret (results_none rfl _ _ _) rfl ?_)
    exact ⟨rfl, H.out, Kf.refl _ _ _ _⟩
set_option maxRecDepth 100000 in
set_option maxHeartbeats 8000000 in
theorem ok_calls (lo r f : Nat) (s : ByteArray) (p code : Int) (tw last : Bool) (w : World) (h : Rs w r f s p code tw last) :
    Calls Try.prog 51 #[.pointer (some ⟨r, 0, none⟩)] w fun ex w' => ex = .returned (.bool (code == 0)) ∧ w' = w := by
  have H := Aside0.mk h
  clear h
  go_enter Try.func51, Try.ntmps51
  go_wp2_with (first
    | ((with_reducible refine gate_dst (N := 6) rfl ?_); refine ld (v := .pointer (some ⟨f, 0, none⟩)) rfl rfl rfl H.out.rd Try.underlying88 rfl rfl ?_)
    | ((with_reducible refine gate_dst (N := 9) rfl ?_); refine ld (v := .int .i64 code) rfl rfl rfl H.out.ft Try.underlying23 rfl rfl ?_))
  go_ret
  exact ⟨rfl, rfl⟩
def needed (code : Int) (is : Bool) : Int := if is then code else bad code 1700
def allowed (code : Int) (is : Bool) : Int := if is then code else bad code 1702
set_option maxRecDepth 100000 in
set_option maxHeartbeats 8000000 in
theorem rneed_calls (lo r f : Nat) (s : ByteArray) (p code : Int) (tw last is : Bool) (w : World) (hl : lo ≤ f) (h : Rs w r f s p code tw last) :
    Calls Try.prog 72 #[.pointer (some ⟨r, 0, none⟩), .bool is] w fun ex w' => ex = .returned (.tuple #[]) ∧ Rs w' r f s p (needed code is) tw last ∧ Kf lo r f w w' := by
  have H := Aside0.mk h
  have HL := Aside0.mk hl
  clear h hl
  cases is
  · go_enter Try.func72, Try.ntmps72
    go_wp2_with (go_at_call 50; (with_reducible refine (fail_calls lo r f s p code 1700 tw last _ HL.out H.out).mono ?_); rintro e1 w1 ⟨rfl, i1, k1⟩; have H1 := Aside0.mk i1; have K1 := Aside0.mk k1; clear i1 k1)
    first | go_end0 | ((try simp only [Exit.inBlock, Exit.then]); refine bodyPost_ret (results_none rfl _ _ _) rfl ?_)
    exact ⟨rfl, H1.out, K1.out⟩
  · go_enter Try.func72, Try.ntmps72
    go_wp2
    first | go_end0 | ((try simp only [Exit.inBlock, Exit.then]); refine bodyPost_ret (results_none rfl _ _ _) rfl ?_)
    exact ⟨rfl, H.out, Kf.refl _ _ _ _⟩
set_option maxRecDepth 100000 in
set_option maxHeartbeats 8000000 in
theorem allow_calls (lo r f : Nat) (s : ByteArray) (p code : Int) (tw last is : Bool) (w : World) (hl : lo ≤ f) (h : Rs w r f s p code tw last) :
    Calls Try.prog 76 #[.pointer (some ⟨r, 0, none⟩), .bool is] w fun ex w' => ex = .returned (.tuple #[]) ∧ Rs w' r f s p (allowed code is) tw last ∧ Kf lo r f w w' := by
  have H := Aside0.mk h
  have HL := Aside0.mk hl
  clear h hl
  cases is
  · go_enter Try.func76, Try.ntmps76
    go_wp2_with (go_at_call 50; (with_reducible refine (fail_calls lo r f s p code 1702 tw last _ HL.out H.out).mono ?_); rintro e1 w1 ⟨rfl, i1, k1⟩; have H1 := Aside0.mk i1; have K1 := Aside0.mk k1; clear i1 k1)
    first | go_end0 | ((try simp only [Exit.inBlock, Exit.then]); refine bodyPost_ret (results_none rfl _ _ _) rfl ?_)
    exact ⟨rfl, H1.out, K1.out⟩
  · go_enter Try.func76, Try.ntmps76
    go_wp2
    first | go_end0 | ((try simp only [Exit.inBlock, Exit.then]); refine bodyPost_ret (results_none rfl _ _ _) rfl ?_)
    exact ⟨rfl, H.out, Kf.refl _ _ _ _⟩
end Go.Proofs.Ytlkebjkpmiehcaa.Ms
end
section
namespace Go.Proofs.Ytlkebjkpmiehcaa.X
open Go.RowKit Go.Proofs.YtlkebjkpmiehcaaW.PrintWords Go.Proofs.YtlkebjkpmiehcaaW.PrintLast Go.Proofs.YtlkebjkpmiehcaaW.PrintMore
attribute [local go_sem] max2_int min2_int max_two min_two max_three min_three max_four min_four   
set_option linter.unusedVariables false
set_option linter.unusedSimpArgs false
mutual
def wire_number.j0 : Nat → ByteArray → Int → Int → Bool → Option (Int × Int × Int)
  | 0, _, _, _, _ => none
  | k + 1, x0, x1, x2, x26 => if x26 = true then (some (0, 0, 100)) else (wire_number.l0 k x0 x1 x2 0 x2 0)
def wire_number.l0 : Nat → ByteArray → Int → Int → Int → Int → Int → Option (Int × Int × Int)
  | 0, _, _, _, _, _, _ => none
  | k + 1, x0, x1, x2, x9, x27, x28 => if x28 < x27 then (if 0 ≤ (wrap64 (x1 + x28)) then (if (wrap64 (x1 + x28)) < (x0.size : Int) then (wire_number.l0 k x0 x1 x2 (Go.bits .or .i64 (wrap64 (x9 * 256)) (wrap64 (bt x0 (wrap64 (x1 + x28))))) x27 (wrap64 (x28 + 1))) else (none)) else (none)) else (some (x9, wrap64 (x1 + x2), 0))
end
def wire_number.f (k : Nat) (a0 : ByteArray) (a1 : Int) (a2 : Int) : Option (Int × Int × Int) := if a1 < 0 then (wire_number.j0 k a0 a1 a2 true) else (if a1 > (a0.size : Int) then (wire_number.j0 k a0 a1 a2 true) else (wire_number.j0 k a0 a1 a2 (decide ((wrap64 ((a0.size : Int) - a1)) < a2))))
theorem wire_number.mono_l : ∀ k, (∀ y0 y1 y2 y3, LeO (wire_number.j0 k y0 y1 y2 y3) (wire_number.j0 (k + 1) y0 y1 y2 y3)) ∧ (∀ y0 y1 y2 y3 y4 y5, LeO (wire_number.l0 k y0 y1 y2 y3 y4 y5) (wire_number.l0 (k + 1) y0 y1 y2 y3 y4 y5))
  | 0 => ⟨fun _ _ _ _ r h => by simp [wire_number.j0] at h, fun _ _ _ _ _ _ r h => by simp [wire_number.l0] at h⟩
  | k + 1 => by
    obtain ⟨ih0, ih1⟩ := wire_number.mono_l k
    refine ⟨?_, ?_⟩
    · intro y0 y1 y2 y3
      unfold wire_number.j0
      repeat' first
      | (with_reducible exact ih0 _ _ _ _)
      | (with_reducible exact ih1 _ _ _ _ _ _)
      | (with_reducible exact LeO.refl _)
      | (with_reducible exact LeO.none _)
      | (with_reducible refine LeO.ite ?_ ?_)
      | (with_reducible refine LeO.bind ?_ (fun _ => ?_))
      | exact ih0 _ _ _ _
      | exact ih1 _ _ _ _ _ _
      | exact LeO.none _
      | refine LeO.ite ?_ ?_
      | refine LeO.bind ?_ (fun _ => ?_)
    · intro y0 y1 y2 y3 y4 y5
      unfold wire_number.l0
      repeat' first
      | (with_reducible exact ih0 _ _ _ _)
      | (with_reducible exact ih1 _ _ _ _ _ _)
      | (with_reducible exact LeO.refl _)
      | (with_reducible exact LeO.none _)
      | (with_reducible refine LeO.ite ?_ ?_)
      | (with_reducible refine LeO.bind ?_ (fun _ => ?_))
      | exact ih0 _ _ _ _
      | exact ih1 _ _ _ _ _ _
      | exact LeO.none _
      | refine LeO.ite ?_ ?_
      | refine LeO.bind ?_ (fun _ => ?_)
theorem wire_number.mono : ∀ a0 a1 a2 k, LeO (wire_number.f k a0 a1 a2) (wire_number.f (k + 1) a0 a1 a2) := by
  intro a0 a1 a2 k
  obtain ⟨ih0, ih1⟩ := wire_number.mono_l k
  unfold wire_number.f
  repeat' first
      | (with_reducible exact ih0 _ _ _ _)
      | (with_reducible exact ih1 _ _ _ _ _ _)
      | (with_reducible exact LeO.refl _)
      | (with_reducible exact LeO.none _)
      | (with_reducible refine LeO.ite ?_ ?_)
      | (with_reducible refine LeO.bind ?_ (fun _ => ?_))
      | exact ih0 _ _ _ _
      | exact ih1 _ _ _ _ _ _
      | exact LeO.none _
      | refine LeO.ite ?_ ?_
      | refine LeO.bind ?_ (fun _ => ?_)
set_option maxHeartbeats 8000000 in
set_option maxRecDepth 100000 in
theorem wire_number.calls (k : Nat) (a0 : ByteArray) (a1 : Int) (a2 : Int) (r1 : Int) (r2 : Int) (r3 : Int) (w : World) (h : wire_number.f k a0 a1 a2 = some (r1, r2, r3)) :
    Calls Try.prog 54 #[.string a0, .int .i64 a1, .int .i64 a2] w fun e w' => e = .returned (.tuple #[.int .i64 r1, .int .i64 r2, .int .i64 r3]) ∧ Drawn0 w w' := by
  have H : (if a1 < 0 then (wire_number.j0 k a0 a1 a2 true) else (if a1 > (a0.size : Int) then (wire_number.j0 k a0 a1 a2 true) else (wire_number.j0 k a0 a1 a2 (decide ((wrap64 ((a0.size : Int) - a1)) < a2))))) = some (r1, r2, r3) := h
  clear h
  have HC4 := Aside0.mk H
  clear H
  go_enter Try.func54, Try.ntmps54
  go_upto_region 1 with (fail)
  go_cut [26] (fun v26 wc => ∃ (kq : Nat) (x26_3 : Bool), v26 = .bool x26_3 ∧ Aside0 (wire_number.j0 kq a0 a1 a2 x26_3 = some (r1, r2, r3)) ∧ Aside0 (kq ≤ k) ∧ Drawn0 w wc)
  case first =>
    have H := HC4.out
    clear HC4
    by_cases c5 : a1 < 0
    · rw [if_pos c5] at H
      have c5b0 : decide (a1 < 0) = true := decide_eq_true c5
      clear c5
      (first | rw [c5b0] | (simp only [i64_w, i32_w]; rw [c5b0]) | skip)
      have H' := Aside0.mk H
      clear H
      go_wp2
      go_meet
      case rel => exact ⟨_, (true), (by first | rfl | (simp; done) | (simp [*]; done)), H', ⟨by first | omega | exact Nat.le_refl _⟩, by repeat (first | exact Drawn0.refl _ | apply Drawn0.step)⟩
    · rw [if_neg c5] at H
      have c5b0 : decide (a1 < 0) = false := decide_eq_false c5
      clear c5
      (first | rw [c5b0] | (simp only [i64_w, i32_w]; rw [c5b0]) | skip)
      by_cases c6 : a1 > (a0.size : Int)
      · rw [if_pos c6] at H
        have c6b0 : decide ((a0.size : Int) < a1) = true := decide_eq_true c6
        clear c6
        have H' := Aside0.mk H
        clear H
        go_wp2
        go_meet
        case rel => exact ⟨_, (true), (by first | rfl | (simp; done) | (simp [*]; done)), H', ⟨by first | omega | exact Nat.le_refl _⟩, by repeat (first | exact Drawn0.refl _ | apply Drawn0.step)⟩
      · rw [if_neg c6] at H
        have c6b0 : decide ((a0.size : Int) < a1) = false := decide_eq_false c6
        clear c6
        have H' := Aside0.mk H
        clear H
        go_wp2
        go_meet
        case rel => exact ⟨_, (decide ((wrap64 ((a0.size : Int) - a1)) < a2)), (by first | rfl | (simp; done) | (simp [*]; done)), H', ⟨by first | omega | exact Nat.le_refl _⟩, by repeat (first | exact Drawn0.refl _ | apply Drawn0.step)⟩
  case rest =>
    clear HC4
    try clear p2
    try clear c5
    try clear c5b0
    try clear c6
    try clear c6b0
    try clear p6
    obtain ⟨kq, x26_3, rfl, HA, HJ3, ⟨mc3, rfl⟩⟩ := hcut
    cases kq with
    | zero => exact absurd HA.out (by simp [wire_number.j0])
    | succ kj3 =>
      have H := HA.out
      clear HA
      simp only [wire_number.j0] at H
      by_cases c7 : x26_3 = true
      · subst c7
        have H1 : (some (0, 0, 100)) = some (r1, r2, r3) := by rw [if_pos rfl] at H; exact H
        clear H
        have H := H1
        clear H1
        simp only [Option.some.injEq, Prod.mk.injEq] at H
        obtain ⟨rfl, rfl, rfl⟩ := H
        go_wp2
        go_ret3
        exact ⟨by first | rfl | (simp; done) | (simp [*]; done), by repeat (first | exact Drawn0.refl _ | apply Drawn0.step)⟩
      · replace c7 := Bool.eq_false_iff.mpr c7
        subst c7
        have H1 : (wire_number.l0 kj3 a0 a1 a2 0 a2 0) = some (r1, r2, r3) := by rw [if_neg (show ¬ (false = true) by decide)] at H; exact H
        clear H
        have H := H1
        clear H1
        have H' := Aside0.mk H
        clear H
        go_wp2
        go_loopg [9, 28] kj3 (fun kq v9 v28 w' => ∃ (x9_2 : Int) (x28_2 : Int), v9 = .int .i64 x9_2 ∧ v28 = .int .i64 x28_2 ∧ Aside0 (wire_number.l0 kq a0 a1 a2 x9_2 a2 x28_2 = some (r1, r2, r3)) ∧ Aside0 (kq ≤ kj3) ∧ Drawn0 w w')
        case atStart => exact ⟨(0), (0), (by first | rfl | (simp; done) | (simp [*]; done)), (by first | rfl | (simp; done) | (simp [*]; done)), H', ⟨Nat.le_refl _⟩, by repeat (first | exact Drawn0.refl _ | apply Drawn0.step)⟩
        case round =>
          clear H'
          try clear p2
          try clear c3
          try clear c5
          try clear c5b0
          try clear c6
          try clear c6b0
          try clear p6
          try clear c7
          try clear p2
          try clear p6
          obtain ⟨x9_2, x28_2, rfl, rfl, HA, HK2, ⟨m2, rfl⟩⟩ := hrel
          cases gk with
          | zero => exact absurd HA.out (by simp [wire_number.l0])
          | succ k2 =>
            have H := HA.out
            clear HA
            simp only [wire_number.l0] at H
            by_cases c8 : x28_2 < a2
            · rw [if_pos c8] at H
              have c8b0 : decide (x28_2 < a2) = true := decide_eq_true c8
              clear c8
              obtain ⟨ji9, hji9⟩ : ∃ j_ : Int, (wrap64 (a1 + x28_2)) = j_ := ⟨_, rfl⟩
              replace H : (if 0 ≤ (ji9) then (if (ji9) < (a0.size : Int) then (wire_number.l0 k2 a0 a1 a2 (Go.bits .or .i64 (wrap64 (x9_2 * 256)) (wrap64 (bt a0 (ji9)))) a2 (wrap64 (x28_2 + 1))) else (none)) else (none)) = some (r1, r2, r3) := by first | (rw [hji9] at H; exact H) | (simp only [hji9] at H ⊢; exact H)
              have hji9w : (IntKind.i64.wrap (a1 + x28_2)) = ji9 := (i64_w _).trans hji9
              by_cases c10 : 0 ≤ (ji9)
              · rw [if_pos c10] at H
                have c10b0 : decide (0 ≤ (ji9)) = true := decide_eq_true c10
                clear c10
                by_cases c11 : (ji9) < (a0.size : Int)
                · rw [if_pos c11] at H
                  have c11b0 : decide ((ji9) < (a0.size : Int)) = true := decide_eq_true c11
                  clear c11
                  have H' := Aside0.mk H
                  clear H
                  have p12 : 0 ≤ ((ji9) : Int) := of_decide_eq_true (by first | (with_reducible assumption) | assumption)
                  have q12 : (ji9) < (a0.size : Int) := of_decide_eq_true (by first | (with_reducible assumption) | assumption)
                  have hx12 := bt_at a0 (ji9)
                  replace p12 := eq_true p12
                  replace q12 := eq_true q12
                  go_wp2
                  go_roundg k2
                  case measure => have := HJ3.out; have := HK2.out; omega
                  case rel => exact ⟨(Go.bits .or .i64 (wrap64 (x9_2 * 256)) (wrap64 (bt a0 (ji9)))), (wrap64 (x28_2 + 1)), (by first | rfl | (simp; done) | (simp only [← hji9] <;> (first | rfl | simp)) | (simp [*]; done)), (by first | rfl | (simp; done) | (simp [*]; done)), H', ⟨by have := HJ3.out; have := HK2.out; omega⟩, by repeat (first | exact Drawn0.refl _ | apply Drawn0.step)⟩
                · rw [if_neg c11] at H
                  exact absurd H (by simp)
              · rw [if_neg c10] at H
                exact absurd H (by simp)
            · rw [if_neg c8] at H
              have c8b0 : decide (x28_2 < a2) = false := decide_eq_false c8
              clear c8
              simp only [Option.some.injEq, Prod.mk.injEq] at H
              obtain ⟨rfl, rfl, rfl⟩ := H
              go_wp2
              go_ret3
              exact ⟨by first | rfl | (simp; done) | (simp [*]; done), by repeat (first | exact Drawn0.refl _ | apply Drawn0.step)⟩
def wire_U16.f (k : Nat) (a0 : ByteArray) (a1 : Int) : Option (Int × Int × Int) := (wire_number.f k a0 a1 2).bind fun bt101 => (some (bt101.1, bt101.2.1, bt101.2.2))
theorem wire_U16.mono : ∀ a0 a1 k, LeO (wire_U16.f k a0 a1) (wire_U16.f (k + 1) a0 a1) := by
  intro a0 a1 k
  unfold wire_U16.f
  repeat' first
      | (with_reducible exact wire_number.mono _ _ _ _)
      | (with_reducible exact LeO.refl _)
      | (with_reducible exact LeO.none _)
      | (with_reducible refine LeO.ite ?_ ?_)
      | (with_reducible refine LeO.bind ?_ (fun _ => ?_))
      | exact wire_number.mono _ _ _ _
      | exact LeO.none _
      | refine LeO.ite ?_ ?_
      | refine LeO.bind ?_ (fun _ => ?_)
set_option maxHeartbeats 8000000 in
set_option maxRecDepth 100000 in
theorem wire_U16.calls (k : Nat) (a0 : ByteArray) (a1 : Int) (r1 : Int) (r2 : Int) (r3 : Int) (w : World) (h : wire_U16.f k a0 a1 = some (r1, r2, r3)) :
    Calls Try.prog 33 #[.string a0, .int .i64 a1] w fun e w' => e = .returned (.tuple #[.int .i64 r1, .int .i64 r2, .int .i64 r3]) ∧ Drawn0 w w' := by
  have H : ((wire_number.f k a0 a1 2).bind fun bt101 => (some (bt101.1, bt101.2.1, bt101.2.2))) = some (r1, r2, r3) := h
  clear h
  replace H := Option.bind_eq_some_iff.mp H
  obtain ⟨⟨t101, t102, t103⟩, A30, H⟩ := H
  replace H : (some (t101, t102, t103)) = some (r1, r2, r3) := H
  have A3 := Aside0.mk A30
  clear A30
  simp only [Option.some.injEq, Prod.mk.injEq] at H
  obtain ⟨rfl, rfl, rfl⟩ := H
  go_enter Try.func33, Try.ntmps33
  go_wp2_with (first | ((with_reducible refine gate_callee (f := 54) rfl ?_); refine goesL_ (some 9) rfl rfl Try.func54 (by kernel_rfl) rfl #[.string a0, .int .i64 a1, .int .i64 2] rfl (by (try simp only [List.map_toArray, List.map_cons, List.map_nil]); first | done | rfl | (simp only [List.length_drop, List.length_take]; rfl)) ?_; (with_reducible refine (wire_number.calls k a0 a1 2 t101 t102 t103 _ A3.out).mono ?_); rintro e w' ⟨rfl, ⟨nd, rfl⟩⟩; refine ⟨_, rfl, ?_⟩))
  go_ret3
  exact ⟨by first | rfl | (simp; done) | (simp [*]; done), by repeat (first | exact Drawn0.refl _ | apply Drawn0.step)⟩
def wire_Vec.j0 : Nat → ByteArray → Int → Int → Bool → Option (ByteArray × Int × Int)
  | 0, _, _, _, _ => none
  | k + 1, x0, x1, x2, x16 => if x16 = true then (some ((⟨#[]⟩ : ByteArray), 0, 101)) else ((wire_number.f k x0 x1 x2).bind fun bt104 => (if bt104.2.2 = 0 then (if bt104.1 > (wrap64 ((x0.size : Int) - bt104.2.1)) then (some ((⟨#[]⟩ : ByteArray), 0, 100)) else (if 0 ≤ bt104.2.1 then (if bt104.2.1 ≤ (wrap64 (bt104.2.1 + bt104.1)) then (if (wrap64 (bt104.2.1 + bt104.1)) ≤ (x0.size : Int) then (some (x0.extract (bt104.2.1 : Int).toNat ((wrap64 (bt104.2.1 + bt104.1)) : Int).toNat, wrap64 (bt104.2.1 + bt104.1), 0)) else (none)) else (none)) else (none))) else (some ((⟨#[]⟩ : ByteArray), 0, 100))))
def wire_Vec.f (k : Nat) (a0 : ByteArray) (a1 : Int) (a2 : Int) : Option (ByteArray × Int × Int) := if a2 < 1 then (wire_Vec.j0 k a0 a1 a2 true) else (wire_Vec.j0 k a0 a1 a2 (decide (a2 > 3)))
theorem wire_Vec.mono_l : ∀ k, (∀ y0 y1 y2 y3, LeO (wire_Vec.j0 k y0 y1 y2 y3) (wire_Vec.j0 (k + 1) y0 y1 y2 y3))
  | 0 => fun _ _ _ _ r h => by simp [wire_Vec.j0] at h
  | k + 1 => by
    have ih0 := wire_Vec.mono_l k
    · intro y0 y1 y2 y3
      unfold wire_Vec.j0
      repeat' first
      | (with_reducible exact ih0 _ _ _ _)
      | (with_reducible exact wire_number.mono _ _ _ _)
      | (with_reducible exact LeO.refl _)
      | (with_reducible exact LeO.none _)
      | (with_reducible refine LeO.ite ?_ ?_)
      | (with_reducible refine LeO.bind ?_ (fun _ => ?_))
      | exact ih0 _ _ _ _
      | exact wire_number.mono _ _ _ _
      | exact LeO.none _
      | refine LeO.ite ?_ ?_
      | refine LeO.bind ?_ (fun _ => ?_)
theorem wire_Vec.mono : ∀ a0 a1 a2 k, LeO (wire_Vec.f k a0 a1 a2) (wire_Vec.f (k + 1) a0 a1 a2) := by
  intro a0 a1 a2 k
  have ih0 := wire_Vec.mono_l k
  unfold wire_Vec.f
  repeat' first
      | (with_reducible exact ih0 _ _ _ _)
      | (with_reducible exact wire_number.mono _ _ _ _)
      | (with_reducible exact LeO.refl _)
      | (with_reducible exact LeO.none _)
      | (with_reducible refine LeO.ite ?_ ?_)
      | (with_reducible refine LeO.bind ?_ (fun _ => ?_))
      | exact ih0 _ _ _ _
      | exact wire_number.mono _ _ _ _
      | exact LeO.none _
      | refine LeO.ite ?_ ?_
      | refine LeO.bind ?_ (fun _ => ?_)
set_option maxHeartbeats 8000000 in
set_option maxRecDepth 100000 in
theorem wire_Vec.calls (k : Nat) (a0 : ByteArray) (a1 : Int) (a2 : Int) (r1 : ByteArray) (r2 : Int) (r3 : Int) (w : World) (h : wire_Vec.f k a0 a1 a2 = some (r1, r2, r3)) :
    Calls Try.prog 34 #[.string a0, .int .i64 a1, .int .i64 a2] w fun e w' => e = .returned (.tuple #[.string r1, .int .i64 r2, .int .i64 r3]) ∧ Drawn0 w w' := by
  have H : (if a2 < 1 then (wire_Vec.j0 k a0 a1 a2 true) else (wire_Vec.j0 k a0 a1 a2 (decide (a2 > 3)))) = some (r1, r2, r3) := h
  clear h
  have HC4 := Aside0.mk H
  clear H
  go_enter Try.func34, Try.ntmps34
  go_upto_region 1 with (fail)
  go_cut [16] (fun v16 wc => ∃ (kq : Nat) (x16_3 : Bool), v16 = .bool x16_3 ∧ Aside0 (wire_Vec.j0 kq a0 a1 a2 x16_3 = some (r1, r2, r3)) ∧ Aside0 (kq ≤ k) ∧ Drawn0 w wc)
  case first =>
    have H := HC4.out
    clear HC4
    by_cases c5 : a2 < 1
    · rw [if_pos c5] at H
      have c5b0 : decide (a2 < 1) = true := decide_eq_true c5
      clear c5
      (first | rw [c5b0] | (simp only [i64_w, i32_w]; rw [c5b0]) | skip)
      have H' := Aside0.mk H
      clear H
      go_wp2
      go_meet
      case rel => exact ⟨_, (true), (by first | rfl | (simp; done) | (simp [*]; done)), H', ⟨by first | omega | exact Nat.le_refl _⟩, by repeat (first | exact Drawn0.refl _ | apply Drawn0.step)⟩
    · rw [if_neg c5] at H
      have c5b0 : decide (a2 < 1) = false := decide_eq_false c5
      clear c5
      (first | rw [c5b0] | (simp only [i64_w, i32_w]; rw [c5b0]) | skip)
      have H' := Aside0.mk H
      clear H
      go_wp2
      go_meet
      case rel => exact ⟨_, (decide (a2 > 3)), (by first | rfl | (simp; done) | (simp [*]; done)), H', ⟨by first | omega | exact Nat.le_refl _⟩, by repeat (first | exact Drawn0.refl _ | apply Drawn0.step)⟩
  case rest =>
    clear HC4
    try clear p2
    try clear c3
    try clear c5
    try clear c5b0
    obtain ⟨kq, x16_3, rfl, HA, HJ3, ⟨mc3, rfl⟩⟩ := hcut
    cases kq with
    | zero => exact absurd HA.out (by simp [wire_Vec.j0])
    | succ kj3 =>
      have H := HA.out
      clear HA
      simp only [wire_Vec.j0] at H
      by_cases c6 : x16_3 = true
      · subst c6
        have H1 : (some ((⟨#[]⟩ : ByteArray), 0, 101)) = some (r1, r2, r3) := by rw [if_pos rfl] at H; exact H
        clear H
        have H := H1
        clear H1
        simp only [Option.some.injEq, Prod.mk.injEq] at H
        obtain ⟨rfl, rfl, rfl⟩ := H
        go_wp2
        go_ret3
        exact ⟨by first | rfl | (simp; done) | (simp [*]; done), by repeat (first | exact Drawn0.refl _ | apply Drawn0.step)⟩
      · replace c6 := Bool.eq_false_iff.mpr c6
        subst c6
        have H1 : ((wire_number.f kj3 a0 a1 a2).bind fun bt104 => (if bt104.2.2 = 0 then (if bt104.1 > (wrap64 ((a0.size : Int) - bt104.2.1)) then (some ((⟨#[]⟩ : ByteArray), 0, 100)) else (if 0 ≤ bt104.2.1 then (if bt104.2.1 ≤ (wrap64 (bt104.2.1 + bt104.1)) then (if (wrap64 (bt104.2.1 + bt104.1)) ≤ (a0.size : Int) then (some (a0.extract (bt104.2.1 : Int).toNat ((wrap64 (bt104.2.1 + bt104.1)) : Int).toNat, wrap64 (bt104.2.1 + bt104.1), 0)) else (none)) else (none)) else (none))) else (some ((⟨#[]⟩ : ByteArray), 0, 100)))) = some (r1, r2, r3) := by rw [if_neg (show ¬ (false = true) by decide)] at H; exact H
        clear H
        have H := H1
        clear H1
        replace H := Option.bind_eq_some_iff.mp H
        obtain ⟨⟨t104, t105, t106⟩, A70, H⟩ := H
        replace H : (if t106 = 0 then (if t104 > (wrap64 ((a0.size : Int) - t105)) then (some ((⟨#[]⟩ : ByteArray), 0, 100)) else (if 0 ≤ t105 then (if t105 ≤ (wrap64 (t105 + t104)) then (if (wrap64 (t105 + t104)) ≤ (a0.size : Int) then (some (a0.extract (t105 : Int).toNat ((wrap64 (t105 + t104)) : Int).toNat, wrap64 (t105 + t104), 0)) else (none)) else (none)) else (none))) else (some ((⟨#[]⟩ : ByteArray), 0, 100))) = some (r1, r2, r3) := H
        have A7 := Aside0.mk A70
        clear A70
        by_cases c8 : t106 = 0
        · rw [if_pos c8] at H
          have c8b0 : (t106 == 0) = true := beq_iff_eq.mpr c8
          have c8b1 : (t106 != 0) = false := bne_eq_false_iff_eq.mpr c8
          clear c8
          by_cases c9 : t104 > (wrap64 ((a0.size : Int) - t105))
          · rw [if_pos c9] at H
            have c9b0 : decide ((wrap64 ((a0.size : Int) - t105)) < t104) = true := decide_eq_true c9
            clear c9
            simp only [Option.some.injEq, Prod.mk.injEq] at H
            obtain ⟨rfl, rfl, rfl⟩ := H
            go_wp2_with (first | ((with_reducible refine gate_callee (f := 54) rfl ?_); refine goesL_ (some 21) rfl rfl Try.func54 (by kernel_rfl) rfl #[.string a0, .int .i64 a1, .int .i64 a2] rfl (by (try simp only [List.map_toArray, List.map_cons, List.map_nil]); first | done | rfl | (simp only [List.length_drop, List.length_take]; rfl)) ?_; (with_reducible refine (wire_number.calls kj3 a0 a1 a2 t104 t105 t106 _ A7.out).mono ?_); rintro e w' ⟨rfl, ⟨nd, rfl⟩⟩; refine ⟨_, rfl, ?_⟩))
            go_ret3
            exact ⟨by first | rfl | (simp; done) | (simp [*]; done), by repeat (first | exact Drawn0.refl _ | apply Drawn0.step)⟩
          · rw [if_neg c9] at H
            have c9b0 : decide ((wrap64 ((a0.size : Int) - t105)) < t104) = false := decide_eq_false c9
            clear c9
            by_cases c10 : 0 ≤ t105
            · rw [if_pos c10] at H
              have c10b0 := eq_true c10
              have c10b1 : decide (0 ≤ t105) = true := decide_eq_true c10
              clear c10
              by_cases c11 : t105 ≤ (wrap64 (t105 + t104))
              · rw [if_pos c11] at H
                have c11b0 := eq_true c11
                have c11b1 : decide (t105 ≤ (wrap64 (t105 + t104))) = true := decide_eq_true c11
                by_cases c12 : (wrap64 (t105 + t104)) ≤ (a0.size : Int)
                · rw [if_pos c12] at H
                  have c12b0 := eq_true c12
                  have c12b1 : decide ((wrap64 (t105 + t104)) ≤ (a0.size : Int)) = true := decide_eq_true c12
                  simp only [Option.some.injEq, Prod.mk.injEq] at H
                  obtain ⟨rfl, rfl, rfl⟩ := H
                  go_wp2_with (first | ((with_reducible refine gate_callee (f := 54) rfl ?_); refine goesL_ (some 21) rfl rfl Try.func54 (by kernel_rfl) rfl #[.string a0, .int .i64 a1, .int .i64 a2] rfl (by (try simp only [List.map_toArray, List.map_cons, List.map_nil]); first | done | rfl | (simp only [List.length_drop, List.length_take]; rfl)) ?_; (with_reducible refine (wire_number.calls kj3 a0 a1 a2 t104 t105 t106 _ A7.out).mono ?_); rintro e w' ⟨rfl, ⟨nd, rfl⟩⟩; refine ⟨_, rfl, ?_⟩))
                  go_ret3
                  exact ⟨by first | rfl | (simp; done) | (simp [*]; done), by repeat (first | exact Drawn0.refl _ | apply Drawn0.step)⟩
                · rw [if_neg c12] at H
                  exact absurd H (by simp)
              · rw [if_neg c11] at H
                exact absurd H (by simp)
            · rw [if_neg c10] at H
              exact absurd H (by simp)
        · rw [if_neg c8] at H
          have c8b0 : (t106 == 0) = false := beq_eq_false_iff_ne.mpr c8
          have c8b1 : (t106 != 0) = true := bne_iff_ne.mpr c8
          simp only [Option.some.injEq, Prod.mk.injEq] at H
          obtain ⟨rfl, rfl, rfl⟩ := H
          go_wp2_with (first | ((with_reducible refine gate_callee (f := 54) rfl ?_); refine goesL_ (some 21) rfl rfl Try.func54 (by kernel_rfl) rfl #[.string a0, .int .i64 a1, .int .i64 a2] rfl (by (try simp only [List.map_toArray, List.map_cons, List.map_nil]); first | done | rfl | (simp only [List.length_drop, List.length_take]; rfl)) ?_; (with_reducible refine (wire_number.calls kj3 a0 a1 a2 t104 t105 t106 _ A7.out).mono ?_); rintro e w' ⟨rfl, ⟨nd, rfl⟩⟩; refine ⟨_, rfl, ?_⟩))
          go_ret3
          exact ⟨by first | rfl | (simp; done) | (simp [*]; done), by repeat (first | exact Drawn0.refl _ | apply Drawn0.step)⟩
end Go.Proofs.Ytlkebjkpmiehcaa.X
end
section
namespace Go.Proofs.Ytlkebjkpmiehcaa.X
open Go.RowKit Go.Proofs.YtlkebjkpmiehcaaW.PrintWords Go.Proofs.YtlkebjkpmiehcaaW.PrintLast Go.Proofs.YtlkebjkpmiehcaaW.PrintMore
attribute [local go_sem] max2_int min2_int max_two min_two max_three min_three max_four min_four   
set_option linter.unusedVariables false
set_option linter.unusedSimpArgs false
def msg_zero.f (a0_0 : Int) (a0_1 : ByteArray) (a0_2 : ByteArray) (l0_3 : List Int) (a0_4 : ByteArray) (l0_5 : List Int) (l0_6 : List Int) (l0_7 : List Int) (l0_8 : List Int) (l0_9 : List (S66)) (l0_10 : List (S111)) (l0_11 : List ByteArray) (a0_12 : Int) (l0_13 : List Int) (l0_14 : List ByteArray) (a0_15 : Int) (a0_16 : ByteArray) (a0_17 : Int) (a0_18 : Int) (a0_19 : ByteArray) (a0_20 : Int) : Option (Bool) := if a0_1.size + a0_2.size ≤ 9223372036854775807 then ((some (a0_1 ++ a0_2 : ByteArray)).bind fun ys216 => (if ys216.size + a0_4.size ≤ 9223372036854775807 then ((some (ys216 ++ a0_4 : ByteArray)).bind fun ys217 => (if ys217.size + a0_16.size ≤ 9223372036854775807 then ((some (ys217 ++ a0_16 : ByteArray)).bind fun ys218 => (if ys218.size + a0_19.size ≤ 9223372036854775807 then (if (ys218 ++ a0_19).toList = ([] : List UInt8) then (if (wrap64 ((wrap64 ((wrap64 ((wrap64 ((wrap64 ((wrap64 ((wrap64 ((wrap64 ((wrap64 ((l0_3.length : Int) + (l0_5.length : Int))) + (l0_6.length : Int))) + (l0_7.length : Int))) + (l0_8.length : Int))) + (l0_9.length : Int))) + (l0_10.length : Int))) + (l0_11.length : Int))) + (l0_13.length : Int))) + (l0_14.length : Int))) = 0 then (if a0_12 = 0 then (if a0_15 = 0 then (if a0_17 = 0 then (if a0_18 = 0 then (some (a0_20 == 0)) else (some false)) else (some false)) else (some false)) else (some false)) else (some false)) else (some false)) else (none))) else (none))) else (none))) else (none)
set_option maxHeartbeats 8000000 in
set_option maxRecDepth 100000 in
theorem msg_zero.calls (a0_0 : Int) (a0_1 : ByteArray) (a0_2 : ByteArray) (A0_3 : Option Addr) (c0_3 : Nat) (l0_3 : List Int) (a0_4 : ByteArray) (A0_5 : Option Addr) (c0_5 : Nat) (l0_5 : List Int) (A0_6 : Option Addr) (c0_6 : Nat) (l0_6 : List Int) (A0_7 : Option Addr) (c0_7 : Nat) (l0_7 : List Int) (A0_8 : Option Addr) (c0_8 : Nat) (l0_8 : List Int) (A0_9 : Option Addr) (c0_9 : Nat) (l0_9 : List (S66)) (A0_10 : Option Addr) (c0_10 : Nat) (l0_10 : List (S111)) (A0_11 : Option Addr) (c0_11 : Nat) (l0_11 : List ByteArray) (a0_12 : Int) (A0_13 : Option Addr) (c0_13 : Nat) (l0_13 : List Int) (A0_14 : Option Addr) (c0_14 : Nat) (l0_14 : List ByteArray) (a0_15 : Int) (a0_16 : ByteArray) (a0_17 : Int) (a0_18 : Int) (a0_19 : ByteArray) (a0_20 : Int) (r : Bool) (w : World) (hr0_3 : Kd.C (Kd.int .i64) w A0_3 l0_3.length l0_3) (hc0_3 : l0_3.length ≤ c0_3) (hr0_5 : Kd.C (Kd.int .i64) w A0_5 l0_5.length l0_5) (hc0_5 : l0_5.length ≤ c0_5) (hr0_6 : Kd.C (Kd.int .i64) w A0_6 l0_6.length l0_6) (hc0_6 : l0_6.length ≤ c0_6) (hr0_7 : Kd.C (Kd.int .i64) w A0_7 l0_7.length l0_7) (hc0_7 : l0_7.length ≤ c0_7) (hr0_8 : Kd.C (Kd.int .i64) w A0_8 l0_8.length l0_8) (hc0_8 : l0_8.length ≤ c0_8) (hr0_9 : Kd.C k66 w A0_9 l0_9.length l0_9) (hc0_9 : l0_9.length ≤ c0_9) (hr0_10 : Kd.C k111 w A0_10 l0_10.length l0_10) (hc0_10 : l0_10.length ≤ c0_10) (hr0_11 : Kd.C Kd.string w A0_11 l0_11.length l0_11) (hc0_11 : l0_11.length ≤ c0_11) (hr0_13 : Kd.C (Kd.int .i64) w A0_13 l0_13.length l0_13) (hc0_13 : l0_13.length ≤ c0_13) (hr0_14 : Kd.C Kd.string w A0_14 l0_14.length l0_14) (hc0_14 : l0_14.length ≤ c0_14) (h : msg_zero.f a0_0 a0_1 a0_2 l0_3 a0_4 l0_5 l0_6 l0_7 l0_8 l0_9 l0_10 l0_11 a0_12 l0_13 l0_14 a0_15 a0_16 a0_17 a0_18 a0_19 a0_20 = some r) :
    Calls Try.prog 45 #[.agg #[.int .i64 a0_0, .string a0_1, .string a0_2, .slice A0_3 l0_3.length c0_3, .string a0_4, .slice A0_5 l0_5.length c0_5, .slice A0_6 l0_6.length c0_6, .slice A0_7 l0_7.length c0_7, .slice A0_8 l0_8.length c0_8, .slice A0_9 l0_9.length c0_9, .slice A0_10 l0_10.length c0_10, .slice A0_11 l0_11.length c0_11, .int .i64 a0_12, .slice A0_13 l0_13.length c0_13, .slice A0_14 l0_14.length c0_14, .int .i64 a0_15, .string a0_16, .int .i64 a0_17, .int .i64 a0_18, .string a0_19, .int .i64 a0_20]] w fun e w' => e = .returned (.bool r) ∧ Below w.heap.size w w' := by
  have hu49 := Try.underlying49
  have HR0_3 := Aside0.mk hr0_3
  have HC0_3 := Aside0.mk hc0_3
  clear hr0_3 hc0_3
  have HR0_5 := Aside0.mk hr0_5
  have HC0_5 := Aside0.mk hc0_5
  clear hr0_5 hc0_5
  have HR0_6 := Aside0.mk hr0_6
  have HC0_6 := Aside0.mk hc0_6
  clear hr0_6 hc0_6
  have HR0_7 := Aside0.mk hr0_7
  have HC0_7 := Aside0.mk hc0_7
  clear hr0_7 hc0_7
  have HR0_8 := Aside0.mk hr0_8
  have HC0_8 := Aside0.mk hc0_8
  clear hr0_8 hc0_8
  have HR0_9 := Aside0.mk hr0_9
  have HC0_9 := Aside0.mk hc0_9
  clear hr0_9 hc0_9
  have HR0_10 := Aside0.mk hr0_10
  have HC0_10 := Aside0.mk hc0_10
  clear hr0_10 hc0_10
  have HR0_11 := Aside0.mk hr0_11
  have HC0_11 := Aside0.mk hc0_11
  clear hr0_11 hc0_11
  have HR0_13 := Aside0.mk hr0_13
  have HC0_13 := Aside0.mk hc0_13
  clear hr0_13 hc0_13
  have HR0_14 := Aside0.mk hr0_14
  have HC0_14 := Aside0.mk hc0_14
  clear hr0_14 hc0_14
  have HB := Aside0.mk (Below.refl w.heap.size w)
  have H : (if a0_1.size + a0_2.size ≤ 9223372036854775807 then ((some (a0_1 ++ a0_2 : ByteArray)).bind fun ys216 => (if ys216.size + a0_4.size ≤ 9223372036854775807 then ((some (ys216 ++ a0_4 : ByteArray)).bind fun ys217 => (if ys217.size + a0_16.size ≤ 9223372036854775807 then ((some (ys217 ++ a0_16 : ByteArray)).bind fun ys218 => (if ys218.size + a0_19.size ≤ 9223372036854775807 then (if (ys218 ++ a0_19).toList = ([] : List UInt8) then (if (wrap64 ((wrap64 ((wrap64 ((wrap64 ((wrap64 ((wrap64 ((wrap64 ((wrap64 ((wrap64 ((l0_3.length : Int) + (l0_5.length : Int))) + (l0_6.length : Int))) + (l0_7.length : Int))) + (l0_8.length : Int))) + (l0_9.length : Int))) + (l0_10.length : Int))) + (l0_11.length : Int))) + (l0_13.length : Int))) + (l0_14.length : Int))) = 0 then (if a0_12 = 0 then (if a0_15 = 0 then (if a0_17 = 0 then (if a0_18 = 0 then (some (a0_20 == 0)) else (some false)) else (some false)) else (some false)) else (some false)) else (some false)) else (some false)) else (none))) else (none))) else (none))) else (none)) = some r := h
  clear h
  by_cases c2 : a0_1.size + a0_2.size ≤ 9223372036854775807
  · rw [if_pos c2] at H
    have c2b0 := eq_true c2
    have c2b1 : decide (a0_1.size + a0_2.size ≤ 9223372036854775807) = true := decide_eq_true c2
    try have c2b2 : (9223372036854775807 < a0_1.size + a0_2.size) = False := eq_false (Nat.not_lt.2 c2)
    obtain ⟨ys216, hys216⟩ : ∃ y_ : ByteArray, y_ = (a0_1 ++ a0_2) := ⟨_, rfl⟩
    replace H : (if ys216.size + a0_4.size ≤ 9223372036854775807 then ((some (ys216 ++ a0_4 : ByteArray)).bind fun ys217 => (if ys217.size + a0_16.size ≤ 9223372036854775807 then ((some (ys217 ++ a0_16 : ByteArray)).bind fun ys218 => (if ys218.size + a0_19.size ≤ 9223372036854775807 then (if (ys218 ++ a0_19).toList = ([] : List UInt8) then (if (wrap64 ((wrap64 ((wrap64 ((wrap64 ((wrap64 ((wrap64 ((wrap64 ((wrap64 ((wrap64 ((l0_3.length : Int) + (l0_5.length : Int))) + (l0_6.length : Int))) + (l0_7.length : Int))) + (l0_8.length : Int))) + (l0_9.length : Int))) + (l0_10.length : Int))) + (l0_11.length : Int))) + (l0_13.length : Int))) + (l0_14.length : Int))) = 0 then (if a0_12 = 0 then (if a0_15 = 0 then (if a0_17 = 0 then (if a0_18 = 0 then (some (a0_20 == 0)) else (some false)) else (some false)) else (some false)) else (some false)) else (some false)) else (some false)) else (none))) else (none))) else (none)) = some r := by first | (rw [hys216]; with_reducible exact H) | (have H2_ := (Option.bind_some _ _).symm.trans H; rw [hys216]; with_reducible exact H2_) | (have H2_ := (Option.bind_some _ _).symm.trans H; with_reducible exact H2_) | with_reducible exact H | (rw [hys216]; exact H) | exact H
    have Nys216 := Aside0.mk hys216
    clear hys216
    have Sys216 := Nys216.out.symm
    by_cases c3 : ys216.size + a0_4.size ≤ 9223372036854775807
    · rw [if_pos c3] at H
      have c3b0 := eq_true c3
      have c3b1 : decide (ys216.size + a0_4.size ≤ 9223372036854775807) = true := decide_eq_true c3
      try have c3b2 : (9223372036854775807 < ys216.size + a0_4.size) = False := eq_false (Nat.not_lt.2 c3)
      obtain ⟨ys217, hys217⟩ : ∃ y_ : ByteArray, y_ = (ys216 ++ a0_4) := ⟨_, rfl⟩
      replace H : (if ys217.size + a0_16.size ≤ 9223372036854775807 then ((some (ys217 ++ a0_16 : ByteArray)).bind fun ys218 => (if ys218.size + a0_19.size ≤ 9223372036854775807 then (if (ys218 ++ a0_19).toList = ([] : List UInt8) then (if (wrap64 ((wrap64 ((wrap64 ((wrap64 ((wrap64 ((wrap64 ((wrap64 ((wrap64 ((wrap64 ((l0_3.length : Int) + (l0_5.length : Int))) + (l0_6.length : Int))) + (l0_7.length : Int))) + (l0_8.length : Int))) + (l0_9.length : Int))) + (l0_10.length : Int))) + (l0_11.length : Int))) + (l0_13.length : Int))) + (l0_14.length : Int))) = 0 then (if a0_12 = 0 then (if a0_15 = 0 then (if a0_17 = 0 then (if a0_18 = 0 then (some (a0_20 == 0)) else (some false)) else (some false)) else (some false)) else (some false)) else (some false)) else (some false)) else (none))) else (none)) = some r := by first | (rw [hys217]; with_reducible exact H) | (have H2_ := (Option.bind_some _ _).symm.trans H; rw [hys217]; with_reducible exact H2_) | (have H2_ := (Option.bind_some _ _).symm.trans H; with_reducible exact H2_) | with_reducible exact H | (rw [hys217]; exact H) | exact H
      have Nys217 := Aside0.mk hys217
      clear hys217
      have Sys217 := Nys217.out.symm
      by_cases c4 : ys217.size + a0_16.size ≤ 9223372036854775807
      · rw [if_pos c4] at H
        have c4b0 := eq_true c4
        have c4b1 : decide (ys217.size + a0_16.size ≤ 9223372036854775807) = true := decide_eq_true c4
        try have c4b2 : (9223372036854775807 < ys217.size + a0_16.size) = False := eq_false (Nat.not_lt.2 c4)
        obtain ⟨ys218, hys218⟩ : ∃ y_ : ByteArray, y_ = (ys217 ++ a0_16) := ⟨_, rfl⟩
        replace H : (if ys218.size + a0_19.size ≤ 9223372036854775807 then (if (ys218 ++ a0_19).toList = ([] : List UInt8) then (if (wrap64 ((wrap64 ((wrap64 ((wrap64 ((wrap64 ((wrap64 ((wrap64 ((wrap64 ((wrap64 ((l0_3.length : Int) + (l0_5.length : Int))) + (l0_6.length : Int))) + (l0_7.length : Int))) + (l0_8.length : Int))) + (l0_9.length : Int))) + (l0_10.length : Int))) + (l0_11.length : Int))) + (l0_13.length : Int))) + (l0_14.length : Int))) = 0 then (if a0_12 = 0 then (if a0_15 = 0 then (if a0_17 = 0 then (if a0_18 = 0 then (some (a0_20 == 0)) else (some false)) else (some false)) else (some false)) else (some false)) else (some false)) else (some false)) else (none)) = some r := by first | (rw [hys218]; with_reducible exact H) | (have H2_ := (Option.bind_some _ _).symm.trans H; rw [hys218]; with_reducible exact H2_) | (have H2_ := (Option.bind_some _ _).symm.trans H; with_reducible exact H2_) | with_reducible exact H | (rw [hys218]; exact H) | exact H
        have Nys218 := Aside0.mk hys218
        clear hys218
        have Sys218 := Nys218.out.symm
        by_cases c5 : ys218.size + a0_19.size ≤ 9223372036854775807
        · rw [if_pos c5] at H
          have c5b0 := eq_true c5
          have c5b1 : decide (ys218.size + a0_19.size ≤ 9223372036854775807) = true := decide_eq_true c5
          try have c5b2 : (9223372036854775807 < ys218.size + a0_19.size) = False := eq_false (Nat.not_lt.2 c5)
          obtain ⟨ys219, hys219⟩ : ∃ y_ : ByteArray, y_ = (ys218 ++ a0_19) := ⟨_, rfl⟩
          replace H : (if ys219.toList = ([] : List UInt8) then (if (wrap64 ((wrap64 ((wrap64 ((wrap64 ((wrap64 ((wrap64 ((wrap64 ((wrap64 ((wrap64 ((l0_3.length : Int) + (l0_5.length : Int))) + (l0_6.length : Int))) + (l0_7.length : Int))) + (l0_8.length : Int))) + (l0_9.length : Int))) + (l0_10.length : Int))) + (l0_11.length : Int))) + (l0_13.length : Int))) + (l0_14.length : Int))) = 0 then (if a0_12 = 0 then (if a0_15 = 0 then (if a0_17 = 0 then (if a0_18 = 0 then (some (a0_20 == 0)) else (some false)) else (some false)) else (some false)) else (some false)) else (some false)) else (some false)) = some r := by first | (rw [hys219]; with_reducible exact H) | (have H2_ := (Option.bind_some _ _).symm.trans H; rw [hys219]; with_reducible exact H2_) | (have H2_ := (Option.bind_some _ _).symm.trans H; with_reducible exact H2_) | with_reducible exact H | (rw [hys219]; exact H) | exact H
          have Nys219 := Aside0.mk hys219
          clear hys219
          have Sys219 := Nys219.out.symm
          by_cases c6 : ys219.toList = ([] : List UInt8)
          · rw [if_pos c6] at H
            have c6b0 : (ys219.toList == ([] : List UInt8)) = true := beq_iff_eq.mpr c6
            have c6b1 : (ys219.toList != ([] : List UInt8)) = false := bne_eq_false_iff_eq.mpr c6
            clear c6
            by_cases c7 : (wrap64 ((wrap64 ((wrap64 ((wrap64 ((wrap64 ((wrap64 ((wrap64 ((wrap64 ((wrap64 ((l0_3.length : Int) + (l0_5.length : Int))) + (l0_6.length : Int))) + (l0_7.length : Int))) + (l0_8.length : Int))) + (l0_9.length : Int))) + (l0_10.length : Int))) + (l0_11.length : Int))) + (l0_13.length : Int))) + (l0_14.length : Int))) = 0
            · rw [if_pos c7] at H
              have c7b0 : ((wrap64 ((wrap64 ((wrap64 ((wrap64 ((wrap64 ((wrap64 ((wrap64 ((wrap64 ((wrap64 ((l0_3.length : Int) + (l0_5.length : Int))) + (l0_6.length : Int))) + (l0_7.length : Int))) + (l0_8.length : Int))) + (l0_9.length : Int))) + (l0_10.length : Int))) + (l0_11.length : Int))) + (l0_13.length : Int))) + (l0_14.length : Int))) == 0) = true := beq_iff_eq.mpr c7
              have c7b1 : ((wrap64 ((wrap64 ((wrap64 ((wrap64 ((wrap64 ((wrap64 ((wrap64 ((wrap64 ((wrap64 ((l0_3.length : Int) + (l0_5.length : Int))) + (l0_6.length : Int))) + (l0_7.length : Int))) + (l0_8.length : Int))) + (l0_9.length : Int))) + (l0_10.length : Int))) + (l0_11.length : Int))) + (l0_13.length : Int))) + (l0_14.length : Int))) != 0) = false := bne_eq_false_iff_eq.mpr c7
              clear c7
              by_cases c8 : a0_12 = 0
              · rw [if_pos c8] at H
                have c8b0 : (a0_12 == 0) = true := beq_iff_eq.mpr c8
                have c8b1 : (a0_12 != 0) = false := bne_eq_false_iff_eq.mpr c8
                clear c8
                by_cases c9 : a0_15 = 0
                · rw [if_pos c9] at H
                  have c9b0 : (a0_15 == 0) = true := beq_iff_eq.mpr c9
                  have c9b1 : (a0_15 != 0) = false := bne_eq_false_iff_eq.mpr c9
                  clear c9
                  by_cases c10 : a0_17 = 0
                  · rw [if_pos c10] at H
                    have c10b0 : (a0_17 == 0) = true := beq_iff_eq.mpr c10
                    have c10b1 : (a0_17 != 0) = false := bne_eq_false_iff_eq.mpr c10
                    clear c10
                    by_cases c11 : a0_18 = 0
                    · rw [if_pos c11] at H
                      have c11b0 : (a0_18 == 0) = true := beq_iff_eq.mpr c11
                      have c11b1 : (a0_18 != 0) = false := bne_eq_false_iff_eq.mpr c11
                      clear c11
                      obtain rfl := Option.some.inj H
                      go_enter Try.func45, Try.ntmps45
                      go_wp2_with (first | ((with_reducible refine gate_dst (N := 1) rfl ?_); refine box_event ?hg (N := 1) ?hd (cs := #[.int .i64 a0_0, .string a0_1, .string a0_2, .slice A0_3 l0_3.length c0_3, .string a0_4, .slice A0_5 l0_5.length c0_5, .slice A0_6 l0_6.length c0_6, .slice A0_7 l0_7.length c0_7, .slice A0_8 l0_8.length c0_8, .slice A0_9 l0_9.length c0_9, .slice A0_10 l0_10.length c0_10, .slice A0_11 l0_11.length c0_11, .int .i64 a0_12, .slice A0_13 l0_13.length c0_13, .slice A0_14 l0_14.length c0_14, .int .i64 a0_15, .string a0_16, .int .i64 a0_17, .int .i64 a0_18, .string a0_19, .int .i64 a0_20]) (t := 49) ?hr ?_; (case hd => rfl); (case hg => rfl); (case hr => first | (go_simp; done) | (go_simp; rfl)); intro gb215 hg w12 hbox hb; have n0_ := Aside0.mk (below_step (by repeat (first | (with_reducible first | exact HB.out | apply below_alloc | apply pw_below_drewN | apply below_drew1) | exact HB.out)) hb); have n1_ := Aside0.mk (hbox); have n2_ := Aside0.mk ((by rw [hg]; exact (below_size (by repeat (first | (with_reducible first | exact HB.out | apply below_alloc | apply pw_below_drewN | apply below_drew1) | exact HB.out))) : w.heap.size ≤ gb215)); have n3_ := Aside0.mk ((by rw [hg]; exact (below_size (by repeat (first | (with_reducible first | exact HB.out | apply below_alloc | apply pw_below_drewN | apply below_drew1) | exact HB.out))) : w.heap.size ≤ gb215)); clear HB; have HB := n0_; have BK215 := n1_; have GW215 := n2_; have GE215 := n3_; clear n0_ n1_ n2_ n3_; clear hb hbox hg; have hcz13_0 : w12.cell? ⟨gb215, 0, none⟩ = some (.int .i64 a0_0) := (blk_cell BK215.out 0).trans rfl; have hcz13_1 : w12.cell? ⟨gb215, 1, none⟩ = some (.string a0_1) := (blk_cell BK215.out 1).trans rfl; have hcz13_2 : w12.cell? ⟨gb215, 2, none⟩ = some (.string a0_2) := (blk_cell BK215.out 2).trans rfl; have hcz13_3 : w12.cell? ⟨gb215, 3, none⟩ = some (.slice A0_3 l0_3.length c0_3) := (blk_cell BK215.out 3).trans rfl; have hcz13_4 : w12.cell? ⟨gb215, 4, none⟩ = some (.string a0_4) := (blk_cell BK215.out 4).trans rfl; have hcz13_5 : w12.cell? ⟨gb215, 5, none⟩ = some (.slice A0_5 l0_5.length c0_5) := (blk_cell BK215.out 5).trans rfl; have hcz13_6 : w12.cell? ⟨gb215, 6, none⟩ = some (.slice A0_6 l0_6.length c0_6) := (blk_cell BK215.out 6).trans rfl; have hcz13_7 : w12.cell? ⟨gb215, 7, none⟩ = some (.slice A0_7 l0_7.length c0_7) := (blk_cell BK215.out 7).trans rfl; have hcz13_8 : w12.cell? ⟨gb215, 8, none⟩ = some (.slice A0_8 l0_8.length c0_8) := (blk_cell BK215.out 8).trans rfl; have hcz13_9 : w12.cell? ⟨gb215, 9, none⟩ = some (.slice A0_9 l0_9.length c0_9) := (blk_cell BK215.out 9).trans rfl; have hcz13_10 : w12.cell? ⟨gb215, 10, none⟩ = some (.slice A0_10 l0_10.length c0_10) := (blk_cell BK215.out 10).trans rfl; have hcz13_11 : w12.cell? ⟨gb215, 11, none⟩ = some (.slice A0_11 l0_11.length c0_11) := (blk_cell BK215.out 11).trans rfl; have hcz13_12 : w12.cell? ⟨gb215, 12, none⟩ = some (.int .i64 a0_12) := (blk_cell BK215.out 12).trans rfl; have hcz13_13 : w12.cell? ⟨gb215, 13, none⟩ = some (.slice A0_13 l0_13.length c0_13) := (blk_cell BK215.out 13).trans rfl; have hcz13_14 : w12.cell? ⟨gb215, 14, none⟩ = some (.slice A0_14 l0_14.length c0_14) := (blk_cell BK215.out 14).trans rfl; have hcz13_15 : w12.cell? ⟨gb215, 15, none⟩ = some (.int .i64 a0_15) := (blk_cell BK215.out 15).trans rfl; have hcz13_16 : w12.cell? ⟨gb215, 16, none⟩ = some (.string a0_16) := (blk_cell BK215.out 16).trans rfl; have hcz13_17 : w12.cell? ⟨gb215, 17, none⟩ = some (.int .i64 a0_17) := (blk_cell BK215.out 17).trans rfl; have hcz13_18 : w12.cell? ⟨gb215, 18, none⟩ = some (.int .i64 a0_18) := (blk_cell BK215.out 18).trans rfl; have hcz13_19 : w12.cell? ⟨gb215, 19, none⟩ = some (.string a0_19) := (blk_cell BK215.out 19).trans rfl; have hcz13_20 : w12.cell? ⟨gb215, 20, none⟩ = some (.int .i64 a0_20) := (blk_cell BK215.out 20).trans rfl; have hfz13_0 := blk_frozen BK215.out 0; have hfz13_1 := blk_frozen BK215.out 1; have hfz13_2 := blk_frozen BK215.out 2; have hfz13_3 := blk_frozen BK215.out 3; have hfz13_4 := blk_frozen BK215.out 4; have hfz13_5 := blk_frozen BK215.out 5; have hfz13_6 := blk_frozen BK215.out 6; have hfz13_7 := blk_frozen BK215.out 7; have hfz13_8 := blk_frozen BK215.out 8; have hfz13_9 := blk_frozen BK215.out 9; have hfz13_10 := blk_frozen BK215.out 10; have hfz13_11 := blk_frozen BK215.out 11; have hfz13_12 := blk_frozen BK215.out 12; have hfz13_13 := blk_frozen BK215.out 13; have hfz13_14 := blk_frozen BK215.out 14; have hfz13_15 := blk_frozen BK215.out 15; have hfz13_16 := blk_frozen BK215.out 16; have hfz13_17 := blk_frozen BK215.out 17; have hfz13_18 := blk_frozen BK215.out 18; have hfz13_19 := blk_frozen BK215.out 19; have hfz13_20 := blk_frozen BK215.out 20))
                      go_ret
                      exact ⟨by first | rfl | (simp [errW_none, errW_some] <;> rfl) | (simp [*, errW_none, errW_some] <;> rfl), by repeat (first | (with_reducible first | exact HB.out | apply below_alloc | apply pw_below_drewN | apply below_drew1 | refine below_set ?_ GE215.out) | exact HB.out)⟩
                    · rw [if_neg c11] at H
                      have c11b0 : (a0_18 == 0) = false := beq_eq_false_iff_ne.mpr c11
                      have c11b1 : (a0_18 != 0) = true := bne_iff_ne.mpr c11
                      obtain rfl := Option.some.inj H
                      go_enter Try.func45, Try.ntmps45
                      go_wp2_with (first | ((with_reducible refine gate_dst (N := 1) rfl ?_); refine box_event ?hg (N := 1) ?hd (cs := #[.int .i64 a0_0, .string a0_1, .string a0_2, .slice A0_3 l0_3.length c0_3, .string a0_4, .slice A0_5 l0_5.length c0_5, .slice A0_6 l0_6.length c0_6, .slice A0_7 l0_7.length c0_7, .slice A0_8 l0_8.length c0_8, .slice A0_9 l0_9.length c0_9, .slice A0_10 l0_10.length c0_10, .slice A0_11 l0_11.length c0_11, .int .i64 a0_12, .slice A0_13 l0_13.length c0_13, .slice A0_14 l0_14.length c0_14, .int .i64 a0_15, .string a0_16, .int .i64 a0_17, .int .i64 a0_18, .string a0_19, .int .i64 a0_20]) (t := 49) ?hr ?_; (case hd => rfl); (case hg => rfl); (case hr => first | (go_simp; done) | (go_simp; rfl)); intro gb215 hg w14 hbox hb; have n0_ := Aside0.mk (below_step (by repeat (first | (with_reducible first | exact HB.out | apply below_alloc | apply pw_below_drewN | apply below_drew1) | exact HB.out)) hb); have n1_ := Aside0.mk (hbox); have n2_ := Aside0.mk ((by rw [hg]; exact (below_size (by repeat (first | (with_reducible first | exact HB.out | apply below_alloc | apply pw_below_drewN | apply below_drew1) | exact HB.out))) : w.heap.size ≤ gb215)); have n3_ := Aside0.mk ((by rw [hg]; exact (below_size (by repeat (first | (with_reducible first | exact HB.out | apply below_alloc | apply pw_below_drewN | apply below_drew1) | exact HB.out))) : w.heap.size ≤ gb215)); clear HB; have HB := n0_; have BK215 := n1_; have GW215 := n2_; have GE215 := n3_; clear n0_ n1_ n2_ n3_; clear hb hbox hg; have hcz15_0 : w14.cell? ⟨gb215, 0, none⟩ = some (.int .i64 a0_0) := (blk_cell BK215.out 0).trans rfl; have hcz15_1 : w14.cell? ⟨gb215, 1, none⟩ = some (.string a0_1) := (blk_cell BK215.out 1).trans rfl; have hcz15_2 : w14.cell? ⟨gb215, 2, none⟩ = some (.string a0_2) := (blk_cell BK215.out 2).trans rfl; have hcz15_3 : w14.cell? ⟨gb215, 3, none⟩ = some (.slice A0_3 l0_3.length c0_3) := (blk_cell BK215.out 3).trans rfl; have hcz15_4 : w14.cell? ⟨gb215, 4, none⟩ = some (.string a0_4) := (blk_cell BK215.out 4).trans rfl; have hcz15_5 : w14.cell? ⟨gb215, 5, none⟩ = some (.slice A0_5 l0_5.length c0_5) := (blk_cell BK215.out 5).trans rfl; have hcz15_6 : w14.cell? ⟨gb215, 6, none⟩ = some (.slice A0_6 l0_6.length c0_6) := (blk_cell BK215.out 6).trans rfl; have hcz15_7 : w14.cell? ⟨gb215, 7, none⟩ = some (.slice A0_7 l0_7.length c0_7) := (blk_cell BK215.out 7).trans rfl; have hcz15_8 : w14.cell? ⟨gb215, 8, none⟩ = some (.slice A0_8 l0_8.length c0_8) := (blk_cell BK215.out 8).trans rfl; have hcz15_9 : w14.cell? ⟨gb215, 9, none⟩ = some (.slice A0_9 l0_9.length c0_9) := (blk_cell BK215.out 9).trans rfl; have hcz15_10 : w14.cell? ⟨gb215, 10, none⟩ = some (.slice A0_10 l0_10.length c0_10) := (blk_cell BK215.out 10).trans rfl; have hcz15_11 : w14.cell? ⟨gb215, 11, none⟩ = some (.slice A0_11 l0_11.length c0_11) := (blk_cell BK215.out 11).trans rfl; have hcz15_12 : w14.cell? ⟨gb215, 12, none⟩ = some (.int .i64 a0_12) := (blk_cell BK215.out 12).trans rfl; have hcz15_13 : w14.cell? ⟨gb215, 13, none⟩ = some (.slice A0_13 l0_13.length c0_13) := (blk_cell BK215.out 13).trans rfl; have hcz15_14 : w14.cell? ⟨gb215, 14, none⟩ = some (.slice A0_14 l0_14.length c0_14) := (blk_cell BK215.out 14).trans rfl; have hcz15_15 : w14.cell? ⟨gb215, 15, none⟩ = some (.int .i64 a0_15) := (blk_cell BK215.out 15).trans rfl; have hcz15_16 : w14.cell? ⟨gb215, 16, none⟩ = some (.string a0_16) := (blk_cell BK215.out 16).trans rfl; have hcz15_17 : w14.cell? ⟨gb215, 17, none⟩ = some (.int .i64 a0_17) := (blk_cell BK215.out 17).trans rfl; have hcz15_18 : w14.cell? ⟨gb215, 18, none⟩ = some (.int .i64 a0_18) := (blk_cell BK215.out 18).trans rfl; have hcz15_19 : w14.cell? ⟨gb215, 19, none⟩ = some (.string a0_19) := (blk_cell BK215.out 19).trans rfl; have hcz15_20 : w14.cell? ⟨gb215, 20, none⟩ = some (.int .i64 a0_20) := (blk_cell BK215.out 20).trans rfl; have hfz15_0 := blk_frozen BK215.out 0; have hfz15_1 := blk_frozen BK215.out 1; have hfz15_2 := blk_frozen BK215.out 2; have hfz15_3 := blk_frozen BK215.out 3; have hfz15_4 := blk_frozen BK215.out 4; have hfz15_5 := blk_frozen BK215.out 5; have hfz15_6 := blk_frozen BK215.out 6; have hfz15_7 := blk_frozen BK215.out 7; have hfz15_8 := blk_frozen BK215.out 8; have hfz15_9 := blk_frozen BK215.out 9; have hfz15_10 := blk_frozen BK215.out 10; have hfz15_11 := blk_frozen BK215.out 11; have hfz15_12 := blk_frozen BK215.out 12; have hfz15_13 := blk_frozen BK215.out 13; have hfz15_14 := blk_frozen BK215.out 14; have hfz15_15 := blk_frozen BK215.out 15; have hfz15_16 := blk_frozen BK215.out 16; have hfz15_17 := blk_frozen BK215.out 17; have hfz15_18 := blk_frozen BK215.out 18; have hfz15_19 := blk_frozen BK215.out 19; have hfz15_20 := blk_frozen BK215.out 20))
                      go_ret
                      exact ⟨by first | rfl | (simp [errW_none, errW_some] <;> rfl) | (simp [*, errW_none, errW_some] <;> rfl), by repeat (first | (with_reducible first | exact HB.out | apply below_alloc | apply pw_below_drewN | apply below_drew1 | refine below_set ?_ GE215.out) | exact HB.out)⟩
                  · rw [if_neg c10] at H
                    have c10b0 : (a0_17 == 0) = false := beq_eq_false_iff_ne.mpr c10
                    have c10b1 : (a0_17 != 0) = true := bne_iff_ne.mpr c10
                    obtain rfl := Option.some.inj H
                    go_enter Try.func45, Try.ntmps45
                    go_wp2_with (first | ((with_reducible refine gate_dst (N := 1) rfl ?_); refine box_event ?hg (N := 1) ?hd (cs := #[.int .i64 a0_0, .string a0_1, .string a0_2, .slice A0_3 l0_3.length c0_3, .string a0_4, .slice A0_5 l0_5.length c0_5, .slice A0_6 l0_6.length c0_6, .slice A0_7 l0_7.length c0_7, .slice A0_8 l0_8.length c0_8, .slice A0_9 l0_9.length c0_9, .slice A0_10 l0_10.length c0_10, .slice A0_11 l0_11.length c0_11, .int .i64 a0_12, .slice A0_13 l0_13.length c0_13, .slice A0_14 l0_14.length c0_14, .int .i64 a0_15, .string a0_16, .int .i64 a0_17, .int .i64 a0_18, .string a0_19, .int .i64 a0_20]) (t := 49) ?hr ?_; (case hd => rfl); (case hg => rfl); (case hr => first | (go_simp; done) | (go_simp; rfl)); intro gb215 hg w16 hbox hb; have n0_ := Aside0.mk (below_step (by repeat (first | (with_reducible first | exact HB.out | apply below_alloc | apply pw_below_drewN | apply below_drew1) | exact HB.out)) hb); have n1_ := Aside0.mk (hbox); have n2_ := Aside0.mk ((by rw [hg]; exact (below_size (by repeat (first | (with_reducible first | exact HB.out | apply below_alloc | apply pw_below_drewN | apply below_drew1) | exact HB.out))) : w.heap.size ≤ gb215)); have n3_ := Aside0.mk ((by rw [hg]; exact (below_size (by repeat (first | (with_reducible first | exact HB.out | apply below_alloc | apply pw_below_drewN | apply below_drew1) | exact HB.out))) : w.heap.size ≤ gb215)); clear HB; have HB := n0_; have BK215 := n1_; have GW215 := n2_; have GE215 := n3_; clear n0_ n1_ n2_ n3_; clear hb hbox hg; have hcz17_0 : w16.cell? ⟨gb215, 0, none⟩ = some (.int .i64 a0_0) := (blk_cell BK215.out 0).trans rfl; have hcz17_1 : w16.cell? ⟨gb215, 1, none⟩ = some (.string a0_1) := (blk_cell BK215.out 1).trans rfl; have hcz17_2 : w16.cell? ⟨gb215, 2, none⟩ = some (.string a0_2) := (blk_cell BK215.out 2).trans rfl; have hcz17_3 : w16.cell? ⟨gb215, 3, none⟩ = some (.slice A0_3 l0_3.length c0_3) := (blk_cell BK215.out 3).trans rfl; have hcz17_4 : w16.cell? ⟨gb215, 4, none⟩ = some (.string a0_4) := (blk_cell BK215.out 4).trans rfl; have hcz17_5 : w16.cell? ⟨gb215, 5, none⟩ = some (.slice A0_5 l0_5.length c0_5) := (blk_cell BK215.out 5).trans rfl; have hcz17_6 : w16.cell? ⟨gb215, 6, none⟩ = some (.slice A0_6 l0_6.length c0_6) := (blk_cell BK215.out 6).trans rfl; have hcz17_7 : w16.cell? ⟨gb215, 7, none⟩ = some (.slice A0_7 l0_7.length c0_7) := (blk_cell BK215.out 7).trans rfl; have hcz17_8 : w16.cell? ⟨gb215, 8, none⟩ = some (.slice A0_8 l0_8.length c0_8) := (blk_cell BK215.out 8).trans rfl; have hcz17_9 : w16.cell? ⟨gb215, 9, none⟩ = some (.slice A0_9 l0_9.length c0_9) := (blk_cell BK215.out 9).trans rfl; have hcz17_10 : w16.cell? ⟨gb215, 10, none⟩ = some (.slice A0_10 l0_10.length c0_10) := (blk_cell BK215.out 10).trans rfl; have hcz17_11 : w16.cell? ⟨gb215, 11, none⟩ = some (.slice A0_11 l0_11.length c0_11) := (blk_cell BK215.out 11).trans rfl; have hcz17_12 : w16.cell? ⟨gb215, 12, none⟩ = some (.int .i64 a0_12) := (blk_cell BK215.out 12).trans rfl; have hcz17_13 : w16.cell? ⟨gb215, 13, none⟩ = some (.slice A0_13 l0_13.length c0_13) := (blk_cell BK215.out 13).trans rfl; have hcz17_14 : w16.cell? ⟨gb215, 14, none⟩ = some (.slice A0_14 l0_14.length c0_14) := (blk_cell BK215.out 14).trans rfl; have hcz17_15 : w16.cell? ⟨gb215, 15, none⟩ = some (.int .i64 a0_15) := (blk_cell BK215.out 15).trans rfl; have hcz17_16 : w16.cell? ⟨gb215, 16, none⟩ = some (.string a0_16) := (blk_cell BK215.out 16).trans rfl; have hcz17_17 : w16.cell? ⟨gb215, 17, none⟩ = some (.int .i64 a0_17) := (blk_cell BK215.out 17).trans rfl; have hcz17_18 : w16.cell? ⟨gb215, 18, none⟩ = some (.int .i64 a0_18) := (blk_cell BK215.out 18).trans rfl; have hcz17_19 : w16.cell? ⟨gb215, 19, none⟩ = some (.string a0_19) := (blk_cell BK215.out 19).trans rfl; have hcz17_20 : w16.cell? ⟨gb215, 20, none⟩ = some (.int .i64 a0_20) := (blk_cell BK215.out 20).trans rfl; have hfz17_0 := blk_frozen BK215.out 0; have hfz17_1 := blk_frozen BK215.out 1; have hfz17_2 := blk_frozen BK215.out 2; have hfz17_3 := blk_frozen BK215.out 3; have hfz17_4 := blk_frozen BK215.out 4; have hfz17_5 := blk_frozen BK215.out 5; have hfz17_6 := blk_frozen BK215.out 6; have hfz17_7 := blk_frozen BK215.out 7; have hfz17_8 := blk_frozen BK215.out 8; have hfz17_9 := blk_frozen BK215.out 9; have hfz17_10 := blk_frozen BK215.out 10; have hfz17_11 := blk_frozen BK215.out 11; have hfz17_12 := blk_frozen BK215.out 12; have hfz17_13 := blk_frozen BK215.out 13; have hfz17_14 := blk_frozen BK215.out 14; have hfz17_15 := blk_frozen BK215.out 15; have hfz17_16 := blk_frozen BK215.out 16; have hfz17_17 := blk_frozen BK215.out 17; have hfz17_18 := blk_frozen BK215.out 18; have hfz17_19 := blk_frozen BK215.out 19; have hfz17_20 := blk_frozen BK215.out 20))
                    go_ret
                    exact ⟨by first | rfl | (simp [errW_none, errW_some] <;> rfl) | (simp [*, errW_none, errW_some] <;> rfl), by repeat (first | (with_reducible first | exact HB.out | apply below_alloc | apply pw_below_drewN | apply below_drew1 | refine below_set ?_ GE215.out) | exact HB.out)⟩
                · rw [if_neg c9] at H
                  have c9b0 : (a0_15 == 0) = false := beq_eq_false_iff_ne.mpr c9
                  have c9b1 : (a0_15 != 0) = true := bne_iff_ne.mpr c9
                  obtain rfl := Option.some.inj H
                  go_enter Try.func45, Try.ntmps45
                  go_wp2_with (first | ((with_reducible refine gate_dst (N := 1) rfl ?_); refine box_event ?hg (N := 1) ?hd (cs := #[.int .i64 a0_0, .string a0_1, .string a0_2, .slice A0_3 l0_3.length c0_3, .string a0_4, .slice A0_5 l0_5.length c0_5, .slice A0_6 l0_6.length c0_6, .slice A0_7 l0_7.length c0_7, .slice A0_8 l0_8.length c0_8, .slice A0_9 l0_9.length c0_9, .slice A0_10 l0_10.length c0_10, .slice A0_11 l0_11.length c0_11, .int .i64 a0_12, .slice A0_13 l0_13.length c0_13, .slice A0_14 l0_14.length c0_14, .int .i64 a0_15, .string a0_16, .int .i64 a0_17, .int .i64 a0_18, .string a0_19, .int .i64 a0_20]) (t := 49) ?hr ?_; (case hd => rfl); (case hg => rfl); (case hr => first | (go_simp; done) | (go_simp; rfl)); intro gb215 hg w18 hbox hb; have n0_ := Aside0.mk (below_step (by repeat (first | (with_reducible first | exact HB.out | apply below_alloc | apply pw_below_drewN | apply below_drew1) | exact HB.out)) hb); have n1_ := Aside0.mk (hbox); have n2_ := Aside0.mk ((by rw [hg]; exact (below_size (by repeat (first | (with_reducible first | exact HB.out | apply below_alloc | apply pw_below_drewN | apply below_drew1) | exact HB.out))) : w.heap.size ≤ gb215)); have n3_ := Aside0.mk ((by rw [hg]; exact (below_size (by repeat (first | (with_reducible first | exact HB.out | apply below_alloc | apply pw_below_drewN | apply below_drew1) | exact HB.out))) : w.heap.size ≤ gb215)); clear HB; have HB := n0_; have BK215 := n1_; have GW215 := n2_; have GE215 := n3_; clear n0_ n1_ n2_ n3_; clear hb hbox hg; have hcz19_0 : w18.cell? ⟨gb215, 0, none⟩ = some (.int .i64 a0_0) := (blk_cell BK215.out 0).trans rfl; have hcz19_1 : w18.cell? ⟨gb215, 1, none⟩ = some (.string a0_1) := (blk_cell BK215.out 1).trans rfl; have hcz19_2 : w18.cell? ⟨gb215, 2, none⟩ = some (.string a0_2) := (blk_cell BK215.out 2).trans rfl; have hcz19_3 : w18.cell? ⟨gb215, 3, none⟩ = some (.slice A0_3 l0_3.length c0_3) := (blk_cell BK215.out 3).trans rfl; have hcz19_4 : w18.cell? ⟨gb215, 4, none⟩ = some (.string a0_4) := (blk_cell BK215.out 4).trans rfl; have hcz19_5 : w18.cell? ⟨gb215, 5, none⟩ = some (.slice A0_5 l0_5.length c0_5) := (blk_cell BK215.out 5).trans rfl; have hcz19_6 : w18.cell? ⟨gb215, 6, none⟩ = some (.slice A0_6 l0_6.length c0_6) := (blk_cell BK215.out 6).trans rfl; have hcz19_7 : w18.cell? ⟨gb215, 7, none⟩ = some (.slice A0_7 l0_7.length c0_7) := (blk_cell BK215.out 7).trans rfl; have hcz19_8 : w18.cell? ⟨gb215, 8, none⟩ = some (.slice A0_8 l0_8.length c0_8) := (blk_cell BK215.out 8).trans rfl; have hcz19_9 : w18.cell? ⟨gb215, 9, none⟩ = some (.slice A0_9 l0_9.length c0_9) := (blk_cell BK215.out 9).trans rfl; have hcz19_10 : w18.cell? ⟨gb215, 10, none⟩ = some (.slice A0_10 l0_10.length c0_10) := (blk_cell BK215.out 10).trans rfl; have hcz19_11 : w18.cell? ⟨gb215, 11, none⟩ = some (.slice A0_11 l0_11.length c0_11) := (blk_cell BK215.out 11).trans rfl; have hcz19_12 : w18.cell? ⟨gb215, 12, none⟩ = some (.int .i64 a0_12) := (blk_cell BK215.out 12).trans rfl; have hcz19_13 : w18.cell? ⟨gb215, 13, none⟩ = some (.slice A0_13 l0_13.length c0_13) := (blk_cell BK215.out 13).trans rfl; have hcz19_14 : w18.cell? ⟨gb215, 14, none⟩ = some (.slice A0_14 l0_14.length c0_14) := (blk_cell BK215.out 14).trans rfl; have hcz19_15 : w18.cell? ⟨gb215, 15, none⟩ = some (.int .i64 a0_15) := (blk_cell BK215.out 15).trans rfl; have hcz19_16 : w18.cell? ⟨gb215, 16, none⟩ = some (.string a0_16) := (blk_cell BK215.out 16).trans rfl; have hcz19_17 : w18.cell? ⟨gb215, 17, none⟩ = some (.int .i64 a0_17) := (blk_cell BK215.out 17).trans rfl; have hcz19_18 : w18.cell? ⟨gb215, 18, none⟩ = some (.int .i64 a0_18) := (blk_cell BK215.out 18).trans rfl; have hcz19_19 : w18.cell? ⟨gb215, 19, none⟩ = some (.string a0_19) := (blk_cell BK215.out 19).trans rfl; have hcz19_20 : w18.cell? ⟨gb215, 20, none⟩ = some (.int .i64 a0_20) := (blk_cell BK215.out 20).trans rfl; have hfz19_0 := blk_frozen BK215.out 0; have hfz19_1 := blk_frozen BK215.out 1; have hfz19_2 := blk_frozen BK215.out 2; have hfz19_3 := blk_frozen BK215.out 3; have hfz19_4 := blk_frozen BK215.out 4; have hfz19_5 := blk_frozen BK215.out 5; have hfz19_6 := blk_frozen BK215.out 6; have hfz19_7 := blk_frozen BK215.out 7; have hfz19_8 := blk_frozen BK215.out 8; have hfz19_9 := blk_frozen BK215.out 9; have hfz19_10 := blk_frozen BK215.out 10; have hfz19_11 := blk_frozen BK215.out 11; have hfz19_12 := blk_frozen BK215.out 12; have hfz19_13 := blk_frozen BK215.out 13; have hfz19_14 := blk_frozen BK215.out 14; have hfz19_15 := blk_frozen BK215.out 15; have hfz19_16 := blk_frozen BK215.out 16; have hfz19_17 := blk_frozen BK215.out 17; have hfz19_18 := blk_frozen BK215.out 18; have hfz19_19 := blk_frozen BK215.out 19; have hfz19_20 := blk_frozen BK215.out 20))
                  go_ret
                  exact ⟨by first | rfl | (simp [errW_none, errW_some] <;> rfl) | (simp [*, errW_none, errW_some] <;> rfl), by repeat (first | (with_reducible first | exact HB.out | apply below_alloc | apply pw_below_drewN | apply below_drew1 | refine below_set ?_ GE215.out) | exact HB.out)⟩
              · rw [if_neg c8] at H
                have c8b0 : (a0_12 == 0) = false := beq_eq_false_iff_ne.mpr c8
                have c8b1 : (a0_12 != 0) = true := bne_iff_ne.mpr c8
                obtain rfl := Option.some.inj H
                go_enter Try.func45, Try.ntmps45
                go_wp2_with (first | ((with_reducible refine gate_dst (N := 1) rfl ?_); refine box_event ?hg (N := 1) ?hd (cs := #[.int .i64 a0_0, .string a0_1, .string a0_2, .slice A0_3 l0_3.length c0_3, .string a0_4, .slice A0_5 l0_5.length c0_5, .slice A0_6 l0_6.length c0_6, .slice A0_7 l0_7.length c0_7, .slice A0_8 l0_8.length c0_8, .slice A0_9 l0_9.length c0_9, .slice A0_10 l0_10.length c0_10, .slice A0_11 l0_11.length c0_11, .int .i64 a0_12, .slice A0_13 l0_13.length c0_13, .slice A0_14 l0_14.length c0_14, .int .i64 a0_15, .string a0_16, .int .i64 a0_17, .int .i64 a0_18, .string a0_19, .int .i64 a0_20]) (t := 49) ?hr ?_; (case hd => rfl); (case hg => rfl); (case hr => first | (go_simp; done) | (go_simp; rfl)); intro gb215 hg w20 hbox hb; have n0_ := Aside0.mk (below_step (by repeat (first | (with_reducible first | exact HB.out | apply below_alloc | apply pw_below_drewN | apply below_drew1) | exact HB.out)) hb); have n1_ := Aside0.mk (hbox); have n2_ := Aside0.mk ((by rw [hg]; exact (below_size (by repeat (first | (with_reducible first | exact HB.out | apply below_alloc | apply pw_below_drewN | apply below_drew1) | exact HB.out))) : w.heap.size ≤ gb215)); have n3_ := Aside0.mk ((by rw [hg]; exact (below_size (by repeat (first | (with_reducible first | exact HB.out | apply below_alloc | apply pw_below_drewN | apply below_drew1) | exact HB.out))) : w.heap.size ≤ gb215)); clear HB; have HB := n0_; have BK215 := n1_; have GW215 := n2_; have GE215 := n3_; clear n0_ n1_ n2_ n3_; clear hb hbox hg; have hcz21_0 : w20.cell? ⟨gb215, 0, none⟩ = some (.int .i64 a0_0) := (blk_cell BK215.out 0).trans rfl; have hcz21_1 : w20.cell? ⟨gb215, 1, none⟩ = some (.string a0_1) := (blk_cell BK215.out 1).trans rfl; have hcz21_2 : w20.cell? ⟨gb215, 2, none⟩ = some (.string a0_2) := (blk_cell BK215.out 2).trans rfl; have hcz21_3 : w20.cell? ⟨gb215, 3, none⟩ = some (.slice A0_3 l0_3.length c0_3) := (blk_cell BK215.out 3).trans rfl; have hcz21_4 : w20.cell? ⟨gb215, 4, none⟩ = some (.string a0_4) := (blk_cell BK215.out 4).trans rfl; have hcz21_5 : w20.cell? ⟨gb215, 5, none⟩ = some (.slice A0_5 l0_5.length c0_5) := (blk_cell BK215.out 5).trans rfl; have hcz21_6 : w20.cell? ⟨gb215, 6, none⟩ = some (.slice A0_6 l0_6.length c0_6) := (blk_cell BK215.out 6).trans rfl; have hcz21_7 : w20.cell? ⟨gb215, 7, none⟩ = some (.slice A0_7 l0_7.length c0_7) := (blk_cell BK215.out 7).trans rfl; have hcz21_8 : w20.cell? ⟨gb215, 8, none⟩ = some (.slice A0_8 l0_8.length c0_8) := (blk_cell BK215.out 8).trans rfl; have hcz21_9 : w20.cell? ⟨gb215, 9, none⟩ = some (.slice A0_9 l0_9.length c0_9) := (blk_cell BK215.out 9).trans rfl; have hcz21_10 : w20.cell? ⟨gb215, 10, none⟩ = some (.slice A0_10 l0_10.length c0_10) := (blk_cell BK215.out 10).trans rfl; have hcz21_11 : w20.cell? ⟨gb215, 11, none⟩ = some (.slice A0_11 l0_11.length c0_11) := (blk_cell BK215.out 11).trans rfl; have hcz21_12 : w20.cell? ⟨gb215, 12, none⟩ = some (.int .i64 a0_12) := (blk_cell BK215.out 12).trans rfl; have hcz21_13 : w20.cell? ⟨gb215, 13, none⟩ = some (.slice A0_13 l0_13.length c0_13) := (blk_cell BK215.out 13).trans rfl; have hcz21_14 : w20.cell? ⟨gb215, 14, none⟩ = some (.slice A0_14 l0_14.length c0_14) := (blk_cell BK215.out 14).trans rfl; have hcz21_15 : w20.cell? ⟨gb215, 15, none⟩ = some (.int .i64 a0_15) := (blk_cell BK215.out 15).trans rfl; have hcz21_16 : w20.cell? ⟨gb215, 16, none⟩ = some (.string a0_16) := (blk_cell BK215.out 16).trans rfl; have hcz21_17 : w20.cell? ⟨gb215, 17, none⟩ = some (.int .i64 a0_17) := (blk_cell BK215.out 17).trans rfl; have hcz21_18 : w20.cell? ⟨gb215, 18, none⟩ = some (.int .i64 a0_18) := (blk_cell BK215.out 18).trans rfl; have hcz21_19 : w20.cell? ⟨gb215, 19, none⟩ = some (.string a0_19) := (blk_cell BK215.out 19).trans rfl; have hcz21_20 : w20.cell? ⟨gb215, 20, none⟩ = some (.int .i64 a0_20) := (blk_cell BK215.out 20).trans rfl; have hfz21_0 := blk_frozen BK215.out 0; have hfz21_1 := blk_frozen BK215.out 1; have hfz21_2 := blk_frozen BK215.out 2; have hfz21_3 := blk_frozen BK215.out 3; have hfz21_4 := blk_frozen BK215.out 4; have hfz21_5 := blk_frozen BK215.out 5; have hfz21_6 := blk_frozen BK215.out 6; have hfz21_7 := blk_frozen BK215.out 7; have hfz21_8 := blk_frozen BK215.out 8; have hfz21_9 := blk_frozen BK215.out 9; have hfz21_10 := blk_frozen BK215.out 10; have hfz21_11 := blk_frozen BK215.out 11; have hfz21_12 := blk_frozen BK215.out 12; have hfz21_13 := blk_frozen BK215.out 13; have hfz21_14 := blk_frozen BK215.out 14; have hfz21_15 := blk_frozen BK215.out 15; have hfz21_16 := blk_frozen BK215.out 16; have hfz21_17 := blk_frozen BK215.out 17; have hfz21_18 := blk_frozen BK215.out 18; have hfz21_19 := blk_frozen BK215.out 19; have hfz21_20 := blk_frozen BK215.out 20))
                go_ret
                exact ⟨by first | rfl | (simp [errW_none, errW_some] <;> rfl) | (simp [*, errW_none, errW_some] <;> rfl), by repeat (first | (with_reducible first | exact HB.out | apply below_alloc | apply pw_below_drewN | apply below_drew1 | refine below_set ?_ GE215.out) | exact HB.out)⟩
            · rw [if_neg c7] at H
              have c7b0 : ((wrap64 ((wrap64 ((wrap64 ((wrap64 ((wrap64 ((wrap64 ((wrap64 ((wrap64 ((wrap64 ((l0_3.length : Int) + (l0_5.length : Int))) + (l0_6.length : Int))) + (l0_7.length : Int))) + (l0_8.length : Int))) + (l0_9.length : Int))) + (l0_10.length : Int))) + (l0_11.length : Int))) + (l0_13.length : Int))) + (l0_14.length : Int))) == 0) = false := beq_eq_false_iff_ne.mpr c7
              have c7b1 : ((wrap64 ((wrap64 ((wrap64 ((wrap64 ((wrap64 ((wrap64 ((wrap64 ((wrap64 ((wrap64 ((l0_3.length : Int) + (l0_5.length : Int))) + (l0_6.length : Int))) + (l0_7.length : Int))) + (l0_8.length : Int))) + (l0_9.length : Int))) + (l0_10.length : Int))) + (l0_11.length : Int))) + (l0_13.length : Int))) + (l0_14.length : Int))) != 0) = true := bne_iff_ne.mpr c7
              obtain rfl := Option.some.inj H
              go_enter Try.func45, Try.ntmps45
              go_wp2_with (first | ((with_reducible refine gate_dst (N := 1) rfl ?_); refine box_event ?hg (N := 1) ?hd (cs := #[.int .i64 a0_0, .string a0_1, .string a0_2, .slice A0_3 l0_3.length c0_3, .string a0_4, .slice A0_5 l0_5.length c0_5, .slice A0_6 l0_6.length c0_6, .slice A0_7 l0_7.length c0_7, .slice A0_8 l0_8.length c0_8, .slice A0_9 l0_9.length c0_9, .slice A0_10 l0_10.length c0_10, .slice A0_11 l0_11.length c0_11, .int .i64 a0_12, .slice A0_13 l0_13.length c0_13, .slice A0_14 l0_14.length c0_14, .int .i64 a0_15, .string a0_16, .int .i64 a0_17, .int .i64 a0_18, .string a0_19, .int .i64 a0_20]) (t := 49) ?hr ?_; (case hd => rfl); (case hg => rfl); (case hr => first | (go_simp; done) | (go_simp; rfl)); intro gb215 hg w22 hbox hb; have n0_ := Aside0.mk (below_step (by repeat (first | (with_reducible first | exact HB.out | apply below_alloc | apply pw_below_drewN | apply below_drew1) | exact HB.out)) hb); have n1_ := Aside0.mk (hbox); have n2_ := Aside0.mk ((by rw [hg]; exact (below_size (by repeat (first | (with_reducible first | exact HB.out | apply below_alloc | apply pw_below_drewN | apply below_drew1) | exact HB.out))) : w.heap.size ≤ gb215)); have n3_ := Aside0.mk ((by rw [hg]; exact (below_size (by repeat (first | (with_reducible first | exact HB.out | apply below_alloc | apply pw_below_drewN | apply below_drew1) | exact HB.out))) : w.heap.size ≤ gb215)); clear HB; have HB := n0_; have BK215 := n1_; have GW215 := n2_; have GE215 := n3_; clear n0_ n1_ n2_ n3_; clear hb hbox hg; have hcz23_0 : w22.cell? ⟨gb215, 0, none⟩ = some (.int .i64 a0_0) := (blk_cell BK215.out 0).trans rfl; have hcz23_1 : w22.cell? ⟨gb215, 1, none⟩ = some (.string a0_1) := (blk_cell BK215.out 1).trans rfl; have hcz23_2 : w22.cell? ⟨gb215, 2, none⟩ = some (.string a0_2) := (blk_cell BK215.out 2).trans rfl; have hcz23_3 : w22.cell? ⟨gb215, 3, none⟩ = some (.slice A0_3 l0_3.length c0_3) := (blk_cell BK215.out 3).trans rfl; have hcz23_4 : w22.cell? ⟨gb215, 4, none⟩ = some (.string a0_4) := (blk_cell BK215.out 4).trans rfl; have hcz23_5 : w22.cell? ⟨gb215, 5, none⟩ = some (.slice A0_5 l0_5.length c0_5) := (blk_cell BK215.out 5).trans rfl; have hcz23_6 : w22.cell? ⟨gb215, 6, none⟩ = some (.slice A0_6 l0_6.length c0_6) := (blk_cell BK215.out 6).trans rfl; have hcz23_7 : w22.cell? ⟨gb215, 7, none⟩ = some (.slice A0_7 l0_7.length c0_7) := (blk_cell BK215.out 7).trans rfl; have hcz23_8 : w22.cell? ⟨gb215, 8, none⟩ = some (.slice A0_8 l0_8.length c0_8) := (blk_cell BK215.out 8).trans rfl; have hcz23_9 : w22.cell? ⟨gb215, 9, none⟩ = some (.slice A0_9 l0_9.length c0_9) := (blk_cell BK215.out 9).trans rfl; have hcz23_10 : w22.cell? ⟨gb215, 10, none⟩ = some (.slice A0_10 l0_10.length c0_10) := (blk_cell BK215.out 10).trans rfl; have hcz23_11 : w22.cell? ⟨gb215, 11, none⟩ = some (.slice A0_11 l0_11.length c0_11) := (blk_cell BK215.out 11).trans rfl; have hcz23_12 : w22.cell? ⟨gb215, 12, none⟩ = some (.int .i64 a0_12) := (blk_cell BK215.out 12).trans rfl; have hcz23_13 : w22.cell? ⟨gb215, 13, none⟩ = some (.slice A0_13 l0_13.length c0_13) := (blk_cell BK215.out 13).trans rfl; have hcz23_14 : w22.cell? ⟨gb215, 14, none⟩ = some (.slice A0_14 l0_14.length c0_14) := (blk_cell BK215.out 14).trans rfl; have hcz23_15 : w22.cell? ⟨gb215, 15, none⟩ = some (.int .i64 a0_15) := (blk_cell BK215.out 15).trans rfl; have hcz23_16 : w22.cell? ⟨gb215, 16, none⟩ = some (.string a0_16) := (blk_cell BK215.out 16).trans rfl; have hcz23_17 : w22.cell? ⟨gb215, 17, none⟩ = some (.int .i64 a0_17) := (blk_cell BK215.out 17).trans rfl; have hcz23_18 : w22.cell? ⟨gb215, 18, none⟩ = some (.int .i64 a0_18) := (blk_cell BK215.out 18).trans rfl; have hcz23_19 : w22.cell? ⟨gb215, 19, none⟩ = some (.string a0_19) := (blk_cell BK215.out 19).trans rfl; have hcz23_20 : w22.cell? ⟨gb215, 20, none⟩ = some (.int .i64 a0_20) := (blk_cell BK215.out 20).trans rfl; have hfz23_0 := blk_frozen BK215.out 0; have hfz23_1 := blk_frozen BK215.out 1; have hfz23_2 := blk_frozen BK215.out 2; have hfz23_3 := blk_frozen BK215.out 3; have hfz23_4 := blk_frozen BK215.out 4; have hfz23_5 := blk_frozen BK215.out 5; have hfz23_6 := blk_frozen BK215.out 6; have hfz23_7 := blk_frozen BK215.out 7; have hfz23_8 := blk_frozen BK215.out 8; have hfz23_9 := blk_frozen BK215.out 9; have hfz23_10 := blk_frozen BK215.out 10; have hfz23_11 := blk_frozen BK215.out 11; have hfz23_12 := blk_frozen BK215.out 12; have hfz23_13 := blk_frozen BK215.out 13; have hfz23_14 := blk_frozen BK215.out 14; have hfz23_15 := blk_frozen BK215.out 15; have hfz23_16 := blk_frozen BK215.out 16; have hfz23_17 := blk_frozen BK215.out 17; have hfz23_18 := blk_frozen BK215.out 18; have hfz23_19 := blk_frozen BK215.out 19; have hfz23_20 := blk_frozen BK215.out 20))
              go_ret
              exact ⟨by first | rfl | (simp [errW_none, errW_some] <;> rfl) | (simp [*, errW_none, errW_some] <;> rfl), by repeat (first | (with_reducible first | exact HB.out | apply below_alloc | apply pw_below_drewN | apply below_drew1 | refine below_set ?_ GE215.out) | exact HB.out)⟩
          · rw [if_neg c6] at H
            have c6b0 : (ys219.toList == ([] : List UInt8)) = false := beq_eq_false_iff_ne.mpr c6
            have c6b1 : (ys219.toList != ([] : List UInt8)) = true := bne_iff_ne.mpr c6
            obtain rfl := Option.some.inj H
            go_enter Try.func45, Try.ntmps45
            go_wp2_with (first | ((with_reducible refine gate_dst (N := 1) rfl ?_); refine box_event ?hg (N := 1) ?hd (cs := #[.int .i64 a0_0, .string a0_1, .string a0_2, .slice A0_3 l0_3.length c0_3, .string a0_4, .slice A0_5 l0_5.length c0_5, .slice A0_6 l0_6.length c0_6, .slice A0_7 l0_7.length c0_7, .slice A0_8 l0_8.length c0_8, .slice A0_9 l0_9.length c0_9, .slice A0_10 l0_10.length c0_10, .slice A0_11 l0_11.length c0_11, .int .i64 a0_12, .slice A0_13 l0_13.length c0_13, .slice A0_14 l0_14.length c0_14, .int .i64 a0_15, .string a0_16, .int .i64 a0_17, .int .i64 a0_18, .string a0_19, .int .i64 a0_20]) (t := 49) ?hr ?_; (case hd => rfl); (case hg => rfl); (case hr => first | (go_simp; done) | (go_simp; rfl)); intro gb215 hg w24 hbox hb; have n0_ := Aside0.mk (below_step (by repeat (first | (with_reducible first | exact HB.out | apply below_alloc | apply pw_below_drewN | apply below_drew1) | exact HB.out)) hb); have n1_ := Aside0.mk (hbox); have n2_ := Aside0.mk ((by rw [hg]; exact (below_size (by repeat (first | (with_reducible first | exact HB.out | apply below_alloc | apply pw_below_drewN | apply below_drew1) | exact HB.out))) : w.heap.size ≤ gb215)); have n3_ := Aside0.mk ((by rw [hg]; exact (below_size (by repeat (first | (with_reducible first | exact HB.out | apply below_alloc | apply pw_below_drewN | apply below_drew1) | exact HB.out))) : w.heap.size ≤ gb215)); clear HB; have HB := n0_; have BK215 := n1_; have GW215 := n2_; have GE215 := n3_; clear n0_ n1_ n2_ n3_; clear hb hbox hg; have hcz25_0 : w24.cell? ⟨gb215, 0, none⟩ = some (.int .i64 a0_0) := (blk_cell BK215.out 0).trans rfl; have hcz25_1 : w24.cell? ⟨gb215, 1, none⟩ = some (.string a0_1) := (blk_cell BK215.out 1).trans rfl; have hcz25_2 : w24.cell? ⟨gb215, 2, none⟩ = some (.string a0_2) := (blk_cell BK215.out 2).trans rfl; have hcz25_3 : w24.cell? ⟨gb215, 3, none⟩ = some (.slice A0_3 l0_3.length c0_3) := (blk_cell BK215.out 3).trans rfl; have hcz25_4 : w24.cell? ⟨gb215, 4, none⟩ = some (.string a0_4) := (blk_cell BK215.out 4).trans rfl; have hcz25_5 : w24.cell? ⟨gb215, 5, none⟩ = some (.slice A0_5 l0_5.length c0_5) := (blk_cell BK215.out 5).trans rfl; have hcz25_6 : w24.cell? ⟨gb215, 6, none⟩ = some (.slice A0_6 l0_6.length c0_6) := (blk_cell BK215.out 6).trans rfl; have hcz25_7 : w24.cell? ⟨gb215, 7, none⟩ = some (.slice A0_7 l0_7.length c0_7) := (blk_cell BK215.out 7).trans rfl; have hcz25_8 : w24.cell? ⟨gb215, 8, none⟩ = some (.slice A0_8 l0_8.length c0_8) := (blk_cell BK215.out 8).trans rfl; have hcz25_9 : w24.cell? ⟨gb215, 9, none⟩ = some (.slice A0_9 l0_9.length c0_9) := (blk_cell BK215.out 9).trans rfl; have hcz25_10 : w24.cell? ⟨gb215, 10, none⟩ = some (.slice A0_10 l0_10.length c0_10) := (blk_cell BK215.out 10).trans rfl; have hcz25_11 : w24.cell? ⟨gb215, 11, none⟩ = some (.slice A0_11 l0_11.length c0_11) := (blk_cell BK215.out 11).trans rfl; have hcz25_12 : w24.cell? ⟨gb215, 12, none⟩ = some (.int .i64 a0_12) := (blk_cell BK215.out 12).trans rfl; have hcz25_13 : w24.cell? ⟨gb215, 13, none⟩ = some (.slice A0_13 l0_13.length c0_13) := (blk_cell BK215.out 13).trans rfl; have hcz25_14 : w24.cell? ⟨gb215, 14, none⟩ = some (.slice A0_14 l0_14.length c0_14) := (blk_cell BK215.out 14).trans rfl; have hcz25_15 : w24.cell? ⟨gb215, 15, none⟩ = some (.int .i64 a0_15) := (blk_cell BK215.out 15).trans rfl; have hcz25_16 : w24.cell? ⟨gb215, 16, none⟩ = some (.string a0_16) := (blk_cell BK215.out 16).trans rfl; have hcz25_17 : w24.cell? ⟨gb215, 17, none⟩ = some (.int .i64 a0_17) := (blk_cell BK215.out 17).trans rfl; have hcz25_18 : w24.cell? ⟨gb215, 18, none⟩ = some (.int .i64 a0_18) := (blk_cell BK215.out 18).trans rfl; have hcz25_19 : w24.cell? ⟨gb215, 19, none⟩ = some (.string a0_19) := (blk_cell BK215.out 19).trans rfl; have hcz25_20 : w24.cell? ⟨gb215, 20, none⟩ = some (.int .i64 a0_20) := (blk_cell BK215.out 20).trans rfl; have hfz25_0 := blk_frozen BK215.out 0; have hfz25_1 := blk_frozen BK215.out 1; have hfz25_2 := blk_frozen BK215.out 2; have hfz25_3 := blk_frozen BK215.out 3; have hfz25_4 := blk_frozen BK215.out 4; have hfz25_5 := blk_frozen BK215.out 5; have hfz25_6 := blk_frozen BK215.out 6; have hfz25_7 := blk_frozen BK215.out 7; have hfz25_8 := blk_frozen BK215.out 8; have hfz25_9 := blk_frozen BK215.out 9; have hfz25_10 := blk_frozen BK215.out 10; have hfz25_11 := blk_frozen BK215.out 11; have hfz25_12 := blk_frozen BK215.out 12; have hfz25_13 := blk_frozen BK215.out 13; have hfz25_14 := blk_frozen BK215.out 14; have hfz25_15 := blk_frozen BK215.out 15; have hfz25_16 := blk_frozen BK215.out 16; have hfz25_17 := blk_frozen BK215.out 17; have hfz25_18 := blk_frozen BK215.out 18; have hfz25_19 := blk_frozen BK215.out 19; have hfz25_20 := blk_frozen BK215.out 20))
            go_ret
            exact ⟨by first | rfl | (simp [errW_none, errW_some] <;> rfl) | (simp [*, errW_none, errW_some] <;> rfl), by repeat (first | (with_reducible first | exact HB.out | apply below_alloc | apply pw_below_drewN | apply below_drew1 | refine below_set ?_ GE215.out) | exact HB.out)⟩
        · rw [if_neg c5] at H
          exact absurd H (by simp)
      · rw [if_neg c4] at H
        exact absurd H (by simp)
    · rw [if_neg c3] at H
      exact absurd H (by simp)
  · rw [if_neg c2] at H
    exact absurd H (by simp)
def wire_U24.f (k : Nat) (a0 : ByteArray) (a1 : Int) : Option (Int × Int × Int) := (wire_number.f k a0 a1 3).bind fun bt225 => (some (bt225.1, bt225.2.1, bt225.2.2))
theorem wire_U24.mono : ∀ a0 a1 k, LeO (wire_U24.f k a0 a1) (wire_U24.f (k + 1) a0 a1) := by
  intro a0 a1 k
  unfold wire_U24.f
  repeat' first
      | (with_reducible exact wire_number.mono _ _ _ _)
      | (with_reducible exact LeO.refl _)
      | (with_reducible exact LeO.none _)
      | (with_reducible refine LeO.ite ?_ ?_)
      | (with_reducible refine LeO.bind ?_ (fun _ => ?_))
      | exact wire_number.mono _ _ _ _
      | exact LeO.none _
      | refine LeO.ite ?_ ?_
      | refine LeO.bind ?_ (fun _ => ?_)
set_option maxHeartbeats 8000000 in
set_option maxRecDepth 100000 in
theorem wire_U24.calls (k : Nat) (a0 : ByteArray) (a1 : Int) (r1 : Int) (r2 : Int) (r3 : Int) (w : World) (h : wire_U24.f k a0 a1 = some (r1, r2, r3)) :
    Calls Try.prog 48 #[.string a0, .int .i64 a1] w fun e w' => e = .returned (.tuple #[.int .i64 r1, .int .i64 r2, .int .i64 r3]) ∧ Drawn0 w w' := by
  have H : ((wire_number.f k a0 a1 3).bind fun bt225 => (some (bt225.1, bt225.2.1, bt225.2.2))) = some (r1, r2, r3) := h
  clear h
  replace H := Option.bind_eq_some_iff.mp H
  obtain ⟨⟨t225, t226, t227⟩, A30, H⟩ := H
  replace H : (some (t225, t226, t227)) = some (r1, r2, r3) := H
  have A3 := Aside0.mk A30
  clear A30
  simp only [Option.some.injEq, Prod.mk.injEq] at H
  obtain ⟨rfl, rfl, rfl⟩ := H
  go_enter Try.func48, Try.ntmps48
  go_wp2_with (first | ((with_reducible refine gate_callee (f := 54) rfl ?_); refine goesL_ (some 9) rfl rfl Try.func54 (by kernel_rfl) rfl #[.string a0, .int .i64 a1, .int .i64 3] rfl (by (try simp only [List.map_toArray, List.map_cons, List.map_nil]); first | done | rfl | (simp only [List.length_drop, List.length_take]; rfl)) ?_; (with_reducible refine (wire_number.calls k a0 a1 3 t225 t226 t227 _ A3.out).mono ?_); rintro e w' ⟨rfl, ⟨nd, rfl⟩⟩; refine ⟨_, rfl, ?_⟩))
  go_ret3
  exact ⟨by first | rfl | (simp; done) | (simp [*]; done), by repeat (first | exact Drawn0.refl _ | apply Drawn0.step)⟩
def wire_U8.f (k : Nat) (a0 : ByteArray) (a1 : Int) : Option (Int × Int × Int) := (wire_number.f k a0 a1 1).bind fun bt228 => (some (bt228.1, bt228.2.1, bt228.2.2))
theorem wire_U8.mono : ∀ a0 a1 k, LeO (wire_U8.f k a0 a1) (wire_U8.f (k + 1) a0 a1) := by
  intro a0 a1 k
  unfold wire_U8.f
  repeat' first
      | (with_reducible exact wire_number.mono _ _ _ _)
      | (with_reducible exact LeO.refl _)
      | (with_reducible exact LeO.none _)
      | (with_reducible refine LeO.ite ?_ ?_)
      | (with_reducible refine LeO.bind ?_ (fun _ => ?_))
      | exact wire_number.mono _ _ _ _
      | exact LeO.none _
      | refine LeO.ite ?_ ?_
      | refine LeO.bind ?_ (fun _ => ?_)
set_option maxHeartbeats 8000000 in
set_option maxRecDepth 100000 in
theorem wire_U8.calls (k : Nat) (a0 : ByteArray) (a1 : Int) (r1 : Int) (r2 : Int) (r3 : Int) (w : World) (h : wire_U8.f k a0 a1 = some (r1, r2, r3)) :
    Calls Try.prog 105 #[.string a0, .int .i64 a1] w fun e w' => e = .returned (.tuple #[.int .i64 r1, .int .i64 r2, .int .i64 r3]) ∧ Drawn0 w w' := by
  have H : ((wire_number.f k a0 a1 1).bind fun bt228 => (some (bt228.1, bt228.2.1, bt228.2.2))) = some (r1, r2, r3) := h
  clear h
  replace H := Option.bind_eq_some_iff.mp H
  obtain ⟨⟨t228, t229, t230⟩, A30, H⟩ := H
  replace H : (some (t228, t229, t230)) = some (r1, r2, r3) := H
  have A3 := Aside0.mk A30
  clear A30
  simp only [Option.some.injEq, Prod.mk.injEq] at H
  obtain ⟨rfl, rfl, rfl⟩ := H
  go_enter Try.func105, Try.ntmps105
  go_wp2_with (first | ((with_reducible refine gate_callee (f := 54) rfl ?_); refine goesL_ (some 9) rfl rfl Try.func54 (by kernel_rfl) rfl #[.string a0, .int .i64 a1, .int .i64 1] rfl (by (try simp only [List.map_toArray, List.map_cons, List.map_nil]); first | done | rfl | (simp only [List.length_drop, List.length_take]; rfl)) ?_; (with_reducible refine (wire_number.calls k a0 a1 1 t228 t229 t230 _ A3.out).mono ?_); rintro e w' ⟨rfl, ⟨nd, rfl⟩⟩; refine ⟨_, rfl, ?_⟩))
  go_ret3
  exact ⟨by first | rfl | (simp; done) | (simp [*]; done), by repeat (first | exact Drawn0.refl _ | apply Drawn0.step)⟩
def halberdlaw0_SameInts.l0 : Nat → List Int → List Int → Int → Option (Bool)
  | 0, _, _, _ => none
  | k + 1, x0, x1, x5 => if x5 < (x0.length : Int) then (if 0 ≤ x5 then (if x5 < (x1.length : Int) then (if (rd x0 x5) = (rd x1 x5) then (halberdlaw0_SameInts.l0 k x0 x1 (wrap64 (x5 + 1))) else (some false)) else (none)) else (none)) else (some true)
def halberdlaw0_SameInts.f (k : Nat) (l0 : List Int) (l1 : List Int) : Option (Bool) := if (l0.length : Int) = (l1.length : Int) then (halberdlaw0_SameInts.l0 k l0 l1 0) else (some false)
theorem halberdlaw0_SameInts.mono_l : ∀ k, (∀ y0 y1 y2, LeO (halberdlaw0_SameInts.l0 k y0 y1 y2) (halberdlaw0_SameInts.l0 (k + 1) y0 y1 y2))
  | 0 => fun _ _ _ r h => by simp [halberdlaw0_SameInts.l0] at h
  | k + 1 => by
    have ih0 := halberdlaw0_SameInts.mono_l k
    · intro y0 y1 y2
      unfold halberdlaw0_SameInts.l0
      repeat' first
      | (with_reducible exact ih0 _ _ _)
      | (with_reducible exact LeO.refl _)
      | (with_reducible exact LeO.none _)
      | (with_reducible refine LeO.ite ?_ ?_)
      | (with_reducible refine LeO.bind ?_ (fun _ => ?_))
      | exact ih0 _ _ _
      | exact LeO.none _
      | refine LeO.ite ?_ ?_
      | refine LeO.bind ?_ (fun _ => ?_)
theorem halberdlaw0_SameInts.mono : ∀ a0 a1 k, LeO (halberdlaw0_SameInts.f k a0 a1) (halberdlaw0_SameInts.f (k + 1) a0 a1) := by
  intro a0 a1 k
  have ih0 := halberdlaw0_SameInts.mono_l k
  unfold halberdlaw0_SameInts.f
  repeat' first
      | (with_reducible exact ih0 _ _ _)
      | (with_reducible exact LeO.refl _)
      | (with_reducible exact LeO.none _)
      | (with_reducible refine LeO.ite ?_ ?_)
      | (with_reducible refine LeO.bind ?_ (fun _ => ?_))
      | exact ih0 _ _ _
      | exact LeO.none _
      | refine LeO.ite ?_ ?_
      | refine LeO.bind ?_ (fun _ => ?_)
set_option maxHeartbeats 8000000 in
set_option maxRecDepth 100000 in
theorem halberdlaw0_SameInts.calls (k : Nat) (A0 : Option Addr) (c0 : Nat) (l0 : List Int) (A1 : Option Addr) (c1 : Nat) (l1 : List Int) (r : Bool) (w : World) (hr0 : Kd.C (Kd.int .i64) w A0 l0.length l0) (hc0 : l0.length ≤ c0) (hr1 : Kd.C (Kd.int .i64) w A1 l1.length l1) (hc1 : l1.length ≤ c1) (h : halberdlaw0_SameInts.f k l0 l1 = some r) :
    Calls Try.prog 31 #[.slice A0 l0.length c0, .slice A1 l1.length c1] w fun e w' => e = .returned (.bool r) ∧ Drawn0 w w' := by
  have HR0 := Aside0.mk hr0
  have HC0 := Aside0.mk hc0
  clear hr0 hc0
  have HR1 := Aside0.mk hr1
  have HC1 := Aside0.mk hc1
  clear hr1 hc1
  have H : (if (l0.length : Int) = (l1.length : Int) then (halberdlaw0_SameInts.l0 k l0 l1 0) else (some false)) = some r := h
  clear h
  by_cases c3 : (l0.length : Int) = (l1.length : Int)
  · rw [if_pos c3] at H
    have c3b0 : ((l0.length : Int) == (l1.length : Int)) = true := beq_iff_eq.mpr c3
    have c3b1 : ((l0.length : Int) != (l1.length : Int)) = false := bne_eq_false_iff_eq.mpr c3
    have c3b2 : (l0.length == l1.length) = true := by first | simpa using c3 | (simp at c3 ⊢; omega)
    clear c3
    have H' := Aside0.mk H
    clear H
    go_enter Try.func31, Try.ntmps31
    go_wp2
    repeat (go_quiet (fail); try go_wp2)
    go_loopg [5] k (fun kq v5 w' => ∃ (x5_1 : Int), v5 = .int .i64 x5_1 ∧ Aside0 (halberdlaw0_SameInts.l0 kq l0 l1 x5_1 = some r) ∧ Aside0 (kq ≤ k) ∧ Drawn0 w w')
    case atStart => exact ⟨(0), (by first | rfl | (simp; done) | (simp [*]; done)), H', ⟨Nat.le_refl _⟩, by repeat (first | exact Drawn0.refl _ | apply Drawn0.step)⟩
    case round =>
      clear H'
      try clear c1
      try clear p2
      try clear c3
      try clear c3b0
      try clear c3b1
      try clear c3b2
      obtain ⟨x5_1, rfl, HA, HK1, ⟨m1, rfl⟩⟩ := hrel
      cases gk with
      | zero => exact absurd HA.out (by simp [halberdlaw0_SameInts.l0])
      | succ k1 =>
        have H := HA.out
        clear HA
        simp only [halberdlaw0_SameInts.l0] at H
        by_cases c4 : x5_1 < (l0.length : Int)
        · rw [if_pos c4] at H
          have c4b0 : decide (x5_1 < (l0.length : Int)) = true := decide_eq_true c4
          clear c4
          by_cases c5 : 0 ≤ x5_1
          · rw [if_pos c5] at H
            have c5b0 : decide (0 ≤ x5_1) = true := decide_eq_true c5
            clear c5
            by_cases c6 : x5_1 < (l1.length : Int)
            · rw [if_pos c6] at H
              have c6b0 : decide (x5_1 < (l1.length : Int)) = true := decide_eq_true c6
              clear c6
              by_cases c7 : (rd l0 x5_1) = (rd l1 x5_1)
              · rw [if_pos c7] at H
                have c7b0 : ((rd l0 x5_1) == (rd l1 x5_1)) = true := beq_iff_eq.mpr c7
                have c7b1 : ((rd l0 x5_1) != (rd l1 x5_1)) = false := bne_eq_false_iff_eq.mpr c7
                clear c7
                have H' := Aside0.mk H
                clear H
                have p241 : 0 ≤ (x5_1 : Int) := of_decide_eq_true (by first | (with_reducible assumption) | assumption)
                have q241 : x5_1 < (l0.length : Int) := of_decide_eq_true (by first | (with_reducible assumption) | assumption)
                obtain ⟨ad241, e241, hx241_0⟩ := Kd.at_int HR0.out x5_1 p241 q241
                cases e241
                replace p241 := eq_true p241
                replace q241 := eq_true q241
                have p242 : 0 ≤ (x5_1 : Int) := of_decide_eq_true (by first | (with_reducible assumption) | assumption)
                have q242 : x5_1 < (l1.length : Int) := of_decide_eq_true (by first | (with_reducible assumption) | assumption)
                obtain ⟨ad242, e242, hx242_0⟩ := Kd.at_int HR1.out x5_1 p242 q242
                cases e242
                replace p242 := eq_true p242
                replace q242 := eq_true q242
                go_wp2
                repeat (go_quiet (fail); try go_wp2)
                go_roundg k1
                case measure => have := HK1.out; omega
                case rel => exact ⟨(wrap64 (x5_1 + 1)), (by first | rfl | (simp; done) | (simp [*]; done)), H', ⟨by have := HK1.out; omega⟩, by repeat (first | exact Drawn0.refl _ | apply Drawn0.step)⟩
              · rw [if_neg c7] at H
                have c7b0 : ((rd l0 x5_1) == (rd l1 x5_1)) = false := beq_eq_false_iff_ne.mpr c7
                have c7b1 : ((rd l0 x5_1) != (rd l1 x5_1)) = true := bne_iff_ne.mpr c7
                obtain rfl := Option.some.inj H
                have p241 : 0 ≤ (x5_1 : Int) := of_decide_eq_true (by first | (with_reducible assumption) | assumption)
                have q241 : x5_1 < (l0.length : Int) := of_decide_eq_true (by first | (with_reducible assumption) | assumption)
                obtain ⟨ad241, e241, hx241_0⟩ := Kd.at_int HR0.out x5_1 p241 q241
                cases e241
                replace p241 := eq_true p241
                replace q241 := eq_true q241
                have p242 : 0 ≤ (x5_1 : Int) := of_decide_eq_true (by first | (with_reducible assumption) | assumption)
                have q242 : x5_1 < (l1.length : Int) := of_decide_eq_true (by first | (with_reducible assumption) | assumption)
                obtain ⟨ad242, e242, hx242_0⟩ := Kd.at_int HR1.out x5_1 p242 q242
                cases e242
                replace p242 := eq_true p242
                replace q242 := eq_true q242
                go_wp2
                repeat (go_quiet (fail); try go_wp2)
                go_ret
                exact ⟨by first | rfl | (simp; done) | (simp [*]; done), by repeat (first | exact Drawn0.refl _ | apply Drawn0.step)⟩
            · rw [if_neg c6] at H
              exact absurd H (by simp)
          · rw [if_neg c5] at H
            exact absurd H (by simp)
        · rw [if_neg c4] at H
          have c4b0 : decide (x5_1 < (l0.length : Int)) = false := decide_eq_false c4
          clear c4
          obtain rfl := Option.some.inj H
          go_wp2
          repeat (go_quiet (fail); try go_wp2)
          go_ret
          exact ⟨by first | rfl | (simp; done) | (simp [*]; done), by repeat (first | exact Drawn0.refl _ | apply Drawn0.step)⟩
  · rw [if_neg c3] at H
    have c3b0 : ((l0.length : Int) == (l1.length : Int)) = false := beq_eq_false_iff_ne.mpr c3
    have c3b1 : ((l0.length : Int) != (l1.length : Int)) = true := bne_iff_ne.mpr c3
    have c3b2 : (l0.length == l1.length) = false := by first | simpa using c3 | (simp at c3 ⊢; omega)
    obtain rfl := Option.some.inj H
    go_enter Try.func31, Try.ntmps31
    go_wp2
    repeat (go_quiet (fail); try go_wp2)
    go_ret
    exact ⟨by first | rfl | (simp; done) | (simp [*]; done), by repeat (first | exact Drawn0.refl _ | apply Drawn0.step)⟩
end Go.Proofs.Ytlkebjkpmiehcaa.X
end
section
namespace Go.Proofs.Ytlkebjkpmiehcaa.Ms
open Go.RowKit Go.Proofs.YtlkebjkpmiehcaaW.PrintWords Go.Proofs.YtlkebjkpmiehcaaW.PrintLast Go.Proofs.YtlkebjkpmiehcaaW.PrintMore Go.Proofs.Ytlkebjkpmiehcaa.X
set_option linter.unusedVariables false
theorem rcell {W W' : World} {r : Nat} {s : ByteArray} {p : Int} {q : Option Addr} {last : Bool} (h : W.heap[r]? = some (.cells #[.string s, .int .i64 p, .pointer q, .bool last] 92 (0, 0))) (b : Below W.heap.size W W') :
    W'.cell? ⟨r, 0, none⟩ = some (.string s) ∧ W'.cell? ⟨r, 1, none⟩ = some (.int .i64 p) ∧ W'.cell? ⟨r, 2, none⟩ = some (.pointer q) :=
  have h2 := (b.block r (blk_lt h)).trans h
  ⟨(blk_cell h2 0).trans rfl, (blk_cell h2 1).trans rfl, (blk_cell h2 2).trans rfl⟩
theorem goesV_ {ops : Array Oper} {Q : Exit → Act → World → Prop} {oi : Oper} {N : Option Tmp} {a : Act} {w : World} {K : Act → World → Prop} {f : FuncId} {x : Operand} {xs : Array Operand} {ts : Array TypeId} (he : ∀ args w, (callFunc f args).run Try.prog w = .ok (.enter f args) w) (args : Array Value)
    (hw : Region.wanted oi (yielded ops a.tmps) = true) (hN : oi.dst = N) (hop : oi.op = .call { callee := .value x, args := xs, argTypes := ts }) (hx : a.eval x = .func (.func f) #[] #[]) (hargs : xs.map a.eval = args)
    (h : Calls Try.prog f args w fun e w' => ∃ v, e = .returned v ∧ K (a.put N v) w') : if Region.wanted oi (yielded ops a.tmps) = true then Oper.wp Try.prog oi a w K Q else K (a.put N undef) w := by
  refine call_ f args hw hN ?_ h
  unfold execOp
  simp [hop, resolve, Deferred.ofValue, invoke, hx, hargs, he]
theorem Rs.step {W W' : World} {r f : Nat} {s : ByteArray} {p code : Int} {tw last : Bool} (h : Rs W r f s p code tw last) (b : Below W.heap.size W W') : Rs W' r f s p code tw last := h.below b
def sel {α : Type} (c : Int) (a b : α) : α := if c = 0 then a else b
theorem sel_pos {α : Type} {c : Int} {a b : α} (h : c = 0) : sel c a b = a := if_pos h
theorem sel_neg {α : Type} {c : Int} {a b : α} (h : ¬ c = 0) : sel c a b = b := if_neg h
theorem sz3' : (Try.prog.info? 3).map (·.size) = some 1 := by kernel_rfl
set_option maxRecDepth 100000 in
set_option maxHeartbeats 8000000 in
theorem done_calls (lo r f : Nat) (s : ByteArray) (p code : Int) (tw last : Bool) (w : World) (hl : lo ≤ f) (h : Rs w r f s p code tw last) :
    Calls Try.prog 77 #[.pointer (some ⟨r, 0, none⟩)] w fun ex w' => ex = .returned (.tuple #[]) ∧ Rs w' r f s p (needed code (p == (s.size : Int))) tw last ∧ Kf lo r f w w' := by
  have H := Aside0.mk h
  have HL := Aside0.mk hl
  clear h hl
  have HLW := Aside0.mk (show lo ≤ w.heap.size from Nat.le_of_lt (Nat.lt_of_le_of_lt HL.out (blk_lt H.out.ft)))
  go_enter Try.func77, Try.ntmps77
  try go_wp2
  refine start_ (n := 12) (S := fun w' => Below w.heap.size w w') (ds := [11]) #[false, false, false, false, false, false, false, false, false, false, false, false] (by kernel_rfl) rfl rfl (Below.refl w.heap.size w).drew (fun hHeld => ?_)
  have HS := Aside0.mk (Below.refl w.heap.size w).drew
  generalize w.drew = w7 at HS hHeld ⊢
  refine pure_ (i := 0) (N := (some 2)) (v := ?_) (a' := ?_) #[true, false, false, false, false, false, false, false, false, false, false, false] rfl rfl (by kernel_rfl) (fun _ _ _ h => h) (Or.inl ⟨by rfl, ?_⟩) ?_ ?_
  rotate_left
  · intro w'
    go_simp
    with_reducible rfl
  rotate_left
  · simp only [Act.put, List.setIfInBounds_toArray, List.set_cons_zero, List.set_cons_succ]
    rfl
  refine pure_ (i := 1) (N := (some 3)) (v := ?_) (a' := ?_) #[true, true, false, false, false, false, false, false, false, false, false, false] rfl rfl (by kernel_rfl) (fun _ _ _ h => h) (Or.inl ⟨by rfl, ?_⟩) ?_ ?_
  rotate_left
  · intro w'
    go_simp
    with_reducible rfl
  rotate_left
  · simp only [Act.put, List.setIfInBounds_toArray, List.set_cons_zero, List.set_cons_succ]
    rfl
  refine pure_ (i := 2) (N := (some 4)) (v := ?_) (a' := ?_) #[true, true, true, false, false, false, false, false, false, false, false, false] rfl rfl (by kernel_rfl) (fun _ _ _ h => h) (Or.inl ⟨by rfl, ?_⟩) ?_ ?_
  rotate_left
  · intro w'
    go_simp
    with_reducible rfl
  rotate_left
  · simp only [Act.put, List.setIfInBounds_toArray, List.set_cons_zero, List.set_cons_succ]
    rfl
  refine pure_ (i := 3) (N := (some 5)) (v := ?_) (a' := ?_) #[true, true, true, true, false, false, false, false, false, false, false, false] rfl rfl (by kernel_rfl) (fun _ _ _ h => h) (Or.inl ⟨by rfl, ?_⟩) ?_ ?_
  rotate_left
  · intro w'
    go_simp
    with_reducible rfl
  rotate_left
  · simp only [Act.put, List.setIfInBounds_toArray, List.set_cons_zero, List.set_cons_succ]
    rfl
  refine take_ (i := 4) (N := (some 6)) (v := ?_) (a' := ?_) #[true, true, true, true, true, false, false, false, false, false, false, false] rfl rfl (by kernel_rfl) (fun _ _ _ h => h) (Or.inl ⟨by rfl, ?_⟩) hHeld ?_ ?_
  rotate_left
  · rintro w' hS
    have hc := rcell H.out.rd hS
    obtain ⟨hc1, hc2, hc3⟩ := hc
    go_simp
    with_reducible rfl
  rotate_left
  · simp only [Act.put, List.setIfInBounds_toArray, List.set_cons_zero, List.set_cons_succ]
    rfl
  refine pure_ (i := 5) (N := (some 7)) (v := ?_) (a' := ?_) #[true, true, true, true, true, true, false, false, false, false, false, false] rfl rfl (by kernel_rfl) (fun _ _ _ h => h) (Or.inl ⟨by rfl, ?_⟩) ?_ ?_
  rotate_left
  · intro w'
    go_simp
    with_reducible rfl
  rotate_left
  · simp only [Act.put, List.setIfInBounds_toArray, List.set_cons_zero, List.set_cons_succ]
    rfl
  refine pure_ (i := 6) (N := (some 8)) (v := ?_) (a' := ?_) #[true, true, true, true, true, true, true, false, false, false, false, false] rfl rfl (by kernel_rfl) (fun _ _ _ h => h) (Or.inl ⟨by rfl, ?_⟩) ?_ ?_
  rotate_left
  · intro w'
    go_simp
    with_reducible rfl
  rotate_left
  · simp only [Act.put, List.setIfInBounds_toArray, List.set_cons_zero, List.set_cons_succ]
    rfl
  refine pure_ (i := 7) (N := (some 9)) (v := ?_) (a' := ?_) #[true, true, true, true, true, true, true, true, false, false, false, false] rfl rfl (by kernel_rfl) (fun _ _ _ h => h) (Or.inl ⟨by rfl, ?_⟩) ?_ ?_
  rotate_left
  · intro w'
    go_simp
    with_reducible rfl
  rotate_left
  · simp only [Act.put, List.setIfInBounds_toArray, List.set_cons_zero, List.set_cons_succ]
    rfl
  refine take_ (i := 8) (N := (some 10)) (v := ?_) (a' := ?_) #[true, true, true, true, true, true, true, true, true, false, false, false] rfl rfl (by kernel_rfl) (fun _ _ _ h => h) (Or.inl ⟨by rfl, ?_⟩) hHeld ?_ ?_
  rotate_left
  · rintro w' hS
    have hc := rcell H.out.rd hS
    obtain ⟨hc1, hc2, hc3⟩ := hc
    go_simp
    with_reducible rfl
  rotate_left
  · simp only [Act.put, List.setIfInBounds_toArray, List.set_cons_zero, List.set_cons_succ]
    rfl
  refine pure_ (i := 9) (N := (some 11)) (v := ?_) (a' := ?_) #[true, true, true, true, true, true, true, true, true, true, false, false] rfl rfl (by kernel_rfl) (fun _ _ _ h => h) (Or.inl ⟨by rfl, ?_⟩) ?_ ?_
  rotate_left
  · intro w'
    go_simp
    with_reducible rfl
  rotate_left
  · simp only [Act.put, List.setIfInBounds_toArray, List.set_cons_zero, List.set_cons_succ]
    rfl
  refine pure_ (i := 10) (N := (some 12)) (v := ?_) (a' := ?_) #[true, true, true, true, true, true, true, true, true, true, true, false] rfl rfl (by kernel_rfl) (fun _ _ _ h => h) (Or.inl ⟨by rfl, ?_⟩) ?_ ?_
  rotate_left
  · intro w'
    go_simp
    with_reducible rfl
  rotate_left
  · simp only [Act.put, List.setIfInBounds_toArray, List.set_cons_zero, List.set_cons_succ]
    rfl
  refine last_ (i := 11) (N := (some 13)) #[true, true, true, true, true, true, true, true, true, true, true, true] rfl rfl (by kernel_rfl) (by decide) (fun K hK => ?_)
  refine goes_ (f := 72) Try.func72 (by kernel_rfl) rfl #[.pointer (some ⟨r, 0, none⟩), .bool (p == (s.size : Int))] (by rfl) rfl rfl (by (try simp only [List.map_toArray, List.map_cons, List.map_nil]); first | done | rfl) ?_
  refine (rneed_calls lo r f s p code tw last (p == (s.size : Int)) _ HL.out (H.out.below HS.out)).mono ?_
  rintro e w8 ⟨rfl, i8, k8⟩
  refine ⟨_, rfl, ?_⟩
  have H8 := Aside0.mk i8
  have K8 := Aside0.mk ((Kf.of_below (r := r) (f := f) HLW.out HS.out).trans k8)
  clear i8 k8
  refine hK.out _ _ ?_
  clear hK K
  refine norm_ (a' := ?_) ?_ ?_
  rotate_left
  · show Act.put _ (some 13) _ = _
    simp only [Act.put, List.setIfInBounds_toArray, List.set_cons_zero, List.set_cons_succ]
    rfl
  refine done_ (by kernel_rfl) ?_
  go_wp2
  first | go_end0 | ((try simp only [Exit.inBlock, Exit.then]); refine bodyPost_ret (results_none rfl _ _ _) rfl ?_)
  exact ⟨rfl, H8.out, K8.out⟩
set_option maxRecDepth 100000 in
set_option maxHeartbeats 8000000 in
theorem number_calls (lo r f : Nat) (s : ByteArray) (p code : Int) (tw last : Bool) (w : World) (hl : lo ≤ f) (hl2 : lo ≤ r) (h : Rs w r f s p code tw last) (k : Nat) (x q er : Int) (he : ∀ args w, (callFunc k args).run Try.prog w = .ok (.enter k args) w) (hg : ∀ w, Calls Try.prog k #[.string s, .int .i64 p] w fun e w' => e = .returned (.tuple #[.int .i64 x, .int .i64 q, .int .i64 er]) ∧ Drawn0 w w') :
    Calls Try.prog 103 #[.pointer (some ⟨r, 0, none⟩), .func (.func k) #[] #[]] w fun ex w' => ex = .returned (.int .i64 (sel (needed code (er == 0)) x 0)) ∧ Rs w' r f s (sel (needed code (er == 0)) q p) (needed code (er == 0)) tw last ∧ Kf lo r f w w' := by
  have H := Aside0.mk h
  have HL := Aside0.mk hl
  clear h hl
  have HLW := Aside0.mk (show lo ≤ w.heap.size from Nat.le_of_lt (Nat.lt_of_le_of_lt HL.out (blk_lt H.out.ft)))
  have HL2 := Aside0.mk hl2
  have HE := Aside0.mk he
  have HG := Aside0.mk hg
  clear he hg
  obtain ⟨ok, hok⟩ : ∃ ok, (er == 0) = ok := ⟨_, rfl⟩
  rw [hok]
  have HOK := Aside0.mk hok
  clear hok
  clear hl2
  go_enter Try.func103, Try.ntmps103
  try go_wp2
  refine start_ (n := 17) (S := fun w' => Below w.heap.size w w') (ds := []) #[false, false, false, false, false, false, false, false, false, false, false, false, false, false, false, false, false] (by kernel_rfl) rfl rfl (Below.refl w.heap.size w).drew (fun hHeld => ?_)
  have HS := Aside0.mk (Below.refl w.heap.size w).drew
  generalize w.drew = w7 at HS hHeld ⊢
  refine pure_ (i := 0) (N := (some 9)) (v := ?_) (a' := ?_) #[true, false, false, false, false, false, false, false, false, false, false, false, false, false, false, false, false] rfl rfl (by kernel_rfl) (fun _ _ _ h => h) (Or.inl ⟨by rfl, ?_⟩) ?_ ?_
  rotate_left
  · intro w'
    go_simp
    with_reducible rfl
  rotate_left
  · simp only [Act.put, List.setIfInBounds_toArray, List.set_cons_zero, List.set_cons_succ]
    rfl
  refine pure_ (i := 1) (N := (some 10)) (v := ?_) (a' := ?_) #[true, true, false, false, false, false, false, false, false, false, false, false, false, false, false, false, false] rfl rfl (by kernel_rfl) (fun _ _ _ h => h) (Or.inl ⟨by rfl, ?_⟩) ?_ ?_
  rotate_left
  · intro w'
    go_simp
    with_reducible rfl
  rotate_left
  · simp only [Act.put, List.setIfInBounds_toArray, List.set_cons_zero, List.set_cons_succ]
    rfl
  refine pure_ (i := 2) (N := (some 11)) (v := ?_) (a' := ?_) #[true, true, true, false, false, false, false, false, false, false, false, false, false, false, false, false, false] rfl rfl (by kernel_rfl) (fun _ _ _ h => h) (Or.inl ⟨by rfl, ?_⟩) ?_ ?_
  rotate_left
  · intro w'
    go_simp
    with_reducible rfl
  rotate_left
  · simp only [Act.put, List.setIfInBounds_toArray, List.set_cons_zero, List.set_cons_succ]
    rfl
  refine pure_ (i := 3) (N := (some 12)) (v := ?_) (a' := ?_) #[true, true, true, true, false, false, false, false, false, false, false, false, false, false, false, false, false] rfl rfl (by kernel_rfl) (fun _ _ _ h => h) (Or.inl ⟨by rfl, ?_⟩) ?_ ?_
  rotate_left
  · intro w'
    go_simp
    with_reducible rfl
  rotate_left
  · simp only [Act.put, List.setIfInBounds_toArray, List.set_cons_zero, List.set_cons_succ]
    rfl
  refine take_ (i := 4) (N := (some 13)) (v := ?_) (a' := ?_) #[true, true, true, true, true, false, false, false, false, false, false, false, false, false, false, false, false] rfl rfl (by kernel_rfl) (fun _ _ _ h => h) (Or.inl ⟨by rfl, ?_⟩) hHeld ?_ ?_
  rotate_left
  · rintro w' hS
    have hc := rcell H.out.rd hS
    obtain ⟨hc1, hc2, hc3⟩ := hc
    go_simp
    with_reducible rfl
  rotate_left
  · simp only [Act.put, List.setIfInBounds_toArray, List.set_cons_zero, List.set_cons_succ]
    rfl
  refine pure_ (i := 5) (N := (some 14)) (v := ?_) (a' := ?_) #[true, true, true, true, true, true, false, false, false, false, false, false, false, false, false, false, false] rfl rfl (by kernel_rfl) (fun _ _ _ h => h) (Or.inl ⟨by rfl, ?_⟩) ?_ ?_
  rotate_left
  · intro w'
    go_simp
    with_reducible rfl
  rotate_left
  · simp only [Act.put, List.setIfInBounds_toArray, List.set_cons_zero, List.set_cons_succ]
    rfl
  refine pure_ (i := 6) (N := (some 15)) (v := ?_) (a' := ?_) #[true, true, true, true, true, true, true, false, false, false, false, false, false, false, false, false, false] rfl rfl (by kernel_rfl) (fun _ _ _ h => h) (Or.inl ⟨by rfl, ?_⟩) ?_ ?_
  rotate_left
  · intro w'
    go_simp
    with_reducible rfl
  rotate_left
  · simp only [Act.put, List.setIfInBounds_toArray, List.set_cons_zero, List.set_cons_succ]
    rfl
  refine pure_ (i := 7) (N := (some 16)) (v := ?_) (a' := ?_) #[true, true, true, true, true, true, true, true, false, false, false, false, false, false, false, false, false] rfl rfl (by kernel_rfl) (fun _ _ _ h => h) (Or.inl ⟨by rfl, ?_⟩) ?_ ?_
  rotate_left
  · intro w'
    go_simp
    with_reducible rfl
  rotate_left
  · simp only [Act.put, List.setIfInBounds_toArray, List.set_cons_zero, List.set_cons_succ]
    rfl
  refine take_ (i := 8) (N := (some 17)) (v := ?_) (a' := ?_) #[true, true, true, true, true, true, true, true, true, false, false, false, false, false, false, false, false] rfl rfl (by kernel_rfl) (fun _ _ _ h => h) (Or.inl ⟨by rfl, ?_⟩) hHeld ?_ ?_
  rotate_left
  · rintro w' hS
    have hc := rcell H.out.rd hS
    obtain ⟨hc1, hc2, hc3⟩ := hc
    go_simp
    with_reducible rfl
  rotate_left
  · simp only [Act.put, List.setIfInBounds_toArray, List.set_cons_zero, List.set_cons_succ]
    rfl
  refine one_ (i := 9) (N := (some 18)) #[true, true, true, true, true, true, true, true, true, true, false, false, false, false, false, false, false] rfl rfl (by kernel_rfl) (by decide) (fun K hK => ?_)
  refine goesV_ (HE.out) #[.string s, .int .i64 p] (by rfl) rfl rfl rfl (by (try simp only [List.map_toArray, List.map_cons, List.map_nil]); first | done | rfl) ?_
  refine (HG.out _).mono ?_
  rintro e w8 ⟨rfl, d8⟩
  refine ⟨_, rfl, ?_⟩
  have n_ := Aside0.mk (below_step HS.out d8.below)
  clear HS
  have HS := n_
  clear n_ d8
  refine hK.out _ _ HS.out (fun hHeld => ?_)
  clear hK K
  refine norm_ (a' := ?_) ?_ ?_
  rotate_left
  · show Act.put _ (some 18) _ = _
    simp only [Act.put, List.setIfInBounds_toArray, List.set_cons_zero, List.set_cons_succ]
    rfl
  refine pure_ (i := 10) (N := (some 8)) (v := ?_) (a' := ?_) #[true, true, true, true, true, true, true, true, true, true, true, false, false, false, false, false, false] rfl rfl (by kernel_rfl) (fun _ _ _ h => h) (Or.inl ⟨by rfl, ?_⟩) ?_ ?_
  rotate_left
  · intro w'
    go_simp
    with_reducible rfl
  rotate_left
  · simp only [Act.put, List.setIfInBounds_toArray, List.set_cons_zero, List.set_cons_succ]
    rfl
  refine pure_ (i := 11) (N := (some 19)) (v := ?_) (a' := ?_) #[true, true, true, true, true, true, true, true, true, true, true, true, false, false, false, false, false] rfl rfl (by kernel_rfl) (fun _ _ _ h => h) (Or.inl ⟨by rfl, ?_⟩) ?_ ?_
  rotate_left
  · intro w'
    go_simp
    with_reducible rfl
  rotate_left
  · simp only [Act.put, List.setIfInBounds_toArray, List.set_cons_zero, List.set_cons_succ]
    rfl
  refine pure_ (i := 12) (N := (some 20)) (v := ?_) (a' := ?_) #[true, true, true, true, true, true, true, true, true, true, true, true, true, false, false, false, false] rfl rfl (by kernel_rfl) (fun _ _ _ h => h) (Or.inl ⟨by rfl, ?_⟩) ?_ ?_
  rotate_left
  · intro w'
    go_simp
    with_reducible rfl
  rotate_left
  · simp only [Act.put, List.setIfInBounds_toArray, List.set_cons_zero, List.set_cons_succ]
    rfl
  refine pure_ (i := 13) (N := (some 21)) (v := ?_) (a' := ?_) #[true, true, true, true, true, true, true, true, true, true, true, true, true, true, false, false, false] rfl rfl (by kernel_rfl) (fun _ _ _ h => h) (Or.inl ⟨by rfl, ?_⟩) ?_ ?_
  rotate_left
  · intro w'
    go_simp
    with_reducible rfl
  rotate_left
  · simp only [Act.put, List.setIfInBounds_toArray, List.set_cons_zero, List.set_cons_succ]
    rfl
  refine pure_ (i := 14) (N := (some 5)) (v := ?_) (a' := ?_) #[true, true, true, true, true, true, true, true, true, true, true, true, true, true, true, false, false] rfl rfl (by kernel_rfl) (fun _ _ _ h => h) (Or.inl ⟨by rfl, ?_⟩) ?_ ?_
  rotate_left
  · intro w'
    go_simp
    with_reducible rfl
  rotate_left
  · simp only [Act.put, List.setIfInBounds_toArray, List.set_cons_zero, List.set_cons_succ]
    rfl
  refine pure_ (i := 15) (N := (some 6)) (v := ?_) (a' := ?_) #[true, true, true, true, true, true, true, true, true, true, true, true, true, true, true, true, false] rfl rfl (by kernel_rfl) (fun _ _ _ h => h) (Or.inl ⟨by rfl, ?_⟩) ?_ ?_
  rotate_left
  · intro w'
    go_simp
    with_reducible rfl
  rotate_left
  · simp only [Act.put, List.setIfInBounds_toArray, List.set_cons_zero, List.set_cons_succ]
    rfl
  refine pure_ (i := 16) (N := (some 7)) (v := ?_) (a' := ?_) #[true, true, true, true, true, true, true, true, true, true, true, true, true, true, true, true, true] rfl rfl (by kernel_rfl) (fun _ _ _ h => h) (Or.inl ⟨by rfl, ?_⟩) ?_ ?_
  rotate_left
  · intro w'
    go_simp
    with_reducible rfl
  rotate_left
  · simp only [Act.put, List.setIfInBounds_toArray, List.set_cons_zero, List.set_cons_succ]
    rfl
  refine done_ (by kernel_rfl) ?_
  have H8 := Aside0.mk (H.out.below HS.out)
  by_cases c : needed code ok = 0
  · have c0 : (needed code ok == 0) = true := beq_iff_eq.mpr c
    have HCc := Aside0.mk c
    clear c
    go_wp2_with (first
      | (go_at_call 72; (with_reducible refine (rneed_calls lo r f s p code tw last (er == 0) _ HL.out H8.out).mono ?_); rintro e9 w9 ⟨rfl, i9, k9⟩; rw [HOK.out] at i9; have H9 := Aside0.mk i9; have K9 := Aside0.mk ((Kf.of_below (r := r) (f := f) HLW.out HS.out).trans k9); clear i9 k9)
      | (go_at_call 51; (with_reducible refine (ok_calls lo r f s p _ tw last _ H9.out).mono ?_); rintro e10 w10 ⟨rfl, rfl⟩)
      | ((with_reducible refine gate_store (p := 32) rfl ?_); refine st (v := .int .i64 q) rfl rfl rfl H9.out.rd sz3' rfl rfl rfl (by simp) ?_; intro w3 h3 b3 k3; have H3 := Aside0.mk (Rs.mk h3 ((k3.2 f (blk_lt H9.out.ft) (Ne.symm H9.out.ne) (by simp)).trans H9.out.ft)); have K3 := Aside0.mk (K9.out.trans (Kf.of_keep (f := f) (.inl rfl) (b3 _ HL2.out) k3)); clear h3 b3 k3))
    go_ret
    exact ⟨by rw [sel_pos HCc.out]; rfl, by rw [sel_pos HCc.out]; exact H3.out, K3.out⟩
  · have c0 : (needed code ok == 0) = false := beq_eq_false_iff_ne.mpr c
    have HCc := Aside0.mk c
    clear c
    go_wp2_with (first
      | (go_at_call 72; (with_reducible refine (rneed_calls lo r f s p code tw last (er == 0) _ HL.out H8.out).mono ?_); rintro e9 w9 ⟨rfl, i9, k9⟩; rw [HOK.out] at i9; have H9 := Aside0.mk i9; have K9 := Aside0.mk ((Kf.of_below (r := r) (f := f) HLW.out HS.out).trans k9); clear i9 k9)
      | (go_at_call 51; (with_reducible refine (ok_calls lo r f s p _ tw last _ H9.out).mono ?_); rintro e10 w10 ⟨rfl, rfl⟩))
    go_ret
    exact ⟨by rw [sel_neg HCc.out]; rfl, by rw [sel_neg HCc.out]; exact H9.out, K9.out⟩
theorem enters105 : ∀ args w, (callFunc 105 args).run Try.prog w = .ok (.enter 105 args) w := fun args w => enters_ Try.func105 (by kernel_rfl) rfl args w
set_option maxRecDepth 100000 in
set_option maxHeartbeats 8000000 in
theorem u8_calls (lo r f : Nat) (s : ByteArray) (p code : Int) (tw last : Bool) (w : World) (hl : lo ≤ f) (hl2 : lo ≤ r) (h : Rs w r f s p code tw last) (k : Nat) (x q er : Int) (hf : wire_U8.f k s p = some (x, q, er)) :
    Calls Try.prog 75 #[.pointer (some ⟨r, 0, none⟩)] w fun ex w' => ex = .returned (.int .i64 (sel (needed code (er == 0)) x 0)) ∧ Rs w' r f s (sel (needed code (er == 0)) q p) (needed code (er == 0)) tw last ∧ Kf lo r f w w' := by
  have H := Aside0.mk h
  have HL := Aside0.mk hl
  have HL2 := Aside0.mk hl2
  have HF := Aside0.mk hf
  clear h hl hl2 hf
  go_enter Try.func75, Try.ntmps75
  go_wp2_with (go_at_call 103; (refine (number_calls lo r f s p code tw last _ HL.out HL2.out H.out 105 x q er enters105 (fun w => wire_U8.calls k s p x q er w HF.out)).mono ?_); rintro e1 w1 ⟨rfl, i1, k1⟩; have H1 := Aside0.mk i1; have K1 := Aside0.mk k1; clear i1 k1)
  go_ret
  exact ⟨rfl, H1.out, K1.out⟩
theorem enters33 : ∀ args w, (callFunc 33 args).run Try.prog w = .ok (.enter 33 args) w := fun args w => enters_ Try.func33 (by kernel_rfl) rfl args w
set_option maxRecDepth 100000 in
set_option maxHeartbeats 8000000 in
theorem u16_calls (lo r f : Nat) (s : ByteArray) (p code : Int) (tw last : Bool) (w : World) (hl : lo ≤ f) (hl2 : lo ≤ r) (h : Rs w r f s p code tw last) (k : Nat) (x q er : Int) (hf : wire_U16.f k s p = some (x, q, er)) :
    Calls Try.prog 70 #[.pointer (some ⟨r, 0, none⟩)] w fun ex w' => ex = .returned (.int .i64 (sel (needed code (er == 0)) x 0)) ∧ Rs w' r f s (sel (needed code (er == 0)) q p) (needed code (er == 0)) tw last ∧ Kf lo r f w w' := by
  have H := Aside0.mk h
  have HL := Aside0.mk hl
  have HL2 := Aside0.mk hl2
  have HF := Aside0.mk hf
  clear h hl hl2 hf
  go_enter Try.func70, Try.ntmps70
  go_wp2_with (go_at_call 103; (refine (number_calls lo r f s p code tw last _ HL.out HL2.out H.out 33 x q er enters33 (fun w => wire_U16.calls k s p x q er w HF.out)).mono ?_); rintro e1 w1 ⟨rfl, i1, k1⟩; have H1 := Aside0.mk i1; have K1 := Aside0.mk k1; clear i1 k1)
  go_ret
  exact ⟨rfl, H1.out, K1.out⟩
set_option maxRecDepth 100000 in
set_option maxHeartbeats 8000000 in
theorem rvec_calls (lo r f : Nat) (s : ByteArray) (p code : Int) (tw last : Bool) (size least most : Int) (w : World) (hl : lo ≤ f) (hl2 : lo ≤ r) (h : Rs w r f s p code tw last) (k : Nat) (x : ByteArray) (q er : Int) (hg : wire_Vec.f k s p size = some (x, q, er)) (ok : Bool) (hok : vecOk x er least most = ok) :
    Calls Try.prog 71 #[.pointer (some ⟨r, 0, none⟩), .int .i64 size, .int .i64 least, .int .i64 most] w fun ex w' => ex = .returned (.string (sel (needed code ok) x ⟨#[]⟩)) ∧ Rs w' r f s (sel (needed code ok) q p) (needed code ok) tw last ∧ Kf lo r f w w' := by
  have H := Aside0.mk h
  have HL := Aside0.mk hl
  clear h hl
  have HLW := Aside0.mk (show lo ≤ w.heap.size from Nat.le_of_lt (Nat.lt_of_le_of_lt HL.out (blk_lt H.out.ft)))
  have HL2 := Aside0.mk hl2
  have HG := Aside0.mk hg
  unfold vecOk at hok
  have HOK := Aside0.mk hok
  clear hl2 hg hok
  go_enter Try.func71, Try.ntmps71
  try go_wp2
  refine start_ (n := 17) (S := fun w' => Below w.heap.size w w') (ds := []) #[false, false, false, false, false, false, false, false, false, false, false, false, false, false, false, false, false] (by kernel_rfl) rfl rfl (Below.refl w.heap.size w).drew (fun hHeld => ?_)
  have HS := Aside0.mk (Below.refl w.heap.size w).drew
  generalize w.drew = w7 at HS hHeld ⊢
  refine pure_ (i := 0) (N := (some 13)) (v := ?_) (a' := ?_) #[true, false, false, false, false, false, false, false, false, false, false, false, false, false, false, false, false] rfl rfl (by kernel_rfl) (fun _ _ _ h => h) (Or.inl ⟨by rfl, ?_⟩) ?_ ?_
  rotate_left
  · intro w'
    go_simp
    with_reducible rfl
  rotate_left
  · simp only [Act.put, List.setIfInBounds_toArray, List.set_cons_zero, List.set_cons_succ]
    rfl
  refine pure_ (i := 1) (N := (some 14)) (v := ?_) (a' := ?_) #[true, true, false, false, false, false, false, false, false, false, false, false, false, false, false, false, false] rfl rfl (by kernel_rfl) (fun _ _ _ h => h) (Or.inl ⟨by rfl, ?_⟩) ?_ ?_
  rotate_left
  · intro w'
    go_simp
    with_reducible rfl
  rotate_left
  · simp only [Act.put, List.setIfInBounds_toArray, List.set_cons_zero, List.set_cons_succ]
    rfl
  refine pure_ (i := 2) (N := (some 15)) (v := ?_) (a' := ?_) #[true, true, true, false, false, false, false, false, false, false, false, false, false, false, false, false, false] rfl rfl (by kernel_rfl) (fun _ _ _ h => h) (Or.inl ⟨by rfl, ?_⟩) ?_ ?_
  rotate_left
  · intro w'
    go_simp
    with_reducible rfl
  rotate_left
  · simp only [Act.put, List.setIfInBounds_toArray, List.set_cons_zero, List.set_cons_succ]
    rfl
  refine take_ (i := 3) (N := (some 16)) (v := ?_) (a' := ?_) #[true, true, true, true, false, false, false, false, false, false, false, false, false, false, false, false, false] rfl rfl (by kernel_rfl) (fun _ _ _ h => h) (Or.inl ⟨by rfl, ?_⟩) hHeld ?_ ?_
  rotate_left
  · rintro w' hS
    have hc := rcell H.out.rd hS
    obtain ⟨hc1, hc2, hc3⟩ := hc
    go_simp
    with_reducible rfl
  rotate_left
  · simp only [Act.put, List.setIfInBounds_toArray, List.set_cons_zero, List.set_cons_succ]
    rfl
  refine pure_ (i := 4) (N := (some 17)) (v := ?_) (a' := ?_) #[true, true, true, true, true, false, false, false, false, false, false, false, false, false, false, false, false] rfl rfl (by kernel_rfl) (fun _ _ _ h => h) (Or.inl ⟨by rfl, ?_⟩) ?_ ?_
  rotate_left
  · intro w'
    go_simp
    with_reducible rfl
  rotate_left
  · simp only [Act.put, List.setIfInBounds_toArray, List.set_cons_zero, List.set_cons_succ]
    rfl
  refine pure_ (i := 5) (N := (some 18)) (v := ?_) (a' := ?_) #[true, true, true, true, true, true, false, false, false, false, false, false, false, false, false, false, false] rfl rfl (by kernel_rfl) (fun _ _ _ h => h) (Or.inl ⟨by rfl, ?_⟩) ?_ ?_
  rotate_left
  · intro w'
    go_simp
    with_reducible rfl
  rotate_left
  · simp only [Act.put, List.setIfInBounds_toArray, List.set_cons_zero, List.set_cons_succ]
    rfl
  refine pure_ (i := 6) (N := (some 19)) (v := ?_) (a' := ?_) #[true, true, true, true, true, true, true, false, false, false, false, false, false, false, false, false, false] rfl rfl (by kernel_rfl) (fun _ _ _ h => h) (Or.inl ⟨by rfl, ?_⟩) ?_ ?_
  rotate_left
  · intro w'
    go_simp
    with_reducible rfl
  rotate_left
  · simp only [Act.put, List.setIfInBounds_toArray, List.set_cons_zero, List.set_cons_succ]
    rfl
  refine take_ (i := 7) (N := (some 20)) (v := ?_) (a' := ?_) #[true, true, true, true, true, true, true, true, false, false, false, false, false, false, false, false, false] rfl rfl (by kernel_rfl) (fun _ _ _ h => h) (Or.inl ⟨by rfl, ?_⟩) hHeld ?_ ?_
  rotate_left
  · rintro w' hS
    have hc := rcell H.out.rd hS
    obtain ⟨hc1, hc2, hc3⟩ := hc
    go_simp
    with_reducible rfl
  rotate_left
  · simp only [Act.put, List.setIfInBounds_toArray, List.set_cons_zero, List.set_cons_succ]
    rfl
  refine pure_ (i := 8) (N := (some 21)) (v := ?_) (a' := ?_) #[true, true, true, true, true, true, true, true, true, false, false, false, false, false, false, false, false] rfl rfl (by kernel_rfl) (fun _ _ _ h => h) (Or.inl ⟨by rfl, ?_⟩) ?_ ?_
  rotate_left
  · intro w'
    go_simp
    with_reducible rfl
  rotate_left
  · simp only [Act.put, List.setIfInBounds_toArray, List.set_cons_zero, List.set_cons_succ]
    rfl
  refine one_ (i := 9) (N := (some 22)) #[true, true, true, true, true, true, true, true, true, true, false, false, false, false, false, false, false] rfl rfl (by kernel_rfl) (by decide) (fun K hK => ?_)
  refine goes_ Try.func34 (by kernel_rfl) rfl #[.string s, .int .i64 p, .int .i64 size] (by rfl) rfl rfl (by (try simp only [List.map_toArray, List.map_cons, List.map_nil]); first | done | rfl) ?_
  refine (wire_Vec.calls k s p size x q er _ HG.out).mono ?_
  rintro e w8 ⟨rfl, d8⟩
  refine ⟨_, rfl, ?_⟩
  have n_ := Aside0.mk (below_step HS.out d8.below)
  clear HS
  have HS := n_
  clear n_ d8
  refine hK.out _ _ HS.out (fun hHeld => ?_)
  clear hK K
  refine norm_ (a' := ?_) ?_ ?_
  rotate_left
  · show Act.put _ (some 22) _ = _
    simp only [Act.put, List.setIfInBounds_toArray, List.set_cons_zero, List.set_cons_succ]
    rfl
  refine pure_ (i := 10) (N := (some 12)) (v := ?_) (a' := ?_) #[true, true, true, true, true, true, true, true, true, true, true, false, false, false, false, false, false] rfl rfl (by kernel_rfl) (fun _ _ _ h => h) (Or.inl ⟨by rfl, ?_⟩) ?_ ?_
  rotate_left
  · intro w'
    go_simp
    with_reducible rfl
  rotate_left
  · simp only [Act.put, List.setIfInBounds_toArray, List.set_cons_zero, List.set_cons_succ]
    rfl
  refine pure_ (i := 11) (N := (some 23)) (v := ?_) (a' := ?_) #[true, true, true, true, true, true, true, true, true, true, true, true, false, false, false, false, false] rfl rfl (by kernel_rfl) (fun _ _ _ h => h) (Or.inl ⟨by rfl, ?_⟩) ?_ ?_
  rotate_left
  · intro w'
    go_simp
    with_reducible rfl
  rotate_left
  · simp only [Act.put, List.setIfInBounds_toArray, List.set_cons_zero, List.set_cons_succ]
    rfl
  refine pure_ (i := 12) (N := (some 24)) (v := ?_) (a' := ?_) #[true, true, true, true, true, true, true, true, true, true, true, true, true, false, false, false, false] rfl rfl (by kernel_rfl) (fun _ _ _ h => h) (Or.inl ⟨by rfl, ?_⟩) ?_ ?_
  rotate_left
  · intro w'
    go_simp
    with_reducible rfl
  rotate_left
  · simp only [Act.put, List.setIfInBounds_toArray, List.set_cons_zero, List.set_cons_succ]
    rfl
  refine pure_ (i := 13) (N := (some 25)) (v := ?_) (a' := ?_) #[true, true, true, true, true, true, true, true, true, true, true, true, true, true, false, false, false] rfl rfl (by kernel_rfl) (fun _ _ _ h => h) (Or.inl ⟨by rfl, ?_⟩) ?_ ?_
  rotate_left
  · intro w'
    go_simp
    with_reducible rfl
  rotate_left
  · simp only [Act.put, List.setIfInBounds_toArray, List.set_cons_zero, List.set_cons_succ]
    rfl
  refine pure_ (i := 14) (N := (some 9)) (v := ?_) (a' := ?_) #[true, true, true, true, true, true, true, true, true, true, true, true, true, true, true, false, false] rfl rfl (by kernel_rfl) (fun _ _ _ h => h) (Or.inl ⟨by rfl, ?_⟩) ?_ ?_
  rotate_left
  · intro w'
    go_simp
    with_reducible rfl
  rotate_left
  · simp only [Act.put, List.setIfInBounds_toArray, List.set_cons_zero, List.set_cons_succ]
    rfl
  refine pure_ (i := 15) (N := (some 10)) (v := ?_) (a' := ?_) #[true, true, true, true, true, true, true, true, true, true, true, true, true, true, true, true, false] rfl rfl (by kernel_rfl) (fun _ _ _ h => h) (Or.inl ⟨by rfl, ?_⟩) ?_ ?_
  rotate_left
  · intro w'
    go_simp
    with_reducible rfl
  rotate_left
  · simp only [Act.put, List.setIfInBounds_toArray, List.set_cons_zero, List.set_cons_succ]
    rfl
  refine pure_ (i := 16) (N := (some 11)) (v := ?_) (a' := ?_) #[true, true, true, true, true, true, true, true, true, true, true, true, true, true, true, true, true] rfl rfl (by kernel_rfl) (fun _ _ _ h => h) (Or.inl ⟨by rfl, ?_⟩) ?_ ?_
  rotate_left
  · intro w'
    go_simp
    with_reducible rfl
  rotate_left
  · simp only [Act.put, List.setIfInBounds_toArray, List.set_cons_zero, List.set_cons_succ]
    rfl
  refine done_ (by kernel_rfl) ?_
  have H8 := Aside0.mk (H.out.below HS.out)
  by_cases c1 : (er == 0) = true
  · by_cases c2 : least ≤ x.size
    · have c2' := decide_eq_true c2
      by_cases c3 : (x.size : Int) ≤ most
      · have c3' := decide_eq_true c3
        obtain rfl : ok = true := by rw [← HOK.out, c1, c2', c3']; rfl
        clear c2 c3
        by_cases c : needed code true = 0
        · have c0 : (needed code true == 0) = true := beq_iff_eq.mpr c
          have HCc := Aside0.mk c
          clear c
          go_wp2_with (first
            | (go_at_call 72; (with_reducible refine (rneed_calls lo r f s p code tw last true _ HL.out H8.out).mono ?_); rintro e9 w9 ⟨rfl, i9, k9⟩; have H9 := Aside0.mk i9; have K9 := Aside0.mk ((Kf.of_below (r := r) (f := f) HLW.out HS.out).trans k9); clear i9 k9)
            | (go_at_call 51; (with_reducible refine (ok_calls lo r f s p _ tw last _ H9.out).mono ?_); rintro e10 w10 ⟨rfl, rfl⟩)
            | ((with_reducible refine gate_store (p := 48) rfl ?_); refine st (v := .int .i64 q) rfl rfl rfl H9.out.rd sz3' rfl rfl rfl (by simp) ?_; intro w3 h3 b3 k3; have H3 := Aside0.mk (Rs.mk h3 ((k3.2 f (blk_lt H9.out.ft) (Ne.symm H9.out.ne) (by simp)).trans H9.out.ft)); have K3 := Aside0.mk (K9.out.trans (Kf.of_keep (f := f) (.inl rfl) (b3 _ HL2.out) k3)); clear h3 b3 k3))
          go_ret
          exact ⟨by rw [sel_pos HCc.out]; rfl, by rw [sel_pos HCc.out]; exact H3.out, K3.out⟩
        · have c0 : (needed code true == 0) = false := beq_eq_false_iff_ne.mpr c
          have HCc := Aside0.mk c
          clear c
          go_wp2_with (first
            | (go_at_call 72; (with_reducible refine (rneed_calls lo r f s p code tw last true _ HL.out H8.out).mono ?_); rintro e9 w9 ⟨rfl, i9, k9⟩; have H9 := Aside0.mk i9; have K9 := Aside0.mk ((Kf.of_below (r := r) (f := f) HLW.out HS.out).trans k9); clear i9 k9)
            | (go_at_call 51; (with_reducible refine (ok_calls lo r f s p _ tw last _ H9.out).mono ?_); rintro e10 w10 ⟨rfl, rfl⟩))
          go_ret
          exact ⟨by rw [sel_neg HCc.out]; rfl, by rw [sel_neg HCc.out]; exact H9.out, K9.out⟩
      · have c3' := decide_eq_false c3
        obtain rfl : ok = false := by rw [← HOK.out, c1, c2', c3']; rfl
        clear c2 c3
        by_cases c : needed code false = 0
        · have c0 : (needed code false == 0) = true := beq_iff_eq.mpr c
          have HCc := Aside0.mk c
          clear c
          go_wp2_with (first
            | (go_at_call 72; (with_reducible refine (rneed_calls lo r f s p code tw last false _ HL.out H8.out).mono ?_); rintro e9 w9 ⟨rfl, i9, k9⟩; have H9 := Aside0.mk i9; have K9 := Aside0.mk ((Kf.of_below (r := r) (f := f) HLW.out HS.out).trans k9); clear i9 k9)
            | (go_at_call 51; (with_reducible refine (ok_calls lo r f s p _ tw last _ H9.out).mono ?_); rintro e10 w10 ⟨rfl, rfl⟩)
            | ((with_reducible refine gate_store (p := 48) rfl ?_); refine st (v := .int .i64 q) rfl rfl rfl H9.out.rd sz3' rfl rfl rfl (by simp) ?_; intro w3 h3 b3 k3; have H3 := Aside0.mk (Rs.mk h3 ((k3.2 f (blk_lt H9.out.ft) (Ne.symm H9.out.ne) (by simp)).trans H9.out.ft)); have K3 := Aside0.mk (K9.out.trans (Kf.of_keep (f := f) (.inl rfl) (b3 _ HL2.out) k3)); clear h3 b3 k3))
          go_ret
          exact ⟨by rw [sel_pos HCc.out]; rfl, by rw [sel_pos HCc.out]; exact H3.out, K3.out⟩
        · have c0 : (needed code false == 0) = false := beq_eq_false_iff_ne.mpr c
          have HCc := Aside0.mk c
          clear c
          go_wp2_with (first
            | (go_at_call 72; (with_reducible refine (rneed_calls lo r f s p code tw last false _ HL.out H8.out).mono ?_); rintro e9 w9 ⟨rfl, i9, k9⟩; have H9 := Aside0.mk i9; have K9 := Aside0.mk ((Kf.of_below (r := r) (f := f) HLW.out HS.out).trans k9); clear i9 k9)
            | (go_at_call 51; (with_reducible refine (ok_calls lo r f s p _ tw last _ H9.out).mono ?_); rintro e10 w10 ⟨rfl, rfl⟩))
          go_ret
          exact ⟨by rw [sel_neg HCc.out]; rfl, by rw [sel_neg HCc.out]; exact H9.out, K9.out⟩
    · have c2' := decide_eq_false c2
      obtain rfl : ok = false := by rw [← HOK.out, c1, c2']; rfl
      clear c2
      by_cases c : needed code false = 0
      · have c0 : (needed code false == 0) = true := beq_iff_eq.mpr c
        have HCc := Aside0.mk c
        clear c
        go_wp2_with (first
          | (go_at_call 72; (with_reducible refine (rneed_calls lo r f s p code tw last false _ HL.out H8.out).mono ?_); rintro e9 w9 ⟨rfl, i9, k9⟩; have H9 := Aside0.mk i9; have K9 := Aside0.mk ((Kf.of_below (r := r) (f := f) HLW.out HS.out).trans k9); clear i9 k9)
          | (go_at_call 51; (with_reducible refine (ok_calls lo r f s p _ tw last _ H9.out).mono ?_); rintro e10 w10 ⟨rfl, rfl⟩)
          | ((with_reducible refine gate_store (p := 48) rfl ?_); refine st (v := .int .i64 q) rfl rfl rfl H9.out.rd sz3' rfl rfl rfl (by simp) ?_; intro w3 h3 b3 k3; have H3 := Aside0.mk (Rs.mk h3 ((k3.2 f (blk_lt H9.out.ft) (Ne.symm H9.out.ne) (by simp)).trans H9.out.ft)); have K3 := Aside0.mk (K9.out.trans (Kf.of_keep (f := f) (.inl rfl) (b3 _ HL2.out) k3)); clear h3 b3 k3))
        go_ret
        exact ⟨by rw [sel_pos HCc.out]; rfl, by rw [sel_pos HCc.out]; exact H3.out, K3.out⟩
      · have c0 : (needed code false == 0) = false := beq_eq_false_iff_ne.mpr c
        have HCc := Aside0.mk c
        clear c
        go_wp2_with (first
          | (go_at_call 72; (with_reducible refine (rneed_calls lo r f s p code tw last false _ HL.out H8.out).mono ?_); rintro e9 w9 ⟨rfl, i9, k9⟩; have H9 := Aside0.mk i9; have K9 := Aside0.mk ((Kf.of_below (r := r) (f := f) HLW.out HS.out).trans k9); clear i9 k9)
          | (go_at_call 51; (with_reducible refine (ok_calls lo r f s p _ tw last _ H9.out).mono ?_); rintro e10 w10 ⟨rfl, rfl⟩))
        go_ret
        exact ⟨by rw [sel_neg HCc.out]; rfl, by rw [sel_neg HCc.out]; exact H9.out, K9.out⟩
  · rw [Bool.not_eq_true] at c1
    obtain rfl : ok = false := by rw [← HOK.out, c1]; rfl
    by_cases c : needed code false = 0
    · have c0 : (needed code false == 0) = true := beq_iff_eq.mpr c
      have HCc := Aside0.mk c
      clear c
      go_wp2_with (first
        | (go_at_call 72; (with_reducible refine (rneed_calls lo r f s p code tw last false _ HL.out H8.out).mono ?_); rintro e9 w9 ⟨rfl, i9, k9⟩; have H9 := Aside0.mk i9; have K9 := Aside0.mk ((Kf.of_below (r := r) (f := f) HLW.out HS.out).trans k9); clear i9 k9)
        | (go_at_call 51; (with_reducible refine (ok_calls lo r f s p _ tw last _ H9.out).mono ?_); rintro e10 w10 ⟨rfl, rfl⟩)
        | ((with_reducible refine gate_store (p := 48) rfl ?_); refine st (v := .int .i64 q) rfl rfl rfl H9.out.rd sz3' rfl rfl rfl (by simp) ?_; intro w3 h3 b3 k3; have H3 := Aside0.mk (Rs.mk h3 ((k3.2 f (blk_lt H9.out.ft) (Ne.symm H9.out.ne) (by simp)).trans H9.out.ft)); have K3 := Aside0.mk (K9.out.trans (Kf.of_keep (f := f) (.inl rfl) (b3 _ HL2.out) k3)); clear h3 b3 k3))
      go_ret
      exact ⟨by rw [sel_pos HCc.out]; rfl, by rw [sel_pos HCc.out]; exact H3.out, K3.out⟩
    · have c0 : (needed code false == 0) = false := beq_eq_false_iff_ne.mpr c
      have HCc := Aside0.mk c
      clear c
      go_wp2_with (first
        | (go_at_call 72; (with_reducible refine (rneed_calls lo r f s p code tw last false _ HL.out H8.out).mono ?_); rintro e9 w9 ⟨rfl, i9, k9⟩; have H9 := Aside0.mk i9; have K9 := Aside0.mk ((Kf.of_below (r := r) (f := f) HLW.out HS.out).trans k9); clear i9 k9)
        | (go_at_call 51; (with_reducible refine (ok_calls lo r f s p _ tw last _ H9.out).mono ?_); rintro e10 w10 ⟨rfl, rfl⟩))
      go_ret
      exact ⟨by rw [sel_neg HCc.out]; rfl, by rw [sel_neg HCc.out]; exact H9.out, K9.out⟩
end Go.Proofs.Ytlkebjkpmiehcaa.Ms
end
section
namespace Go.Proofs.Ytlkebjkpmiehcaa.Ms
open Go.RowKit Go.Proofs.YtlkebjkpmiehcaaW.PrintWords Go.Proofs.YtlkebjkpmiehcaaW.PrintLast Go.Proofs.YtlkebjkpmiehcaaW.PrintMore Go.Proofs.Ytlkebjkpmiehcaa.X
set_option linter.unusedVariables false
theorem Rs.cell2 {W : World} {r f : Nat} {s : ByteArray} {p code : Int} {tw last : Bool} (h : Rs W r f s p code tw last) : W.cell? ⟨r, 2, none⟩ = some (.pointer (some ⟨f, 0, none⟩)) := (blk_cell h.rd 2).trans rfl
theorem built92 (x : ByteArray) (q : Option Addr) : Try.prog.built 92 [(0, .string x), (2, .pointer q)] = some #[.string x, .int .i64 0, .pointer q, .bool false] := by kernel_rfl
set_option maxRecDepth 100000 in
set_option maxHeartbeats 8000000 in
theorem rwithin_calls (lo r f : Nat) (s : ByteArray) (p code : Int) (tw last : Bool) (size : Int) (w : World) (hl : lo ≤ f) (hl2 : lo ≤ r) (h : Rs w r f s p code tw last) (k : Nat) (x : ByteArray) (q er : Int) (hg : wire_Vec.f k s p size = some (x, q, er)) (ok : Bool) (hok : vecOk x er 0 16777216 = ok) :
    Calls Try.prog 66 #[.pointer (some ⟨r, 0, none⟩), .int .i64 size] w fun ex w' => ∃ r2, ex = .returned (.pointer (some ⟨r2, 0, none⟩)) ∧ w.heap.size ≤ r2 ∧ Rs w' r f s (sel (needed code ok) q p) (needed code ok) tw last ∧ Rs w' r2 f (sel (needed code ok) x ⟨#[]⟩) 0 (needed code ok) tw false ∧ Kf lo r f w w' := by
  have H := Aside0.mk h
  have HL := Aside0.mk hl
  have HLW := Aside0.mk (show lo ≤ w.heap.size from Nat.le_of_lt (Nat.lt_of_le_of_lt HL.out (blk_lt H.out.ft)))
  have HL2 := Aside0.mk hl2
  have HG := Aside0.mk hg
  have HOK := Aside0.mk hok
  clear h hl hl2 hg hok
  go_enter Try.func66, Try.ntmps66
  try go_wp2
  refine start_ (n := 10) (S := fun w' => w'.cell? ⟨r, 2, none⟩ = some (.pointer (some ⟨f, 0, none⟩))) (ds := []) #[false, false, false, false, false, false, false, false, false, false] (by kernel_rfl) rfl rfl (H.out.below (Below.refl w.heap.size w).drew).cell2 (fun hHeld => ?_)
  have HS := Aside0.mk (Below.refl w.heap.size w).drew
  generalize w.drew = w7 at HS hHeld ⊢
  refine pure_ (i := 0) (N := (some 5)) (v := ?_) (a' := ?_) #[true, false, false, false, false, false, false, false, false, false] rfl rfl (by kernel_rfl) (fun _ _ _ h => h) (Or.inl ⟨by rfl, ?_⟩) ?_ ?_
  rotate_left
  · intro w'
    go_simp
    with_reducible rfl
  rotate_left
  · simp only [Act.put, List.setIfInBounds_toArray, List.set_cons_zero, List.set_cons_succ]
    rfl
  refine pure_ (i := 1) (N := (some 6)) (v := ?_) (a' := ?_) #[true, true, false, false, false, false, false, false, false, false] rfl rfl (by kernel_rfl) (fun _ _ _ h => h) (Or.inl ⟨by rfl, ?_⟩) ?_ ?_
  rotate_left
  · intro w'
    go_simp
    with_reducible rfl
  rotate_left
  · simp only [Act.put, List.setIfInBounds_toArray, List.set_cons_zero, List.set_cons_succ]
    rfl
  refine pure_ (i := 3) (N := (some 8)) (v := ?_) (a' := ?_) #[true, true, false, true, false, false, false, false, false, false] rfl rfl (by kernel_rfl) (fun _ _ _ h => h) (Or.inl ⟨by rfl, ?_⟩) ?_ ?_
  rotate_left
  · intro w'
    go_simp
    with_reducible rfl
  rotate_left
  · simp only [Act.put, List.setIfInBounds_toArray, List.set_cons_zero, List.set_cons_succ]
    rfl
  refine pure_ (i := 4) (N := (some 9)) (v := ?_) (a' := ?_) #[true, true, false, true, true, false, false, false, false, false] rfl rfl (by kernel_rfl) (fun _ _ _ h => h) (Or.inl ⟨by rfl, ?_⟩) ?_ ?_
  rotate_left
  · intro w'
    go_simp
    with_reducible rfl
  rotate_left
  · simp only [Act.put, List.setIfInBounds_toArray, List.set_cons_zero, List.set_cons_succ]
    rfl
  refine pure_ (i := 5) (N := (some 10)) (v := ?_) (a' := ?_) #[true, true, false, true, true, true, false, false, false, false] rfl rfl (by kernel_rfl) (fun _ _ _ h => h) (Or.inl ⟨by rfl, ?_⟩) ?_ ?_
  rotate_left
  · intro w'
    go_simp
    with_reducible rfl
  rotate_left
  · simp only [Act.put, List.setIfInBounds_toArray, List.set_cons_zero, List.set_cons_succ]
    rfl
  refine take_ (i := 6) (N := (some 11)) (v := ?_) (a' := ?_) #[true, true, false, true, true, true, true, false, false, false] rfl rfl (by kernel_rfl) (fun _ _ _ h => h) (Or.inl ⟨by rfl, ?_⟩) hHeld ?_ ?_
  rotate_left
  · rintro w' hS
    skip
    go_simp
    with_reducible rfl
  rotate_left
  · simp only [Act.put, List.setIfInBounds_toArray, List.set_cons_zero, List.set_cons_succ]
    rfl
  refine one_ (i := 2) (N := (some 7)) #[true, true, true, true, true, true, true, false, false, false] rfl rfl (by kernel_rfl) (by decide) (fun K hK => ?_)
  refine goes_ Try.func71 (by kernel_rfl) rfl #[.pointer (some ⟨r, 0, none⟩), .int .i64 size, .int .i64 0, .int .i64 16777216] (by rfl) rfl rfl (by (try simp only [List.map_toArray, List.map_cons, List.map_nil]); first | done | rfl) ?_
  refine (rvec_calls lo r f s p code tw last size 0 16777216 _ HL.out HL2.out (H.out.below HS.out) k x q er HG.out ok HOK.out).mono ?_
  rintro e w8 ⟨rfl, i8, k8⟩
  refine ⟨_, rfl, ?_⟩
  have H8 := Aside0.mk i8
  have K8 := Aside0.mk ((Kf.of_below (r := r) (f := f) HLW.out HS.out).trans k8)
  have HZ8 := Aside0.mk (Nat.le_trans HS.out.size k8.below.size)
  clear i8 k8
  refine hK.out _ _ H8.out.cell2 (fun hHeld => ?_)
  clear hK K
  refine norm_ (a' := ?_) ?_ ?_
  rotate_left
  · show Act.put _ (some 7) _ = _
    simp only [Act.put, List.setIfInBounds_toArray, List.set_cons_zero, List.set_cons_succ]
    rfl
  refine one_ (i := 7) (N := (some 12)) #[true, true, true, true, true, true, true, true, false, false] rfl rfl (by kernel_rfl) (by decide) (fun K hK => ?_)
  refine value_ (w1 := w8) (v := .agg #[.string (sel (needed code ok) x ⟨#[]⟩), .int .i64 0, .pointer (some ⟨f, 0, none⟩), .bool false]) (by rfl) rfl ?_ ?_
  · have hb := run_build (P := Try.prog) w8 92 #[(0, .string (sel (needed code ok) x ⟨#[]⟩)), (2, .pointer (some ⟨f, 0, none⟩))] _ (built92 _ _)
    first | (go_simp; done) | (go_simp; rfl) | (simp [execOp, Act.eval, Sem.run_bind, hb]; done)
  refine hK.out _ _ H8.out.cell2 (fun hHeld => ?_)
  clear hK K
  refine norm_ (a' := ?_) ?_ ?_
  rotate_left
  · show Act.put _ (some 12) _ = _
    simp only [Act.put, List.setIfInBounds_toArray, List.set_cons_zero, List.set_cons_succ]
    rfl
  refine one_ (i := 8) (N := (some 13)) #[true, true, true, true, true, true, true, true, true, false] rfl rfl (by kernel_rfl) (by decide) (fun K hK => ?_)
  refine value_ (w1 := w8.alloc (.cells #[.string (sel (needed code ok) x ⟨#[]⟩), .int .i64 0, .pointer (some ⟨f, 0, none⟩), .bool false] 92)) (v := .pointer (some ⟨w8.heap.size, 0, none⟩)) (by rfl) rfl rfl ?_
  have b9 := below_alloc (Below.refl w8.heap.size w8) (.cells #[.string (sel (needed code ok) x ⟨#[]⟩), .int .i64 0, .pointer (some ⟨f, 0, none⟩), .bool false] 92)
  have H9 := Aside0.mk (H8.out.below b9)
  have N9 := Aside0.mk (blk_new w8 (.cells #[.string (sel (needed code ok) x ⟨#[]⟩), .int .i64 0, .pointer (some ⟨f, 0, none⟩), .bool false] 92))
  have K9 := Aside0.mk (K8.out.trans (Kf.of_below (r := r) (f := f) (Nat.le_trans HLW.out HZ8.out) b9))
  clear b9
  refine hK.out _ _ H9.out.cell2 (fun hHeld => ?_)
  clear hK K
  refine norm_ (a' := ?_) ?_ ?_
  rotate_left
  · show Act.put _ (some 13) _ = _
    simp only [Act.put, List.setIfInBounds_toArray, List.set_cons_zero, List.set_cons_succ]
    rfl
  refine pure_ (i := 9) (N := (some 4)) (v := ?_) (a' := ?_) #[true, true, true, true, true, true, true, true, true, true] rfl rfl (by kernel_rfl) (fun _ _ _ h => h) (Or.inl ⟨by rfl, ?_⟩) ?_ ?_
  rotate_left
  · intro w'
    go_simp
    with_reducible rfl
  rotate_left
  · simp only [Act.put, List.setIfInBounds_toArray, List.set_cons_zero, List.set_cons_succ]
    rfl
  refine done_ (by kernel_rfl) ?_
  go_wp2
  go_ret
  exact ⟨w8.heap.size, rfl, HZ8.out, H9.out, ⟨N9.out, H9.out.ft⟩, K9.out⟩
end Go.Proofs.Ytlkebjkpmiehcaa.Ms
end
section
namespace Go.Proofs.Ytlkebjkpmiehcaa.Ms
open Go.RowKit Go.Proofs.YtlkebjkpmiehcaaW.PrintWords Go.Proofs.YtlkebjkpmiehcaaW.PrintLast Go.Proofs.YtlkebjkpmiehcaaW.PrintMore Go.Proofs.Ytlkebjkpmiehcaa.X
set_option linter.unusedVariables false
set_option maxRecDepth 100000 in
set_option maxHeartbeats 8000000 in
theorem more_calls (r f : Nat) (s : ByteArray) (p code : Int) (tw last : Bool) (w : World) (h : Rs w r f s p code tw last) :
    Calls Try.prog 99 #[.pointer (some ⟨r, 0, none⟩)] w fun ex w' => ex = .returned (.bool (code == 0 && decide (p < (s.size : Int)))) ∧ Below w.heap.size w w' := by
  have H := Aside0.mk h
  clear h
  by_cases c : code = 0
  · have c0 : (code == 0) = true := beq_iff_eq.mpr c
    clear c
    go_enter Try.func99, Try.ntmps99
    try go_wp2
    refine start_ (n := 15) (S := fun w' => Below w.heap.size w w') (ds := []) #[false, false, false, false, false, false, false, false, false, false, false, false, false, false, false] (by kernel_rfl) rfl rfl (Below.refl w.heap.size w).drew (fun hHeld => ?_)
    have HS := Aside0.mk (Below.refl w.heap.size w).drew
    generalize w.drew = w7 at HS hHeld ⊢
    refine pure_ (i := 0) (N := (some 3)) (v := ?_) (a' := ?_) #[true, false, false, false, false, false, false, false, false, false, false, false, false, false, false] rfl rfl (by kernel_rfl) (fun _ _ _ h => h) (Or.inl ⟨by rfl, ?_⟩) ?_ ?_
    rotate_left
    · intro w'
      go_simp
      with_reducible rfl
    rotate_left
    · simp only [Act.put, List.setIfInBounds_toArray, List.set_cons_zero, List.set_cons_succ]
      rfl
    refine one_ (i := 1) (N := (some 4)) #[true, true, false, false, false, false, false, false, false, false, false, false, false, false, false] rfl rfl (by kernel_rfl) (by decide) (fun K hK => ?_)
    refine goes_ Try.func51 (by kernel_rfl) rfl #[.pointer (some ⟨r, 0, none⟩)] (by rfl) rfl rfl (by (try simp only [List.map_toArray, List.map_cons, List.map_nil]); first | done | rfl) ?_
    refine (ok_calls 0 r f s p code tw last _ (H.out.below HS.out)).mono ?_
    rintro e w8 ⟨rfl, rfl⟩
    rw [c0]
    refine ⟨_, rfl, ?_⟩
    refine hK.out _ _ HS.out (fun hHeld => ?_)
    clear hK K
    refine norm_ (a' := ?_) ?_ ?_
    rotate_left
    · show Act.put _ (some 4) _ = _
      simp only [Act.put, List.setIfInBounds_toArray, List.set_cons_zero, List.set_cons_succ]
      rfl
    refine pure_ (i := 2) (N := (some 5)) (v := ?_) (a' := ?_) #[true, true, true, false, false, false, false, false, false, false, false, false, false, false, false] rfl rfl (by kernel_rfl) (fun _ _ _ h => h) (Or.inl ⟨by rfl, ?_⟩) ?_ ?_
    rotate_left
    · intro w'
      go_simp
      with_reducible rfl
    rotate_left
    · simp only [Act.put, List.setIfInBounds_toArray, List.set_cons_zero, List.set_cons_succ]
      rfl
    refine pure_ (i := 3) (N := (some 6)) (v := ?_) (a' := ?_) #[true, true, true, true, false, false, false, false, false, false, false, false, false, false, false] rfl rfl (by kernel_rfl) (fun _ _ _ h => h) (Or.inl ⟨by rfl, ?_⟩) ?_ ?_
    rotate_left
    · intro w'
      go_simp
      with_reducible rfl
    rotate_left
    · simp only [Act.put, List.setIfInBounds_toArray, List.set_cons_zero, List.set_cons_succ]
      rfl
    refine pure_ (i := 4) (N := (some 7)) (v := ?_) (a' := ?_) #[true, true, true, true, true, false, false, false, false, false, false, false, false, false, false] rfl rfl (by kernel_rfl) (fun _ _ _ h => h) (Or.inl ⟨by rfl, ?_⟩) ?_ ?_
    rotate_left
    · intro w'
      go_simp
      with_reducible rfl
    rotate_left
    · simp only [Act.put, List.setIfInBounds_toArray, List.set_cons_zero, List.set_cons_succ]
      rfl
    refine pure_ (i := 5) (N := (some 8)) (v := ?_) (a' := ?_) #[true, true, true, true, true, true, false, false, false, false, false, false, false, false, false] rfl rfl (by kernel_rfl) (fun _ _ _ h => h) (Or.inl ⟨by rfl, ?_⟩) ?_ ?_
    rotate_left
    · intro w'
      go_simp
      with_reducible rfl
    rotate_left
    · simp only [Act.put, List.setIfInBounds_toArray, List.set_cons_zero, List.set_cons_succ]
      rfl
    refine take_ (i := 6) (N := (some 9)) (v := ?_) (a' := ?_) #[true, true, true, true, true, true, true, false, false, false, false, false, false, false, false] rfl rfl (by kernel_rfl) (fun _ _ _ h => h) (Or.inl ⟨by rfl, ?_⟩) hHeld ?_ ?_
    rotate_left
    · rintro w' hS
      have hc := rcell H.out.rd hS
      obtain ⟨hc1, hc2, hc3⟩ := hc
      go_simp
      with_reducible rfl
    rotate_left
    · simp only [Act.put, List.setIfInBounds_toArray, List.set_cons_zero, List.set_cons_succ]
      rfl
    refine pure_ (i := 7) (N := (some 10)) (v := ?_) (a' := ?_) #[true, true, true, true, true, true, true, true, false, false, false, false, false, false, false] rfl rfl (by kernel_rfl) (fun _ _ _ h => h) (Or.inl ⟨by rfl, ?_⟩) ?_ ?_
    rotate_left
    · intro w'
      go_simp
      with_reducible rfl
    rotate_left
    · simp only [Act.put, List.setIfInBounds_toArray, List.set_cons_zero, List.set_cons_succ]
      rfl
    refine pure_ (i := 8) (N := (some 11)) (v := ?_) (a' := ?_) #[true, true, true, true, true, true, true, true, true, false, false, false, false, false, false] rfl rfl (by kernel_rfl) (fun _ _ _ h => h) (Or.inl ⟨by rfl, ?_⟩) ?_ ?_
    rotate_left
    · intro w'
      go_simp
      with_reducible rfl
    rotate_left
    · simp only [Act.put, List.setIfInBounds_toArray, List.set_cons_zero, List.set_cons_succ]
      rfl
    refine pure_ (i := 9) (N := (some 12)) (v := ?_) (a' := ?_) #[true, true, true, true, true, true, true, true, true, true, false, false, false, false, false] rfl rfl (by kernel_rfl) (fun _ _ _ h => h) (Or.inl ⟨by rfl, ?_⟩) ?_ ?_
    rotate_left
    · intro w'
      go_simp
      with_reducible rfl
    rotate_left
    · simp only [Act.put, List.setIfInBounds_toArray, List.set_cons_zero, List.set_cons_succ]
      rfl
    refine take_ (i := 10) (N := (some 13)) (v := ?_) (a' := ?_) #[true, true, true, true, true, true, true, true, true, true, true, false, false, false, false] rfl rfl (by kernel_rfl) (fun _ _ _ h => h) (Or.inl ⟨by rfl, ?_⟩) hHeld ?_ ?_
    rotate_left
    · rintro w' hS
      have hc := rcell H.out.rd hS
      obtain ⟨hc1, hc2, hc3⟩ := hc
      go_simp
      with_reducible rfl
    rotate_left
    · simp only [Act.put, List.setIfInBounds_toArray, List.set_cons_zero, List.set_cons_succ]
      rfl
    refine pure_ (i := 11) (N := (some 14)) (v := ?_) (a' := ?_) #[true, true, true, true, true, true, true, true, true, true, true, true, false, false, false] rfl rfl (by kernel_rfl) (fun _ _ _ h => h) (Or.inl ⟨by rfl, ?_⟩) ?_ ?_
    rotate_left
    · intro w'
      go_simp
      with_reducible rfl
    rotate_left
    · simp only [Act.put, List.setIfInBounds_toArray, List.set_cons_zero, List.set_cons_succ]
      rfl
    refine pure_ (i := 12) (N := (some 15)) (v := ?_) (a' := ?_) #[true, true, true, true, true, true, true, true, true, true, true, true, true, false, false] rfl rfl (by kernel_rfl) (fun _ _ _ h => h) (Or.inl ⟨by rfl, ?_⟩) ?_ ?_
    rotate_left
    · intro w'
      go_simp
      with_reducible rfl
    rotate_left
    · simp only [Act.put, List.setIfInBounds_toArray, List.set_cons_zero, List.set_cons_succ]
      rfl
    refine pure_ (i := 13) (N := (some 16)) (v := ?_) (a' := ?_) #[true, true, true, true, true, true, true, true, true, true, true, true, true, true, false] rfl rfl (by kernel_rfl) (fun _ _ _ h => h) (Or.inl ⟨by rfl, ?_⟩) ?_ ?_
    rotate_left
    · intro w'
      go_simp
      with_reducible rfl
    rotate_left
    · simp only [Act.put, List.setIfInBounds_toArray, List.set_cons_zero, List.set_cons_succ]
      rfl
    refine pure_ (i := 14) (N := (some 2)) (v := ?_) (a' := ?_) #[true, true, true, true, true, true, true, true, true, true, true, true, true, true, true] rfl rfl (by kernel_rfl) (fun _ _ _ h => h) (Or.inl ⟨by rfl, ?_⟩) ?_ ?_
    rotate_left
    · intro w'
      go_simp
      with_reducible rfl
    rotate_left
    · simp only [Act.put, List.setIfInBounds_toArray, List.set_cons_zero, List.set_cons_succ]
      rfl
    refine done_ (by kernel_rfl) ?_
    go_wp2
    go_ret
    exact ⟨by first | rfl | (rw [c0]; rfl), HS.out⟩
  · have c0 : (code == 0) = false := beq_eq_false_iff_ne.mpr c
    clear c
    go_enter Try.func99, Try.ntmps99
    try go_wp2
    refine start_ (n := 15) (S := fun w' => Below w.heap.size w w') (ds := []) #[false, false, false, false, false, false, false, false, false, false, false, false, false, false, false] (by kernel_rfl) rfl rfl (Below.refl w.heap.size w).drew (fun hHeld => ?_)
    have HS := Aside0.mk (Below.refl w.heap.size w).drew
    generalize w.drew = w7 at HS hHeld ⊢
    refine pure_ (i := 0) (N := (some 3)) (v := ?_) (a' := ?_) #[true, false, false, false, false, false, false, false, false, false, false, false, false, false, false] rfl rfl (by kernel_rfl) (fun _ _ _ h => h) (Or.inl ⟨by rfl, ?_⟩) ?_ ?_
    rotate_left
    · intro w'
      go_simp
      with_reducible rfl
    rotate_left
    · simp only [Act.put, List.setIfInBounds_toArray, List.set_cons_zero, List.set_cons_succ]
      rfl
    refine one_ (i := 1) (N := (some 4)) #[true, true, false, false, false, false, false, false, false, false, false, false, false, false, false] rfl rfl (by kernel_rfl) (by decide) (fun K hK => ?_)
    refine goes_ Try.func51 (by kernel_rfl) rfl #[.pointer (some ⟨r, 0, none⟩)] (by rfl) rfl rfl (by (try simp only [List.map_toArray, List.map_cons, List.map_nil]); first | done | rfl) ?_
    refine (ok_calls 0 r f s p code tw last _ (H.out.below HS.out)).mono ?_
    rintro e w8 ⟨rfl, rfl⟩
    rw [c0]
    refine ⟨_, rfl, ?_⟩
    refine hK.out _ _ HS.out (fun hHeld => ?_)
    clear hK K
    refine norm_ (a' := ?_) ?_ ?_
    rotate_left
    · show Act.put _ (some 4) _ = _
      simp only [Act.put, List.setIfInBounds_toArray, List.set_cons_zero, List.set_cons_succ]
      rfl
    refine pure_ (i := 2) (N := (some 5)) (v := ?_) (a' := ?_) #[true, true, true, false, false, false, false, false, false, false, false, false, false, false, false] rfl rfl (by kernel_rfl) (fun _ _ _ h => h) (Or.inl ⟨by rfl, ?_⟩) ?_ ?_
    rotate_left
    · intro w'
      go_simp
      with_reducible rfl
    rotate_left
    · simp only [Act.put, List.setIfInBounds_toArray, List.set_cons_zero, List.set_cons_succ]
      rfl
    refine pure_ (i := 3) (N := (some 6)) (v := undef) (a' := ?_) #[true, true, true, true, false, false, false, false, false, false, false, false, false, false, false] rfl rfl (by kernel_rfl) (fun _ _ _ h => h) (Or.inr ⟨by rfl, by rfl⟩) ?_ ?_
    rotate_left
    · simp only [Act.put, List.setIfInBounds_toArray, List.set_cons_zero, List.set_cons_succ]
      rfl
    refine pure_ (i := 4) (N := (some 7)) (v := undef) (a' := ?_) #[true, true, true, true, true, false, false, false, false, false, false, false, false, false, false] rfl rfl (by kernel_rfl) (fun _ _ _ h => h) (Or.inr ⟨by rfl, by rfl⟩) ?_ ?_
    rotate_left
    · simp only [Act.put, List.setIfInBounds_toArray, List.set_cons_zero, List.set_cons_succ]
      rfl
    refine pure_ (i := 5) (N := (some 8)) (v := undef) (a' := ?_) #[true, true, true, true, true, true, false, false, false, false, false, false, false, false, false] rfl rfl (by kernel_rfl) (fun _ _ _ h => h) (Or.inr ⟨by rfl, by rfl⟩) ?_ ?_
    rotate_left
    · simp only [Act.put, List.setIfInBounds_toArray, List.set_cons_zero, List.set_cons_succ]
      rfl
    refine pure_ (i := 6) (N := (some 9)) (v := undef) (a' := ?_) #[true, true, true, true, true, true, true, false, false, false, false, false, false, false, false] rfl rfl (by kernel_rfl) (fun _ _ _ h => h) (Or.inr ⟨by rfl, by rfl⟩) ?_ ?_
    rotate_left
    · simp only [Act.put, List.setIfInBounds_toArray, List.set_cons_zero, List.set_cons_succ]
      rfl
    refine pure_ (i := 7) (N := (some 10)) (v := undef) (a' := ?_) #[true, true, true, true, true, true, true, true, false, false, false, false, false, false, false] rfl rfl (by kernel_rfl) (fun _ _ _ h => h) (Or.inr ⟨by rfl, by rfl⟩) ?_ ?_
    rotate_left
    · simp only [Act.put, List.setIfInBounds_toArray, List.set_cons_zero, List.set_cons_succ]
      rfl
    refine pure_ (i := 8) (N := (some 11)) (v := undef) (a' := ?_) #[true, true, true, true, true, true, true, true, true, false, false, false, false, false, false] rfl rfl (by kernel_rfl) (fun _ _ _ h => h) (Or.inr ⟨by rfl, by rfl⟩) ?_ ?_
    rotate_left
    · simp only [Act.put, List.setIfInBounds_toArray, List.set_cons_zero, List.set_cons_succ]
      rfl
    refine pure_ (i := 9) (N := (some 12)) (v := undef) (a' := ?_) #[true, true, true, true, true, true, true, true, true, true, false, false, false, false, false] rfl rfl (by kernel_rfl) (fun _ _ _ h => h) (Or.inr ⟨by rfl, by rfl⟩) ?_ ?_
    rotate_left
    · simp only [Act.put, List.setIfInBounds_toArray, List.set_cons_zero, List.set_cons_succ]
      rfl
    refine pure_ (i := 10) (N := (some 13)) (v := undef) (a' := ?_) #[true, true, true, true, true, true, true, true, true, true, true, false, false, false, false] rfl rfl (by kernel_rfl) (fun _ _ _ h => h) (Or.inr ⟨by rfl, by rfl⟩) ?_ ?_
    rotate_left
    · simp only [Act.put, List.setIfInBounds_toArray, List.set_cons_zero, List.set_cons_succ]
      rfl
    refine pure_ (i := 11) (N := (some 14)) (v := undef) (a' := ?_) #[true, true, true, true, true, true, true, true, true, true, true, true, false, false, false] rfl rfl (by kernel_rfl) (fun _ _ _ h => h) (Or.inr ⟨by rfl, by rfl⟩) ?_ ?_
    rotate_left
    · simp only [Act.put, List.setIfInBounds_toArray, List.set_cons_zero, List.set_cons_succ]
      rfl
    refine pure_ (i := 12) (N := (some 15)) (v := undef) (a' := ?_) #[true, true, true, true, true, true, true, true, true, true, true, true, true, false, false] rfl rfl (by kernel_rfl) (fun _ _ _ h => h) (Or.inr ⟨by rfl, by rfl⟩) ?_ ?_
    rotate_left
    · simp only [Act.put, List.setIfInBounds_toArray, List.set_cons_zero, List.set_cons_succ]
      rfl
    refine pure_ (i := 13) (N := (some 16)) (v := ?_) (a' := ?_) #[true, true, true, true, true, true, true, true, true, true, true, true, true, true, false] rfl rfl (by kernel_rfl) (fun _ _ _ h => h) (Or.inl ⟨by rfl, ?_⟩) ?_ ?_
    rotate_left
    · intro w'
      go_simp
      with_reducible rfl
    rotate_left
    · simp only [Act.put, List.setIfInBounds_toArray, List.set_cons_zero, List.set_cons_succ]
      rfl
    refine pure_ (i := 14) (N := (some 2)) (v := ?_) (a' := ?_) #[true, true, true, true, true, true, true, true, true, true, true, true, true, true, true] rfl rfl (by kernel_rfl) (fun _ _ _ h => h) (Or.inl ⟨by rfl, ?_⟩) ?_ ?_
    rotate_left
    · intro w'
      go_simp
      with_reducible rfl
    rotate_left
    · simp only [Act.put, List.setIfInBounds_toArray, List.set_cons_zero, List.set_cons_succ]
      rfl
    refine done_ (by kernel_rfl) ?_
    go_wp2
    go_ret
    exact ⟨by first | rfl | (rw [c0]; rfl), HS.out⟩
end Go.Proofs.Ytlkebjkpmiehcaa.Ms
end
section
namespace Go.Proofs.YtlkebjkpmiehcaaW.PrintWords
open Go.RowKit Go.Maps
set_option linter.unusedVariables false
def Sd (xs : List Int) : DataW Unit := xs.foldl (fun D x => D.put (.int .i64 x) (.lit (.bool true))) (.map [])
theorem Sd_snoc (xs : List Int) (x : Int) : Sd (xs ++ [x]) = (Sd xs).put (.int .i64 x) (.lit (.bool true)) := by simp [Sd]
theorem Sd_fold (x : Int) (z : DataW Unit) : ∀ (xs : List Int) (D : DataW Unit), IsMap D → (xs.foldl (fun D x => D.put (.int .i64 x) (.lit (.bool true))) D).atKey (.int .i64 x) z = if x ∈ xs then .lit (.bool true) else D.atKey (.int .i64 x) z
  | [], D, _ => by simp
  | y :: xs, D, hD => by
    rw [List.foldl_cons, Sd_fold x z xs _ (hD.put _ _)]
    by_cases h : x ∈ xs
    · rw [if_pos h, if_pos (List.mem_cons_of_mem _ h)]
    · rw [if_neg h]
      by_cases hy : x = y
      · subst hy
        rw [if_pos List.mem_cons_self]
        exact atKey_put_same hD (by simp [WideAt.IsKeyLit]) _ _
      · rw [if_neg (by simp [hy, h])]
        exact atKey_put_other (fun e => hy (by injection e)) _ _
theorem Sd_at (x : Int) (xs : List Int) : (Sd xs).atKey (.int .i64 x) (.lit (.bool false)) = .lit (.bool (decide (x ∈ xs))) := by
  unfold Sd
  rw [Sd_fold x _ xs (.map []) ⟨_, rfl⟩]
  by_cases h : x ∈ xs
  · rw [if_pos h, decide_eq_true h]
  · rw [if_neg h, decide_eq_false h]
    rfl
theorem plainElem_bool_inv {P : Program} {e : TypeId} (he : P.underlying e = some .bool) {v : Value} {z : DataW Unit × List MemPlace} (h : plainElem P e v = some z) : ∃ b, v = .bool b ∧ z = (.lit (.bool b), []) := by
  unfold plainElem at h
  rw [he] at h
  cases v <;> simp at h
  exact ⟨_, rfl, h.symm⟩
theorem lit_bool {a b : Bool} (h : (DataW.lit (.bool a) : DataW Unit) = .lit (.bool b)) : a = b := by
  injection h with h2
  injection h2
def MapTurn (W w1 : World) : Prop := ∃ g es c, W.heap[g]? = some (.map es c) ∧ W.grownBy w1 (some g)
namespace Kd
def Y (_ : Kd Int) (e : TypeId) (w : World) (base : Nat) (ok : Nat → Prop) (v : Value) (xs : List Int) : Prop := ∃ g, v = .map (some g) ∧ ok g ∧ base ≤ g ∧ w.ownsMap Go.Proofs.Try.prog e (plainElem (H := Unit) Go.Proofs.Try.prog 4) g xs.length (Sd xs)
section
variable {d : Kd Int} {e : TypeId} {w w1 : World} {base : Nat} {ok ok' : Nat → Prop} {v : Value} {xs : List Int}
theorem Y_step (h : Y d e w base ok v xs) (hm : ∀ k, ok k → k < w.heap.size → w1.heap[k]? = w.heap[k]?) : Y d e w1 base ok v xs := by
  obtain ⟨g, rfl, ho, hb, hw⟩ := h
  have hl := hw.lt
  obtain ⟨es, c, hh, r⟩ := hw
  exact ⟨g, rfl, ho, hb, es, c, (hm g ho hl).trans hh, r⟩
theorem Y_below (h : Y d e w base ok v xs) (hb : Below w.heap.size w w1) : Y d e w1 base ok v xs := Y_step h (fun k _ hk => hb.block k hk)
theorem Y_alloc (h : Y d e w base ok v xs) (o : Obj) : Y d e (w.alloc o) base ok v xs := Y_below h (below_alloc (Below.refl _ _) o)
theorem Y_drew (h : Y d e w base ok v xs) : Y d e w.drew base ok v xs := Y_below h (below_drew (Below.refl _ _))
theorem Y_drewN (h : Y d e w base ok v xs) (m : Nat) : Y d e (w.drewN m) base ok v xs := Y_below h (pw_below_drewN (Below.refl _ _) m)
theorem Y_far (h : Y d e w base ok v xs) {p : Addr} (hok : ∀ k, ok k → k ≠ p.block) (u : Value) : Y d e (w.setCell p u) base ok v xs := Y_step h (fun k ho _ => Below.heap_setCell w p u k (hok k ho))
theorem Y_mono (h : Y d e w base ok v xs) (hok : ∀ k, ok k → ok' k) : Y d e w base ok' v xs := by
  obtain ⟨g, rfl, ho, r⟩ := h
  exact ⟨g, rfl, hok g ho, r⟩
theorem Y_lower {base' : Nat} (h : Y d e w base ok v xs) (hb : base' ≤ base) : Y d e w base' ok v xs := by
  obtain ⟨g, rfl, ho, hb2, r⟩ := h
  exact ⟨g, rfl, ho, Nat.le_trans hb hb2, r⟩
theorem Y_types (h : Y d e w base ok v xs) {g t : Nat} {cells : Array Value} (hb : w.heap[g]? = some (.cells cells t (0, 0))) (ht : ∀ q, q ∈ e :: d.E → q ≠ t) : Y d e w base (fun k => ok k ∧ k ≠ g) v xs := by
  obtain ⟨g', rfl, ho, hbs, hw⟩ := h
  have hw2 := hw
  obtain ⟨es, c, hh, r⟩ := hw
  refine ⟨g', rfl, ⟨ho, fun e' => ?_⟩, hbs, hw2⟩
  subst e'
  rw [hh] at hb
  cases hb
end
theorem R_map {α : Type} {d : Kd α} {e : Nat} {w w1 : World} {base : Nat} {ok : Nat → Prop} {v : Value} {xs : List α} (h : d.R e w base ok v xs) (hm : MapTurn w w1) : d.R e w1 base ok v xs := by
  obtain ⟨g, es, c, hh, hg⟩ := hm
  refine R_mono (R_grown (R_bound h) hg (fun k hk e1 => ?_)) (fun _ hk => hk.1)
  obtain ⟨_, _, _, q, _, cells, hc⟩ := hk
  injection e1 with e1
  subst e1
  rw [hh] at hc
  cases hc
section
variable {P : Program} {ops : Array Oper} {rest : List Oper} {o : Oper} {a : Act} {Q : Exit → Act → World → Prop}
theorem zeroB (w : World) : (zeroValue 4).run Go.Proofs.Try.prog w = .ok (.bool false) w := by kernel_rfl
theorem Y_make (d : Kd Int) {W : World} (e : Nat) (hgd : o.guard = none) {N : Tmp} (hd : o.dst = some N) (t : TypeId) (ho : o.op = .makeMap t none) {ok : Nat → Prop} (hok : ok W.heap.size)
    (h : ∀ v1 w1, Kd.Y d e w1 W.heap.size ok v1 [] → Below W.heap.size W w1 → wpList Go.Proofs.Try.prog ops Q rest (a.put o.dst v1) w1) : wpList Go.Proofs.Try.prog ops Q (o :: rest) a W := by
  have hmm := @run_makeMap Go.Proofs.Try.prog
  refine wpList_plain hgd fun K hK => ?_
  unfold Oper.wp
  simp [execOp, ho, hmm, Result.andThen]
  exact hK _ _ (h _ _ ⟨_, rfl, hok, Nat.le_refl _, World.ownsMap_made _ _ _ _⟩ (below_alloc (Below.refl _ _) _))
theorem Y_look (d : Kd Int) {W : World} (e : Nat) (hgd : o.guard = none) (t : TypeId) (m x : Operand) (ho : o.op = .lookup t m x false) (ht : Go.Proofs.Try.prog.underlying t = some (.map e 4)) (he : Go.Proofs.Try.prog.underlying e = some (.int .i64)) (hb : Go.Proofs.Try.prog.underlying 4 = some .bool)
    (hz : (zeroValue 4).run Go.Proofs.Try.prog W = .ok (.bool false) W) {v : Value} {k : Int} {base : Nat} {ok : Nat → Prop} {xs : List Int} (hm : a.eval m = v) (hx : a.eval x = .int .i64 k) (hk : (Lit.int .i64 k).wf = true)
    (HO : Kd.Y d e W base ok v xs) (h : ∀ w1, Below W.heap.size W w1 → wpList Go.Proofs.Try.prog ops Q rest (a.put o.dst (.bool (decide (k ∈ xs)))) w1) : wpList Go.Proofs.Try.prog ops Q (o :: rest) a W := by
  obtain ⟨g, rfl, _, _, hw⟩ := HO
  obtain ⟨u, ps, hrun, hu⟩ := hw.lookup (int_keyed he) ht hz (plainElem_bool hb false) (keyOf_int_mk he hk)
  obtain ⟨b, rfl, hzz⟩ := plainElem_bool_inv hb hu
  rw [Sd_at] at hzz
  have hbb : decide (k ∈ xs) = b := lit_bool (congrArg Prod.fst hzz)
  refine wpList_plain hgd fun K' hK' => ?_
  unfold Oper.wp
  simp [execOp, ho, hm, hx, hrun, Result.andThen]
  rw [← hbb]
  exact hK' _ _ (h _ (Below.refl _ _))
theorem Y_put (d : Kd Int) {w0 W : World} (base e : Nat) (hgd : o.guard = none) (t : TypeId) (m x y : Operand) (ho : o.op = .mapUpdate t m x y) (ht : Go.Proofs.Try.prog.underlying t = some (.map e 4)) (he : Go.Proofs.Try.prog.underlying e = some (.int .i64)) (hb : Go.Proofs.Try.prog.underlying 4 = some .bool)
    (v : Value) (xs : List Int) (k : Int) {ok : Nat → Prop} (hm : a.eval m = v) (hx : a.eval x = .int .i64 k) (hy : a.eval y = .bool true) (hk : (Lit.int .i64 k).wf = true) (hl : xs.length < maxLen)
    (HO : Kd.Y d e W base ok v xs) (HB : Below base w0 W) (hbase : base ≤ W.heap.size)
    (h : ∀ w1, Kd.Y d e w1 base ok v (xs ++ [k]) → Below base w0 w1 → MapTurn W w1 → wpList Go.Proofs.Try.prog ops Q rest (a.put o.dst undef) w1) : wpList Go.Proofs.Try.prog ops Q (o :: rest) a W := by
  obtain ⟨g, rfl, hok, hbg, hw⟩ := HO
  obtain ⟨w', hrun, r1, r2⟩ := hw.update (int_keyed he) ht hl (val := .bool true) (keyOf_int_mk he hk) (plainElem_bool hb true)
  have hw2 := hw
  obtain ⟨es, c, hh, _⟩ := hw2
  refine wpList_plain hgd fun K' hK' => ?_
  unfold Oper.wp
  simp [execOp, ho, hm, hx, hy, hrun, Result.andThen]
  refine hK' _ _ (h _ ⟨g, rfl, hok, hbg, ?_⟩ (HB.grown r2 hbase (fun k hk => by injection hk with e1; omega)) ⟨g, es, c, hh, r2⟩)
  rw [Sd_snoc, List.length_append]
  exact r1
end
end Kd
theorem blk_map {w w1 : World} {g : Nat} {o : Obj} (h : w.heap[g]? = some o) (hm : MapTurn w w1) (hne : ∀ es c, o ≠ .map es c := by (intro _ _ h_; cases h_)) : w1.heap[g]? = some o := by
  obtain ⟨b, es, c, hh, hg⟩ := hm
  have hlt : g < w.heap.size := (Array.getElem?_eq_some_iff.1 h).1
  refine (hg.block g hlt (fun e => ?_)).trans h
  injection e with e
  subst e
  rw [hh] at h
  injection h with h
  exact hne _ _ h.symm
end Go.Proofs.YtlkebjkpmiehcaaW.PrintWords
end
section
namespace Go.Proofs.Ytlkebjkpmiehcaa.E
open Go.RowKit Go.Proofs.YtlkebjkpmiehcaaW.PrintWords Go.Proofs.YtlkebjkpmiehcaaW.PrintLast Go.Proofs.YtlkebjkpmiehcaaW.PrintMore
attribute [local go_sem] max2_int min2_int max_two min_two max_three min_three max_four min_four   
set_option linter.unusedVariables false
set_option linter.unusedSimpArgs false
def errW : Option Int → Value
  | none => .nilIface
  | some c => .iface 0 (.int .i64 c)
theorem errW_none : errW none = .nilIface := rfl
theorem errW_some (c : Int) : errW (some c) = .iface 0 (.int .i64 c) := rfl
theorem info5 : (Try.prog.info? 5).map (fun i => (i.zero, i.size, i.bytes)) = some (some (.int .u8 0), 1, 1) := by kernel_rfl
theorem info41 : (Try.prog.info? 41).map (fun i => (i.zero, i.size, i.bytes)) = some (some (.agg #[(.int .i64 0), (.string ⟨#[]⟩)]), 2, 24) := by kernel_rfl
structure S41 where
  f0 : Int
  f1 : ByteArray
def z41 : S41 := ⟨(0 : Int), (⟨#[]⟩ : ByteArray)⟩
def k41 : Kd S41 := Kd.iso (Kd.pair (Kd.int .i64) Kd.string) (fun x : S41 => (x.f0, x.f1))
theorem k41_open {w : World} {x : S41} {cs : List Value} (h : k41.K w x cs) : cs = [.int .i64 x.f0, .string x.f1] := by
  obtain ⟨_, _, rfl, rfl, rfl⟩ := h
  exact rfl
theorem k41_mkM (w : World) (base : Nat) (ok : Nat → Prop) (x : S41)  : k41.M w base ok x [.int .i64 x.f0, .string x.f1] := ⟨[.int .i64 x.f0], [.string x.f1], rfl, rfl, rfl⟩
def rd_T41 (xs : List S41) (i : Int) : S41 := xs.getD i.toNat z41
theorem at_T41 {w : World} {A : Option Addr} {n : Nat} {xs : List S41} (h : Kd.C k41 w A n xs) (i : Int) (h0 : 0 ≤ i) (h1 : i < n) : ∃ ad , A = some ad ∧ w.cell? (ad.add (i.toNat * 2)) = some (.int .i64 (rd_T41 xs i).f0) ∧ w.cell? ⟨(ad.add (i.toNat * 2)).block, (ad.add (i.toNat * 2)).off + 1, none⟩ = some (.string (rd_T41 xs i).f1) := by
  obtain ⟨ad, c, e, _, hK, hc0⟩ := Kd.C_get h z41 i h0 h1
  have hc : ∀ j u, c[j]? = some u → w.cell? (ad.add (i.toNat * 2 + j)) = some u := hc0
  obtain rfl := k41_open hK
  exact ⟨ad, e, hc 0 _ rfl, by rw [← add_field _ _ 1 (by omega)]; exact hc 1 _ rfl⟩
end Go.Proofs.Ytlkebjkpmiehcaa.E
end
section
namespace Go.Proofs.Ytlkebjkpmiehcaa.E
open Go.RowKit Go.Proofs.YtlkebjkpmiehcaaW.PrintWords Go.Proofs.YtlkebjkpmiehcaaW.PrintLast Go.Proofs.YtlkebjkpmiehcaaW.PrintMore
attribute [local go_sem] max2_int min2_int max_two min_two max_three min_three max_four min_four   
set_option linter.unusedVariables false
set_option linter.unusedSimpArgs false
mutual
def wire_number.j0 : Nat → ByteArray → Int → Int → Bool → Option (Int × Int × Int)
  | 0, _, _, _, _ => none
  | k + 1, x0, x1, x2, x26 => if x26 = true then (some (0, 0, 100)) else (wire_number.l0 k x0 x1 x2 0 x2 0)
def wire_number.l0 : Nat → ByteArray → Int → Int → Int → Int → Int → Option (Int × Int × Int)
  | 0, _, _, _, _, _, _ => none
  | k + 1, x0, x1, x2, x9, x27, x28 => if x28 < x27 then (if 0 ≤ (wrap64 (x1 + x28)) then (if (wrap64 (x1 + x28)) < (x0.size : Int) then (wire_number.l0 k x0 x1 x2 (Go.bits .or .i64 (wrap64 (x9 * 256)) (wrap64 (bt x0 (wrap64 (x1 + x28))))) x27 (wrap64 (x28 + 1))) else (none)) else (none)) else (some (x9, wrap64 (x1 + x2), 0))
end
def wire_number.f (k : Nat) (a0 : ByteArray) (a1 : Int) (a2 : Int) : Option (Int × Int × Int) := if a1 < 0 then (wire_number.j0 k a0 a1 a2 true) else (if a1 > (a0.size : Int) then (wire_number.j0 k a0 a1 a2 true) else (wire_number.j0 k a0 a1 a2 (decide ((wrap64 ((a0.size : Int) - a1)) < a2))))
theorem wire_number.mono_l : ∀ k, (∀ y0 y1 y2 y3, LeO (wire_number.j0 k y0 y1 y2 y3) (wire_number.j0 (k + 1) y0 y1 y2 y3)) ∧ (∀ y0 y1 y2 y3 y4 y5, LeO (wire_number.l0 k y0 y1 y2 y3 y4 y5) (wire_number.l0 (k + 1) y0 y1 y2 y3 y4 y5))
  | 0 => ⟨fun _ _ _ _ r h => by simp [wire_number.j0] at h, fun _ _ _ _ _ _ r h => by simp [wire_number.l0] at h⟩
  | k + 1 => by
    obtain ⟨ih0, ih1⟩ := wire_number.mono_l k
    refine ⟨?_, ?_⟩
    · intro y0 y1 y2 y3
      unfold wire_number.j0
      repeat' first
      | (with_reducible exact ih0 _ _ _ _)
      | (with_reducible exact ih1 _ _ _ _ _ _)
      | (with_reducible exact LeO.refl _)
      | (with_reducible exact LeO.none _)
      | (with_reducible refine LeO.ite ?_ ?_)
      | (with_reducible refine LeO.bind ?_ (fun _ => ?_))
      | exact ih0 _ _ _ _
      | exact ih1 _ _ _ _ _ _
      | exact LeO.none _
      | refine LeO.ite ?_ ?_
      | refine LeO.bind ?_ (fun _ => ?_)
    · intro y0 y1 y2 y3 y4 y5
      unfold wire_number.l0
      repeat' first
      | (with_reducible exact ih0 _ _ _ _)
      | (with_reducible exact ih1 _ _ _ _ _ _)
      | (with_reducible exact LeO.refl _)
      | (with_reducible exact LeO.none _)
      | (with_reducible refine LeO.ite ?_ ?_)
      | (with_reducible refine LeO.bind ?_ (fun _ => ?_))
      | exact ih0 _ _ _ _
      | exact ih1 _ _ _ _ _ _
      | exact LeO.none _
      | refine LeO.ite ?_ ?_
      | refine LeO.bind ?_ (fun _ => ?_)
theorem wire_number.mono : ∀ a0 a1 a2 k, LeO (wire_number.f k a0 a1 a2) (wire_number.f (k + 1) a0 a1 a2) := by
  intro a0 a1 a2 k
  obtain ⟨ih0, ih1⟩ := wire_number.mono_l k
  unfold wire_number.f
  repeat' first
      | (with_reducible exact ih0 _ _ _ _)
      | (with_reducible exact ih1 _ _ _ _ _ _)
      | (with_reducible exact LeO.refl _)
      | (with_reducible exact LeO.none _)
      | (with_reducible refine LeO.ite ?_ ?_)
      | (with_reducible refine LeO.bind ?_ (fun _ => ?_))
      | exact ih0 _ _ _ _
      | exact ih1 _ _ _ _ _ _
      | exact LeO.none _
      | refine LeO.ite ?_ ?_
      | refine LeO.bind ?_ (fun _ => ?_)
set_option maxHeartbeats 8000000 in
set_option maxRecDepth 100000 in
theorem wire_number.calls (k : Nat) (a0 : ByteArray) (a1 : Int) (a2 : Int) (r1 : Int) (r2 : Int) (r3 : Int) (w : World) (h : wire_number.f k a0 a1 a2 = some (r1, r2, r3)) :
    Calls Try.prog 54 #[.string a0, .int .i64 a1, .int .i64 a2] w fun e w' => e = .returned (.tuple #[.int .i64 r1, .int .i64 r2, .int .i64 r3]) ∧ Drawn0 w w' := by
  have H : (if a1 < 0 then (wire_number.j0 k a0 a1 a2 true) else (if a1 > (a0.size : Int) then (wire_number.j0 k a0 a1 a2 true) else (wire_number.j0 k a0 a1 a2 (decide ((wrap64 ((a0.size : Int) - a1)) < a2))))) = some (r1, r2, r3) := h
  clear h
  have HC4 := Aside0.mk H
  clear H
  go_enter Try.func54, Try.ntmps54
  go_upto_region 1 with (fail)
  go_cut [26] (fun v26 wc => ∃ (kq : Nat) (x26_3 : Bool), v26 = .bool x26_3 ∧ Aside0 (wire_number.j0 kq a0 a1 a2 x26_3 = some (r1, r2, r3)) ∧ Aside0 (kq ≤ k) ∧ Drawn0 w wc)
  case first =>
    have H := HC4.out
    clear HC4
    by_cases c5 : a1 < 0
    · rw [if_pos c5] at H
      have c5b0 : decide (a1 < 0) = true := decide_eq_true c5
      clear c5
      (first | rw [c5b0] | (simp only [i64_w, i32_w]; rw [c5b0]) | skip)
      have H' := Aside0.mk H
      clear H
      go_wp2
      go_meet
      case rel => exact ⟨_, (true), (by first | rfl | (simp; done) | (simp [*]; done)), H', ⟨by first | omega | exact Nat.le_refl _⟩, by repeat (first | exact Drawn0.refl _ | apply Drawn0.step)⟩
    · rw [if_neg c5] at H
      have c5b0 : decide (a1 < 0) = false := decide_eq_false c5
      clear c5
      (first | rw [c5b0] | (simp only [i64_w, i32_w]; rw [c5b0]) | skip)
      by_cases c6 : a1 > (a0.size : Int)
      · rw [if_pos c6] at H
        have c6b0 : decide ((a0.size : Int) < a1) = true := decide_eq_true c6
        clear c6
        have H' := Aside0.mk H
        clear H
        go_wp2
        go_meet
        case rel => exact ⟨_, (true), (by first | rfl | (simp; done) | (simp [*]; done)), H', ⟨by first | omega | exact Nat.le_refl _⟩, by repeat (first | exact Drawn0.refl _ | apply Drawn0.step)⟩
      · rw [if_neg c6] at H
        have c6b0 : decide ((a0.size : Int) < a1) = false := decide_eq_false c6
        clear c6
        have H' := Aside0.mk H
        clear H
        go_wp2
        go_meet
        case rel => exact ⟨_, (decide ((wrap64 ((a0.size : Int) - a1)) < a2)), (by first | rfl | (simp; done) | (simp [*]; done)), H', ⟨by first | omega | exact Nat.le_refl _⟩, by repeat (first | exact Drawn0.refl _ | apply Drawn0.step)⟩
  case rest =>
    clear HC4
    try clear p2
    try clear c5
    try clear c5b0
    try clear c6
    try clear c6b0
    try clear p6
    obtain ⟨kq, x26_3, rfl, HA, HJ3, ⟨mc3, rfl⟩⟩ := hcut
    cases kq with
    | zero => exact absurd HA.out (by simp [wire_number.j0])
    | succ kj3 =>
      have H := HA.out
      clear HA
      simp only [wire_number.j0] at H
      by_cases c7 : x26_3 = true
      · subst c7
        have H1 : (some (0, 0, 100)) = some (r1, r2, r3) := by rw [if_pos rfl] at H; exact H
        clear H
        have H := H1
        clear H1
        simp only [Option.some.injEq, Prod.mk.injEq] at H
        obtain ⟨rfl, rfl, rfl⟩ := H
        go_wp2
        go_ret3
        exact ⟨by first | rfl | (simp; done) | (simp [*]; done), by repeat (first | exact Drawn0.refl _ | apply Drawn0.step)⟩
      · replace c7 := Bool.eq_false_iff.mpr c7
        subst c7
        have H1 : (wire_number.l0 kj3 a0 a1 a2 0 a2 0) = some (r1, r2, r3) := by rw [if_neg (show ¬ (false = true) by decide)] at H; exact H
        clear H
        have H := H1
        clear H1
        have H' := Aside0.mk H
        clear H
        go_wp2
        go_loopg [9, 28] kj3 (fun kq v9 v28 w' => ∃ (x9_2 : Int) (x28_2 : Int), v9 = .int .i64 x9_2 ∧ v28 = .int .i64 x28_2 ∧ Aside0 (wire_number.l0 kq a0 a1 a2 x9_2 a2 x28_2 = some (r1, r2, r3)) ∧ Aside0 (kq ≤ kj3) ∧ Drawn0 w w')
        case atStart => exact ⟨(0), (0), (by first | rfl | (simp; done) | (simp [*]; done)), (by first | rfl | (simp; done) | (simp [*]; done)), H', ⟨Nat.le_refl _⟩, by repeat (first | exact Drawn0.refl _ | apply Drawn0.step)⟩
        case round =>
          clear H'
          try clear p2
          try clear c3
          try clear c5
          try clear c5b0
          try clear c6
          try clear c6b0
          try clear p6
          try clear c7
          try clear p2
          try clear p6
          obtain ⟨x9_2, x28_2, rfl, rfl, HA, HK2, ⟨m2, rfl⟩⟩ := hrel
          cases gk with
          | zero => exact absurd HA.out (by simp [wire_number.l0])
          | succ k2 =>
            have H := HA.out
            clear HA
            simp only [wire_number.l0] at H
            by_cases c8 : x28_2 < a2
            · rw [if_pos c8] at H
              have c8b0 : decide (x28_2 < a2) = true := decide_eq_true c8
              clear c8
              obtain ⟨ji9, hji9⟩ : ∃ j_ : Int, (wrap64 (a1 + x28_2)) = j_ := ⟨_, rfl⟩
              replace H : (if 0 ≤ (ji9) then (if (ji9) < (a0.size : Int) then (wire_number.l0 k2 a0 a1 a2 (Go.bits .or .i64 (wrap64 (x9_2 * 256)) (wrap64 (bt a0 (ji9)))) a2 (wrap64 (x28_2 + 1))) else (none)) else (none)) = some (r1, r2, r3) := by first | (rw [hji9] at H; exact H) | (simp only [hji9] at H ⊢; exact H)
              have hji9w : (IntKind.i64.wrap (a1 + x28_2)) = ji9 := (i64_w _).trans hji9
              by_cases c10 : 0 ≤ (ji9)
              · rw [if_pos c10] at H
                have c10b0 : decide (0 ≤ (ji9)) = true := decide_eq_true c10
                clear c10
                by_cases c11 : (ji9) < (a0.size : Int)
                · rw [if_pos c11] at H
                  have c11b0 : decide ((ji9) < (a0.size : Int)) = true := decide_eq_true c11
                  clear c11
                  have H' := Aside0.mk H
                  clear H
                  have p12 : 0 ≤ ((ji9) : Int) := of_decide_eq_true (by first | (with_reducible assumption) | assumption)
                  have q12 : (ji9) < (a0.size : Int) := of_decide_eq_true (by first | (with_reducible assumption) | assumption)
                  have hx12 := bt_at a0 (ji9)
                  replace p12 := eq_true p12
                  replace q12 := eq_true q12
                  go_wp2
                  go_roundg k2
                  case measure => have := HJ3.out; have := HK2.out; omega
                  case rel => exact ⟨(Go.bits .or .i64 (wrap64 (x9_2 * 256)) (wrap64 (bt a0 (ji9)))), (wrap64 (x28_2 + 1)), (by first | rfl | (simp; done) | (simp only [← hji9] <;> (first | rfl | simp)) | (simp [*]; done)), (by first | rfl | (simp; done) | (simp [*]; done)), H', ⟨by have := HJ3.out; have := HK2.out; omega⟩, by repeat (first | exact Drawn0.refl _ | apply Drawn0.step)⟩
                · rw [if_neg c11] at H
                  exact absurd H (by simp)
              · rw [if_neg c10] at H
                exact absurd H (by simp)
            · rw [if_neg c8] at H
              have c8b0 : decide (x28_2 < a2) = false := decide_eq_false c8
              clear c8
              simp only [Option.some.injEq, Prod.mk.injEq] at H
              obtain ⟨rfl, rfl, rfl⟩ := H
              go_wp2
              go_ret3
              exact ⟨by first | rfl | (simp; done) | (simp [*]; done), by repeat (first | exact Drawn0.refl _ | apply Drawn0.step)⟩
def wire_U16.f (k : Nat) (a0 : ByteArray) (a1 : Int) : Option (Int × Int × Int) := (wire_number.f k a0 a1 2).bind fun bt101 => (some (bt101.1, bt101.2.1, bt101.2.2))
theorem wire_U16.mono : ∀ a0 a1 k, LeO (wire_U16.f k a0 a1) (wire_U16.f (k + 1) a0 a1) := by
  intro a0 a1 k
  unfold wire_U16.f
  repeat' first
      | (with_reducible exact wire_number.mono _ _ _ _)
      | (with_reducible exact LeO.refl _)
      | (with_reducible exact LeO.none _)
      | (with_reducible refine LeO.ite ?_ ?_)
      | (with_reducible refine LeO.bind ?_ (fun _ => ?_))
      | exact wire_number.mono _ _ _ _
      | exact LeO.none _
      | refine LeO.ite ?_ ?_
      | refine LeO.bind ?_ (fun _ => ?_)
set_option maxHeartbeats 8000000 in
set_option maxRecDepth 100000 in
theorem wire_U16.calls (k : Nat) (a0 : ByteArray) (a1 : Int) (r1 : Int) (r2 : Int) (r3 : Int) (w : World) (h : wire_U16.f k a0 a1 = some (r1, r2, r3)) :
    Calls Try.prog 33 #[.string a0, .int .i64 a1] w fun e w' => e = .returned (.tuple #[.int .i64 r1, .int .i64 r2, .int .i64 r3]) ∧ Drawn0 w w' := by
  have H : ((wire_number.f k a0 a1 2).bind fun bt101 => (some (bt101.1, bt101.2.1, bt101.2.2))) = some (r1, r2, r3) := h
  clear h
  replace H := Option.bind_eq_some_iff.mp H
  obtain ⟨⟨t101, t102, t103⟩, A30, H⟩ := H
  replace H : (some (t101, t102, t103)) = some (r1, r2, r3) := H
  have A3 := Aside0.mk A30
  clear A30
  simp only [Option.some.injEq, Prod.mk.injEq] at H
  obtain ⟨rfl, rfl, rfl⟩ := H
  go_enter Try.func33, Try.ntmps33
  go_wp2_with (first | ((with_reducible refine gate_callee (f := 54) rfl ?_); refine goesL_ (some 9) rfl rfl Try.func54 (by kernel_rfl) rfl #[.string a0, .int .i64 a1, .int .i64 2] rfl (by (try simp only [List.map_toArray, List.map_cons, List.map_nil]); first | done | rfl | (simp only [List.length_drop, List.length_take]; rfl)) ?_; (with_reducible refine (wire_number.calls k a0 a1 2 t101 t102 t103 _ A3.out).mono ?_); rintro e w' ⟨rfl, ⟨nd, rfl⟩⟩; refine ⟨_, rfl, ?_⟩))
  go_ret3
  exact ⟨by first | rfl | (simp; done) | (simp [*]; done), by repeat (first | exact Drawn0.refl _ | apply Drawn0.step)⟩
def wire_Vec.j0 : Nat → ByteArray → Int → Int → Bool → Option (ByteArray × Int × Int)
  | 0, _, _, _, _ => none
  | k + 1, x0, x1, x2, x16 => if x16 = true then (some ((⟨#[]⟩ : ByteArray), 0, 101)) else ((wire_number.f k x0 x1 x2).bind fun bt104 => (if bt104.2.2 = 0 then (if bt104.1 > (wrap64 ((x0.size : Int) - bt104.2.1)) then (some ((⟨#[]⟩ : ByteArray), 0, 100)) else (if 0 ≤ bt104.2.1 then (if bt104.2.1 ≤ (wrap64 (bt104.2.1 + bt104.1)) then (if (wrap64 (bt104.2.1 + bt104.1)) ≤ (x0.size : Int) then (some (x0.extract (bt104.2.1 : Int).toNat ((wrap64 (bt104.2.1 + bt104.1)) : Int).toNat, wrap64 (bt104.2.1 + bt104.1), 0)) else (none)) else (none)) else (none))) else (some ((⟨#[]⟩ : ByteArray), 0, 100))))
def wire_Vec.f (k : Nat) (a0 : ByteArray) (a1 : Int) (a2 : Int) : Option (ByteArray × Int × Int) := if a2 < 1 then (wire_Vec.j0 k a0 a1 a2 true) else (wire_Vec.j0 k a0 a1 a2 (decide (a2 > 3)))
theorem wire_Vec.mono_l : ∀ k, (∀ y0 y1 y2 y3, LeO (wire_Vec.j0 k y0 y1 y2 y3) (wire_Vec.j0 (k + 1) y0 y1 y2 y3))
  | 0 => fun _ _ _ _ r h => by simp [wire_Vec.j0] at h
  | k + 1 => by
    have ih0 := wire_Vec.mono_l k
    · intro y0 y1 y2 y3
      unfold wire_Vec.j0
      repeat' first
      | (with_reducible exact ih0 _ _ _ _)
      | (with_reducible exact wire_number.mono _ _ _ _)
      | (with_reducible exact LeO.refl _)
      | (with_reducible exact LeO.none _)
      | (with_reducible refine LeO.ite ?_ ?_)
      | (with_reducible refine LeO.bind ?_ (fun _ => ?_))
      | exact ih0 _ _ _ _
      | exact wire_number.mono _ _ _ _
      | exact LeO.none _
      | refine LeO.ite ?_ ?_
      | refine LeO.bind ?_ (fun _ => ?_)
theorem wire_Vec.mono : ∀ a0 a1 a2 k, LeO (wire_Vec.f k a0 a1 a2) (wire_Vec.f (k + 1) a0 a1 a2) := by
  intro a0 a1 a2 k
  have ih0 := wire_Vec.mono_l k
  unfold wire_Vec.f
  repeat' first
      | (with_reducible exact ih0 _ _ _ _)
      | (with_reducible exact wire_number.mono _ _ _ _)
      | (with_reducible exact LeO.refl _)
      | (with_reducible exact LeO.none _)
      | (with_reducible refine LeO.ite ?_ ?_)
      | (with_reducible refine LeO.bind ?_ (fun _ => ?_))
      | exact ih0 _ _ _ _
      | exact wire_number.mono _ _ _ _
      | exact LeO.none _
      | refine LeO.ite ?_ ?_
      | refine LeO.bind ?_ (fun _ => ?_)
set_option maxHeartbeats 8000000 in
set_option maxRecDepth 100000 in
theorem wire_Vec.calls (k : Nat) (a0 : ByteArray) (a1 : Int) (a2 : Int) (r1 : ByteArray) (r2 : Int) (r3 : Int) (w : World) (h : wire_Vec.f k a0 a1 a2 = some (r1, r2, r3)) :
    Calls Try.prog 34 #[.string a0, .int .i64 a1, .int .i64 a2] w fun e w' => e = .returned (.tuple #[.string r1, .int .i64 r2, .int .i64 r3]) ∧ Drawn0 w w' := by
  have H : (if a2 < 1 then (wire_Vec.j0 k a0 a1 a2 true) else (wire_Vec.j0 k a0 a1 a2 (decide (a2 > 3)))) = some (r1, r2, r3) := h
  clear h
  have HC4 := Aside0.mk H
  clear H
  go_enter Try.func34, Try.ntmps34
  go_upto_region 1 with (fail)
  go_cut [16] (fun v16 wc => ∃ (kq : Nat) (x16_3 : Bool), v16 = .bool x16_3 ∧ Aside0 (wire_Vec.j0 kq a0 a1 a2 x16_3 = some (r1, r2, r3)) ∧ Aside0 (kq ≤ k) ∧ Drawn0 w wc)
  case first =>
    have H := HC4.out
    clear HC4
    by_cases c5 : a2 < 1
    · rw [if_pos c5] at H
      have c5b0 : decide (a2 < 1) = true := decide_eq_true c5
      clear c5
      (first | rw [c5b0] | (simp only [i64_w, i32_w]; rw [c5b0]) | skip)
      have H' := Aside0.mk H
      clear H
      go_wp2
      go_meet
      case rel => exact ⟨_, (true), (by first | rfl | (simp; done) | (simp [*]; done)), H', ⟨by first | omega | exact Nat.le_refl _⟩, by repeat (first | exact Drawn0.refl _ | apply Drawn0.step)⟩
    · rw [if_neg c5] at H
      have c5b0 : decide (a2 < 1) = false := decide_eq_false c5
      clear c5
      (first | rw [c5b0] | (simp only [i64_w, i32_w]; rw [c5b0]) | skip)
      have H' := Aside0.mk H
      clear H
      go_wp2
      go_meet
      case rel => exact ⟨_, (decide (a2 > 3)), (by first | rfl | (simp; done) | (simp [*]; done)), H', ⟨by first | omega | exact Nat.le_refl _⟩, by repeat (first | exact Drawn0.refl _ | apply Drawn0.step)⟩
  case rest =>
    clear HC4
    try clear p2
    try clear c3
    try clear c5
    try clear c5b0
    obtain ⟨kq, x16_3, rfl, HA, HJ3, ⟨mc3, rfl⟩⟩ := hcut
    cases kq with
    | zero => exact absurd HA.out (by simp [wire_Vec.j0])
    | succ kj3 =>
      have H := HA.out
      clear HA
      simp only [wire_Vec.j0] at H
      by_cases c6 : x16_3 = true
      · subst c6
        have H1 : (some ((⟨#[]⟩ : ByteArray), 0, 101)) = some (r1, r2, r3) := by rw [if_pos rfl] at H; exact H
        clear H
        have H := H1
        clear H1
        simp only [Option.some.injEq, Prod.mk.injEq] at H
        obtain ⟨rfl, rfl, rfl⟩ := H
        go_wp2
        go_ret3
        exact ⟨by first | rfl | (simp; done) | (simp [*]; done), by repeat (first | exact Drawn0.refl _ | apply Drawn0.step)⟩
      · replace c6 := Bool.eq_false_iff.mpr c6
        subst c6
        have H1 : ((wire_number.f kj3 a0 a1 a2).bind fun bt104 => (if bt104.2.2 = 0 then (if bt104.1 > (wrap64 ((a0.size : Int) - bt104.2.1)) then (some ((⟨#[]⟩ : ByteArray), 0, 100)) else (if 0 ≤ bt104.2.1 then (if bt104.2.1 ≤ (wrap64 (bt104.2.1 + bt104.1)) then (if (wrap64 (bt104.2.1 + bt104.1)) ≤ (a0.size : Int) then (some (a0.extract (bt104.2.1 : Int).toNat ((wrap64 (bt104.2.1 + bt104.1)) : Int).toNat, wrap64 (bt104.2.1 + bt104.1), 0)) else (none)) else (none)) else (none))) else (some ((⟨#[]⟩ : ByteArray), 0, 100)))) = some (r1, r2, r3) := by rw [if_neg (show ¬ (false = true) by decide)] at H; exact H
        clear H
        have H := H1
        clear H1
        replace H := Option.bind_eq_some_iff.mp H
        obtain ⟨⟨t104, t105, t106⟩, A70, H⟩ := H
        replace H : (if t106 = 0 then (if t104 > (wrap64 ((a0.size : Int) - t105)) then (some ((⟨#[]⟩ : ByteArray), 0, 100)) else (if 0 ≤ t105 then (if t105 ≤ (wrap64 (t105 + t104)) then (if (wrap64 (t105 + t104)) ≤ (a0.size : Int) then (some (a0.extract (t105 : Int).toNat ((wrap64 (t105 + t104)) : Int).toNat, wrap64 (t105 + t104), 0)) else (none)) else (none)) else (none))) else (some ((⟨#[]⟩ : ByteArray), 0, 100))) = some (r1, r2, r3) := H
        have A7 := Aside0.mk A70
        clear A70
        by_cases c8 : t106 = 0
        · rw [if_pos c8] at H
          have c8b0 : (t106 == 0) = true := beq_iff_eq.mpr c8
          have c8b1 : (t106 != 0) = false := bne_eq_false_iff_eq.mpr c8
          clear c8
          by_cases c9 : t104 > (wrap64 ((a0.size : Int) - t105))
          · rw [if_pos c9] at H
            have c9b0 : decide ((wrap64 ((a0.size : Int) - t105)) < t104) = true := decide_eq_true c9
            clear c9
            simp only [Option.some.injEq, Prod.mk.injEq] at H
            obtain ⟨rfl, rfl, rfl⟩ := H
            go_wp2_with (first | ((with_reducible refine gate_callee (f := 54) rfl ?_); refine goesL_ (some 21) rfl rfl Try.func54 (by kernel_rfl) rfl #[.string a0, .int .i64 a1, .int .i64 a2] rfl (by (try simp only [List.map_toArray, List.map_cons, List.map_nil]); first | done | rfl | (simp only [List.length_drop, List.length_take]; rfl)) ?_; (with_reducible refine (wire_number.calls kj3 a0 a1 a2 t104 t105 t106 _ A7.out).mono ?_); rintro e w' ⟨rfl, ⟨nd, rfl⟩⟩; refine ⟨_, rfl, ?_⟩))
            go_ret3
            exact ⟨by first | rfl | (simp; done) | (simp [*]; done), by repeat (first | exact Drawn0.refl _ | apply Drawn0.step)⟩
          · rw [if_neg c9] at H
            have c9b0 : decide ((wrap64 ((a0.size : Int) - t105)) < t104) = false := decide_eq_false c9
            clear c9
            by_cases c10 : 0 ≤ t105
            · rw [if_pos c10] at H
              have c10b0 := eq_true c10
              have c10b1 : decide (0 ≤ t105) = true := decide_eq_true c10
              clear c10
              by_cases c11 : t105 ≤ (wrap64 (t105 + t104))
              · rw [if_pos c11] at H
                have c11b0 := eq_true c11
                have c11b1 : decide (t105 ≤ (wrap64 (t105 + t104))) = true := decide_eq_true c11
                by_cases c12 : (wrap64 (t105 + t104)) ≤ (a0.size : Int)
                · rw [if_pos c12] at H
                  have c12b0 := eq_true c12
                  have c12b1 : decide ((wrap64 (t105 + t104)) ≤ (a0.size : Int)) = true := decide_eq_true c12
                  simp only [Option.some.injEq, Prod.mk.injEq] at H
                  obtain ⟨rfl, rfl, rfl⟩ := H
                  go_wp2_with (first | ((with_reducible refine gate_callee (f := 54) rfl ?_); refine goesL_ (some 21) rfl rfl Try.func54 (by kernel_rfl) rfl #[.string a0, .int .i64 a1, .int .i64 a2] rfl (by (try simp only [List.map_toArray, List.map_cons, List.map_nil]); first | done | rfl | (simp only [List.length_drop, List.length_take]; rfl)) ?_; (with_reducible refine (wire_number.calls kj3 a0 a1 a2 t104 t105 t106 _ A7.out).mono ?_); rintro e w' ⟨rfl, ⟨nd, rfl⟩⟩; refine ⟨_, rfl, ?_⟩))
                  go_ret3
                  exact ⟨by first | rfl | (simp; done) | (simp [*]; done), by repeat (first | exact Drawn0.refl _ | apply Drawn0.step)⟩
                · rw [if_neg c12] at H
                  exact absurd H (by simp)
              · rw [if_neg c11] at H
                exact absurd H (by simp)
            · rw [if_neg c10] at H
              exact absurd H (by simp)
        · rw [if_neg c8] at H
          have c8b0 : (t106 == 0) = false := beq_eq_false_iff_ne.mpr c8
          have c8b1 : (t106 != 0) = true := bne_iff_ne.mpr c8
          simp only [Option.some.injEq, Prod.mk.injEq] at H
          obtain ⟨rfl, rfl, rfl⟩ := H
          go_wp2_with (first | ((with_reducible refine gate_callee (f := 54) rfl ?_); refine goesL_ (some 21) rfl rfl Try.func54 (by kernel_rfl) rfl #[.string a0, .int .i64 a1, .int .i64 a2] rfl (by (try simp only [List.map_toArray, List.map_cons, List.map_nil]); first | done | rfl | (simp only [List.length_drop, List.length_take]; rfl)) ?_; (with_reducible refine (wire_number.calls kj3 a0 a1 a2 t104 t105 t106 _ A7.out).mono ?_); rintro e w' ⟨rfl, ⟨nd, rfl⟩⟩; refine ⟨_, rfl, ?_⟩))
          go_ret3
          exact ⟨by first | rfl | (simp; done) | (simp [*]; done), by repeat (first | exact Drawn0.refl _ | apply Drawn0.step)⟩
end Go.Proofs.Ytlkebjkpmiehcaa.E
end
