/- poly's newSum, walked. Conditions: a key of 32 bytes. -/
import Derived.Test.YtocckplgjbhlbaaTg
import Derived.Laws.Tables
namespace Go.Proofs.Ytocckplgjbhlbaa.Pol
open Go.RowKit Go.Proofs.YtocckplgjbhlbaaW.PrintWords Go.Proofs.Ytocckplgjbhlbaa.Cha Go.Proofs.Ytocckplgjbhlbaa.X
set_option linter.unusedVariables false
theorem built71 (r0 r1 r2 r3 r4 : Int) : Try.prog.built 71 [(0, agg .u64 [r0, r1, r2, r3, r4])] = some (([r0, r1, r2, r3, r4, 0, 0, 0, 0, 0] : List Int).map (Value.int .u64)).toArray := by kernel_rfl
theorem build71 {ops : Array Oper} {rest : List Oper} {o : Oper} {a : Act} {Q : Exit → Act → World → Prop} {w : World} (hgd : o.guard = none) (x : Operand) (ho : o.op = .build 71 #[(0, x)]) {xs : List Int} (hx : a.eval x = agg .u64 xs) (hl : xs.length = 5)
    (H : wpList Try.prog ops Q rest (a.put o.dst (agg .u64 (xs ++ List.replicate 5 0))) w) : wpList Try.prog ops Q (o :: rest) a w := by
  obtain ⟨r0, r1, r2, r3, r4, rfl⟩ : ∃ r0 r1 r2 r3 r4, xs = [r0, r1, r2, r3, r4] := by
    match xs, hl with
    | [a, b, c, d, e], _ => exact ⟨a, b, c, d, e, rfl⟩
  refine wpList_plain hgd fun K hK => ?_
  unfold Oper.wp execOp
  have hr := run_build (P := Try.prog) w 71 #[(0, agg .u64 [r0, r1, r2, r3, r4])] _ (built71 r0 r1 r2 r3 r4)
  have he : (#[(0, x)] : Array (Nat × Operand)).map (fun (i, x) => (i, a.eval x)) = #[(0, agg .u64 [r0, r1, r2, r3, r4])] := by
    simp [hx]
  simp only [ho, Sem.run_bind]
  rw [he, hr]
  exact hK _ _ H
/-- Every fourth byte from o on masked. -/
def masked (o : Nat) (m : Int) (xs : List Int) : Nat → List Int
  | 0 => xs
  | q + 1 => (masked o m xs q).set (o + 4 * q) (Go.bits .and .u8 (gx (masked o m xs q) (o + 4 * q)) m)
theorem masked_length (o : Nat) (m : Int) (xs : List Int) : ∀ q, (masked o m xs q).length = xs.length
  | 0 => rfl
  | q + 1 => by rw [masked, List.length_set, masked_length o m xs q]
/-- The clamped half of a key. -/
def clamp (key : ByteArray) : List Int := masked 4 252 (masked 3 15 (bytesOf (key.extract 0 16)) 4) 3
/-- The key's number. -/
def rOf (key : ByteArray) : List Int := (limbs (bitted (clamp key) 0 16)).set 4 (Go.bits .and .u64 (gx (limbs (bitted (clamp key) 0 16)) 4) 16777215)
theorem rOf_length (key : ByteArray) : (rOf key).length = 5 := by rw [rOf, List.length_set]; rfl
/-- A sum of nothing. -/
def sum0 (key : ByteArray) : List Int := rOf key ++ List.replicate 5 0
theorem sum0_length (key : ByteArray) : (sum0 key).length = 10 := by rw [sum0, List.length_append, rOf_length]; rfl
theorem half_size (key : ByteArray) (hk : key.size = 32) : (key.extract 0 16).size = 16 := by rw [ByteArray.size_extract]; omega
theorem gap32 : ∀ g o r cr : Nat, o = 0 → (Value.slice (some ⟨g, o, none⟩) r cr) = .slice (some ⟨g, 0, none⟩) r cr := fun g o r cr h => by rw [h]
set_option maxRecDepth 100000 in
set_option maxHeartbeats 4000000 in
theorem newSum_calls (key : ByteArray) (hk : key.size = 32) (w : World) :
    Calls Try.prog 31 #[.string key] w fun e w' => ∃ g, e = .returned (.pointer (some ⟨g, 0, none⟩)) ∧ w.heap.size ≤ g ∧ Arr .u64 w' g 71 (sum0 key) ∧ Below w.heap.size w w' := by
  have p0 : ((16 : Int) ≤ (key.size : Int)) = True := eq_true (by omega)
  obtain ⟨s, hs⟩ : ∃ s, s = key.extract 0 16 := ⟨_, rfl⟩
  have hsz : s.size = 16 := by rw [hs]; exact half_size key hk
  have HSZ := Aside0.mk hsz
  have HS := Aside0.mk hs
  have hbl : (bytesOf s).length = 16 := by rw [bytesOf_length, hsz]
  have HBL := Aside0.mk hbl
  have e16 : ((16 : Int)).toNat = 16 := rfl
  have hse : key.extract 0 16 = s := hs.symm
  clear hs hbl hsz
  go_enter Try.func31, Try.ntmps31
  go_wp2_with ((with_reducible refine gate_dst (N := 9) rfl ?_); refine conv_event rfl 9 32 5 _ s rfl rfl Try.underlying9 Try.underlying32 Try.underlying5 ?hc ?_; (case hc => exact grownCap_ge _ _ _ _); intro g eg c hc w1 k1 b1; have HB1 := Aside0.mk b1; have HX1 := Aside0.mk (show Bts w1 g (masked 3 15 (bytesOf s) 0) from k1); have HC := Aside0.mk (show 16 ≤ c from by rw [← HSZ.out]; exact hc); have HG := Aside0.mk (show w.heap.size ≤ g from by rw [eg]; exact Nat.le_refl _); clear k1 b1 hc eg)
  clear p0
  go_loopw [4] (fun v wr => ∃ q : Nat, q ≤ 4 ∧ v = .int .i64 (3 + 4 * (q : Int)) ∧ Aside0 (Bts wr g (masked 3 15 (bytesOf s) q)) ∧ Aside0 (Below w.heap.size w wr)) (fun v _ => 20 - (intOf v).toNat)
  case atStart => exact ⟨0, by omega, rfl, HX1, HB1⟩
  case round =>
  obtain ⟨q, hq, rfl, HXi, HBi⟩ := hrel
  by_cases hlt : q < 4
  · have t1 : decide (3 + 4 * (q : Int) < 16) = true := decide_eq_true (by omega)
    have hsz := HSZ.out
    have ia := ixo g 0 s.size c (3 + 4 * q) (by omega)
    rw [Nat.zero_add] at ia
    have ej : ((3 + 4 * q : Nat) : Int) = 3 + 4 * (q : Int) := by omega
    rw [ej] at ia
    clear hsz ej
    have hln : (masked 3 15 (bytesOf s) q).length = 16 := by rw [masked_length]; exact HBL.out
    have ca := HXi.out.cell (3 + 4 * q) (by rw [hln]; omega)
    have fa := HXi.out.frozen (3 + 4 * q) (by rw [hln]; omega)
    have z1 : IntKind.i64.wrap (3 + 4 * (q : Int) + 4) = 3 + 4 * (q : Int) + 4 := IntWalk.i64_in _ (by omega)
    clear hln
    go_wp2_with ((with_reducible refine gate_store (t := 5) (p := 19) rfl ?_); refine Bts.store (g := g) (xs := masked 3 15 (bytesOf s) q) rfl rfl (3 + 4 * q) (Go.bits .and .u8 (gx (masked 3 15 (bytesOf s) q) (3 + 4 * q)) 15) ?hs HXi.out ?_; (case hs => (first | (go_simp; done) | (go_simp; rfl))); intro w5 k5 g5; have HX5 := Aside0.mk (show Bts w5 g (masked 3 15 (bytesOf s) (q + 1)) from k5); have HB5 := Aside0.mk (HBi.out.grown g5 (below_size HBi.out) (fun k hk => by rw [← Option.some.inj hk]; exact HG.out)); clear k5 g5)
    go_roundw
    case rel => first | exact ⟨q + 1, by omega, by go_num, HX5, HB5⟩ | ((repeat apply Exists.intro); exact ⟨⟨q + 1, by omega, by first | go_num | (congr 1; omega), HX5, HB5⟩, rfl⟩)
    case measure => simp [intOf]; omega
  obtain rfl : q = 4 := by omega
  clear hq hlt
  have HX2 := Aside0.mk (show Bts wr g (masked 4 252 (masked 3 15 (bytesOf s) 4) 0) from HXi.out)
  have HB2 := Aside0.mk HBi.out
  have t1 : decide (3 + 4 * ((4 : Nat) : Int) < 16) = false := rfl
  go_wp2
  clear t1 HXi HBi
  go_loopw [5] (fun v wr => ∃ q : Nat, q ≤ 3 ∧ v = .int .i64 (4 + 4 * (q : Int)) ∧ Aside0 (Bts wr g (masked 4 252 (masked 3 15 (bytesOf s) 4) q)) ∧ Aside0 (Below w.heap.size w wr)) (fun v _ => 20 - (intOf v).toNat)
  case atStart => exact ⟨0, by omega, rfl, HX2, HB2⟩
  case round =>
  obtain ⟨q, hq, rfl, HXi, HBi⟩ := hrel
  by_cases hlt : q < 3
  · have t1 : decide (4 + 4 * (q : Int) < 16) = true := decide_eq_true (by omega)
    have hsz := HSZ.out
    have ia := ixo g 0 s.size c (4 + 4 * q) (by omega)
    rw [Nat.zero_add] at ia
    have ej : ((4 + 4 * q : Nat) : Int) = 4 + 4 * (q : Int) := by omega
    rw [ej] at ia
    clear hsz ej
    have hln : (masked 4 252 (masked 3 15 (bytesOf s) 4) q).length = 16 := by rw [masked_length, masked_length]; exact HBL.out
    have ca := HXi.out.cell (4 + 4 * q) (by rw [hln]; omega)
    have fa := HXi.out.frozen (4 + 4 * q) (by rw [hln]; omega)
    have z1 : IntKind.i64.wrap (4 + 4 * (q : Int) + 4) = 4 + 4 * (q : Int) + 4 := IntWalk.i64_in _ (by omega)
    clear hln
    go_wp2_with ((with_reducible refine gate_store (t := 5) (p := 29) rfl ?_); refine Bts.store (g := g) (xs := masked 4 252 (masked 3 15 (bytesOf s) 4) q) rfl rfl (4 + 4 * q) (Go.bits .and .u8 (gx (masked 4 252 (masked 3 15 (bytesOf s) 4) q) (4 + 4 * q)) 252) ?hs HXi.out ?_; (case hs => (first | (go_simp; done) | (go_simp; rfl))); intro w5 k5 g5; have HX5 := Aside0.mk (show Bts w5 g (masked 4 252 (masked 3 15 (bytesOf s) 4) (q + 1)) from k5); have HB5 := Aside0.mk (HBi.out.grown g5 (below_size HBi.out) (fun k hk => by rw [← Option.some.inj hk]; exact HG.out)); clear k5 g5)
    go_roundw
    case rel => first | exact ⟨q + 1, by omega, by go_num, HX5, HB5⟩ | ((repeat apply Exists.intro); exact ⟨⟨q + 1, by omega, by first | go_num | (congr 1; omega), HX5, HB5⟩, rfl⟩)
    case measure => simp [intOf]; omega
  obtain rfl : q = 3 := by omega
  clear hq hlt
  obtain ⟨cl, hcl⟩ : ∃ cl, cl = masked 4 252 (masked 3 15 (bytesOf s) 4) 3 := ⟨_, rfl⟩
  have hcll : cl.length = 16 := by rw [hcl, masked_length, masked_length]; exact HBL.out
  rw [← hcl] at HXi
  have HCL := Aside0.mk (show cl = clamp key from by rw [hcl, clamp, HS.out])
  clear hcl
  obtain ⟨y, hy⟩ : ∃ y, y = limbs (bitted cl 0 16) := ⟨_, rfl⟩
  have hyl : y.length = 5 := by rw [hy]; rfl
  have HLc := Aside0.mk (fun W hW => load_calls g 0 s.size c cl (by rw [HSZ.out]; omega) (by rw [HSZ.out]; omega) W hW)
  rw [HSZ.out] at HLc
  rw [← hy] at HLc
  have HYE := Aside0.mk hy
  clear hy
  have t1 : decide (4 + 4 * ((3 : Nat) : Int) < 16) = false := rfl
  have hyl2 : (y.set 4 (Go.bits .and .u64 (gx y 4) 16777215)).length = 5 := by rw [List.length_set]; exact hyl
  rw [HSZ.out]
  go_wp2_with (first
    | (go_at_call 42; (with_reducible refine (HLc.out _ HXi.out).mono ?_); rintro e w6 ⟨rfl, b6⟩; have HB6 := Aside0.mk (below_step HBi.out b6); clear b6)
    | ((with_reducible refine gate_dst (N := 6) rfl ?_); refine box_event ?hg (N := 6) ?hd (cs := ((List.replicate 5 (0 : Int)).map (Value.int .u64)).toArray) (t := 68) ?hr ?_; (case hd => rfl); (case hg => rfl); (case hr => first | (go_simp; done) | (go_simp; rfl)); intro gy eg w7 k7 b7; have HY7 := Aside0.mk (show Arr .u64 w7 gy 68 (List.replicate 5 0) from k7); have HB7 := Aside0.mk (below_step HB6.out b7); have HGY := Aside0.mk (show w.heap.size ≤ gy from by rw [eg]; exact below_size HB6.out); clear k7 b7 eg)
    | ((with_reducible refine gate_store (t := 68) (p := 6) rfl ?_); refine Arr.put (k := .u64) (g := gy) (t := 68) (xs := List.replicate 5 0) (ys := y) rfl 68 _ _ rfl rfl rfl HY7.out 5 (by kernel_rfl) rfl hyl ?_; intro w8 k8 g8; have i4 : ∀ W, (Instr.indexAt 68 (.pointer (some ⟨gy, 0, none⟩)) (.int .i64 4)).run Try.prog W = .ok (.pointer (some ⟨gy, 4, none⟩)) W := fun W => (by have := ix68 gy 0 4 (by omega) W; rw [Nat.zero_add] at this; exact this); have c4 := k8.cell 4 (by rw [hyl]; omega); have f4 := k8.frozen 4; have HY8 := Aside0.mk k8; have HB8 := Aside0.mk (HB7.out.grown g8 (below_size HB7.out) (fun k hk => by rw [← Option.some.inj hk]; exact HGY.out)); clear k8 g8)
    | ((with_reducible refine gate_store (t := 66) (p := 35) rfl ?_); refine Arr.store (g := gy) (k := .u64) (xs := y) (t := 68) rfl rfl 4 (Go.bits .and .u64 (gx y 4) 16777215) ?hs HY8.out ?_; (case hs => (first | (go_simp; done) | (go_simp; rfl))); intro w9 k9 g9; have HY9 := Aside0.mk k9; have HB9 := Aside0.mk (HB8.out.grown g9 (below_size HB8.out) (fun k hk => by rw [← Option.some.inj hk]; exact HGY.out)); clear k9 g9 c4 f4 i4)
    | ((with_reducible refine gate_dst (N := 36) rfl ?_); refine Arr.load (k := .u64) (xs := y.set 4 (Go.bits .and .u64 (gx y 4) 16777215)) (g := gy) (t := 68) rfl 68 _ rfl rfl HY9.out _ Try.underlying68 rfl 5 (by kernel_rfl) hyl2 ?_)
    | ((with_reducible refine gate_dst (N := 37) rfl ?_); refine build71 rfl _ rfl rfl hyl2 ?_)
    | ((with_reducible refine gate_dst (N := 38) rfl ?_); refine Arr.box (k := .u64) (xs := y.set 4 (Go.bits .and .u64 (gx y 4) 16777215) ++ List.replicate 5 0) rfl 71 _ rfl rfl ?_; intro gs egs w10 k10 b10; have HS10 := Aside0.mk k10; have HB10 := Aside0.mk (below_step HB9.out b10); have HGS := Aside0.mk (show w.heap.size ≤ gs from by rw [egs]; exact below_size HB9.out); clear k10 b10 egs))
  have hfin : y.set 4 (Go.bits .and .u64 (gx y 4) 16777215) ++ List.replicate 5 0 = sum0 key := by rw [sum0, rOf, ← HCL.out, ← HYE.out]
  rw [hfin] at HS10
  go_ret
  exact ⟨gs, rfl, HGS.out, HS10.out, HB10.out⟩
end Go.Proofs.Ytocckplgjbhlbaa.Pol
