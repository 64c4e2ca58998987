/- Words, contracts and lemmas that the claim needs, in the order in which they build. Conditions: each lemma's own. -/
import Derived.Test.YtlkebjkpmiehcaaHb2
namespace Go.Proofs.Ytlkebjkpmiehcaa
abbrev T30 : Array Bool := #[false,false,false,false,false,false,false,false,false,false,false,false,false,false,false,false,false,false,false]
abbrev T35 : Array Bool := #[false,false,false,false,false,false,false]
abbrev T36 : Array Bool := #[false,false,false,false,false,false]
abbrev T37 : Array Bool := #[true,false,false,false,false,false,false,false,false,false,false,false,false,false,false,false,false,false,false]
abbrev T312 : Array Bool := #[true,false,false,false,false,false,false]
abbrev T313 : Array Bool := #[true,false,false,false,false,false]
abbrev T319 : Array Bool := #[true,true,false,false,false,false,false,false,false,false,false,false,false,false,false,false,false,false,false]
abbrev T323 : Array Bool := #[true,true,false,false,false,false,false]
abbrev T324 : Array Bool := #[true,true,false,false,false,false]
abbrev T326 : Array Bool := #[true,true,true,false,false,false,false,false,false,false,false,false,false,false,false,false,false,false,false]
abbrev T329 : Array Bool := #[true,true,true,false,false,false,false]
abbrev T331 : Array Bool := #[true,true,true,true,false,false,false,false,false,false,false,false,false,false,false,false,false,false,false]
abbrev T335 : Array Bool := #[true,true,true,true,false,false,false]
abbrev T337 : Array Bool := #[true,true,true,true,true,false,false,false,false,false,false,false,false,false,false,false,false,false,false]
abbrev T341 : Array Bool := #[true,true,true,true,true,false,false]
abbrev T343 : Array Bool := #[true,true,true,true,true,true,false,false,false,false,false,false,false,false,false,false,false,false,false]
abbrev T347 : Array Bool := #[true,true,true,true,true,true,false]
abbrev T348 : Array Bool := #[true,true,true,true,true,true,true,false,false,false,false,false,false,false,false,false,false,false,false]
abbrev T353 : Array Bool := #[true,true,true,true,true,true,true,true,false,false,false,false,false,false,false,false,false,false,false]
abbrev T357 : Array Bool := #[true,true,true,true,true,true,true,true,true,false,false,false,false,false,false,false,false,false,false]
abbrev T360 : Array Bool := #[true,true,true,true,true,true,true,true,true,true,false,false,false,false,false,false,false,false,false]
abbrev T363 : Array Bool := #[true,true,true,true,true,true,true,true,true,true,true,false,false,false,false,false,false,false,false]
abbrev T366 : Array Bool := #[true,true,true,true,true,true,true,true,true,true,true,true,false,false,false,false,false,false,false]
abbrev T368 : Array Bool := #[true,true,true,true,true,true,true,true,true,true,true,true,true,false,false,false,false,false,false]
abbrev T369 : Array Bool := #[true,true,true,true,true,true,true,true,true,true,true,true,true,true,false,false,false,false,false]
abbrev T370 : Array Bool := #[true,true,true,true,true,true,true,true,true,true,true,true,true,true,true,false,false,false,false]
abbrev T371 : Array Bool := #[true,true,true,true,true,true,true,true,true,true,true,true,true,true,true,true,false,false,false]
abbrev T372 : Array Bool := #[true,true,true,true,true,true,true,true,true,true,true,true,true,true,true,true,true,false,false]
abbrev T373 : Array Bool := #[true,true,true,true,true,true,true,true,true,true,true,true,true,true,true,true,true,true,false]
abbrev T374 : Array Bool := #[true,true,true,true,true,true,true,true,true,true,true,true,true,true,true,true,true,true,true]
abbrev T379 : Array Bool := #[true,true,true,true,true,true,true]
end Go.Proofs.Ytlkebjkpmiehcaa
section
namespace Go.Proofs.Ytlkebjkpmiehcaa.Ms
open Go.RowKit Go.Proofs.YtlkebjkpmiehcaaW.PrintWords Go.Proofs.YtlkebjkpmiehcaaW.PrintLast Go.Proofs.YtlkebjkpmiehcaaW.PrintMore Go.Proofs.Ytlkebjkpmiehcaa.X
open Go.Proofs.Ytlkebjkpmiehcaa.Pure (nv numOf vecOf nv_bd nv_bd4 number_any vec_ok)
set_option linter.unusedVariables false
structure Mo (ok : Nat → Prop) (w : World) (gm : Nat) (m : Mv) (h : Hd) : Prop where
 box : w.heap[gm]? = some (.cells (cells m h) 49 (0,0))
 r3 : Kd.R (Kd.int .i64) 3 w 0 ok (.slice h.A3 m.f3.length h.c3) m.f3
 r5 : Kd.R (Kd.int .i64) 3 w 0 ok (.slice h.A5 m.f5.length h.c5) m.f5
 r6 : Kd.R (Kd.int .i64) 3 w 0 ok (.slice h.A6 m.f6.length h.c6) m.f6
 r7 : Kd.R (Kd.int .i64) 3 w 0 ok (.slice h.A7 m.f7.length h.c7) m.f7
 r8 : Kd.R (Kd.int .i64) 3 w 0 ok (.slice h.A8 m.f8.length h.c8) m.f8
 r9 : Kd.R k66 66 w 0 ok (.slice h.A9 m.f9.length h.c9) m.f9
 r10 : Kd.R k111 111 w 0 ok (.slice h.A10 m.f10.length h.c10) m.f10
 r11 : Kd.R Kd.string 9 w 0 ok (.slice h.A11 m.f11.length h.c11) m.f11
 r13 : Kd.R (Kd.int .i64) 3 w 0 ok (.slice h.A13 m.f13.length h.c13) m.f13
 r14 : Kd.R Kd.string 9 w 0 ok (.slice h.A14 m.f14.length h.c14) m.f14
def MO (ok : Nat → Prop) (w : World) (gm : Nat) (m : Mv) : Prop := ∃ h,Mo ok w gm m h
theorem cells_size (m : Mv) (h : Hd) : (cells m h).size = 21 := rfl
theorem R_typed {α : Type} {d : Kd α} {e : Nat} {W W1 : World} {ok : Nat → Prop} {v : Value} {xs : List α} (h : d.R e W 0 ok v xs) (ts : List Nat) (hm : ∀ (k : Nat) (cs : Array Value) (t : TypeId),W.heap[k]? = some (.cells cs t (0,0)) → t ∉ ts → W1.heap[k]? = some (.cells cs t (0,0))) (ht : ∀ q,q ∈ e :: d.E → q ∉ ts) : d.R e W1 0 ok v xs :=
 Kd.R_mono (Kd.R_move (Kd.R_bound h) (fun i hi => by
  obtain ⟨_,_,h3,q,hq,cells,hc⟩ := hi
  rw [hc]
  exact hm i _ _ hc (ht q hq))) (fun _ hk => hk.1)
theorem R_fresh {α : Type} {d : Kd α} {e : Nat} {w0 w : World} {ok : Nat → Prop} {v : Value} {xs : List α} (h : d.R e w w0.heap.size (fun _ => True) v xs) (hok : ∀ k,w0.heap.size ≤ k → ok k) : d.R e w 0 ok v xs := Kd.R_lower (Kd.R_mono (Kd.R_bound h) (fun k hk => hok k hk.2.1)) (Nat.zero_le _)
theorem Mo.move {ok : Nat → Prop} {w w1 : World} {gm : Nat} {m : Mv} {h : Hd} (a : Mo ok w gm m h) (hb : w1.heap[gm]? = some (.cells (cells m h) 49 (0,0))) (ts : List Nat) (hm : ∀ (k : Nat) (cs : Array Value) (t : TypeId),w.heap[k]? = some (.cells cs t (0,0)) → t ∉ ts → w1.heap[k]? = some (.cells cs t (0,0))) (h3 : 3 ∉ ts) (h9 : 9 ∉ ts) (h66 : 66 ∉ ts) (h111 : 111 ∉ ts) : Mo ok w1 gm m h :=
 ⟨hb,R_typed a.r3 ts hm (by intro q hq; rw [List.mem_singleton.1 hq]; exact h3),R_typed a.r5 ts hm (by intro q hq; rw [List.mem_singleton.1 hq]; exact h3),R_typed a.r6 ts hm (by intro q hq; rw [List.mem_singleton.1 hq]; exact h3),R_typed a.r7 ts hm (by intro q hq; rw [List.mem_singleton.1 hq]; exact h3),R_typed a.r8 ts hm (by intro q hq; rw [List.mem_singleton.1 hq]; exact h3),R_typed a.r9 ts hm (by intro q hq; rw [List.mem_singleton.1 hq]; exact h66),R_typed a.r10 ts hm (by intro q hq; rw [List.mem_singleton.1 hq]; exact h111),R_typed a.r11 ts hm (by intro q hq; rw [List.mem_singleton.1 hq]; exact h9),R_typed a.r13 ts hm (by intro q hq; rw [List.mem_singleton.1 hq]; exact h3),R_typed a.r14 ts hm (by intro q hq; rw [List.mem_singleton.1 hq]; exact h9)⟩
theorem kf_types {lo r f : Nat} {w w1 : World} {R : Rp} (h : RS w r f R) (k : Kf lo r f w w1) : ∀ (j : Nat) (cs : Array Value) (t : TypeId),w.heap[j]? = some (.cells cs t (0,0)) → t ∉ [92,90] → w1.heap[j]? = some (.cells cs t (0,0)) := fun j cs t hj ht =>
 k.keep j _ hj (blk_ne hj h.rd (by intro e; exact ht (by simp [e]))) (blk_ne hj h.ft (by intro e; exact ht (by simp [e])))
theorem MO.kf {ok : Nat → Prop} {lo r f gm : Nat} {w w1 : World} {m : Mv} {R : Rp} (a : MO ok w gm m) (h : RS w r f R) (k : Kf lo r f w w1) : MO ok w1 gm m := by
 obtain ⟨hd,a⟩ := a
 exact ⟨hd,a.move (kf_types h k gm _ _ a.box (by decide)) _ (kf_types h k) (by decide) (by decide) (by decide) (by decide)⟩
theorem MO.below {ok : Nat → Prop} {gm : Nat} {w w1 : World} {m : Mv} (a : MO ok w gm m) (b : Below w.heap.size w w1) : MO ok w1 gm m := by
 obtain ⟨hd,a⟩ := a
 have hm : ∀ (k : Nat) (cs : Array Value) (t : TypeId),w.heap[k]? = some (.cells cs t (0,0)) → t ∉ ([] : List Nat) → w1.heap[k]? = some (.cells cs t (0,0)) := fun k cs t hk _ => (b.block k (blk_lt hk)).trans hk
 exact ⟨hd,a.move (hm gm _ _ a.box (by decide)) _ hm (by decide) (by decide) (by decide) (by decide)⟩
theorem keep_types {ok : Nat → Prop} {gm : Nat} {w w1 : World} {m : Mv} {h : Hd} (a : Mo ok w gm m h) (k : KeepBut w w1 gm none) : ∀ (j : Nat) (cs : Array Value) (t : TypeId),w.heap[j]? = some (.cells cs t (0,0)) → t ∉ [49] → w1.heap[j]? = some (.cells cs t (0,0)) := fun j cs t hj ht =>
 (k.2 j (blk_lt hj) (blk_ne hj a.box (by intro e; exact ht (by simp [e]))) (by simp)).trans hj
theorem Mo.s1 {ok : Nat → Prop} {w w1 : World} {gm : Nat} {m : Mv} {hd : Hd} (a : Mo ok w gm m hd) (x : ByteArray) (hb : w1.heap[gm]? = some (.cells ((cells m hd).setIfInBounds 1 (.string x)) 49 (0,0))) (k : KeepBut w w1 gm none) : MO ok w1 gm { m with f1 := x } := ⟨hd,hb,R_typed a.r3 _ (keep_types a k) (by intro q hq; rw [List.mem_singleton.1 hq]; decide),R_typed a.r5 _ (keep_types a k) (by intro q hq; rw [List.mem_singleton.1 hq]; decide),R_typed a.r6 _ (keep_types a k) (by intro q hq; rw [List.mem_singleton.1 hq]; decide),R_typed a.r7 _ (keep_types a k) (by intro q hq; rw [List.mem_singleton.1 hq]; decide),R_typed a.r8 _ (keep_types a k) (by intro q hq; rw [List.mem_singleton.1 hq]; decide),R_typed a.r9 _ (keep_types a k) (by intro q hq; rw [List.mem_singleton.1 hq]; decide),R_typed a.r10 _ (keep_types a k) (by intro q hq; rw [List.mem_singleton.1 hq]; decide),R_typed a.r11 _ (keep_types a k) (by intro q hq; rw [List.mem_singleton.1 hq]; decide),R_typed a.r13 _ (keep_types a k) (by intro q hq; rw [List.mem_singleton.1 hq]; decide),R_typed a.r14 _ (keep_types a k) (by intro q hq; rw [List.mem_singleton.1 hq]; decide)⟩
theorem Mo.s2 {ok : Nat → Prop} {w w1 : World} {gm : Nat} {m : Mv} {hd : Hd} (a : Mo ok w gm m hd) (x : ByteArray) (hb : w1.heap[gm]? = some (.cells ((cells m hd).setIfInBounds 2 (.string x)) 49 (0,0))) (k : KeepBut w w1 gm none) : MO ok w1 gm { m with f2 := x } := ⟨hd,hb,R_typed a.r3 _ (keep_types a k) (by intro q hq; rw [List.mem_singleton.1 hq]; decide),R_typed a.r5 _ (keep_types a k) (by intro q hq; rw [List.mem_singleton.1 hq]; decide),R_typed a.r6 _ (keep_types a k) (by intro q hq; rw [List.mem_singleton.1 hq]; decide),R_typed a.r7 _ (keep_types a k) (by intro q hq; rw [List.mem_singleton.1 hq]; decide),R_typed a.r8 _ (keep_types a k) (by intro q hq; rw [List.mem_singleton.1 hq]; decide),R_typed a.r9 _ (keep_types a k) (by intro q hq; rw [List.mem_singleton.1 hq]; decide),R_typed a.r10 _ (keep_types a k) (by intro q hq; rw [List.mem_singleton.1 hq]; decide),R_typed a.r11 _ (keep_types a k) (by intro q hq; rw [List.mem_singleton.1 hq]; decide),R_typed a.r13 _ (keep_types a k) (by intro q hq; rw [List.mem_singleton.1 hq]; decide),R_typed a.r14 _ (keep_types a k) (by intro q hq; rw [List.mem_singleton.1 hq]; decide)⟩
theorem Mo.s4 {ok : Nat → Prop} {w w1 : World} {gm : Nat} {m : Mv} {hd : Hd} (a : Mo ok w gm m hd) (x : ByteArray) (hb : w1.heap[gm]? = some (.cells ((cells m hd).setIfInBounds 4 (.string x)) 49 (0,0))) (k : KeepBut w w1 gm none) : MO ok w1 gm { m with f4 := x } := ⟨hd,hb,R_typed a.r3 _ (keep_types a k) (by intro q hq; rw [List.mem_singleton.1 hq]; decide),R_typed a.r5 _ (keep_types a k) (by intro q hq; rw [List.mem_singleton.1 hq]; decide),R_typed a.r6 _ (keep_types a k) (by intro q hq; rw [List.mem_singleton.1 hq]; decide),R_typed a.r7 _ (keep_types a k) (by intro q hq; rw [List.mem_singleton.1 hq]; decide),R_typed a.r8 _ (keep_types a k) (by intro q hq; rw [List.mem_singleton.1 hq]; decide),R_typed a.r9 _ (keep_types a k) (by intro q hq; rw [List.mem_singleton.1 hq]; decide),R_typed a.r10 _ (keep_types a k) (by intro q hq; rw [List.mem_singleton.1 hq]; decide),R_typed a.r11 _ (keep_types a k) (by intro q hq; rw [List.mem_singleton.1 hq]; decide),R_typed a.r13 _ (keep_types a k) (by intro q hq; rw [List.mem_singleton.1 hq]; decide),R_typed a.r14 _ (keep_types a k) (by intro q hq; rw [List.mem_singleton.1 hq]; decide)⟩
theorem Mo.s16 {ok : Nat → Prop} {w w1 : World} {gm : Nat} {m : Mv} {hd : Hd} (a : Mo ok w gm m hd) (x : ByteArray) (hb : w1.heap[gm]? = some (.cells ((cells m hd).setIfInBounds 16 (.string x)) 49 (0,0))) (k : KeepBut w w1 gm none) : MO ok w1 gm { m with f16 := x } := ⟨hd,hb,R_typed a.r3 _ (keep_types a k) (by intro q hq; rw [List.mem_singleton.1 hq]; decide),R_typed a.r5 _ (keep_types a k) (by intro q hq; rw [List.mem_singleton.1 hq]; decide),R_typed a.r6 _ (keep_types a k) (by intro q hq; rw [List.mem_singleton.1 hq]; decide),R_typed a.r7 _ (keep_types a k) (by intro q hq; rw [List.mem_singleton.1 hq]; decide),R_typed a.r8 _ (keep_types a k) (by intro q hq; rw [List.mem_singleton.1 hq]; decide),R_typed a.r9 _ (keep_types a k) (by intro q hq; rw [List.mem_singleton.1 hq]; decide),R_typed a.r10 _ (keep_types a k) (by intro q hq; rw [List.mem_singleton.1 hq]; decide),R_typed a.r11 _ (keep_types a k) (by intro q hq; rw [List.mem_singleton.1 hq]; decide),R_typed a.r13 _ (keep_types a k) (by intro q hq; rw [List.mem_singleton.1 hq]; decide),R_typed a.r14 _ (keep_types a k) (by intro q hq; rw [List.mem_singleton.1 hq]; decide)⟩
theorem Mo.s19 {ok : Nat → Prop} {w w1 : World} {gm : Nat} {m : Mv} {hd : Hd} (a : Mo ok w gm m hd) (x : ByteArray) (hb : w1.heap[gm]? = some (.cells ((cells m hd).setIfInBounds 19 (.string x)) 49 (0,0))) (k : KeepBut w w1 gm none) : MO ok w1 gm { m with f19 := x } := ⟨hd,hb,R_typed a.r3 _ (keep_types a k) (by intro q hq; rw [List.mem_singleton.1 hq]; decide),R_typed a.r5 _ (keep_types a k) (by intro q hq; rw [List.mem_singleton.1 hq]; decide),R_typed a.r6 _ (keep_types a k) (by intro q hq; rw [List.mem_singleton.1 hq]; decide),R_typed a.r7 _ (keep_types a k) (by intro q hq; rw [List.mem_singleton.1 hq]; decide),R_typed a.r8 _ (keep_types a k) (by intro q hq; rw [List.mem_singleton.1 hq]; decide),R_typed a.r9 _ (keep_types a k) (by intro q hq; rw [List.mem_singleton.1 hq]; decide),R_typed a.r10 _ (keep_types a k) (by intro q hq; rw [List.mem_singleton.1 hq]; decide),R_typed a.r11 _ (keep_types a k) (by intro q hq; rw [List.mem_singleton.1 hq]; decide),R_typed a.r13 _ (keep_types a k) (by intro q hq; rw [List.mem_singleton.1 hq]; decide),R_typed a.r14 _ (keep_types a k) (by intro q hq; rw [List.mem_singleton.1 hq]; decide)⟩
theorem Mo.s12 {ok : Nat → Prop} {w w1 : World} {gm : Nat} {m : Mv} {hd : Hd} (a : Mo ok w gm m hd) (x : Int) (hb : w1.heap[gm]? = some (.cells ((cells m hd).setIfInBounds 12 (.int .i64 x)) 49 (0,0))) (k : KeepBut w w1 gm none) : MO ok w1 gm { m with f12 := x } := ⟨hd,hb,R_typed a.r3 _ (keep_types a k) (by intro q hq; rw [List.mem_singleton.1 hq]; decide),R_typed a.r5 _ (keep_types a k) (by intro q hq; rw [List.mem_singleton.1 hq]; decide),R_typed a.r6 _ (keep_types a k) (by intro q hq; rw [List.mem_singleton.1 hq]; decide),R_typed a.r7 _ (keep_types a k) (by intro q hq; rw [List.mem_singleton.1 hq]; decide),R_typed a.r8 _ (keep_types a k) (by intro q hq; rw [List.mem_singleton.1 hq]; decide),R_typed a.r9 _ (keep_types a k) (by intro q hq; rw [List.mem_singleton.1 hq]; decide),R_typed a.r10 _ (keep_types a k) (by intro q hq; rw [List.mem_singleton.1 hq]; decide),R_typed a.r11 _ (keep_types a k) (by intro q hq; rw [List.mem_singleton.1 hq]; decide),R_typed a.r13 _ (keep_types a k) (by intro q hq; rw [List.mem_singleton.1 hq]; decide),R_typed a.r14 _ (keep_types a k) (by intro q hq; rw [List.mem_singleton.1 hq]; decide)⟩
theorem Mo.s15 {ok : Nat → Prop} {w w1 : World} {gm : Nat} {m : Mv} {hd : Hd} (a : Mo ok w gm m hd) (x : Int) (hb : w1.heap[gm]? = some (.cells ((cells m hd).setIfInBounds 15 (.int .i64 x)) 49 (0,0))) (k : KeepBut w w1 gm none) : MO ok w1 gm { m with f15 := x } := ⟨hd,hb,R_typed a.r3 _ (keep_types a k) (by intro q hq; rw [List.mem_singleton.1 hq]; decide),R_typed a.r5 _ (keep_types a k) (by intro q hq; rw [List.mem_singleton.1 hq]; decide),R_typed a.r6 _ (keep_types a k) (by intro q hq; rw [List.mem_singleton.1 hq]; decide),R_typed a.r7 _ (keep_types a k) (by intro q hq; rw [List.mem_singleton.1 hq]; decide),R_typed a.r8 _ (keep_types a k) (by intro q hq; rw [List.mem_singleton.1 hq]; decide),R_typed a.r9 _ (keep_types a k) (by intro q hq; rw [List.mem_singleton.1 hq]; decide),R_typed a.r10 _ (keep_types a k) (by intro q hq; rw [List.mem_singleton.1 hq]; decide),R_typed a.r11 _ (keep_types a k) (by intro q hq; rw [List.mem_singleton.1 hq]; decide),R_typed a.r13 _ (keep_types a k) (by intro q hq; rw [List.mem_singleton.1 hq]; decide),R_typed a.r14 _ (keep_types a k) (by intro q hq; rw [List.mem_singleton.1 hq]; decide)⟩
theorem Mo.s17 {ok : Nat → Prop} {w w1 : World} {gm : Nat} {m : Mv} {hd : Hd} (a : Mo ok w gm m hd) (x : Int) (hb : w1.heap[gm]? = some (.cells ((cells m hd).setIfInBounds 17 (.int .i64 x)) 49 (0,0))) (k : KeepBut w w1 gm none) : MO ok w1 gm { m with f17 := x } := ⟨hd,hb,R_typed a.r3 _ (keep_types a k) (by intro q hq; rw [List.mem_singleton.1 hq]; decide),R_typed a.r5 _ (keep_types a k) (by intro q hq; rw [List.mem_singleton.1 hq]; decide),R_typed a.r6 _ (keep_types a k) (by intro q hq; rw [List.mem_singleton.1 hq]; decide),R_typed a.r7 _ (keep_types a k) (by intro q hq; rw [List.mem_singleton.1 hq]; decide),R_typed a.r8 _ (keep_types a k) (by intro q hq; rw [List.mem_singleton.1 hq]; decide),R_typed a.r9 _ (keep_types a k) (by intro q hq; rw [List.mem_singleton.1 hq]; decide),R_typed a.r10 _ (keep_types a k) (by intro q hq; rw [List.mem_singleton.1 hq]; decide),R_typed a.r11 _ (keep_types a k) (by intro q hq; rw [List.mem_singleton.1 hq]; decide),R_typed a.r13 _ (keep_types a k) (by intro q hq; rw [List.mem_singleton.1 hq]; decide),R_typed a.r14 _ (keep_types a k) (by intro q hq; rw [List.mem_singleton.1 hq]; decide)⟩
theorem Mo.s18 {ok : Nat → Prop} {w w1 : World} {gm : Nat} {m : Mv} {hd : Hd} (a : Mo ok w gm m hd) (x : Int) (hb : w1.heap[gm]? = some (.cells ((cells m hd).setIfInBounds 18 (.int .i64 x)) 49 (0,0))) (k : KeepBut w w1 gm none) : MO ok w1 gm { m with f18 := x } := ⟨hd,hb,R_typed a.r3 _ (keep_types a k) (by intro q hq; rw [List.mem_singleton.1 hq]; decide),R_typed a.r5 _ (keep_types a k) (by intro q hq; rw [List.mem_singleton.1 hq]; decide),R_typed a.r6 _ (keep_types a k) (by intro q hq; rw [List.mem_singleton.1 hq]; decide),R_typed a.r7 _ (keep_types a k) (by intro q hq; rw [List.mem_singleton.1 hq]; decide),R_typed a.r8 _ (keep_types a k) (by intro q hq; rw [List.mem_singleton.1 hq]; decide),R_typed a.r9 _ (keep_types a k) (by intro q hq; rw [List.mem_singleton.1 hq]; decide),R_typed a.r10 _ (keep_types a k) (by intro q hq; rw [List.mem_singleton.1 hq]; decide),R_typed a.r11 _ (keep_types a k) (by intro q hq; rw [List.mem_singleton.1 hq]; decide),R_typed a.r13 _ (keep_types a k) (by intro q hq; rw [List.mem_singleton.1 hq]; decide),R_typed a.r14 _ (keep_types a k) (by intro q hq; rw [List.mem_singleton.1 hq]; decide)⟩
theorem Mo.s20 {ok : Nat → Prop} {w w1 : World} {gm : Nat} {m : Mv} {hd : Hd} (a : Mo ok w gm m hd) (x : Int) (hb : w1.heap[gm]? = some (.cells ((cells m hd).setIfInBounds 20 (.int .i64 x)) 49 (0,0))) (k : KeepBut w w1 gm none) : MO ok w1 gm { m with f20 := x } := ⟨hd,hb,R_typed a.r3 _ (keep_types a k) (by intro q hq; rw [List.mem_singleton.1 hq]; decide),R_typed a.r5 _ (keep_types a k) (by intro q hq; rw [List.mem_singleton.1 hq]; decide),R_typed a.r6 _ (keep_types a k) (by intro q hq; rw [List.mem_singleton.1 hq]; decide),R_typed a.r7 _ (keep_types a k) (by intro q hq; rw [List.mem_singleton.1 hq]; decide),R_typed a.r8 _ (keep_types a k) (by intro q hq; rw [List.mem_singleton.1 hq]; decide),R_typed a.r9 _ (keep_types a k) (by intro q hq; rw [List.mem_singleton.1 hq]; decide),R_typed a.r10 _ (keep_types a k) (by intro q hq; rw [List.mem_singleton.1 hq]; decide),R_typed a.r11 _ (keep_types a k) (by intro q hq; rw [List.mem_singleton.1 hq]; decide),R_typed a.r13 _ (keep_types a k) (by intro q hq; rw [List.mem_singleton.1 hq]; decide),R_typed a.r14 _ (keep_types a k) (by intro q hq; rw [List.mem_singleton.1 hq]; decide)⟩
theorem Mo.s3 {ok : Nat → Prop} {w w1 : World} {gm : Nat} {m : Mv} {hd : Hd} (a : Mo ok w gm m hd) {v : Value} {x : List Int} (hr : Kd.R (Kd.int .i64) 3 w 0 ok v x) (hb : w1.heap[gm]? = some (.cells ((cells m hd).setIfInBounds 3 v) 49 (0,0))) (k : KeepBut w w1 gm none) : MO ok w1 gm { m with f3 := x } := by
 obtain ⟨A,c,rfl⟩ := Kd.R_slice hr
 exact ⟨{ hd with A3 := A,c3 := c },hb,R_typed hr _ (keep_types a k) (by intro q hq; rw [List.mem_singleton.1 hq]; decide),R_typed a.r5 _ (keep_types a k) (by intro q hq; rw [List.mem_singleton.1 hq]; decide),R_typed a.r6 _ (keep_types a k) (by intro q hq; rw [List.mem_singleton.1 hq]; decide),R_typed a.r7 _ (keep_types a k) (by intro q hq; rw [List.mem_singleton.1 hq]; decide),R_typed a.r8 _ (keep_types a k) (by intro q hq; rw [List.mem_singleton.1 hq]; decide),R_typed a.r9 _ (keep_types a k) (by intro q hq; rw [List.mem_singleton.1 hq]; decide),R_typed a.r10 _ (keep_types a k) (by intro q hq; rw [List.mem_singleton.1 hq]; decide),R_typed a.r11 _ (keep_types a k) (by intro q hq; rw [List.mem_singleton.1 hq]; decide),R_typed a.r13 _ (keep_types a k) (by intro q hq; rw [List.mem_singleton.1 hq]; decide),R_typed a.r14 _ (keep_types a k) (by intro q hq; rw [List.mem_singleton.1 hq]; decide)⟩
theorem Mo.s5 {ok : Nat → Prop} {w w1 : World} {gm : Nat} {m : Mv} {hd : Hd} (a : Mo ok w gm m hd) {v : Value} {x : List Int} (hr : Kd.R (Kd.int .i64) 3 w 0 ok v x) (hb : w1.heap[gm]? = some (.cells ((cells m hd).setIfInBounds 5 v) 49 (0,0))) (k : KeepBut w w1 gm none) : MO ok w1 gm { m with f5 := x } := by
 obtain ⟨A,c,rfl⟩ := Kd.R_slice hr
 exact ⟨{ hd with A5 := A,c5 := c },hb,R_typed a.r3 _ (keep_types a k) (by intro q hq; rw [List.mem_singleton.1 hq]; decide),R_typed hr _ (keep_types a k) (by intro q hq; rw [List.mem_singleton.1 hq]; decide),R_typed a.r6 _ (keep_types a k) (by intro q hq; rw [List.mem_singleton.1 hq]; decide),R_typed a.r7 _ (keep_types a k) (by intro q hq; rw [List.mem_singleton.1 hq]; decide),R_typed a.r8 _ (keep_types a k) (by intro q hq; rw [List.mem_singleton.1 hq]; decide),R_typed a.r9 _ (keep_types a k) (by intro q hq; rw [List.mem_singleton.1 hq]; decide),R_typed a.r10 _ (keep_types a k) (by intro q hq; rw [List.mem_singleton.1 hq]; decide),R_typed a.r11 _ (keep_types a k) (by intro q hq; rw [List.mem_singleton.1 hq]; decide),R_typed a.r13 _ (keep_types a k) (by intro q hq; rw [List.mem_singleton.1 hq]; decide),R_typed a.r14 _ (keep_types a k) (by intro q hq; rw [List.mem_singleton.1 hq]; decide)⟩
theorem Mo.s6 {ok : Nat → Prop} {w w1 : World} {gm : Nat} {m : Mv} {hd : Hd} (a : Mo ok w gm m hd) {v : Value} {x : List Int} (hr : Kd.R (Kd.int .i64) 3 w 0 ok v x) (hb : w1.heap[gm]? = some (.cells ((cells m hd).setIfInBounds 6 v) 49 (0,0))) (k : KeepBut w w1 gm none) : MO ok w1 gm { m with f6 := x } := by
 obtain ⟨A,c,rfl⟩ := Kd.R_slice hr
 exact ⟨{ hd with A6 := A,c6 := c },hb,R_typed a.r3 _ (keep_types a k) (by intro q hq; rw [List.mem_singleton.1 hq]; decide),R_typed a.r5 _ (keep_types a k) (by intro q hq; rw [List.mem_singleton.1 hq]; decide),R_typed hr _ (keep_types a k) (by intro q hq; rw [List.mem_singleton.1 hq]; decide),R_typed a.r7 _ (keep_types a k) (by intro q hq; rw [List.mem_singleton.1 hq]; decide),R_typed a.r8 _ (keep_types a k) (by intro q hq; rw [List.mem_singleton.1 hq]; decide),R_typed a.r9 _ (keep_types a k) (by intro q hq; rw [List.mem_singleton.1 hq]; decide),R_typed a.r10 _ (keep_types a k) (by intro q hq; rw [List.mem_singleton.1 hq]; decide),R_typed a.r11 _ (keep_types a k) (by intro q hq; rw [List.mem_singleton.1 hq]; decide),R_typed a.r13 _ (keep_types a k) (by intro q hq; rw [List.mem_singleton.1 hq]; decide),R_typed a.r14 _ (keep_types a k) (by intro q hq; rw [List.mem_singleton.1 hq]; decide)⟩
theorem Mo.s7 {ok : Nat → Prop} {w w1 : World} {gm : Nat} {m : Mv} {hd : Hd} (a : Mo ok w gm m hd) {v : Value} {x : List Int} (hr : Kd.R (Kd.int .i64) 3 w 0 ok v x) (hb : w1.heap[gm]? = some (.cells ((cells m hd).setIfInBounds 7 v) 49 (0,0))) (k : KeepBut w w1 gm none) : MO ok w1 gm { m with f7 := x } := by
 obtain ⟨A,c,rfl⟩ := Kd.R_slice hr
 exact ⟨{ hd with A7 := A,c7 := c },hb,R_typed a.r3 _ (keep_types a k) (by intro q hq; rw [List.mem_singleton.1 hq]; decide),R_typed a.r5 _ (keep_types a k) (by intro q hq; rw [List.mem_singleton.1 hq]; decide),R_typed a.r6 _ (keep_types a k) (by intro q hq; rw [List.mem_singleton.1 hq]; decide),R_typed hr _ (keep_types a k) (by intro q hq; rw [List.mem_singleton.1 hq]; decide),R_typed a.r8 _ (keep_types a k) (by intro q hq; rw [List.mem_singleton.1 hq]; decide),R_typed a.r9 _ (keep_types a k) (by intro q hq; rw [List.mem_singleton.1 hq]; decide),R_typed a.r10 _ (keep_types a k) (by intro q hq; rw [List.mem_singleton.1 hq]; decide),R_typed a.r11 _ (keep_types a k) (by intro q hq; rw [List.mem_singleton.1 hq]; decide),R_typed a.r13 _ (keep_types a k) (by intro q hq; rw [List.mem_singleton.1 hq]; decide),R_typed a.r14 _ (keep_types a k) (by intro q hq; rw [List.mem_singleton.1 hq]; decide)⟩
theorem Mo.s8 {ok : Nat → Prop} {w w1 : World} {gm : Nat} {m : Mv} {hd : Hd} (a : Mo ok w gm m hd) {v : Value} {x : List Int} (hr : Kd.R (Kd.int .i64) 3 w 0 ok v x) (hb : w1.heap[gm]? = some (.cells ((cells m hd).setIfInBounds 8 v) 49 (0,0))) (k : KeepBut w w1 gm none) : MO ok w1 gm { m with f8 := x } := by
 obtain ⟨A,c,rfl⟩ := Kd.R_slice hr
 exact ⟨{ hd with A8 := A,c8 := c },hb,R_typed a.r3 _ (keep_types a k) (by intro q hq; rw [List.mem_singleton.1 hq]; decide),R_typed a.r5 _ (keep_types a k) (by intro q hq; rw [List.mem_singleton.1 hq]; decide),R_typed a.r6 _ (keep_types a k) (by intro q hq; rw [List.mem_singleton.1 hq]; decide),R_typed a.r7 _ (keep_types a k) (by intro q hq; rw [List.mem_singleton.1 hq]; decide),R_typed hr _ (keep_types a k) (by intro q hq; rw [List.mem_singleton.1 hq]; decide),R_typed a.r9 _ (keep_types a k) (by intro q hq; rw [List.mem_singleton.1 hq]; decide),R_typed a.r10 _ (keep_types a k) (by intro q hq; rw [List.mem_singleton.1 hq]; decide),R_typed a.r11 _ (keep_types a k) (by intro q hq; rw [List.mem_singleton.1 hq]; decide),R_typed a.r13 _ (keep_types a k) (by intro q hq; rw [List.mem_singleton.1 hq]; decide),R_typed a.r14 _ (keep_types a k) (by intro q hq; rw [List.mem_singleton.1 hq]; decide)⟩
theorem Mo.s9 {ok : Nat → Prop} {w w1 : World} {gm : Nat} {m : Mv} {hd : Hd} (a : Mo ok w gm m hd) {v : Value} {x : List S66} (hr : Kd.R k66 66 w 0 ok v x) (hb : w1.heap[gm]? = some (.cells ((cells m hd).setIfInBounds 9 v) 49 (0,0))) (k : KeepBut w w1 gm none) : MO ok w1 gm { m with f9 := x } := by
 obtain ⟨A,c,rfl⟩ := Kd.R_slice hr
 exact ⟨{ hd with A9 := A,c9 := c },hb,R_typed a.r3 _ (keep_types a k) (by intro q hq; rw [List.mem_singleton.1 hq]; decide),R_typed a.r5 _ (keep_types a k) (by intro q hq; rw [List.mem_singleton.1 hq]; decide),R_typed a.r6 _ (keep_types a k) (by intro q hq; rw [List.mem_singleton.1 hq]; decide),R_typed a.r7 _ (keep_types a k) (by intro q hq; rw [List.mem_singleton.1 hq]; decide),R_typed a.r8 _ (keep_types a k) (by intro q hq; rw [List.mem_singleton.1 hq]; decide),R_typed hr _ (keep_types a k) (by intro q hq; rw [List.mem_singleton.1 hq]; decide),R_typed a.r10 _ (keep_types a k) (by intro q hq; rw [List.mem_singleton.1 hq]; decide),R_typed a.r11 _ (keep_types a k) (by intro q hq; rw [List.mem_singleton.1 hq]; decide),R_typed a.r13 _ (keep_types a k) (by intro q hq; rw [List.mem_singleton.1 hq]; decide),R_typed a.r14 _ (keep_types a k) (by intro q hq; rw [List.mem_singleton.1 hq]; decide)⟩
theorem Mo.s10 {ok : Nat → Prop} {w w1 : World} {gm : Nat} {m : Mv} {hd : Hd} (a : Mo ok w gm m hd) {v : Value} {x : List S111} (hr : Kd.R k111 111 w 0 ok v x) (hb : w1.heap[gm]? = some (.cells ((cells m hd).setIfInBounds 10 v) 49 (0,0))) (k : KeepBut w w1 gm none) : MO ok w1 gm { m with f10 := x } := by
 obtain ⟨A,c,rfl⟩ := Kd.R_slice hr
 exact ⟨{ hd with A10 := A,c10 := c },hb,R_typed a.r3 _ (keep_types a k) (by intro q hq; rw [List.mem_singleton.1 hq]; decide),R_typed a.r5 _ (keep_types a k) (by intro q hq; rw [List.mem_singleton.1 hq]; decide),R_typed a.r6 _ (keep_types a k) (by intro q hq; rw [List.mem_singleton.1 hq]; decide),R_typed a.r7 _ (keep_types a k) (by intro q hq; rw [List.mem_singleton.1 hq]; decide),R_typed a.r8 _ (keep_types a k) (by intro q hq; rw [List.mem_singleton.1 hq]; decide),R_typed a.r9 _ (keep_types a k) (by intro q hq; rw [List.mem_singleton.1 hq]; decide),R_typed hr _ (keep_types a k) (by intro q hq; rw [List.mem_singleton.1 hq]; decide),R_typed a.r11 _ (keep_types a k) (by intro q hq; rw [List.mem_singleton.1 hq]; decide),R_typed a.r13 _ (keep_types a k) (by intro q hq; rw [List.mem_singleton.1 hq]; decide),R_typed a.r14 _ (keep_types a k) (by intro q hq; rw [List.mem_singleton.1 hq]; decide)⟩
theorem Mo.s11 {ok : Nat → Prop} {w w1 : World} {gm : Nat} {m : Mv} {hd : Hd} (a : Mo ok w gm m hd) {v : Value} {x : List ByteArray} (hr : Kd.R Kd.string 9 w 0 ok v x) (hb : w1.heap[gm]? = some (.cells ((cells m hd).setIfInBounds 11 v) 49 (0,0))) (k : KeepBut w w1 gm none) : MO ok w1 gm { m with f11 := x } := by
 obtain ⟨A,c,rfl⟩ := Kd.R_slice hr
 exact ⟨{ hd with A11 := A,c11 := c },hb,R_typed a.r3 _ (keep_types a k) (by intro q hq; rw [List.mem_singleton.1 hq]; decide),R_typed a.r5 _ (keep_types a k) (by intro q hq; rw [List.mem_singleton.1 hq]; decide),R_typed a.r6 _ (keep_types a k) (by intro q hq; rw [List.mem_singleton.1 hq]; decide),R_typed a.r7 _ (keep_types a k) (by intro q hq; rw [List.mem_singleton.1 hq]; decide),R_typed a.r8 _ (keep_types a k) (by intro q hq; rw [List.mem_singleton.1 hq]; decide),R_typed a.r9 _ (keep_types a k) (by intro q hq; rw [List.mem_singleton.1 hq]; decide),R_typed a.r10 _ (keep_types a k) (by intro q hq; rw [List.mem_singleton.1 hq]; decide),R_typed hr _ (keep_types a k) (by intro q hq; rw [List.mem_singleton.1 hq]; decide),R_typed a.r13 _ (keep_types a k) (by intro q hq; rw [List.mem_singleton.1 hq]; decide),R_typed a.r14 _ (keep_types a k) (by intro q hq; rw [List.mem_singleton.1 hq]; decide)⟩
theorem Mo.s13 {ok : Nat → Prop} {w w1 : World} {gm : Nat} {m : Mv} {hd : Hd} (a : Mo ok w gm m hd) {v : Value} {x : List Int} (hr : Kd.R (Kd.int .i64) 3 w 0 ok v x) (hb : w1.heap[gm]? = some (.cells ((cells m hd).setIfInBounds 13 v) 49 (0,0))) (k : KeepBut w w1 gm none) : MO ok w1 gm { m with f13 := x } := by
 obtain ⟨A,c,rfl⟩ := Kd.R_slice hr
 exact ⟨{ hd with A13 := A,c13 := c },hb,R_typed a.r3 _ (keep_types a k) (by intro q hq; rw [List.mem_singleton.1 hq]; decide),R_typed a.r5 _ (keep_types a k) (by intro q hq; rw [List.mem_singleton.1 hq]; decide),R_typed a.r6 _ (keep_types a k) (by intro q hq; rw [List.mem_singleton.1 hq]; decide),R_typed a.r7 _ (keep_types a k) (by intro q hq; rw [List.mem_singleton.1 hq]; decide),R_typed a.r8 _ (keep_types a k) (by intro q hq; rw [List.mem_singleton.1 hq]; decide),R_typed a.r9 _ (keep_types a k) (by intro q hq; rw [List.mem_singleton.1 hq]; decide),R_typed a.r10 _ (keep_types a k) (by intro q hq; rw [List.mem_singleton.1 hq]; decide),R_typed a.r11 _ (keep_types a k) (by intro q hq; rw [List.mem_singleton.1 hq]; decide),R_typed hr _ (keep_types a k) (by intro q hq; rw [List.mem_singleton.1 hq]; decide),R_typed a.r14 _ (keep_types a k) (by intro q hq; rw [List.mem_singleton.1 hq]; decide)⟩
theorem Mo.s14 {ok : Nat → Prop} {w w1 : World} {gm : Nat} {m : Mv} {hd : Hd} (a : Mo ok w gm m hd) {v : Value} {x : List ByteArray} (hr : Kd.R Kd.string 9 w 0 ok v x) (hb : w1.heap[gm]? = some (.cells ((cells m hd).setIfInBounds 14 v) 49 (0,0))) (k : KeepBut w w1 gm none) : MO ok w1 gm { m with f14 := x } := by
 obtain ⟨A,c,rfl⟩ := Kd.R_slice hr
 exact ⟨{ hd with A14 := A,c14 := c },hb,R_typed a.r3 _ (keep_types a k) (by intro q hq; rw [List.mem_singleton.1 hq]; decide),R_typed a.r5 _ (keep_types a k) (by intro q hq; rw [List.mem_singleton.1 hq]; decide),R_typed a.r6 _ (keep_types a k) (by intro q hq; rw [List.mem_singleton.1 hq]; decide),R_typed a.r7 _ (keep_types a k) (by intro q hq; rw [List.mem_singleton.1 hq]; decide),R_typed a.r8 _ (keep_types a k) (by intro q hq; rw [List.mem_singleton.1 hq]; decide),R_typed a.r9 _ (keep_types a k) (by intro q hq; rw [List.mem_singleton.1 hq]; decide),R_typed a.r10 _ (keep_types a k) (by intro q hq; rw [List.mem_singleton.1 hq]; decide),R_typed a.r11 _ (keep_types a k) (by intro q hq; rw [List.mem_singleton.1 hq]; decide),R_typed a.r13 _ (keep_types a k) (by intro q hq; rw [List.mem_singleton.1 hq]; decide),R_typed hr _ (keep_types a k) (by intro q hq; rw [List.mem_singleton.1 hq]; decide)⟩
structure Kg (lo r f g : Nat) (w w' : World) : Prop where
 below : Below lo w w'
 keep : ∀ k o,w.heap[k]? = some o → k ≠ r → k ≠ f → k ≠ g → w'.heap[k]? = some o
theorem Kg.of_kf {lo r f g : Nat} {w w' : World} (k : Kf lo r f w w') : Kg lo r f g w w' := ⟨k.below,fun i o hi hr hf _ => k.keep i o hi hr hf⟩
theorem Kg.trans {lo r f g : Nat} {a b c : World} (h : Kg lo r f g a b) (k : Kg lo r f g b c) : Kg lo r f g a c := ⟨h.below.trans k.below,fun i o hi hr hf hg => k.keep i o (h.keep i o hi hr hf hg) hr hf hg⟩
theorem Kg.of_store {lo r f g : Nat} {w w' : World} (h : Below lo w w') (k : KeepBut w w' g none) : Kg lo r f g w w' := ⟨h,fun i o hi _ _ hg => (k.2 i (blk_lt hi) hg (by simp)).trans hi⟩
theorem Kg.inner {lo r r2 f g : Nat} {w w1 w2 : World} (h : Kg lo r f g w w1) (hn : w.heap.size ≤ r2) (k : Kg lo r2 f g w1 w2) : Kg lo r f g w w2 :=
 ⟨h.below.trans k.below,fun i o hi hr hf hg => k.keep i o (h.keep i o hi hr hf hg) (by have := blk_lt hi; omega) hf hg⟩
theorem RS.store {ok : Nat → Prop} {w w' : World} {r f g : Nat} {R : Rp} {m : Mv} {h : Hd} (a : RS w r f R) (b : Mo ok w g m h) (k : KeepBut w w' g none) : RS w' r f R :=
 ⟨(k.2 r (blk_lt a.rd) (blk_ne a.rd b.box (by decide)) (by simp)).trans a.rd,(k.2 f (blk_lt a.ft) (blk_ne a.ft b.box (by decide)) (by simp)).trans a.ft⟩
theorem sz45' : (Try.prog.info? 45).map (·.size) = some 1 := by kernel_rfl
theorem sz46' : (Try.prog.info? 46).map (·.size) = some 1 := by kernel_rfl
theorem sz47' : (Try.prog.info? 47).map (·.size) = some 1 := by kernel_rfl
theorem Rs.store {ok : Nat → Prop} {w w' : World} {r f g : Nat} {s : ByteArray} {p c : Int} {t l : Bool} {m : Mv} {h : Hd} (a : Rs w r f s p c t l) (b : Mo ok w g m h) (k : KeepBut w w' g none) : Rs w' r f s p c t l :=
 ⟨(k.2 r (blk_lt a.rd) (blk_ne a.rd b.box (by decide)) (by simp)).trans a.rd,(k.2 f (blk_lt a.ft) (blk_ne a.ft b.box (by decide)) (by simp)).trans a.ft⟩
theorem Rs.wsz {W : World} {r f lo : Nat} {s : ByteArray} {p c : Int} {t l : Bool} (h : Rs W r f s p c t l) (hl : lo ≤ f) : lo ≤ W.heap.size := Nat.le_of_lt (Nat.lt_of_le_of_lt hl (blk_lt h.ft))
theorem Rs.sz {W : World} {r f : Nat} {s : ByteArray} {p c : Int} {t l : Bool} (h : Rs W r f s p c t l) : r < W.heap.size ∧ f < W.heap.size := ⟨blk_lt h.rd,blk_lt h.ft⟩
def Rp.pskI (R : Rp) : List S111 := lstV oneIde R 2
def Rp.psk1 (R : Rp) : Rp := lstR oneIde R 2
def Rp.pskB (R : Rp) : List ByteArray := allV oneBin (R.psk1.inR 2)
def Rp.psk2 (R : Rp) : Rp := (R.psk1.outR 2).back (allR oneBin (R.psk1.inR 2))
def Rp.pskR (R : Rp) : Rp := (R.psk2.need (R.psk2.p == (R.psk2.s.size : Int))).allow ((R.pskB.length : Int) == (R.pskI.length : Int))
theorem Rp.Ok.psk1 {R : Rp} (h : R.Ok) : R.psk1.Ok := h.lstR 2
theorem Rp.Ok.psk2 {R : Rp} (h : R.Ok) : R.psk2.Ok := (h.psk1.outR 2).back _
theorem Rp.Ok.pskR {R : Rp} (h : R.Ok) : R.pskR.Ok := (h.psk2.need _).allow _
set_option maxRecDepth 100000 in
set_option maxHeartbeats 8000000 in
theorem psk_c (ok : Nat → Prop) (lo r f gm : Nat) (R : Rp) (m : Mv) (w : World) (hl : lo ≤ f) (hl2 : lo ≤ r) (hg : lo ≤ gm) (h : RS w r f R) (ho : R.Ok) (hm : MO ok w gm m) (hok : ∀ k,w.heap.size ≤ k → ok k) :
  Calls Try.prog 115 #[.pointer (some ⟨r,0,none⟩),.pointer (some ⟨gm,0,none⟩)] w fun ex w' => ex = .returned (.tuple #[]) ∧ RS w' r f R.pskR ∧ MO ok w' gm { m with f10 := R.pskI,f11 := R.pskB } ∧ Kg lo r f gm w w' := by
 have H := Aq.mk h
 have HL := Aq.mk hl
 have HL2 := Aq.mk hl2
 have HG := Aq.mk hg
 have OKK := Aq.mk hok
 have HO := Aq.mk ho
 have M := Aq.mk hm
 have K := Aq.mk (Kg.of_kf (g := gm) (Kf.refl lo r f w))
 clear h hl hl2 hg ho hm hok
 go_enter Try.func115,Try.ntmps115
 go_wp2_with (first
  | (go_at_call 118; (refine (list_ide oneIdent lo r f R _ 2 2 rfl (by omega) (by omega) HL.out HL2.out H.out HO.out).mono ?_); rintro e1 w1 ⟨v1,rfl,r1,i1,k1⟩; obtain ⟨A1,c1,rfl⟩ := Kd.R_slice r1; have R1 := Aq.mk (R_fresh r1 OKK.out); have M1 := Aq.mk (M.out.kf H.out k1); have H1 := Aq.mk i1; have K1 := Aq.mk (K.out.trans (Kg.of_kf k1)); clear i1 k1; clear r1)
  | ((with_reducible refine gate_store (p := 8) rfl ?_); obtain ⟨hd_,hm_⟩ := M1.out; refine st (v := .slice A1 (lstV oneIde R 2).length c1) rfl rfl rfl hm_.box sz46' rfl rfl rfl (by rw [cells_size]; omega) ?_; intro w2 h3_ b3_ k3_; have M2 := Aq.mk (hm_.s10 R1.out h3_ k3_); have H2 := Aq.mk (H1.out.store hm_ k3_); have K2 := Aq.mk (K1.out.trans (Kg.of_store (b3_ _ HG.out) k3_)); clear h3_ b3_ k3_ hm_)
  | (go_at_call 66; (with_reducible refine (rwithin_c lo r f R.psk1 _ 2 2 rfl (by omega) (by omega) HL.out HL2.out H2.out HO.out.psk1).mono ?_); rintro e3 w3 ⟨r2,rfl,n1,i1,j1,k1⟩; have HN := Aq.mk n1; have HP := Aq.mk i1; have HI := Aq.mk j1; have M3 := Aq.mk (M2.out.kf H2.out k1); have KI := Aq.mk k1; have HL3 := Aq.mk (show lo ≤ r2 from Nat.le_trans (H2.out.wsz HL.out) n1); have HNE := Aq.mk (show r ≠ r2 from by have := H2.out.sz; omega); clear n1 i1 j1 k1)
  | (go_at_call 100; (refine (all_str oneBinder lo r2 f (R.psk1.inR 2) _ HL.out HL3.out HI.out (HO.out.psk1.inR 2)).mono ?_); rintro e4 w4 ⟨v4,rfl,r4,i4,k4⟩; obtain ⟨A4,c4,rfl⟩ := Kd.R_slice r4; have R4 := Aq.mk (R_fresh r4 (fun k hk => OKK.out k (Nat.le_trans K2.out.below.size (Nat.le_trans KI.out.below.size hk)))); have M4 := Aq.mk (M3.out.kf HI.out k4); have H4 := Aq.mk (show RS w4 r f R.psk2 from HP.out.back (I := R) HNE.out k4 i4); have K4 := Aq.mk (K2.out.trans (Kg.of_kf (KI.out.inner HN.out k4))); clear i4 k4 r4)
  | ((with_reducible refine gate_store (p := 14) rfl ?_); obtain ⟨hd_,hm_⟩ := M4.out; refine st (v := .slice A4 (allV oneBin (R.psk1.inR 2)).length c4) rfl rfl rfl hm_.box sz47' rfl rfl rfl (by rw [cells_size]; omega) ?_; intro w5 h3_ b3_ k3_; have M5 := Aq.mk (hm_.s11 R4.out h3_ k3_); have H5 := Aq.mk (H4.out.store hm_ k3_); have K5 := Aq.mk (K4.out.trans (Kg.of_store (b3_ _ HG.out) k3_)); clear h3_ b3_ k3_ hm_))
 obtain ⟨q2,hq2⟩ : ∃ q,R.psk2 = q := ⟨_,rfl⟩
 have HQ := Aq.mk hq2
 rw [hq2] at H5
 clear hq2
 obtain ⟨sq,pq,cq,tq,lq⟩ := q2
 have HW5 := Aq.mk (show lo ≤ w5.heap.size from H5.out.wsz HL.out)
 refine start_ (n := 12) (S := fun w' => Below w5.heap.size w5 w') (ds := [11]) #[false,false,false,false,false,false,false,false,false,false,false,false] (by kernel_rfl) rfl rfl (Below.refl w5.heap.size w5).drew (fun hHeld => ?_)
 have HS := Aq.mk (Below.refl w5.heap.size w5).drew
 generalize w5.drew = w6 at HS hHeld ⊢
 refine pure_ (i := 0) (N := (some 15)) (v := ?_) (a' := ?_) #[true,false,false,false,false,false,false,false,false,false,false,false] rfl rfl (by kernel_rfl) (fun _ _ _ h => h) (Or.inl ⟨by rfl,?_⟩) ?_ ?_
 rotate_left
 ·intro w'
  go_simp
  with_reducible rfl
 rotate_left
 ·simp only [Act.put,LS_]
  rfl
 refine pure_ (i := 1) (N := (some 16)) (v := ?_) (a' := ?_) #[true,true,false,false,false,false,false,false,false,false,false,false] rfl rfl (by kernel_rfl) (fun _ _ _ h => h) (Or.inl ⟨by rfl,?_⟩) ?_ ?_
 rotate_left
 ·intro w'
  go_simp
  with_reducible rfl
 rotate_left
 ·simp only [Act.put,LS_]
  rfl
 refine pure_ (i := 2) (N := (some 17)) (v := ?_) (a' := ?_) #[true,true,true,false,false,false,false,false,false,false,false,false] rfl rfl (by kernel_rfl) (fun _ _ _ h => h) (Or.inl ⟨by rfl,?_⟩) ?_ ?_
 rotate_left
 ·intro w'
  go_simp
  with_reducible rfl
 rotate_left
 ·simp only [Act.put,LS_]
  rfl
 refine pure_ (i := 3) (N := (some 18)) (v := ?_) (a' := ?_) #[true,true,true,true,false,false,false,false,false,false,false,false] rfl rfl (by kernel_rfl) (fun _ _ _ h => h) (Or.inl ⟨by rfl,?_⟩) ?_ ?_
 rotate_left
 ·intro w'
  go_simp
  with_reducible rfl
 rotate_left
 ·simp only [Act.put,LS_]
  rfl
 refine take_ (i := 4) (N := (some 19)) (v := ?_) (a' := ?_) #[true,true,true,true,true,false,false,false,false,false,false,false] rfl rfl (by kernel_rfl) (fun _ _ _ h => h) (Or.inl ⟨by rfl,?_⟩) hHeld ?_ ?_
 rotate_left
 ·rintro w' hS
  have hc := rcell H5.out.rd hS
  obtain ⟨hc1,hc2,hc3⟩ := hc
  go_simp
  with_reducible rfl
 rotate_left
 ·simp only [Act.put,LS_]
  rfl
 refine pure_ (i := 5) (N := (some 20)) (v := ?_) (a' := ?_) #[true,true,true,true,true,true,false,false,false,false,false,false] rfl rfl (by kernel_rfl) (fun _ _ _ h => h) (Or.inl ⟨by rfl,?_⟩) ?_ ?_
 rotate_left
 ·intro w'
  go_simp
  with_reducible rfl
 rotate_left
 ·simp only [Act.put,LS_]
  rfl
 refine pure_ (i := 6) (N := (some 21)) (v := ?_) (a' := ?_) #[true,true,true,true,true,true,true,false,false,false,false,false] rfl rfl (by kernel_rfl) (fun _ _ _ h => h) (Or.inl ⟨by rfl,?_⟩) ?_ ?_
 rotate_left
 ·intro w'
  go_simp
  with_reducible rfl
 rotate_left
 ·simp only [Act.put,LS_]
  rfl
 refine pure_ (i := 7) (N := (some 22)) (v := ?_) (a' := ?_) #[true,true,true,true,true,true,true,true,false,false,false,false] rfl rfl (by kernel_rfl) (fun _ _ _ h => h) (Or.inl ⟨by rfl,?_⟩) ?_ ?_
 rotate_left
 ·intro w'
  go_simp
  with_reducible rfl
 rotate_left
 ·simp only [Act.put,LS_]
  rfl
 refine take_ (i := 8) (N := (some 23)) (v := ?_) (a' := ?_) #[true,true,true,true,true,true,true,true,true,false,false,false] rfl rfl (by kernel_rfl) (fun _ _ _ h => h) (Or.inl ⟨by rfl,?_⟩) hHeld ?_ ?_
 rotate_left
 ·rintro w' hS
  have hc := rcell H5.out.rd hS
  obtain ⟨hc1,hc2,hc3⟩ := hc
  go_simp
  with_reducible rfl
 rotate_left
 ·simp only [Act.put,LS_]
  rfl
 refine pure_ (i := 9) (N := (some 24)) (v := ?_) (a' := ?_) #[true,true,true,true,true,true,true,true,true,true,false,false] rfl rfl (by kernel_rfl) (fun _ _ _ h => h) (Or.inl ⟨by rfl,?_⟩) ?_ ?_
 rotate_left
 ·intro w'
  go_simp
  with_reducible rfl
 rotate_left
 ·simp only [Act.put,LS_]
  rfl
 refine pure_ (i := 10) (N := (some 25)) (v := ?_) (a' := ?_) #[true,true,true,true,true,true,true,true,true,true,true,false] rfl rfl (by kernel_rfl) (fun _ _ _ h => h) (Or.inl ⟨by rfl,?_⟩) ?_ ?_
 rotate_left
 ·intro w'
  go_simp
  with_reducible rfl
 rotate_left
 ·simp only [Act.put,LS_]
  rfl
 refine last_ (i := 11) (N := (some 26)) #[true,true,true,true,true,true,true,true,true,true,true,true] rfl rfl (by kernel_rfl) (by decide) (fun K hK => ?_)
 refine goes_ (f := 72) Try.func72 (by kernel_rfl) rfl #[.pointer (some ⟨r,0,none⟩),.bool (pq == (sq.size : Int))] (by rfl) rfl rfl (by (try simp only [List.map_toArray,List.map_cons,List.map_nil]); first | done | rfl) ?_
 refine (rneed_c lo r f ⟨sq,pq,cq,tq,lq⟩ _ (pq == (sq.size : Int)) HL.out (H5.out.below HS.out)).mono ?_
 rintro e w8 ⟨rfl,i8,k8⟩
 refine ⟨_,rfl,?_⟩
 have M8 := Aq.mk ((M5.out.below HS.out).kf (H5.out.below HS.out) k8)
 have H8 := Aq.mk i8
 have K8 := Aq.mk (K5.out.trans (Kg.of_kf ((Kf.of_below (r := r) (f := f) HW5.out HS.out).trans k8)))
 clear i8 k8
 refine hK.out _ _ ?_
 clear hK K
 refine norm_ (a' := ?_) ?_ ?_
 rotate_left
 ·show Act.put _ (some 26) _ = _
  simp only [Act.put,LS_]
  rfl
 refine done_ (by kernel_rfl) ?_
 go_wp2
 obtain ⟨hd8,hm8⟩ := M8.out
 have HM8 := Aq.mk hm8
 clear hm8
 have HW8 := Aq.mk (show lo ≤ w8.heap.size from H8.out.wsz HL.out)
 refine start_ (n := 13) (S := fun w' => Below w8.heap.size w8 w') (ds := [12]) #[false,false,false,false,false,false,false,false,false,false,false,false,false] (by kernel_rfl) rfl rfl (Below.refl w8.heap.size w8).drew (fun hHeld => ?_)
 have HS9 := Aq.mk (Below.refl w8.heap.size w8).drew
 generalize w8.drew = w9 at HS9 hHeld ⊢
 refine pure_ (i := 0) (N := (some 27)) (v := ?_) (a' := ?_) #[true,false,false,false,false,false,false,false,false,false,false,false,false] rfl rfl (by kernel_rfl) (fun _ _ _ h => h) (Or.inl ⟨by rfl,?_⟩) ?_ ?_
 rotate_left
 ·intro w'
  go_simp
  with_reducible rfl
 rotate_left
 ·simp only [Act.put,LS_]
  rfl
 refine pure_ (i := 1) (N := (some 28)) (v := ?_) (a' := ?_) #[true,true,false,false,false,false,false,false,false,false,false,false,false] rfl rfl (by kernel_rfl) (fun _ _ _ h => h) (Or.inl ⟨by rfl,?_⟩) ?_ ?_
 rotate_left
 ·intro w'
  go_simp
  with_reducible rfl
 rotate_left
 ·simp only [Act.put,LS_]
  rfl
 refine pure_ (i := 2) (N := (some 29)) (v := ?_) (a' := ?_) #[true,true,true,false,false,false,false,false,false,false,false,false,false] rfl rfl (by kernel_rfl) (fun _ _ _ h => h) (Or.inl ⟨by rfl,?_⟩) ?_ ?_
 rotate_left
 ·intro w'
  go_simp
  with_reducible rfl
 rotate_left
 ·simp only [Act.put,LS_]
  rfl
 refine pure_ (i := 3) (N := (some 30)) (v := ?_) (a' := ?_) #[true,true,true,true,false,false,false,false,false,false,false,false,false] rfl rfl (by kernel_rfl) (fun _ _ _ h => h) (Or.inl ⟨by rfl,?_⟩) ?_ ?_
 rotate_left
 ·intro w'
  go_simp
  with_reducible rfl
 rotate_left
 ·simp only [Act.put,LS_]
  rfl
 refine take_ (i := 4) (N := (some 31)) (v := ?_) (a' := ?_) #[true,true,true,true,true,false,false,false,false,false,false,false,false] rfl rfl (by kernel_rfl) (fun _ _ _ h => h) (Or.inl ⟨by rfl,?_⟩) hHeld ?_ ?_
 rotate_left
 ·rintro w' hS
  have hc : w'.cell? ⟨gm,11,none⟩ = some (.slice hd8.A11 (R.pskB).length hd8.c11) := (blk_cell ((hS.block gm (blk_lt HM8.out.box)).trans HM8.out.box) 11).trans rfl
  go_simp
  with_reducible rfl
 rotate_left
 ·simp only [Act.put,LS_]
  rfl
 refine pure_ (i := 5) (N := (some 32)) (v := ?_) (a' := ?_) #[true,true,true,true,true,true,false,false,false,false,false,false,false] rfl rfl (by kernel_rfl) (fun _ _ _ h => h) (Or.inl ⟨by rfl,?_⟩) ?_ ?_
 rotate_left
 ·intro w'
  go_simp
  with_reducible rfl
 rotate_left
 ·simp only [Act.put,LS_]
  rfl
 refine pure_ (i := 6) (N := (some 33)) (v := ?_) (a' := ?_) #[true,true,true,true,true,true,true,false,false,false,false,false,false] rfl rfl (by kernel_rfl) (fun _ _ _ h => h) (Or.inl ⟨by rfl,?_⟩) ?_ ?_
 rotate_left
 ·intro w'
  go_simp
  with_reducible rfl
 rotate_left
 ·simp only [Act.put,LS_]
  rfl
 refine pure_ (i := 7) (N := (some 34)) (v := ?_) (a' := ?_) #[true,true,true,true,true,true,true,true,false,false,false,false,false] rfl rfl (by kernel_rfl) (fun _ _ _ h => h) (Or.inl ⟨by rfl,?_⟩) ?_ ?_
 rotate_left
 ·intro w'
  go_simp
  with_reducible rfl
 rotate_left
 ·simp only [Act.put,LS_]
  rfl
 refine pure_ (i := 8) (N := (some 35)) (v := ?_) (a' := ?_) #[true,true,true,true,true,true,true,true,true,false,false,false,false] rfl rfl (by kernel_rfl) (fun _ _ _ h => h) (Or.inl ⟨by rfl,?_⟩) ?_ ?_
 rotate_left
 ·intro w'
  go_simp
  with_reducible rfl
 rotate_left
 ·simp only [Act.put,LS_]
  rfl
 refine take_ (i := 9) (N := (some 36)) (v := ?_) (a' := ?_) #[true,true,true,true,true,true,true,true,true,true,false,false,false] rfl rfl (by kernel_rfl) (fun _ _ _ h => h) (Or.inl ⟨by rfl,?_⟩) hHeld ?_ ?_
 rotate_left
 ·rintro w' hS
  have hc : w'.cell? ⟨gm,10,none⟩ = some (.slice hd8.A10 (R.pskI).length hd8.c10) := (blk_cell ((hS.block gm (blk_lt HM8.out.box)).trans HM8.out.box) 10).trans rfl
  go_simp
  with_reducible rfl
 rotate_left
 ·simp only [Act.put,LS_]
  rfl
 refine pure_ (i := 10) (N := (some 37)) (v := ?_) (a' := ?_) #[true,true,true,true,true,true,true,true,true,true,true,false,false] rfl rfl (by kernel_rfl) (fun _ _ _ h => h) (Or.inl ⟨by rfl,?_⟩) ?_ ?_
 rotate_left
 ·intro w'
  go_simp
  with_reducible rfl
 rotate_left
 ·simp only [Act.put,LS_]
  rfl
 refine pure_ (i := 11) (N := (some 38)) (v := ?_) (a' := ?_) #[true,true,true,true,true,true,true,true,true,true,true,true,false] rfl rfl (by kernel_rfl) (fun _ _ _ h => h) (Or.inl ⟨by rfl,?_⟩) ?_ ?_
 rotate_left
 ·intro w'
  go_simp
  with_reducible rfl
 rotate_left
 ·simp only [Act.put,LS_]
  rfl
 refine last_ (i := 12) (N := (some 39)) #[true,true,true,true,true,true,true,true,true,true,true,true,true] rfl rfl (by kernel_rfl) (by decide) (fun K hK => ?_)
 refine goes_ (f := 76) Try.func76 (by kernel_rfl) rfl #[.pointer (some ⟨r,0,none⟩),.bool ((R.pskB.length : Int) == (R.pskI.length : Int))] (by rfl) rfl rfl (by (try simp only [List.map_toArray,List.map_cons,List.map_nil]); first | done | rfl) ?_
 refine (allow_c lo r f ((⟨sq,pq,cq,tq,lq⟩ : Rp).need (pq == (sq.size : Int))) _ ((R.pskB.length : Int) == (R.pskI.length : Int)) HL.out (H8.out.below HS9.out)).mono ?_
 rintro e w10 ⟨rfl,i8,k8⟩
 refine ⟨_,rfl,?_⟩
 have M10 := Aq.mk ((M8.out.below HS9.out).kf (H8.out.below HS9.out) k8)
 have H10 := Aq.mk i8
 have K10 := Aq.mk (K8.out.trans (Kg.of_kf ((Kf.of_below (r := r) (f := f) HW8.out HS9.out).trans k8)))
 clear i8 k8
 refine hK.out _ _ ?_
 clear hK K
 refine norm_ (a' := ?_) ?_ ?_
 rotate_left
 ·show Act.put _ (some 39) _ = _
  simp only [Act.put,LS_]
  rfl
 refine done_ (by kernel_rfl) ?_
 go_wp2
 first | go_end0 | ((try simp only [Exit.inBlock,Exit.then]); refine bodyPost_ret (results_none rfl _ _ _) rfl ?_)
 refine ⟨rfl,?_,M10.out,K10.out⟩
 unfold Rp.pskR
 rw [HQ.out]
 exact H10.out
def cli (k : Int) (m : Mv) (B : Rp) : Bool × Mv × Rp :=
 if k = 0 then (true,{ m with f4 := B.namV },B.namR)
 else if k = 10 then (true,{ m with f6 := lstV (oneNum 2) B 2 },lstR (oneNum 2) B 2)
 else if k = 13 then (true,{ m with f7 := lstV (oneNum 2) B 2 },lstR (oneNum 2) B 2)
 else if k = 43 then (true,{ m with f5 := lstV (oneNum 2) B 1 },lstR (oneNum 2) B 1)
 else if k = 45 then (true,{ m with f8 := lstV (oneNum 1) B 1 },lstR (oneNum 1) B 1)
 else if k = 51 then (true,{ m with f9 := lstV oneSha B 2 },lstR oneSha B 2)
 else if k = 41 then (true,{ m with f10 := B.pskI,f11 := B.pskB },B.pskR)
 else (false,m,B)
set_option maxRecDepth 100000 in
set_option maxHeartbeats 8000000 in
theorem cli0 (ok : Nat → Prop) (lo r f gm : Nat) (B : Rp) (m : Mv) (w : World) (hl : lo ≤ f) (hl2 : lo ≤ r) (hg : lo ≤ gm) (h : RS w r f B) (ho : B.Ok) (hm : MO ok w gm m) (hok : ∀ k,w.heap.size ≤ k → ok k) :
  Calls Try.prog 96 #[.pointer (some ⟨gm,0,none⟩),.int .i64 0,.pointer (some ⟨r,0,none⟩)] w fun ex w' => ex = .returned (.bool true) ∧ RS w' r f B.namR ∧ MO ok w' gm { m with f4 := B.namV } ∧ Kg lo r f gm w w' := by
 have H := Aq.mk h
 have HL := Aq.mk hl
 have HL2 := Aq.mk hl2
 have HG := Aq.mk hg
 have OKK := Aq.mk hok
 have HO := Aq.mk ho
 have M := Aq.mk hm
 have K := Aq.mk (Kg.of_kf (g := gm) (Kf.refl lo r f w))
 clear h hl hl2 hg ho hm hok
 go_enter Try.func96,Try.ntmps96
 go_wp2_with (first
  | (go_at_call 112; (with_reducible refine (name_c lo r f B _ HL.out HL2.out H.out HO.out).mono ?_); rintro e1 w1 ⟨rfl,i1,k1⟩; have M1 := Aq.mk (M.out.kf H.out k1); have H1 := Aq.mk i1; have K1 := Aq.mk (K.out.trans (Kg.of_kf k1)); clear i1 k1)
  | ((with_reducible refine gate_store (p := 14) rfl ?_); obtain ⟨hd_,hm_⟩ := M1.out; refine st (v := .string B.namV) rfl rfl rfl hm_.box sz9 rfl rfl rfl (by rw [cells_size]; omega) ?_; intro w2 h3_ b3_ k3_; have M2 := Aq.mk (hm_.s4 _ h3_ k3_); have H2 := Aq.mk (H1.out.store hm_ k3_); have K2 := Aq.mk (K1.out.trans (Kg.of_store (b3_ _ HG.out) k3_)); clear h3_ b3_ k3_ hm_))
 go_ret
 exact ⟨rfl,H2.out,M2.out,K2.out⟩
set_option maxRecDepth 100000 in
set_option maxHeartbeats 8000000 in
theorem cli10 (ok : Nat → Prop) (lo r f gm : Nat) (B : Rp) (m : Mv) (w : World) (hl : lo ≤ f) (hl2 : lo ≤ r) (hg : lo ≤ gm) (h : RS w r f B) (ho : B.Ok) (hm : MO ok w gm m) (hok : ∀ k,w.heap.size ≤ k → ok k) :
  Calls Try.prog 96 #[.pointer (some ⟨gm,0,none⟩),.int .i64 10,.pointer (some ⟨r,0,none⟩)] w fun ex w' => ex = .returned (.bool true) ∧ RS w' r f (lstR (oneNum 2) B 2) ∧ MO ok w' gm { m with f6 := lstV (oneNum 2) B 2 } ∧ Kg lo r f gm w w' := by
 have H := Aq.mk h
 have HL := Aq.mk hl
 have HL2 := Aq.mk hl2
 have HG := Aq.mk hg
 have OKK := Aq.mk hok
 have HO := Aq.mk ho
 have M := Aq.mk hm
 have K := Aq.mk (Kg.of_kf (g := gm) (Kf.refl lo r f w))
 clear h hl hl2 hg ho hm hok
 go_enter Try.func96,Try.ntmps96
 go_wp2_with (first
  | (go_at_call 94; (refine (list_int oneU16 lo r f B _ 2 2 rfl (by omega) (by omega) HL.out HL2.out H.out HO.out).mono ?_); rintro e1 w1 ⟨v1,rfl,r1,i1,k1⟩; obtain ⟨A1,c1,rfl⟩ := Kd.R_slice r1; have R1 := Aq.mk (R_fresh r1 OKK.out); have M1 := Aq.mk (M.out.kf H.out k1); have H1 := Aq.mk i1; have K1 := Aq.mk (K.out.trans (Kg.of_kf k1)); clear i1 k1; clear r1)
  | ((with_reducible refine gate_store (p := 21) rfl ?_); obtain ⟨hd_,hm_⟩ := M1.out; refine st (v := .slice A1 (lstV (oneNum 2) B 2).length c1) rfl rfl rfl hm_.box sz44 rfl rfl rfl (by rw [cells_size]; omega) ?_; intro w2 h3_ b3_ k3_; have M2 := Aq.mk (hm_.s6 R1.out h3_ k3_); have H2 := Aq.mk (H1.out.store hm_ k3_); have K2 := Aq.mk (K1.out.trans (Kg.of_store (b3_ _ HG.out) k3_)); clear h3_ b3_ k3_ hm_))
 go_ret
 exact ⟨rfl,H2.out,M2.out,K2.out⟩
set_option maxRecDepth 100000 in
set_option maxHeartbeats 8000000 in
theorem cli13 (ok : Nat → Prop) (lo r f gm : Nat) (B : Rp) (m : Mv) (w : World) (hl : lo ≤ f) (hl2 : lo ≤ r) (hg : lo ≤ gm) (h : RS w r f B) (ho : B.Ok) (hm : MO ok w gm m) (hok : ∀ k,w.heap.size ≤ k → ok k) :
  Calls Try.prog 96 #[.pointer (some ⟨gm,0,none⟩),.int .i64 13,.pointer (some ⟨r,0,none⟩)] w fun ex w' => ex = .returned (.bool true) ∧ RS w' r f (lstR (oneNum 2) B 2) ∧ MO ok w' gm { m with f7 := lstV (oneNum 2) B 2 } ∧ Kg lo r f gm w w' := by
 have H := Aq.mk h
 have HL := Aq.mk hl
 have HL2 := Aq.mk hl2
 have HG := Aq.mk hg
 have OKK := Aq.mk hok
 have HO := Aq.mk ho
 have M := Aq.mk hm
 have K := Aq.mk (Kg.of_kf (g := gm) (Kf.refl lo r f w))
 clear h hl hl2 hg ho hm hok
 go_enter Try.func96,Try.ntmps96
 go_wp2_with (first
  | (go_at_call 94; (refine (list_int oneU16 lo r f B _ 2 2 rfl (by omega) (by omega) HL.out HL2.out H.out HO.out).mono ?_); rintro e1 w1 ⟨v1,rfl,r1,i1,k1⟩; obtain ⟨A1,c1,rfl⟩ := Kd.R_slice r1; have R1 := Aq.mk (R_fresh r1 OKK.out); have M1 := Aq.mk (M.out.kf H.out k1); have H1 := Aq.mk i1; have K1 := Aq.mk (K.out.trans (Kg.of_kf k1)); clear i1 k1; clear r1)
  | ((with_reducible refine gate_store (p := 28) rfl ?_); obtain ⟨hd_,hm_⟩ := M1.out; refine st (v := .slice A1 (lstV (oneNum 2) B 2).length c1) rfl rfl rfl hm_.box sz44 rfl rfl rfl (by rw [cells_size]; omega) ?_; intro w2 h3_ b3_ k3_; have M2 := Aq.mk (hm_.s7 R1.out h3_ k3_); have H2 := Aq.mk (H1.out.store hm_ k3_); have K2 := Aq.mk (K1.out.trans (Kg.of_store (b3_ _ HG.out) k3_)); clear h3_ b3_ k3_ hm_))
 go_ret
 exact ⟨rfl,H2.out,M2.out,K2.out⟩
set_option maxRecDepth 100000 in
set_option maxHeartbeats 8000000 in
theorem cli43 (ok : Nat → Prop) (lo r f gm : Nat) (B : Rp) (m : Mv) (w : World) (hl : lo ≤ f) (hl2 : lo ≤ r) (hg : lo ≤ gm) (h : RS w r f B) (ho : B.Ok) (hm : MO ok w gm m) (hok : ∀ k,w.heap.size ≤ k → ok k) :
  Calls Try.prog 96 #[.pointer (some ⟨gm,0,none⟩),.int .i64 43,.pointer (some ⟨r,0,none⟩)] w fun ex w' => ex = .returned (.bool true) ∧ RS w' r f (lstR (oneNum 2) B 1) ∧ MO ok w' gm { m with f5 := lstV (oneNum 2) B 1 } ∧ Kg lo r f gm w w' := by
 have H := Aq.mk h
 have HL := Aq.mk hl
 have HL2 := Aq.mk hl2
 have HG := Aq.mk hg
 have OKK := Aq.mk hok
 have HO := Aq.mk ho
 have M := Aq.mk hm
 have K := Aq.mk (Kg.of_kf (g := gm) (Kf.refl lo r f w))
 clear h hl hl2 hg ho hm hok
 go_enter Try.func96,Try.ntmps96
 go_wp2_with (first
  | (go_at_call 94; (refine (list_int oneU16 lo r f B _ 1 1 rfl (by omega) (by omega) HL.out HL2.out H.out HO.out).mono ?_); rintro e1 w1 ⟨v1,rfl,r1,i1,k1⟩; obtain ⟨A1,c1,rfl⟩ := Kd.R_slice r1; have R1 := Aq.mk (R_fresh r1 OKK.out); have M1 := Aq.mk (M.out.kf H.out k1); have H1 := Aq.mk i1; have K1 := Aq.mk (K.out.trans (Kg.of_kf k1)); clear i1 k1; clear r1)
  | ((with_reducible refine gate_store (p := 35) rfl ?_); obtain ⟨hd_,hm_⟩ := M1.out; refine st (v := .slice A1 (lstV (oneNum 2) B 1).length c1) rfl rfl rfl hm_.box sz44 rfl rfl rfl (by rw [cells_size]; omega) ?_; intro w2 h3_ b3_ k3_; have M2 := Aq.mk (hm_.s5 R1.out h3_ k3_); have H2 := Aq.mk (H1.out.store hm_ k3_); have K2 := Aq.mk (K1.out.trans (Kg.of_store (b3_ _ HG.out) k3_)); clear h3_ b3_ k3_ hm_))
 go_ret
 exact ⟨rfl,H2.out,M2.out,K2.out⟩
set_option maxRecDepth 100000 in
set_option maxHeartbeats 8000000 in
theorem cli45 (ok : Nat → Prop) (lo r f gm : Nat) (B : Rp) (m : Mv) (w : World) (hl : lo ≤ f) (hl2 : lo ≤ r) (hg : lo ≤ gm) (h : RS w r f B) (ho : B.Ok) (hm : MO ok w gm m) (hok : ∀ k,w.heap.size ≤ k → ok k) :
  Calls Try.prog 96 #[.pointer (some ⟨gm,0,none⟩),.int .i64 45,.pointer (some ⟨r,0,none⟩)] w fun ex w' => ex = .returned (.bool true) ∧ RS w' r f (lstR (oneNum 1) B 1) ∧ MO ok w' gm { m with f8 := lstV (oneNum 1) B 1 } ∧ Kg lo r f gm w w' := by
 have H := Aq.mk h
 have HL := Aq.mk hl
 have HL2 := Aq.mk hl2
 have HG := Aq.mk hg
 have OKK := Aq.mk hok
 have HO := Aq.mk ho
 have M := Aq.mk hm
 have K := Aq.mk (Kg.of_kf (g := gm) (Kf.refl lo r f w))
 clear h hl hl2 hg ho hm hok
 go_enter Try.func96,Try.ntmps96
 go_wp2_with (first
  | (go_at_call 94; (refine (list_int oneU8 lo r f B _ 1 1 rfl (by omega) (by omega) HL.out HL2.out H.out HO.out).mono ?_); rintro e1 w1 ⟨v1,rfl,r1,i1,k1⟩; obtain ⟨A1,c1,rfl⟩ := Kd.R_slice r1; have R1 := Aq.mk (R_fresh r1 OKK.out); have M1 := Aq.mk (M.out.kf H.out k1); have H1 := Aq.mk i1; have K1 := Aq.mk (K.out.trans (Kg.of_kf k1)); clear i1 k1; clear r1)
  | ((with_reducible refine gate_store (p := 42) rfl ?_); obtain ⟨hd_,hm_⟩ := M1.out; refine st (v := .slice A1 (lstV (oneNum 1) B 1).length c1) rfl rfl rfl hm_.box sz44 rfl rfl rfl (by rw [cells_size]; omega) ?_; intro w2 h3_ b3_ k3_; have M2 := Aq.mk (hm_.s8 R1.out h3_ k3_); have H2 := Aq.mk (H1.out.store hm_ k3_); have K2 := Aq.mk (K1.out.trans (Kg.of_store (b3_ _ HG.out) k3_)); clear h3_ b3_ k3_ hm_))
 go_ret
 exact ⟨rfl,H2.out,M2.out,K2.out⟩
set_option maxRecDepth 100000 in
set_option maxHeartbeats 8000000 in
theorem cli51 (ok : Nat → Prop) (lo r f gm : Nat) (B : Rp) (m : Mv) (w : World) (hl : lo ≤ f) (hl2 : lo ≤ r) (hg : lo ≤ gm) (h : RS w r f B) (ho : B.Ok) (hm : MO ok w gm m) (hok : ∀ k,w.heap.size ≤ k → ok k) :
  Calls Try.prog 96 #[.pointer (some ⟨gm,0,none⟩),.int .i64 51,.pointer (some ⟨r,0,none⟩)] w fun ex w' => ex = .returned (.bool true) ∧ RS w' r f (lstR oneSha B 2) ∧ MO ok w' gm { m with f9 := lstV oneSha B 2 } ∧ Kg lo r f gm w w' := by
 have H := Aq.mk h
 have HL := Aq.mk hl
 have HL2 := Aq.mk hl2
 have HG := Aq.mk hg
 have OKK := Aq.mk hok
 have HO := Aq.mk ho
 have M := Aq.mk hm
 have K := Aq.mk (Kg.of_kf (g := gm) (Kf.refl lo r f w))
 clear h hl hl2 hg ho hm hok
 go_enter Try.func96,Try.ntmps96
 go_wp2_with (first
  | (go_at_call 113; (refine (list_sha oneShare lo r f B _ 2 2 rfl (by omega) (by omega) HL.out HL2.out H.out HO.out).mono ?_); rintro e1 w1 ⟨v1,rfl,r1,i1,k1⟩; obtain ⟨A1,c1,rfl⟩ := Kd.R_slice r1; have R1 := Aq.mk (R_fresh r1 OKK.out); have M1 := Aq.mk (M.out.kf H.out k1); have H1 := Aq.mk i1; have K1 := Aq.mk (K.out.trans (Kg.of_kf k1)); clear i1 k1; clear r1)
  | ((with_reducible refine gate_store (p := 49) rfl ?_); obtain ⟨hd_,hm_⟩ := M1.out; refine st (v := .slice A1 (lstV oneSha B 2).length c1) rfl rfl rfl hm_.box sz45' rfl rfl rfl (by rw [cells_size]; omega) ?_; intro w2 h3_ b3_ k3_; have M2 := Aq.mk (hm_.s9 R1.out h3_ k3_); have H2 := Aq.mk (H1.out.store hm_ k3_); have K2 := Aq.mk (K1.out.trans (Kg.of_store (b3_ _ HG.out) k3_)); clear h3_ b3_ k3_ hm_))
 go_ret
 exact ⟨rfl,H2.out,M2.out,K2.out⟩
set_option maxRecDepth 100000 in
set_option maxHeartbeats 8000000 in
theorem cli41 (ok : Nat → Prop) (lo r f gm : Nat) (B : Rp) (m : Mv) (w : World) (hl : lo ≤ f) (hl2 : lo ≤ r) (hg : lo ≤ gm) (h : RS w r f B) (ho : B.Ok) (hm : MO ok w gm m) (hok : ∀ k,w.heap.size ≤ k → ok k) :
  Calls Try.prog 96 #[.pointer (some ⟨gm,0,none⟩),.int .i64 41,.pointer (some ⟨r,0,none⟩)] w fun ex w' => ex = .returned (.bool true) ∧ RS w' r f B.pskR ∧ MO ok w' gm { m with f10 := B.pskI,f11 := B.pskB } ∧ Kg lo r f gm w w' := by
 have H := Aq.mk h
 have HL := Aq.mk hl
 have HL2 := Aq.mk hl2
 have HG := Aq.mk hg
 have OKK := Aq.mk hok
 have HO := Aq.mk ho
 have M := Aq.mk hm
 have K := Aq.mk (Kg.of_kf (g := gm) (Kf.refl lo r f w))
 clear h hl hl2 hg ho hm hok
 go_enter Try.func96,Try.ntmps96
 go_wp2_with (first
  | (go_at_call 115; (with_reducible refine (psk_c ok lo r f gm B m _ HL.out HL2.out HG.out H.out HO.out M.out OKK.out).mono ?_); rintro e1 w1 ⟨rfl,i1,m1,k1⟩; have M1 := Aq.mk m1; have H1 := Aq.mk i1; have K1 := Aq.mk k1; clear i1 m1 k1))
 go_ret
 exact ⟨rfl,H1.out,M1.out,K1.out⟩
set_option maxRecDepth 100000 in
set_option maxHeartbeats 8000000 in
theorem cliNo (ok : Nat → Prop) (lo r f gm : Nat) (B : Rp) (m : Mv) (w : World) (k : Int) (n0 : (k == 0) = false) (n10 : (k == 10) = false) (n13 : (k == 13) = false) (n43 : (k == 43) = false) (n45 : (k == 45) = false) (n51 : (k == 51) = false) (n41 : (k == 41) = false) (hl : lo ≤ f) (hl2 : lo ≤ r) (hg : lo ≤ gm) (h : RS w r f B) (ho : B.Ok) (hm : MO ok w gm m) (hok : ∀ k,w.heap.size ≤ k → ok k) :
  Calls Try.prog 96 #[.pointer (some ⟨gm,0,none⟩),.int .i64 k,.pointer (some ⟨r,0,none⟩)] w fun ex w' => ex = .returned (.bool false) ∧ RS w' r f B ∧ MO ok w' gm m ∧ Kg lo r f gm w w' := by
 have H := Aq.mk h
 have HL := Aq.mk hl
 have HL2 := Aq.mk hl2
 have HG := Aq.mk hg
 have OKK := Aq.mk hok
 have HO := Aq.mk ho
 have M := Aq.mk hm
 have K := Aq.mk (Kg.of_kf (g := gm) (Kf.refl lo r f w))
 clear h hl hl2 hg ho hm hok
 go_enter Try.func96,Try.ntmps96
 go_wp2
 go_ret
 exact ⟨rfl,H.out,M.out,K.out⟩
theorem cli_c (ok : Nat → Prop) (lo r f gm : Nat) (B : Rp) (m : Mv) (w : World) (k : Int) (hl : lo ≤ f) (hl2 : lo ≤ r) (hg : lo ≤ gm) (h : RS w r f B) (ho : B.Ok) (hm : MO ok w gm m) (hok : ∀ k,w.heap.size ≤ k → ok k) :
  Calls Try.prog 96 #[.pointer (some ⟨gm,0,none⟩),.int .i64 k,.pointer (some ⟨r,0,none⟩)] w fun ex w' => ex = .returned (.bool (cli k m B).1) ∧ RS w' r f (cli k m B).2.2 ∧ MO ok w' gm (cli k m B).2.1 ∧ Kg lo r f gm w w' := by
 unfold cli
 by_cases e0 : k = 0
 ·subst e0
  exact cli0 ok lo r f gm B m w hl hl2 hg h ho hm hok
 rw [if_neg e0]
 by_cases e10 : k = 10
 ·subst e10
  exact cli10 ok lo r f gm B m w hl hl2 hg h ho hm hok
 rw [if_neg e10]
 by_cases e13 : k = 13
 ·subst e13
  exact cli13 ok lo r f gm B m w hl hl2 hg h ho hm hok
 rw [if_neg e13]
 by_cases e43 : k = 43
 ·subst e43
  exact cli43 ok lo r f gm B m w hl hl2 hg h ho hm hok
 rw [if_neg e43]
 by_cases e45 : k = 45
 ·subst e45
  exact cli45 ok lo r f gm B m w hl hl2 hg h ho hm hok
 rw [if_neg e45]
 by_cases e51 : k = 51
 ·subst e51
  exact cli51 ok lo r f gm B m w hl hl2 hg h ho hm hok
 rw [if_neg e51]
 by_cases e41 : k = 41
 ·subst e41
  exact cli41 ok lo r f gm B m w hl hl2 hg h ho hm hok
 rw [if_neg e41]
 exact cliNo ok lo r f gm B m w k (beq_eq_false_iff_ne.mpr e0) (beq_eq_false_iff_ne.mpr e10) (beq_eq_false_iff_ne.mpr e13) (beq_eq_false_iff_ne.mpr e43) (beq_eq_false_iff_ne.mpr e45) (beq_eq_false_iff_ne.mpr e51) (beq_eq_false_iff_ne.mpr e41) hl hl2 hg h ho hm hok
theorem cli_ok (k : Int) (m : Mv) {B : Rp} (h : B.Ok) : (cli k m B).2.2.Ok := by
 unfold cli
 repeat' split
 all_goals first | exact h.namR | exact h.lstR _ | exact h.pskR | exact h
theorem inR_c {R : Rp} {n : Nat} (h : (R.inR n).c = 0) : R.c = 0 := (needed_zero h).1
theorem lstR_st {α : Type} {one : Rp → α × Rp} (h : OneOk one) {R : Rp} (ho : R.Ok) {n : Nat} (hc : (lstR one R n).c = 0) : R.c = 0 :=
 inR_c (n := n) (needed_zero (rAll_st h _ (R.lst n) (ho.lst n) hc)).1
theorem namR_st {R : Rp} (ho : R.Ok) (hc : R.namR.c = 0) : R.c = 0 := by
 have h1 : ((R.nam1.vecR 2 1 64).done).c = 0 := hc
 have h2 := vecR_c (needed_zero h1).1 ho.nam1
 have h3 := numR_c (needed_zero h2.1).1 (ho.inR 2)
 exact inR_c (n := 2) h3.1
theorem pskR_st {R : Rp} (ho : R.Ok) (hc : R.pskR.c = 0) : R.c = 0 := by
 have h1 := (needed_zero (allowed_zero hc).1).1
 have h2 : (allR oneBin (R.psk1.inR 2)).c = 0 := h1
 have h3 := inR_c (n := 2) (rAll_st oneBin_ok _ _ (ho.psk1.inR 2) h2)
 exact lstR_st oneIde_ok ho h3
theorem cli_st {k : Int} {m : Mv} {B : Rp} (ho : B.Ok) (hc : (cli k m B).2.2.c = 0) : B.c = 0 := by
 unfold cli at hc
 by_cases e0 : k = 0
 ·rw [if_pos e0] at hc
  exact namR_st ho hc
 rw [if_neg e0] at hc
 by_cases e10 : k = 10
 ·rw [if_pos e10] at hc
  exact lstR_st (oneNum_ok 2 (by omega)) ho hc
 rw [if_neg e10] at hc
 by_cases e13 : k = 13
 ·rw [if_pos e13] at hc
  exact lstR_st (oneNum_ok 2 (by omega)) ho hc
 rw [if_neg e13] at hc
 by_cases e43 : k = 43
 ·rw [if_pos e43] at hc
  exact lstR_st (oneNum_ok 2 (by omega)) ho hc
 rw [if_neg e43] at hc
 by_cases e45 : k = 45
 ·rw [if_pos e45] at hc
  exact lstR_st (oneNum_ok 1 (by omega)) ho hc
 rw [if_neg e45] at hc
 by_cases e51 : k = 51
 ·rw [if_pos e51] at hc
  exact lstR_st oneSha_ok ho hc
 rw [if_neg e51] at hc
 by_cases e41 : k = 41
 ·rw [if_pos e41] at hc
  exact pskR_st ho hc
 rw [if_neg e41] at hc
 exact hc
section
variable {ops : Array Oper} {rest : List Oper} {oi : Oper} {a : Act} {Q : Exit → Act → World → Prop} {w : World} {K : Act → World → Prop}
theorem stM {ty : TypeId} {p x : Operand} (hw : Region.wanted oi (yielded ops a.tmps) = true) (hN : oi.dst = none) (ho : oi.op = .store ty p x) {g i : Nat} (hp : a.eval p = .pointer (some ⟨g,i,none⟩)) {cs : Array Value} {t : TypeId} (h : w.heap[g]? = some (.cells cs t (0,0)))
  (hs : (Try.prog.info? ty).map (·.size) = some 1) {v : Value} (hx : a.eval x = v) (hv : v.cells = #[v]) (h1 : v.oneCell' = true) (hi : i < cs.size)
  (H : ∀ w1,w1.heap[g]? = some (.cells (cs.setIfInBounds i v) t (0,0)) → (∀ lo,lo ≤ g → Below lo w w1) → KeepBut w w1 g none → K a w1) : if Region.wanted oi (yielded ops a.tmps) = true then Oper.wp Try.prog oi a w K Q else K (a.put none undef) w := by
 refine skip_ hw hN ?_ (H (w.setCell ⟨g,i,none⟩ v) (blk_set h i v) (fun lo hl => (keep_store hl i v).1) ((keep_store (Nat.le_refl g) i v).2))
 have hc : w.cell? ⟨g,i,none⟩ = some cs[i] := by rw [blk_cell h i]; exact Array.getElem?_eq_getElem hi
 have hst : (store ⟨g,i,none⟩ v).run Try.prog w = .ok () (w.setCell ⟨g,i,none⟩ v) := by
  rw [run_store _ _ _ _ _ h1]
  simp [hc,blk_frozen h i]
 obtain ⟨i0,hi0,hz⟩ := Option.map_eq_some_iff.1 hs
 unfold execOp
 simp only [ho,hp,hx,Instr.storeAt,Instr.sureAddr,Sem.run_bind,Sem.run_pure,Result.andThen_ok]
 have hsv : (storeVar ty ⟨g,i,none⟩ v).run Try.prog w = .ok () (w.setCell ⟨g,i,none⟩ v) := by
  have ha : (⟨g,i,none⟩ : Addr).add 0 = ⟨g,i,none⟩ := by simp [Addr.add]
  simp [storeVar,sizeOf,typeInfo,hi0,hz,hv,storeCells,ha,hst,Sem.run_bind]
 rw [hsv]
 rfl
theorem Y_exec {d : Kd Int} {m x : Operand} (ho : oi.op = .lookup 68 m x false) {v : Value} {k : Int} {base : Nat} {ok : Nat → Prop} {xs : List Int} (hm : a.eval m = v) (hx : a.eval x = .int .i64 k) (hk : (Lit.int .i64 k).wf = true)
  (HO : Kd.Y d 3 w base ok v xs) : (execOp a.eval oi).run Try.prog w = .ok (.value (.bool (decide (k ∈ xs)))) w := by
 obtain ⟨g,rfl,_,_,hw⟩ := HO
 obtain ⟨u,ps,hrun,hu⟩ := hw.lookup (Go.Maps.int_keyed Try.underlying3) Try.underlying68 (Kd.zeroB w) (plainElem_bool Try.underlying4 false) (Go.Maps.keyOf_int_mk Try.underlying3 hk)
 obtain ⟨b,rfl,hzz⟩ := plainElem_bool_inv Try.underlying4 hu
 rw [Sd_at] at hzz
 have hbb : decide (k ∈ xs) = b := lit_bool (congrArg Prod.fst hzz)
 rw [hbb]
 simp [execOp,ho,hm,hx,hrun,Result.andThen]
end
theorem Y_gen {d : Kd Int} {e : TypeId} {w w1 : World} {base : Nat} {ok : Nat → Prop} {v : Value} {xs : List Int} (h : Kd.Y d e w base ok v xs) (hm : ∀ (k : Nat) (es : Array MapEntry) (c : Nat),w.heap[k]? = some (Obj.map es c) → w1.heap[k]? = some (Obj.map es c)) : Kd.Y d e w1 base ok v xs := by
 obtain ⟨g,rfl,ho,hb,hw⟩ := h
 obtain ⟨es,c,hh,r⟩ := hw
 exact ⟨g,rfl,ho,hb,es,c,hm g es c hh,r⟩
theorem map_ne {w : World} {j r : Nat} {es : Array MapEntry} {c : Nat} {cs : Array Value} {t : TypeId} (h : w.heap[j]? = some (Obj.map es c)) (hr : w.heap[r]? = some (.cells cs t (0,0))) : j ≠ r := by
 intro e
 subst e
 rw [h] at hr
 cases hr
theorem Mo.reads {ok : Nat → Prop} {w : World} {gm : Nat} {m : Mv} {h : Hd} (a : Mo ok w gm m h) : Reads w m h := ⟨(Kd.R_reads' a.r3).2.2,(Kd.R_reads' a.r3).2.1,(Kd.R_reads' a.r5).2.2,(Kd.R_reads' a.r5).2.1,(Kd.R_reads' a.r6).2.2,(Kd.R_reads' a.r6).2.1,(Kd.R_reads' a.r7).2.2,(Kd.R_reads' a.r7).2.1,(Kd.R_reads' a.r8).2.2,(Kd.R_reads' a.r8).2.1,(Kd.R_reads' a.r9).2.2,(Kd.R_reads' a.r9).2.1,(Kd.R_reads' a.r10).2.2,(Kd.R_reads' a.r10).2.1,(Kd.R_reads' a.r11).2.2,(Kd.R_reads' a.r11).2.1,(Kd.R_reads' a.r13).2.2,(Kd.R_reads' a.r13).2.1,(Kd.R_reads' a.r14).2.2,(Kd.R_reads' a.r14).2.1⟩
def srv (k : Int) (m : Mv) (B : Rp) : Bool × Mv × Rp :=
 if k = 43 then (true,{ m with f5 := [B.numV 2] },B.numR 2)
 else if k = 51 then (if m.retry = true then (true,{ m with f6 := [B.numV 2] },B.numR 2) else (true,{ m with f9 := [B.shaV] },B.shaR))
 else if k = 41 then (if m.retry = true then (false,m,B) else (true,{ m with f12 := B.numV 2 + 1 },B.numR 2))
 else (false,m,B)
theorem srv_ok (k : Int) (m : Mv) {B : Rp} (h : B.Ok) : (srv k m B).2.2.Ok := by
 unfold srv
 repeat' split
 all_goals first | exact h.numR _ | exact h.shaR | exact h
theorem srv_st {k : Int} {m : Mv} {B : Rp} (ho : B.Ok) (hc : (srv k m B).2.2.c = 0) : B.c = 0 := by
 unfold srv at hc
 by_cases e43 : k = 43
 ·rw [if_pos e43] at hc
  exact (numR_c hc ho).1
 rw [if_neg e43] at hc
 by_cases e51 : k = 51
 ·rw [if_pos e51] at hc
  by_cases hr : m.retry = true
  ·rw [if_pos hr] at hc
   exact (numR_c hc ho).1
  ·rw [if_neg hr] at hc
   exact oneSha_ok.st B ho hc
 rw [if_neg e51] at hc
 by_cases e41 : k = 41
 ·rw [if_pos e41] at hc
  by_cases hr : m.retry = true
  ·rw [if_pos hr] at hc
   exact hc
  ·rw [if_neg hr] at hc
   exact (numR_c hc ho).1
 rw [if_neg e41] at hc
 exact hc
set_option maxRecDepth 100000 in
set_option maxHeartbeats 8000000 in
theorem srv43 (ok : Nat → Prop) (lo r f gm : Nat) (B : Rp) (m : Mv) (w : World) (hl : lo ≤ f) (hl2 : lo ≤ r) (hg : lo ≤ gm) (h : RS w r f B) (ho : B.Ok) (hm : MO ok w gm m) (hok : ∀ k,w.heap.size ≤ k → ok k) :
  Calls Try.prog 98 #[.pointer (some ⟨gm,0,none⟩),.int .i64 43,.pointer (some ⟨r,0,none⟩)] w fun ex w' => ex = .returned (.bool true) ∧ RS w' r f (B.numR 2) ∧ MO ok w' gm { m with f5 := [B.numV 2] } ∧ Kg lo r f gm w w' := by
 have H := Aq.mk h
 have HL := Aq.mk hl
 have HL2 := Aq.mk hl2
 have HG := Aq.mk hg
 have OKK := Aq.mk hok
 have HO := Aq.mk ho
 have HWL := Aq.mk (h.wsz hl)
 have M := Aq.mk hm
 have K := Aq.mk (Kg.of_kf (g := gm) (Kf.refl lo r f w))
 clear h hl hl2 hg ho hm hok
 go_enter Try.func98,Try.ntmps98
 go_wp2_with (first
  | (((with_reducible refine gate_dst (N := 10) rfl ?_); obtain ⟨hd1,hm1⟩ := M.out; refine wpList_load_row rfl 49 _ rfl gm rfl 49 _ (0,0) _ hm1.box Try.underlying49 rfl sz49 ?_; have HM1 := Aq.mk hm1; clear hm1))
  | (go_at_call 30; (with_reducible refine (retry_calls m hd1 _ HM1.out.reads).mono ?_); rintro e0 w0 ⟨rfl,b0⟩; have M0 := Aq.mk (M.out.below b0); have H0 := Aq.mk (H.out.below b0); have K0 := Aq.mk (K.out.trans (Kg.of_kf (Kf.of_below (r := r) (f := f) HWL.out b0))); clear b0)
  | (go_at_call 70; (with_reducible refine (u16_c lo r f B _ HL.out HL2.out H0.out HO.out).mono ?_); rintro e1 w1 ⟨rfl,i1,k1⟩; have M1 := Aq.mk (M0.out.kf H0.out k1); have H1 := Aq.mk i1; have K1 := Aq.mk (K0.out.trans (Kg.of_kf k1)); clear i1 k1)
  | ((with_reducible refine gate_dst (N := 18) rfl ?_); refine Kd.R_lit (Kd.int .i64) _ 3 ?hg (N := 18) ?hd (xs := [(B.numV 2)]) (inner := [.int .i64 (B.numV 2)]) (ok := fun _ => True) (okp := fun _ => True) ?hr ?hp (fun _ hk => hk) trivial (Below.refl _ _) (Nat.le_refl _) (by simp) ?_; (case hd => rfl); (case hg => rfl); (case hr => first | (go_simp; done) | (go_simp; rfl)); (case hp => exact (Reps.one (show Kd.M (Kd.int .i64) _ _ _ (B.numV 2) [.int .i64 (B.numV 2)] from rfl) (Reps.none _ _))); intro v2 w2 ho2 hb hg_ hnew_; clear hg_ hnew_; obtain ⟨A2,c2,rfl⟩ := Kd.R_slice ho2; have R2 := Aq.mk (R_fresh ho2 (fun k hk => OKK.out k (Nat.le_trans K1.out.below.size hk))); have M2 := Aq.mk (M1.out.below hb); have HWL2 := Aq.mk (H1.out.wsz HL.out); have H2 := Aq.mk (H1.out.below hb); have K2 := Aq.mk (K1.out.trans (Kg.of_kf (Kf.of_below (r := r) (f := f) HWL2.out hb))); clear ho2 hb)
  | ((with_reducible refine gate_store (p := 20) rfl ?_); obtain ⟨hd_,hm_⟩ := M2.out; refine st (v := .slice A2 1 c2) rfl rfl rfl hm_.box sz44 rfl rfl rfl (by rw [cells_size]; omega) ?_; intro w3 h3_ b3_ k3_; have M3 := Aq.mk (hm_.s5 R2.out h3_ k3_); have H3 := Aq.mk (H2.out.store hm_ k3_); have K3 := Aq.mk (K2.out.trans (Kg.of_store (b3_ _ HG.out) k3_)); clear h3_ b3_ k3_ hm_))
 go_ret
 exact ⟨rfl,H3.out,M3.out,K3.out⟩
set_option maxRecDepth 100000 in
set_option maxHeartbeats 8000000 in
theorem srv51r (ok : Nat → Prop) (lo r f gm : Nat) (B : Rp) (m : Mv) (w : World) (hr : m.retry = true) (hl : lo ≤ f) (hl2 : lo ≤ r) (hg : lo ≤ gm) (h : RS w r f B) (ho : B.Ok) (hm : MO ok w gm m) (hok : ∀ k,w.heap.size ≤ k → ok k) :
  Calls Try.prog 98 #[.pointer (some ⟨gm,0,none⟩),.int .i64 51,.pointer (some ⟨r,0,none⟩)] w fun ex w' => ex = .returned (.bool true) ∧ RS w' r f (B.numR 2) ∧ MO ok w' gm { m with f6 := [B.numV 2] } ∧ Kg lo r f gm w w' := by
 have H := Aq.mk h
 have HL := Aq.mk hl
 have HL2 := Aq.mk hl2
 have HG := Aq.mk hg
 have OKK := Aq.mk hok
 have HO := Aq.mk ho
 have HWL := Aq.mk (h.wsz hl)
 have M := Aq.mk hm
 have K := Aq.mk (Kg.of_kf (g := gm) (Kf.refl lo r f w))
 clear h hl hl2 hg ho hm hok
 go_enter Try.func98,Try.ntmps98
 go_wp2_with (first
  | (((with_reducible refine gate_dst (N := 10) rfl ?_); obtain ⟨hd1,hm1⟩ := M.out; refine wpList_load_row rfl 49 _ rfl gm rfl 49 _ (0,0) _ hm1.box Try.underlying49 rfl sz49 ?_; have HM1 := Aq.mk hm1; clear hm1))
  | (go_at_call 30; (with_reducible refine (retry_calls m hd1 _ HM1.out.reads).mono ?_); rintro e0 w0 ⟨rfl,b0⟩; have M0 := Aq.mk (M.out.below b0); have H0 := Aq.mk (H.out.below b0); have K0 := Aq.mk (K.out.trans (Kg.of_kf (Kf.of_below (r := r) (f := f) HWL.out b0))); clear b0)
  | (go_at_call 70; (with_reducible refine (u16_c lo r f B _ HL.out HL2.out H0.out HO.out).mono ?_); rintro e1 w1 ⟨rfl,i1,k1⟩; have M1 := Aq.mk (M0.out.kf H0.out k1); have H1 := Aq.mk i1; have K1 := Aq.mk (K0.out.trans (Kg.of_kf k1)); clear i1 k1)
  | ((with_reducible refine gate_dst (N := 30) rfl ?_); refine Kd.R_lit (Kd.int .i64) _ 3 ?hg (N := 30) ?hd (xs := [(B.numV 2)]) (inner := [.int .i64 (B.numV 2)]) (ok := fun _ => True) (okp := fun _ => True) ?hr ?hp (fun _ hk => hk) trivial (Below.refl _ _) (Nat.le_refl _) (by simp) ?_; (case hd => rfl); (case hg => rfl); (case hr => first | (go_simp; done) | (go_simp; rfl)); (case hp => exact (Reps.one (show Kd.M (Kd.int .i64) _ _ _ (B.numV 2) [.int .i64 (B.numV 2)] from rfl) (Reps.none _ _))); intro v2 w2 ho2 hb hg_ hnew_; clear hg_ hnew_; obtain ⟨A2,c2,rfl⟩ := Kd.R_slice ho2; have R2 := Aq.mk (R_fresh ho2 (fun k hk => OKK.out k (Nat.le_trans K1.out.below.size hk))); have M2 := Aq.mk (M1.out.below hb); have HWL2 := Aq.mk (H1.out.wsz HL.out); have H2 := Aq.mk (H1.out.below hb); have K2 := Aq.mk (K1.out.trans (Kg.of_kf (Kf.of_below (r := r) (f := f) HWL2.out hb))); clear ho2 hb)
  | ((with_reducible refine gate_store (p := 32) rfl ?_); obtain ⟨hd_,hm_⟩ := M2.out; refine st (v := .slice A2 1 c2) rfl rfl rfl hm_.box sz44 rfl rfl rfl (by rw [cells_size]; omega) ?_; intro w3 h3_ b3_ k3_; have M3 := Aq.mk (hm_.s6 R2.out h3_ k3_); have H3 := Aq.mk (H2.out.store hm_ k3_); have K3 := Aq.mk (K2.out.trans (Kg.of_store (b3_ _ HG.out) k3_)); clear h3_ b3_ k3_ hm_))
 go_ret
 exact ⟨rfl,H3.out,M3.out,K3.out⟩
set_option maxRecDepth 100000 in
set_option maxHeartbeats 8000000 in
theorem srv51n (ok : Nat → Prop) (lo r f gm : Nat) (B : Rp) (m : Mv) (w : World) (hr : m.retry = false) (hl : lo ≤ f) (hl2 : lo ≤ r) (hg : lo ≤ gm) (h : RS w r f B) (ho : B.Ok) (hm : MO ok w gm m) (hok : ∀ k,w.heap.size ≤ k → ok k) :
  Calls Try.prog 98 #[.pointer (some ⟨gm,0,none⟩),.int .i64 51,.pointer (some ⟨r,0,none⟩)] w fun ex w' => ex = .returned (.bool true) ∧ RS w' r f B.shaR ∧ MO ok w' gm { m with f9 := [B.shaV] } ∧ Kg lo r f gm w w' := by
 have H := Aq.mk h
 have HL := Aq.mk hl
 have HL2 := Aq.mk hl2
 have HG := Aq.mk hg
 have OKK := Aq.mk hok
 have HO := Aq.mk ho
 have HWL := Aq.mk (h.wsz hl)
 have M := Aq.mk hm
 have K := Aq.mk (Kg.of_kf (g := gm) (Kf.refl lo r f w))
 clear h hl hl2 hg ho hm hok
 have hu66 := Try.underlying66
 go_enter Try.func98,Try.ntmps98
 go_wp2_with (first
  | (((with_reducible refine gate_dst (N := 10) rfl ?_); obtain ⟨hd1,hm1⟩ := M.out; refine wpList_load_row rfl 49 _ rfl gm rfl 49 _ (0,0) _ hm1.box Try.underlying49 rfl sz49 ?_; have HM1 := Aq.mk hm1; clear hm1))
  | (go_at_call 30; (with_reducible refine (retry_calls m hd1 _ HM1.out.reads).mono ?_); rintro e0 w0 ⟨rfl,b0⟩; have M0 := Aq.mk (M.out.below b0); have H0 := Aq.mk (H.out.below b0); have K0 := Aq.mk (K.out.trans (Kg.of_kf (Kf.of_below (r := r) (f := f) HWL.out b0))); clear b0)
  | (go_at_call 114; (with_reducible refine (share_c lo r f B _ HL.out HL2.out H0.out HO.out).mono ?_); rintro e1 w1 ⟨rfl,i1,k1⟩; have M1 := Aq.mk (M0.out.kf H0.out k1); have H1 := Aq.mk i1; have K1 := Aq.mk (K0.out.trans (Kg.of_kf k1)); clear i1 k1)
  | ((with_reducible refine gate_dst (N := 39) rfl ?_); refine Kd.R_lit k66 _ 66 ?hg (N := 39) ?hd (xs := [B.shaV]) (inner := [.int .i64 B.shaV.f0,.string B.shaV.f1]) (ok := fun _ => True) (okp := fun _ => True) ?hr ?hp (fun _ hk => hk) trivial (Below.refl _ _) (Nat.le_refl _) (by simp) ?_; (case hd => rfl); (case hg => rfl); (case hr => first | (go_simp; done) | (go_simp; rfl)); (case hp => exact (Reps.c2 (show Kd.M k66 _ _ _ B.shaV [.int .i64 B.shaV.f0,.string B.shaV.f1] from k66_mkM _ _ _ B.shaV) (Reps.none _ _))); intro v2 w2 ho2 hb hg_ hnew_; clear hg_ hnew_; obtain ⟨A2,c2,rfl⟩ := Kd.R_slice ho2; have R2 := Aq.mk (R_fresh ho2 (fun k hk => OKK.out k (Nat.le_trans K1.out.below.size hk))); have M2 := Aq.mk (M1.out.below hb); have HWL2 := Aq.mk (H1.out.wsz HL.out); have H2 := Aq.mk (H1.out.below hb); have K2 := Aq.mk (K1.out.trans (Kg.of_kf (Kf.of_below (r := r) (f := f) HWL2.out hb))); clear ho2 hb)
  | ((with_reducible refine gate_store (p := 41) rfl ?_); obtain ⟨hd_,hm_⟩ := M2.out; refine st (v := .slice A2 1 c2) rfl rfl rfl hm_.box sz45' rfl rfl rfl (by rw [cells_size]; omega) ?_; intro w3 h3_ b3_ k3_; have M3 := Aq.mk (hm_.s9 R2.out h3_ k3_); have H3 := Aq.mk (H2.out.store hm_ k3_); have K3 := Aq.mk (K2.out.trans (Kg.of_store (b3_ _ HG.out) k3_)); clear h3_ b3_ k3_ hm_))
 go_ret
 exact ⟨rfl,H3.out,M3.out,K3.out⟩
set_option maxRecDepth 100000 in
set_option maxHeartbeats 8000000 in
theorem srv41n (ok : Nat → Prop) (lo r f gm : Nat) (B : Rp) (m : Mv) (w : World) (hr : m.retry = false) (hl : lo ≤ f) (hl2 : lo ≤ r) (hg : lo ≤ gm) (h : RS w r f B) (ho : B.Ok) (hm : MO ok w gm m) (hok : ∀ k,w.heap.size ≤ k → ok k) :
  Calls Try.prog 98 #[.pointer (some ⟨gm,0,none⟩),.int .i64 41,.pointer (some ⟨r,0,none⟩)] w fun ex w' => ex = .returned (.bool true) ∧ RS w' r f (B.numR 2) ∧ MO ok w' gm { m with f12 := B.numV 2 + 1 } ∧ Kg lo r f gm w w' := by
 have nb0 := (B.numV_bd 2).1
 have nb1 : B.numV 2 ≤ 65535 := by have := (B.numV_bd 2).2; omega
 have H := Aq.mk h
 have HL := Aq.mk hl
 have HL2 := Aq.mk hl2
 have HG := Aq.mk hg
 have OKK := Aq.mk hok
 have HO := Aq.mk ho
 have HWL := Aq.mk (h.wsz hl)
 have M := Aq.mk hm
 have K := Aq.mk (Kg.of_kf (g := gm) (Kf.refl lo r f w))
 clear h hl hl2 hg ho hm hok
 go_enter Try.func98,Try.ntmps98
 go_wp2_with (first
  | (((with_reducible refine gate_dst (N := 10) rfl ?_); obtain ⟨hd1,hm1⟩ := M.out; refine wpList_load_row rfl 49 _ rfl gm rfl 49 _ (0,0) _ hm1.box Try.underlying49 rfl sz49 ?_; have HM1 := Aq.mk hm1; clear hm1))
  | (go_at_call 30; (with_reducible refine (retry_calls m hd1 _ HM1.out.reads).mono ?_); rintro e0 w0 ⟨rfl,b0⟩; have M0 := Aq.mk (M.out.below b0); have H0 := Aq.mk (H.out.below b0); have K0 := Aq.mk (K.out.trans (Kg.of_kf (Kf.of_below (r := r) (f := f) HWL.out b0))); clear b0)
  | (go_at_call 70; (with_reducible refine (u16_c lo r f B _ HL.out HL2.out H0.out HO.out).mono ?_); rintro e1 w1 ⟨rfl,i1,k1⟩; have M1 := Aq.mk (M0.out.kf H0.out k1); have H1 := Aq.mk i1; have K1 := Aq.mk (K0.out.trans (Kg.of_kf k1)); clear i1 k1)
  | ((with_reducible refine gate_store (p := 54) rfl ?_); obtain ⟨hd_,hm_⟩ := M1.out; refine st (v := .int .i64 (B.numV 2 + 1)) rfl rfl rfl hm_.box sz3' rfl rfl rfl (by rw [cells_size]; omega) ?_; intro w3 h3_ b3_ k3_; have M3 := Aq.mk (hm_.s12 _ h3_ k3_); have H3 := Aq.mk (H1.out.store hm_ k3_); have K3 := Aq.mk (K1.out.trans (Kg.of_store (b3_ _ HG.out) k3_)); clear h3_ b3_ k3_ hm_))
 go_ret
 exact ⟨rfl,H3.out,M3.out,K3.out⟩
set_option maxRecDepth 100000 in
set_option maxHeartbeats 8000000 in
theorem srv41r (ok : Nat → Prop) (lo r f gm : Nat) (B : Rp) (m : Mv) (w : World) (hr : m.retry = true) (hl : lo ≤ f) (hl2 : lo ≤ r) (hg : lo ≤ gm) (h : RS w r f B) (ho : B.Ok) (hm : MO ok w gm m) (hok : ∀ k,w.heap.size ≤ k → ok k) :
  Calls Try.prog 98 #[.pointer (some ⟨gm,0,none⟩),.int .i64 41,.pointer (some ⟨r,0,none⟩)] w fun ex w' => ex = .returned (.bool false) ∧ RS w' r f B ∧ MO ok w' gm m ∧ Kg lo r f gm w w' := by
 have H := Aq.mk h
 have HL := Aq.mk hl
 have HL2 := Aq.mk hl2
 have HG := Aq.mk hg
 have OKK := Aq.mk hok
 have HO := Aq.mk ho
 have HWL := Aq.mk (h.wsz hl)
 have M := Aq.mk hm
 have K := Aq.mk (Kg.of_kf (g := gm) (Kf.refl lo r f w))
 clear h hl hl2 hg ho hm hok
 go_enter Try.func98,Try.ntmps98
 go_wp2_with (first
  | (((with_reducible refine gate_dst (N := 10) rfl ?_); obtain ⟨hd1,hm1⟩ := M.out; refine wpList_load_row rfl 49 _ rfl gm rfl 49 _ (0,0) _ hm1.box Try.underlying49 rfl sz49 ?_; have HM1 := Aq.mk hm1; clear hm1))
  | (go_at_call 30; (with_reducible refine (retry_calls m hd1 _ HM1.out.reads).mono ?_); rintro e0 w0 ⟨rfl,b0⟩; have M0 := Aq.mk (M.out.below b0); have H0 := Aq.mk (H.out.below b0); have K0 := Aq.mk (K.out.trans (Kg.of_kf (Kf.of_below (r := r) (f := f) HWL.out b0))); clear b0))
 go_ret
 exact ⟨rfl,H0.out,M0.out,K0.out⟩
set_option maxRecDepth 100000 in
set_option maxHeartbeats 8000000 in
theorem srvNo (ok : Nat → Prop) (lo r f gm : Nat) (B : Rp) (m : Mv) (w : World) (k : Int) (n43 : (k == 43) = false) (n51 : (k == 51) = false) (n41 : (k == 41) = false) (hl : lo ≤ f) (hl2 : lo ≤ r) (hg : lo ≤ gm) (h : RS w r f B) (ho : B.Ok) (hm : MO ok w gm m) (hok : ∀ k,w.heap.size ≤ k → ok k) :
  Calls Try.prog 98 #[.pointer (some ⟨gm,0,none⟩),.int .i64 k,.pointer (some ⟨r,0,none⟩)] w fun ex w' => ex = .returned (.bool false) ∧ RS w' r f B ∧ MO ok w' gm m ∧ Kg lo r f gm w w' := by
 have H := Aq.mk h
 have HL := Aq.mk hl
 have HL2 := Aq.mk hl2
 have HG := Aq.mk hg
 have OKK := Aq.mk hok
 have HO := Aq.mk ho
 have HWL := Aq.mk (h.wsz hl)
 have M := Aq.mk hm
 have K := Aq.mk (Kg.of_kf (g := gm) (Kf.refl lo r f w))
 clear h hl hl2 hg ho hm hok
 go_enter Try.func98,Try.ntmps98
 go_wp2_with (first
  | (((with_reducible refine gate_dst (N := 10) rfl ?_); obtain ⟨hd1,hm1⟩ := M.out; refine wpList_load_row rfl 49 _ rfl gm rfl 49 _ (0,0) _ hm1.box Try.underlying49 rfl sz49 ?_; have HM1 := Aq.mk hm1; clear hm1))
  | (go_at_call 30; (with_reducible refine (retry_calls m hd1 _ HM1.out.reads).mono ?_); rintro e0 w0 ⟨rfl,b0⟩; have M0 := Aq.mk (M.out.below b0); have H0 := Aq.mk (H.out.below b0); have K0 := Aq.mk (K.out.trans (Kg.of_kf (Kf.of_below (r := r) (f := f) HWL.out b0))); clear b0))
 go_ret
 exact ⟨rfl,H0.out,M0.out,K0.out⟩
theorem srv_c (ok : Nat → Prop) (lo r f gm : Nat) (B : Rp) (m : Mv) (w : World) (k : Int) (hl : lo ≤ f) (hl2 : lo ≤ r) (hg : lo ≤ gm) (h : RS w r f B) (ho : B.Ok) (hm : MO ok w gm m) (hok : ∀ k,w.heap.size ≤ k → ok k) :
  Calls Try.prog 98 #[.pointer (some ⟨gm,0,none⟩),.int .i64 k,.pointer (some ⟨r,0,none⟩)] w fun ex w' => ex = .returned (.bool (srv k m B).1) ∧ RS w' r f (srv k m B).2.2 ∧ MO ok w' gm (srv k m B).2.1 ∧ Kg lo r f gm w w' := by
 unfold srv
 by_cases e43 : k = 43
 ·subst e43
  exact srv43 ok lo r f gm B m w hl hl2 hg h ho hm hok
 rw [if_neg e43]
 by_cases e51 : k = 51
 ·subst e51
  rw [if_pos rfl]
  by_cases hr : m.retry = true
  ·rw [if_pos hr]
   exact srv51r ok lo r f gm B m w hr hl hl2 hg h ho hm hok
  ·rw [if_neg hr]
   exact srv51n ok lo r f gm B m w (by simpa using hr) hl hl2 hg h ho hm hok
 rw [if_neg e51]
 by_cases e41 : k = 41
 ·subst e41
  rw [if_pos rfl]
  by_cases hr : m.retry = true
  ·rw [if_pos hr]
   exact srv41r ok lo r f gm B m w hr hl hl2 hg h ho hm hok
  ·rw [if_neg hr]
   exact srv41n ok lo r f gm B m w (by simpa using hr) hl hl2 hg h ho hm hok
 rw [if_neg e41]
 exact srvNo ok lo r f gm B m w k (beq_eq_false_iff_ne.mpr e43) (beq_eq_false_iff_ne.mpr e51) (beq_eq_false_iff_ne.mpr e41) hl hl2 hg h ho hm hok
end Go.Proofs.Ytlkebjkpmiehcaa.Ms
end
section
namespace Go.Proofs.Ytlkebjkpmiehcaa.Ms
open Go.RowKit Go.Proofs.YtlkebjkpmiehcaaW.PrintWords Go.Proofs.YtlkebjkpmiehcaaW.PrintLast Go.Proofs.YtlkebjkpmiehcaaW.PrintMore Go.Proofs.Ytlkebjkpmiehcaa.X
open Go.Proofs.Ytlkebjkpmiehcaa.Pure (nv numOf vecOf nv_bd nv_bd4 number_any vec_ok)
set_option linter.unusedVariables false
def Rp.aft (P B : Rp) (l : Bool) : Rp := { P with c := B.c,t := B.t,l := l }
structure Kh (lo r rb f g : Nat) (w w' : World) : Prop where
 below : Below lo w w'
 keep : ∀ k o,w.heap[k]? = some o → k ≠ r → k ≠ rb → k ≠ f → k ≠ g → w'.heap[k]? = some o
theorem Kh.of_kg {lo r rb f g : Nat} {w w' : World} (k : Kg lo rb f g w w') : Kh lo r rb f g w w' := ⟨k.below,fun i o hi _ hb hf hg => k.keep i o hi hb hf hg⟩
theorem Kh.trans {lo r rb f g : Nat} {a b c : World} (h : Kh lo r rb f g a b) (k : Kh lo r rb f g b c) : Kh lo r rb f g a c := ⟨h.below.trans k.below,fun i o hi hr hb hf hg => k.keep i o (h.keep i o hi hr hb hf hg) hr hb hf hg⟩
theorem Kh.inner {lo r rb f g : Nat} {w w1 w2 : World} (h : Kg lo r f g w w1) (hn : w.heap.size ≤ rb) (k : Kh lo r rb f g w1 w2) : Kg lo r f g w w2 :=
 ⟨h.below.trans k.below,fun i o hi hr hf hg => k.keep i o (h.keep i o hi hr hf hg) hr (by have := blk_lt hi; omega) hf hg⟩
structure TakeC (k : Nat) (cap : Array Value) (lo r f gm : Nat) (w0 : World) (take : Int → Mv → Rp → Bool × Mv × Rp) (lastf : Int → Bool → Bool) : Prop where
 enters : ∀ args w,(callFunc k args).run Try.prog w = .ok (.enter k args) w
 ok : ∀ (kind : Int) (m : Mv) (B : Rp),B.Ok → (take kind m B).2.2.Ok
 st : ∀ (kind : Int) (m : Mv) (B : Rp),B.Ok → (take kind m B).2.2.c = 0 → B.c = 0
 calls : ∀ (ok : Nat → Prop) (kind : Int) (m : Mv) (P B : Rp) (rb : Nat) (W : World),Kg lo r f gm w0 W → w0.heap.size ≤ rb → RS W r f P → RS W rb f B → B.Ok → MO ok W gm m → (∀ j,W.heap.size ≤ j → ok j) →
  Calls Try.prog k (#[.int .i64 kind,.pointer (some ⟨rb,0,none⟩)] ++ cap) W fun ex W' => ex = .returned (.bool (take kind m B).1) ∧ RS W' rb f (take kind m B).2.2 ∧ MO ok W' gm (take kind m B).2.1 ∧ RS W' r f (P.aft (take kind m B).2.2 (lastf kind P.l)) ∧ Kh lo r rb f gm W W'
def nonT (_ : Int) (m : Mv) (B : Rp) : Bool × Mv × Rp := (false,m,B)
def sameL (_ : Int) (l : Bool) : Bool := l
def pskL (k : Int) (_ : Bool) : Bool := k == 41
theorem aft_self {W : World} {r rb f : Nat} {P B : Rp} (h : RS W r f P) (h2 : RS W rb f B) : RS W r f (P.aft B P.l) := ⟨h.rd,h2.ft⟩
set_option maxRecDepth 100000 in
set_option maxHeartbeats 8000000 in
theorem nonT_c (lo r f gm : Nat) (w0 : World) : TakeC 68 #[] lo r f gm w0 nonT sameL where
 enters := fun args w => enters_ Try.func68 (by kernel_rfl) rfl args w
 ok := fun _ _ _ h => h
 st := fun _ _ _ _ h => h
 calls := by
  intro ok kind m P B rb W hk hn hP hB ho hm hok
  have H := Aq.mk hP
  have HB := Aq.mk hB
  have HM := Aq.mk hm
  clear hk hn hP hB ho hm hok
  show Calls Try.prog 68 #[.int .i64 kind,.pointer (some ⟨rb,0,none⟩)] W _
  go_enter Try.func68,Try.ntmps68
  go_wp2
  go_ret
  exact ⟨rfl,HB.out,HM.out,aft_self H.out HB.out,⟨Below.refl _ _,fun _ _ h _ _ _ _ => h⟩⟩
set_option maxRecDepth 100000 in
set_option maxHeartbeats 8000000 in
theorem old_box {lo r f gm gb : Nat} {w0 W : World} {v : Value} {t : TypeId} (hk : Kg lo r f gm w0 W) (hb : w0.heap[gb]? = some (.cells #[v] t (0,0))) (h1 : gb ≠ r) (h2 : gb ≠ f) (h3 : gb ≠ gm) : W.heap[gb]? = some (.cells #[v] t (0,0)) := hk.keep _ _ hb h1 h2 h3
set_option maxRecDepth 100000 in
set_option maxHeartbeats 8000000 in
theorem srvT_c (lo r f gm gb : Nat) (w0 : World) (hl : lo ≤ f) (hg : lo ≤ gm) (hlw : lo ≤ w0.heap.size) (hb : w0.heap[gb]? = some (.cells #[.pointer (some ⟨gm,0,none⟩)] 85 (0,0))) (n1 : gb ≠ r) (n2 : gb ≠ f) (n3 : gb ≠ gm) (hr : r < w0.heap.size) : TakeC 97 #[.pointer (some ⟨gb,0,none⟩)] lo r f gm w0 srv sameL where
 enters := fun args w => enters_ Try.func97 (by kernel_rfl) rfl args w
 ok := fun k m _ h => srv_ok k m h
 st := fun _ _ _ ho h => srv_st ho h
 calls := by
  intro ok kind m P B rb W hk hn hP hB ho hm hok
  have HX := Aq.mk (old_box hk hb n1 n2 n3)
  have HNE := Aq.mk (show r ≠ rb from by omega)
  have HL := Aq.mk hl
  have HL2 := Aq.mk (Nat.le_trans hlw hn)
  have HG := Aq.mk hg
  have H := Aq.mk hP
  have HB := Aq.mk hB
  have HO := Aq.mk ho
  have HM := Aq.mk hm
  have HK := Aq.mk hok
  have HRG := Aq.mk (show r ≠ gm from by
   obtain ⟨_,a⟩ := hm
   exact blk_ne hP.rd a.box (by decide))
  clear hk hn hP hB ho hm hok hl hg hlw hb n1 n2 n3 hr
  show Calls Try.prog 97 #[.int .i64 kind,.pointer (some ⟨rb,0,none⟩),.pointer (some ⟨gb,0,none⟩)] W _
  go_enter Try.func97,Try.ntmps97
  go_wp2_with (first
   | ((with_reducible refine gate_dst (N := 6) rfl ?_); refine ld (v := .pointer (some ⟨gm,0,none⟩)) rfl rfl rfl HX.out Try.underlying85 rfl rfl ?_)
   | (go_at_call 98; (with_reducible refine (srv_c ok lo rb f gm B m _ kind HL.out HL2.out HG.out HB.out HO.out HM.out HK.out).mono ?_); rintro e1 w1 ⟨rfl,i1,m1,k1⟩; have H1 := Aq.mk i1; have M1 := Aq.mk m1; have K1 := Aq.mk k1; clear i1 m1 k1))
  go_ret
  exact ⟨rfl,H1.out,M1.out,⟨K1.out.keep _ _ H.out.rd HNE.out H.out.ne HRG.out,H1.out.ft⟩,Kh.of_kg K1.out⟩
set_option maxRecDepth 100000 in
set_option maxHeartbeats 8000000 in
theorem cliT_c (lo r f gm gi gb : Nat) (w0 : World) (hl : lo ≤ f) (hg : lo ≤ gm) (hlw : lo ≤ w0.heap.size) (hlr : lo ≤ r) (hi : w0.heap[gi]? = some (.cells #[.pointer (some ⟨r,0,none⟩)] 87 (0,0))) (hb : w0.heap[gb]? = some (.cells #[.pointer (some ⟨gm,0,none⟩)] 85 (0,0)))
  (n1 : gb ≠ r) (n2 : gb ≠ f) (n3 : gb ≠ gm) (n4 : gi ≠ r) (n5 : gi ≠ f) (n6 : gi ≠ gm) (hr : r < w0.heap.size) : TakeC 95 #[.pointer (some ⟨gi,0,none⟩),.pointer (some ⟨gb,0,none⟩)] lo r f gm w0 cli pskL where
 enters := fun args w => enters_ Try.func95 (by kernel_rfl) rfl args w
 ok := fun k m _ h => cli_ok k m h
 st := fun _ _ _ ho h => cli_st ho h
 calls := by
  intro ok kind m P B rb W hk hn hP hB ho hm hok
  have HX := Aq.mk (old_box hk hb n1 n2 n3)
  have HY := Aq.mk (old_box hk hi n4 n5 n6)
  have HXR := Aq.mk n1
  have HNE := Aq.mk (show r ≠ rb from by omega)
  have HL := Aq.mk hl
  have HLR := Aq.mk hlr
  have HL2 := Aq.mk (Nat.le_trans hlw hn)
  have HG := Aq.mk hg
  have H := Aq.mk hP
  have HB := Aq.mk hB
  have HO := Aq.mk ho
  have HM := Aq.mk hm
  have HK := Aq.mk hok
  have HRG := Aq.mk (show r ≠ gm from by
   obtain ⟨_,a⟩ := hm
   exact blk_ne hP.rd a.box (by decide))
  clear hk hn hP hB ho hm hok hl hg hlw hb hi n1 n2 n3 n4 n5 n6 hr hlr
  show Calls Try.prog 95 #[.int .i64 kind,.pointer (some ⟨rb,0,none⟩),.pointer (some ⟨gi,0,none⟩),.pointer (some ⟨gb,0,none⟩)] W _
  go_enter Try.func95,Try.ntmps95
  go_wp2_with (first
   | ((with_reducible refine gate_dst (N := 7) rfl ?_); refine ld (v := .pointer (some ⟨r,0,none⟩)) rfl rfl rfl HY.out Try.underlying87 rfl rfl ?_)
   | ((with_reducible refine gate_store (p := 11) rfl ?_); refine st (v := .bool (kind == 41)) rfl rfl rfl H.out.rd sz4 rfl rfl rfl (by simp) ?_; intro w3 h3 b3 k3; have H3 := Aq.mk (show RS w3 r f { P with l := kind == 41 } from Rs.mk h3 ((k3.2 f (blk_lt H.out.ft) (Ne.symm H.out.ne) (by simp)).trans H.out.ft)); have HB3 := Aq.mk (show RS w3 rb f B from Rs.mk ((k3.2 rb (blk_lt HB.out.rd) (Ne.symm HNE.out) (by simp)).trans HB.out.rd) ((k3.2 f (blk_lt HB.out.ft) (Ne.symm H.out.ne) (by simp)).trans HB.out.ft)); have HX3 := Aq.mk ((k3.2 gb (blk_lt HX.out) HXR.out (by simp)).trans HX.out); have M3 := Aq.mk (HM.out.kf H.out (Kf.of_keep (f := f) (.inl rfl) (b3 _ HLR.out) k3)); have K3 := Aq.mk (show Kh lo r rb f gm _ w3 from ⟨b3 _ HLR.out,fun i o hi hr _ _ _ => (k3.2 i (blk_lt hi) hr (by simp)).trans hi⟩); have HK3 := Aq.mk (fun j (hj : w3.heap.size ≤ j) => HK.out j (Nat.le_trans K3.out.below.size hj)); clear h3 b3 k3)
   | ((with_reducible refine gate_dst (N := 12) rfl ?_); refine ld (v := .pointer (some ⟨gm,0,none⟩)) rfl rfl rfl HX3.out Try.underlying85 rfl rfl ?_)
   | (go_at_call 96; (with_reducible refine (cli_c ok lo rb f gm B m _ kind HL.out HL2.out HG.out HB3.out HO.out M3.out HK3.out).mono ?_); rintro e1 w1 ⟨rfl,i1,m1,k1⟩; have H1 := Aq.mk i1; have M1 := Aq.mk m1; have K1 := Aq.mk k1; clear i1 m1 k1))
  go_ret
  exact ⟨rfl,H1.out,M1.out,⟨K1.out.keep _ _ H3.out.rd HNE.out H3.out.ne HRG.out,H1.out.ft⟩,K3.out.trans (Kh.of_kg K1.out)⟩
def Rp.exA (R : Rp) : Rp := R.allow (!R.l)
def Rp.exK (R : Rp) : Int := R.exA.numV 2
def Rp.exB (R : Rp) : Rp := R.exA.numR 2
def Rp.exT (R : Rp) (seen : List Int) : Bool := R.t || decide (R.exK ∈ seen)
def Rp.exI (R : Rp) (seen : List Int) : Rp := { R.exB.inR 2 with t := R.exT seen }
def Rp.exP (R : Rp) (seen : List Int) : Rp := { R.exB.outR 2 with t := R.exT seen }
section
variable (take : Int → Mv → Rp → Bool × Mv × Rp) (lastf : Int → Bool → Bool)
def exX (R : Rp) (seen : List Int) (m : Mv) : Bool × Mv × Rp := take R.exK m (R.exI seen)
def exQ (R : Rp) (seen : List Int) (m : Mv) : Rp := (R.exP seen).aft (exX take R seen m).2.2 (lastf R.exK R.l)
def exN (R : Rp) (seen : List Int) (m : Mv) : Rp := if (exX take R seen m).1 = true then (exQ take lastf R seen m).back (exX take R seen m).2.2.done else exQ take lastf R seen m
def exO (R : Rp) (seen : List Int) (m : Mv) : List Int := if (exX take R seen m).1 = true then [] else if (exQ take lastf R seen m).c = 0 then [R.exK] else []
def exts : Nat → List Int → Mv → Rp → List Int × Mv × Rp
 | 0,_,m,R => ([],m,R)
 | k + 1,seen,m,R => if R.more = true then (exO take lastf R seen m ++ (exts k (seen ++ [R.exK]) (exX take R seen m).2.1 (exN take lastf R seen m)).1,(exts k (seen ++ [R.exK]) (exX take R seen m).2.1 (exN take lastf R seen m)).2) else ([],m,R)
end
theorem Rp.Ok.exA {R : Rp} (h : R.Ok) : R.exA.Ok := h.allow _
theorem Rp.Ok.exB {R : Rp} (h : R.Ok) : R.exB.Ok := h.exA.numR 2
theorem Rp.Ok.exI {R : Rp} (h : R.Ok) (seen : List Int) : (R.exI seen).Ok := ⟨(h.exB.inR 2).lo,(h.exB.inR 2).hi,(h.exB.inR 2).sz⟩
theorem Rp.Ok.exP {R : Rp} (h : R.Ok) (seen : List Int) : (R.exP seen).Ok := ⟨(h.exB.outR 2).lo,(h.exB.outR 2).hi,(h.exB.outR 2).sz⟩
theorem Rp.Ok.aft {R : Rp} (h : R.Ok) (B : Rp) (l : Bool) : (R.aft B l).Ok := ⟨h.lo,h.hi,h.sz⟩
theorem exN_p (take : Int → Mv → Rp → Bool × Mv × Rp) (lastf : Int → Bool → Bool) (R : Rp) (seen : List Int) (m : Mv) : (exN take lastf R seen m).p = (R.exB.outR 2).p ∧ (exN take lastf R seen m).s = R.s := by
 unfold exN
 split <;> exact ⟨rfl,rfl⟩
theorem Rp.Ok.exN {R : Rp} (h : R.Ok) (take : Int → Mv → Rp → Bool × Mv × Rp) (lastf : Int → Bool → Bool) (seen : List Int) (m : Mv) : (exN take lastf R seen m).Ok := by
 obtain ⟨h1,h2⟩ := exN_p take lastf R seen m
 have h3 := h.exB.outR 2
 exact ⟨by rw [h1]; exact h3.lo,by rw [h1,h2]; exact h3.hi,by rw [h2]; exact h.sz⟩
theorem exN_mu {take : Int → Mv → Rp → Bool × Mv × Rp} {lastf : Int → Bool → Bool} (hst : ∀ (kind : Int) (m : Mv) (B : Rp),B.Ok → (take kind m B).2.2.c = 0 → B.c = 0) {R : Rp} (h : R.Ok) (seen : List Int) (m : Mv) (hm : R.more = true) : (exN take lastf R seen m).mu < R.mu := by
 obtain ⟨h1,h2⟩ := exN_p take lastf R seen m
 refine mu_lt hm h2 h.lo fun hc => ?_
 have hx : (exX take R seen m).2.2.c = 0 := by
  unfold Ms.exN at hc
  split at hc
  ·exact (needed_zero hc).1
  ·exact hc
 have hi : (R.exI seen).c = 0 := hst _ _ _ (h.exI seen) hx
 have ho : (R.exB.outR 2).c = 0 := hi
 have hv := vecR_c ho h.exB
 have hn := numR_c hv.1 h.exA
 rw [h1]
 have e1 : R.exA.p = R.p := rfl
 have e2 : R.exB.p = R.exA.p + 2 := hn.2
 have e3 : R.exB.p + 2 ≤ (R.exB.outR 2).p := hv.2
 omega
theorem wfk {x : Int} (h0 : 0 ≤ x) (h1 : x < 4294967296) : (Lit.int .i64 x).wf = true := by
 simp [Lit.wf,IntKind.min,IntKind.max,IntKind.signed,IntKind.bits]
 omega
theorem exK_bd (R : Rp) : 0 ≤ R.exK ∧ R.exK < 4294967296 := by
 have h := R.exA.numV_bd 2
 unfold Rp.exK
 omega
end Go.Proofs.Ytlkebjkpmiehcaa.Ms
end
section
namespace Go.Proofs.Ytlkebjkpmiehcaa.Ms
open Go.RowKit Go.Proofs.YtlkebjkpmiehcaaW.PrintWords Go.Proofs.YtlkebjkpmiehcaaW.PrintLast Go.Proofs.YtlkebjkpmiehcaaW.PrintMore Go.Proofs.Ytlkebjkpmiehcaa.X
open Go.Proofs.Ytlkebjkpmiehcaa.Pure (nv numOf vecOf nv_bd nv_bd4 number_any vec_ok)
set_option linter.unusedVariables false
structure Mov (w w1 : World) (ts : List Nat) : Prop where
 cells : ∀ (k : Nat) (cs : Array Value) (t : TypeId),w.heap[k]? = some (.cells cs t (0,0)) → t ∉ ts → w1.heap[k]? = some (.cells cs t (0,0))
 maps : ∀ (k : Nat) (es : Array MapEntry) (c : Nat),w.heap[k]? = some (Obj.map es c) → w1.heap[k]? = some (Obj.map es c)
theorem Mov.of_below {w w1 : World} (b : Below w.heap.size w w1) (ts : List Nat) : Mov w w1 ts := ⟨fun k _ _ h _ => (b.block k (blk_lt h)).trans h,fun k _ _ h => (b.block k (blk_lt h)).trans h⟩
theorem Mov.of_kf {lo r f : Nat} {w w1 : World} {R : Rp} (h : RS w r f R) (k : Kf lo r f w w1) : Mov w w1 [92,90] := ⟨kf_types h k,fun j es c hj => k.keep j _ hj (map_ne hj h.rd) (map_ne hj h.ft)⟩
theorem Mov.of_kh {ok : Nat → Prop} {lo r rb f gm : Nat} {w w1 : World} {R B : Rp} {m : Mv} (h : RS w r f R) (hb : RS w rb f B) (hm : MO ok w gm m) (k : Kh lo r rb f gm w w1) : Mov w w1 [92,90,49] := by
 obtain ⟨_,a⟩ := hm
 exact ⟨fun j cs t hj ht => k.keep j _ hj (blk_ne hj h.rd (by intro e; exact ht (by simp [e]))) (blk_ne hj hb.rd (by intro e; exact ht (by simp [e]))) (blk_ne hj h.ft (by intro e; exact ht (by simp [e]))) (blk_ne hj a.box (by intro e; exact ht (by simp [e]))),
  fun j es c hj => k.keep j _ hj (map_ne hj h.rd) (map_ne hj hb.rd) (map_ne hj h.ft) (map_ne hj a.box)⟩
theorem Mov.of_map {w w1 : World} (hm : MapTurn w w1) : ∀ (k : Nat) (cs : Array Value) (t : TypeId),w.heap[k]? = some (.cells cs t (0,0)) → t ∉ ([] : List Nat) → w1.heap[k]? = some (.cells cs t (0,0)) := fun k cs t h _ => blk_map h hm
theorem Mov.row {w w1 : World} {ts : List Nat} (a : Mov w w1 ts) {α : Type} {d : Kd α} {e base : Nat} {ok : Nat → Prop} {v : Value} {xs : List α} (h : d.R e w base ok v xs) (ht : ∀ q,q ∈ e :: d.E → q ∉ ts) : d.R e w1 base ok v xs :=
 Kd.R_mono (Kd.R_move (Kd.R_bound h) (fun i hi => by
  obtain ⟨_,_,h3,q,hq,cells,hc⟩ := hi
  rw [hc]
  exact a.cells i _ _ hc (ht q hq))) (fun _ hk => hk.1)
theorem Mov.set {w w1 : World} {ts : List Nat} (a : Mov w w1 ts) {d : Kd Int} {e : TypeId} {base : Nat} {ok : Nat → Prop} {v : Value} {xs : List Int} (h : Kd.Y d e w base ok v xs) : Kd.Y d e w1 base ok v xs := Y_gen h a.maps
theorem MO.map {ok : Nat → Prop} {gm : Nat} {w w1 : World} {m : Mv} (a : MO ok w gm m) (hm : MapTurn w w1) : MO ok w1 gm m := by
 obtain ⟨hd,a⟩ := a
 exact ⟨hd,a.move (blk_map a.box hm) [] (Mov.of_map hm) (by decide) (by decide) (by decide) (by decide)⟩
theorem Rs.map {w w1 : World} {r f : Nat} {s : ByteArray} {p c : Int} {t l : Bool} (h : Rs w r f s p c t l) (hm : MapTurn w w1) : Rs w1 r f s p c t l := ⟨blk_map h.rd hm,blk_map h.ft hm⟩
theorem Kg.over {lo r f g B : Nat} {w W w1 : World} (h : Kg lo r f g w W) (hb : Below B W w1) (hl : lo ≤ B) (hB : w.heap.size ≤ B) : Kg lo r f g w w1 :=
 ⟨h.below.trans (hb.mono hl),fun i o hi hr hf hg => (hb.block i (Nat.lt_of_lt_of_le (blk_lt hi) hB)).trans (h.keep i o hi hr hf hg)⟩
theorem R_lt {α : Type} {d : Kd α} {e base : Nat} {W : World} {ok : Nat → Prop} {v : Value} {xs : List α} (h : d.R e W base ok v xs) : ∀ j,W.heap.size ≤ j → some j ≠ v.ownBlock := by
 intro j hj e
 obtain ⟨inner,ho⟩ := Kd.R_own h
 have := own_lt ho j e.symm
 omega
theorem R_app {α : Type} {d : Kd α} {e base : Nat} {W w1 : World} {u v : Value} {x : Value} {xs : List α} (h : d.R e W base (fun j => some j ≠ u.ownBlock) x xs) (hg : W.grownBy w1 u.ownBlock) (hat : v.ownBlock = u.ownBlock ∨ ∃ b,v.ownBlock = some b ∧ W.heap.size ≤ b) : d.R e w1 base (fun j => some j ≠ v.ownBlock) x xs :=
 Kd.R_mono (Kd.R_grown (Kd.R_bound h) hg (fun k hk => hk.1)) (fun k hk => by
  rcases hat with h1 | ⟨b,h1,h2⟩
  ·rw [h1]
   exact hk.1
  ·rw [h1]
   intro e
   have := hk.2.2.1
   injection e with e
   omega)
theorem MO.app {gm : Nat} {W w1 : World} {u v : Value} {m : Mv} {base : Nat} {ys : List Int} {ok : Nat → Prop} (a : MO (fun j => some j ≠ u.ownBlock) W gm m) (hu : Kd.R (Kd.int .i64) 3 W base ok u ys) (hg : W.grownBy w1 u.ownBlock) (hat : v.ownBlock = u.ownBlock ∨ ∃ b,v.ownBlock = some b ∧ W.heap.size ≤ b) : MO (fun j => some j ≠ v.ownBlock) w1 gm m := by
 obtain ⟨hd,a⟩ := a
 exact ⟨hd,(hg.block gm (blk_lt a.box) (Kd.R_ne hu a.box (by decide))).trans a.box,R_app a.r3 hg hat,R_app a.r5 hg hat,R_app a.r6 hg hat,R_app a.r7 hg hat,R_app a.r8 hg hat,R_app a.r9 hg hat,R_app a.r10 hg hat,R_app a.r11 hg hat,R_app a.r13 hg hat,R_app a.r14 hg hat⟩
theorem Rs.app {W w1 : World} {r f : Nat} {s : ByteArray} {p c : Int} {t l : Bool} {base : Nat} {u : Value} {ys : List Int} {ok : Nat → Prop} (h : Rs W r f s p c t l) (hu : Kd.R (Kd.int .i64) 3 W base ok u ys) (hg : W.grownBy w1 u.ownBlock) : Rs w1 r f s p c t l :=
 ⟨(hg.block r (blk_lt h.rd) (Kd.R_ne hu h.rd (by decide))).trans h.rd,(hg.block f (blk_lt h.ft) (Kd.R_ne hu h.ft (by decide))).trans h.ft⟩
theorem Y_app {d : Kd Int} {e : TypeId} {W w1 : World} {base b2 : Nat} {ok ok2 : Nat → Prop} {v u : Value} {xs ys : List Int} (h : Kd.Y d e W base ok v xs) (hu : Kd.R (Kd.int .i64) 3 W b2 ok2 u ys) (hg : W.grownBy w1 u.ownBlock) : Kd.Y d e w1 base ok v xs :=
 Y_gen h fun k es c hk => (hg.block k (blk_lt hk) (fun e => by
  obtain ⟨inner,ho⟩ := Kd.R_own hu
  obtain ⟨cells,hc⟩ := own_typed ho k e.symm
  rw [hk] at hc
  cases hc)).trans hk
theorem MO.weaken {ok ok' : Nat → Prop} {w : World} {gm : Nat} {m : Mv} (a : MO ok w gm m) (h : ∀ k,ok k → ok' k) : MO ok' w gm m := by
 obtain ⟨hd,a⟩ := a
 exact ⟨hd,a.box,Kd.R_mono a.r3 h,Kd.R_mono a.r5 h,Kd.R_mono a.r6 h,Kd.R_mono a.r7 h,Kd.R_mono a.r8 h,Kd.R_mono a.r9 h,Kd.R_mono a.r10 h,Kd.R_mono a.r11 h,Kd.R_mono a.r13 h,Kd.R_mono a.r14 h⟩
theorem exK_c (lo r f : Nat) (R : Rp) (w : World) (hl : lo ≤ f) (hl2 : lo ≤ r) (h : RS w r f R.exA) (ho : R.Ok) :
  Calls Try.prog 70 #[.pointer (some ⟨r,0,none⟩)] w fun ex w' => ex = .returned (.int .i64 R.exK) ∧ RS w' r f R.exB ∧ Kf lo r f w w' := u16_c lo r f R.exA w hl hl2 h ho.exA
theorem not3 : ∀ q,q ∈ 3 :: (Kd.int .i64).E → q ∉ [92,90] := by intro q hq; rw [List.mem_singleton.1 hq]; decide
theorem not3' : ∀ q,q ∈ 3 :: (Kd.int .i64).E → q ∉ [92,90,49] := by intro q hq; rw [List.mem_singleton.1 hq]; decide
theorem not3'' : ∀ q,q ∈ 3 :: (Kd.int .i64).E → q ∉ ([] : List Nat) := by intro q hq; simp
set_option maxRecDepth 100000 in
set_option maxHeartbeats 8000000 in
theorem exts_c (k : Nat) (cap : Array Value) (lo r f gm : Nat) (take : Int → Mv → Rp → Bool × Mv × Rp) (lastf : Int → Bool → Bool) (R : Rp) (m : Mv) (w : World) (hT : TakeC k cap lo r f gm w take lastf) (hl : lo ≤ f) (hl2 : lo ≤ r) (h : RS w r f R) (ho : R.Ok) (hm : MO (fun _ => True) w gm m) :
  Calls Try.prog 67 #[.pointer (some ⟨r,0,none⟩),.func (.func k) #[] cap] w fun ex w' => ∃ v,ex = .returned v ∧ Kd.R (Kd.int .i64) 3 w' 0 (fun _ => True) v (exts take lastf R.s.size [] m R).1 ∧ MO (fun _ => True) w' gm (exts take lastf R.s.size [] m R).2.1 ∧ RS w' r f (exts take lastf R.s.size [] m R).2.2 ∧ Kg lo r f gm w w' := by
 have H := Aq.mk h
 have HL := Aq.mk hl
 have HL2 := Aq.mk hl2
 have HO := Aq.mk ho
 have M := Aq.mk hm
 have HLW := Aq.mk (h.wsz hl)
 have HT := Aq.mk hT
 have eg := hT.enters
 obtain ⟨F,hF⟩ : ∃ F,exts take lastf R.s.size [] m R = F := ⟨_,rfl⟩
 rw [hF]
 have HF := Aq.mk hF
 clear h hl hl2 ho hm hT hF
 go_enter Try.func67,Try.ntmps67
 go_wp2_with ((with_reducible refine gate_dst (N := 9) rfl ?_); refine Kd.Y_make (Kd.int .i64) 3 rfl (N := 9) rfl 68 rfl (ok := fun _ => True) trivial ?_; intro vm w0 ho0 hb0; have Y0 := Aq.mk ho0; have H0 := Aq.mk (show RS w0 r f R from H.out.below hb0); have M0 := Aq.mk (M.out.below hb0); have K0 := Aq.mk ((Kg.of_kf (g := gm) (Kf.refl lo r f w)).over hb0 HLW.out (Nat.le_refl _)); clear ho0 hb0)
 go_loopg [6] R.s.size (fun gk v wr => ∃ (xs : List Int) (m' : Mv) (R' : Rp) (seen : List Int),Aq (RS wr r f R') ∧ Aq R'.Ok ∧ Aq (MO (fun j => some j ≠ v.ownBlock) wr gm m') ∧ Aq (Kd.R (Kd.int .i64) 3 wr w.heap.size (fun _ => True) v xs) ∧ Aq (Kd.Y (Kd.int .i64) 3 wr w.heap.size (fun _ => True) vm seen) ∧ Aq (Kg lo r f gm w wr) ∧ Aq (R'.mu ≤ gk ∧ seen.length + R'.mu ≤ 65536 ∧ xs.length + R'.mu ≤ 65536) ∧ Aq (xs ++ (exts take lastf gk seen m' R').1 = F.1 ∧ (exts take lastf gk seen m' R').2 = F.2))
 case atStart => exact ⟨[],m,R,[],H0,HO,⟨M0.out.weaken (fun _ _ e => by simp [Value.ownBlock] at e)⟩,⟨Kd.R_nil _ _ _ _ _⟩,Y0,K0,⟨mu_le R,by have := mu_le R; have := HO.out.sz; simp only [List.length_nil]; omega⟩,⟨by rw [HF.out]; rfl,by rw [HF.out]⟩⟩
 case round =>
 obtain ⟨xs,m',R',seen,Hi,Oi,Mi,Ri,Yi,Ki,Bi,Ei⟩ := hrel
 have HLi := Aq.mk (show lo ≤ wr.heap.size from Nat.le_trans HLW.out Ki.out.below.size)
 have HBi := Aq.mk (show w.heap.size ≤ wr.heap.size from Ki.out.below.size)
 have HWF := Aq.mk (wfk (exK_bd R').1 (exK_bd R').2)
 by_cases hm : R'.more = true
 ·have HMo := Aq.mk hm
  obtain ⟨gk',hgk⟩ : ∃ g,gk = g + 1 := ⟨gk - 1,by have := mu_pos Oi.out.lo hm; have := Bi.out.1; omega⟩
  subst hgk
  have E3 := Aq.mk (show xs ++ (exO take lastf R' seen m' ++ (exts take lastf gk' (seen ++ [R'.exK]) (exX take R' seen m').2.1 (exN take lastf R' seen m')).1) = F.1 ∧ (exts take lastf gk' (seen ++ [R'.exK]) (exX take R' seen m').2.1 (exN take lastf R' seen m')).2 = F.2 from by
   have := Ei.out
   unfold exts at this
   rw [if_pos HMo.out] at this
   exact this)
  have B3 := Aq.mk (show (exN take lastf R' seen m').mu ≤ gk' ∧ (seen ++ [R'.exK]).length + (exN take lastf R' seen m').mu ≤ 65536 ∧ xs.length + 1 + (exN take lastf R' seen m').mu ≤ 65536 from by
   have h1 := exN_mu HT.out.st Oi.out seen m' hm (lastf := lastf)
   have h2 := Bi.out
   rw [List.length_append,List.length_singleton]
   omega)
  have O3 := Aq.mk (Oi.out.exN take lastf seen m')
  by_cases ht : R'.t = true
  ·skip
   have HTT := Aq.mk ht
   go_wp2_with (first
     | (go_at_call 99; (with_reducible refine (more_c r f R' _ Hi.out).mono ?_); rintro e1 w1 ⟨rfl,b1⟩; have V_ := Mov.of_below b1 []; have H1 := Aq.mk (show RS w1 r f R' from Hi.out.below b1); have M1 := Aq.mk (Mi.out.below b1); have R1 := Aq.mk (V_.row Ri.out not3''); have Y1 := Aq.mk (V_.set Yi.out); have K1 := Aq.mk (Ki.out.over (b1.mono HBi.out) HLW.out (Nat.le_refl _)); clear b1 V_)
     | ((with_reducible refine gate_dst (N := 16) rfl ?_); refine ld (v := .bool R'.l) rfl rfl rfl H1.out.rd Try.underlying4 rfl rfl ?_)
     | (go_at_call 76; (with_reducible refine (allow_c lo r f R' _ (!R'.l) HL.out H1.out).mono ?_); rintro e2 w2 ⟨rfl,i2,k2⟩; have V2_ := Mov.of_kf H1.out k2; have M2 := Aq.mk (M1.out.kf H1.out k2); have R2 := Aq.mk (V2_.row R1.out not3); have Y2 := Aq.mk (V2_.set Y1.out); clear V2_; have H2 := Aq.mk (show RS w2 r f R'.exA from i2); have K2 := Aq.mk (K1.out.trans (Kg.of_kf k2)); clear i2 k2)
     | (go_at_call 70; (with_reducible refine (exK_c lo r f R' _ HL.out HL2.out H2.out Oi.out).mono ?_); rintro e3 w3 ⟨rfl,i3,k3⟩; have V3_ := Mov.of_kf H2.out k3; have M3 := Aq.mk (M2.out.kf H2.out k3); have R3 := Aq.mk (V3_.row R2.out not3); have Y3 := Aq.mk (V3_.set Y2.out); clear V3_; have H3 := Aq.mk i3; have K3 := Aq.mk (K2.out.trans (Kg.of_kf k3)); clear i3 k3)
     | (go_at_call 66; (with_reducible refine (rwithin_c lo r f R'.exB _ 2 2 rfl (by omega) (by omega) HL.out HL2.out H3.out Oi.out.exB).mono ?_); rintro e4 w4 ⟨r2,rfl,n4,i4,j4,k4⟩; have V4_ := Mov.of_kf H3.out k4; have M4 := Aq.mk (M3.out.kf H3.out k4); have R4 := Aq.mk (V4_.row R3.out not3); have Y4 := Aq.mk (V4_.set Y3.out); clear V4_; have HN := Aq.mk (Nat.le_trans K3.out.below.size n4); have H4 := Aq.mk i4; have I4 := Aq.mk j4; have K4 := Aq.mk (K3.out.trans (Kg.of_kf k4)); have HNE := Aq.mk (show r ≠ r2 from by have := H3.out.sz; omega); have HL3 := Aq.mk (show lo ≤ r2 from Nat.le_trans (H3.out.wsz HL.out) n4); clear n4 i4 j4 k4))
   refine start_ (n := 19) (S := fun w' => Below w4.heap.size w4 w') (ds := [18]) T30 (by kernel_rfl) rfl rfl (Below.refl w4.heap.size w4).drew (fun hHeld => ?_)
   have HS := Aq.mk (Below.refl w4.heap.size w4).drew
   generalize w4.drew = w5 at HS hHeld ⊢
   refine pure_ (i := 0) (N := (some 23)) (v := ?_) (a' := ?_) T37 rfl rfl (by kernel_rfl) (fun _ _ _ h => h) (Or.inl ⟨by rfl,?_⟩) ?_ ?_
   rotate_left
   ·intro w'
    go_simp
    with_reducible rfl
   rotate_left
   ·simp only [Act.put,LS_]
    rfl
   refine pure_ (i := 1) (N := (some 24)) (v := ?_) (a' := ?_) T319 rfl rfl (by kernel_rfl) (fun _ _ _ h => h) (Or.inl ⟨by rfl,?_⟩) ?_ ?_
   rotate_left
   ·intro w'
    go_simp
    with_reducible rfl
   rotate_left
   ·simp only [Act.put,LS_]
    rfl
   refine pure_ (i := 2) (N := (some 25)) (v := ?_) (a' := ?_) T326 rfl rfl (by kernel_rfl) (fun _ _ _ h => h) (Or.inl ⟨by rfl,?_⟩) ?_ ?_
   rotate_left
   ·intro w'
    go_simp
    with_reducible rfl
   rotate_left
   ·simp only [Act.put,LS_]
    rfl
   refine take_ (i := 3) (N := (some 26)) (v := ?_) (a' := ?_) T331 rfl rfl (by kernel_rfl) (fun _ _ _ h => h) (Or.inl ⟨by rfl,?_⟩) hHeld ?_ ?_
   rotate_left
   ·rintro w' hS
    have hq := rcell H4.out.rd hS
    obtain ⟨hc1,hc2,hc3⟩ := hq
    go_simp
    with_reducible rfl
   rotate_left
   ·simp only [Act.put,LS_]
    rfl
   refine pure_ (i := 4) (N := (some 27)) (v := ?_) (a' := ?_) T337 rfl rfl (by kernel_rfl) (fun _ _ _ h => h) (Or.inl ⟨by rfl,?_⟩) ?_ ?_
   rotate_left
   ·intro w'
    go_simp
    with_reducible rfl
   rotate_left
   ·simp only [Act.put,LS_]
    rfl
   refine pure_ (i := 5) (N := (some 28)) (v := ?_) (a' := ?_) T343 rfl rfl (by kernel_rfl) (fun _ _ _ h => h) (Or.inl ⟨by rfl,?_⟩) ?_ ?_
   rotate_left
   ·intro w'
    go_simp
    with_reducible rfl
   rotate_left
   ·simp only [Act.put,LS_]
    rfl
   refine pure_ (i := 6) (N := (some 29)) (v := ?_) (a' := ?_) T348 rfl rfl (by kernel_rfl) (fun _ _ _ h => h) (Or.inl ⟨by rfl,?_⟩) ?_ ?_
   rotate_left
   ·intro w'
    go_simp
    with_reducible rfl
   rotate_left
   ·simp only [Act.put,LS_]
    rfl
   refine take_ (i := 7) (N := (some 30)) (v := ?_) (a' := ?_) T353 rfl rfl (by kernel_rfl) (fun _ _ _ h => h) (Or.inl ⟨by rfl,?_⟩) hHeld ?_ ?_
   rotate_left
   ·rintro w' hS
    have hq := rcell H4.out.rd hS
    obtain ⟨hc1,hc2,hc3⟩ := hq
    go_simp
    with_reducible rfl
   rotate_left
   ·simp only [Act.put,LS_]
    rfl
   refine pure_ (i := 8) (N := (some 31)) (v := ?_) (a' := ?_) T357 rfl rfl (by kernel_rfl) (fun _ _ _ h => h) (Or.inl ⟨by rfl,?_⟩) ?_ ?_
   rotate_left
   ·intro w'
    go_simp
    with_reducible rfl
   rotate_left
   ·simp only [Act.put,LS_]
    rfl
   refine pure_ (i := 9) (N := (some 32)) (v := ?_) (a' := ?_) T360 rfl rfl (by kernel_rfl) (fun _ _ _ h => h) (Or.inl ⟨by rfl,?_⟩) ?_ ?_
   rotate_left
   ·intro w'
    go_simp
    with_reducible rfl
   rotate_left
   ·simp only [Act.put,LS_]
    rfl
   refine take_ (i := 10) (N := (some 33)) (v := ?_) (a' := ?_) T363 rfl rfl (by kernel_rfl) (fun _ _ _ h => h) (Or.inl ⟨by rfl,?_⟩) hHeld ?_ ?_
   rotate_left
   ·rintro w' hS
    have hc4 : w'.cell? ⟨f,1,none⟩ = some (.bool R'.t) := (blk_cell ((hS.block f (blk_lt H4.out.ft)).trans H4.out.ft) 1).trans rfl
    go_simp
    with_reducible rfl
   rotate_left
   ·simp only [Act.put,LS_]
    rfl
   refine pure_ (i := 11) (N := (some 34)) (v := ?_) (a' := ?_) T366 rfl rfl (by kernel_rfl) (fun _ _ _ h => h) (Or.inl ⟨by rfl,?_⟩) ?_ ?_
   rotate_left
   ·intro w'
    go_simp
    with_reducible rfl
   rotate_left
   ·simp only [Act.put,LS_]
    rfl
   refine pure_ (i := 12) (N := (some 35)) (v := undef) (a' := ?_) T368 rfl rfl (by kernel_rfl) (fun _ _ _ h => h) (Or.inr ⟨by rfl,by rfl⟩) ?_ ?_
   rotate_left
   ·simp only [Act.put,LS_]
    rfl
   refine pure_ (i := 13) (N := (some 36)) (v := undef) (a' := ?_) T369 rfl rfl (by kernel_rfl) (fun _ _ _ h => h) (Or.inr ⟨by rfl,by rfl⟩) ?_ ?_
   rotate_left
   ·simp only [Act.put,LS_]
    rfl
   refine pure_ (i := 14) (N := (some 37)) (v := undef) (a' := ?_) T370 rfl rfl (by kernel_rfl) (fun _ _ _ h => h) (Or.inr ⟨by rfl,by rfl⟩) ?_ ?_
   rotate_left
   ·simp only [Act.put,LS_]
    rfl
   refine pure_ (i := 15) (N := (some 38)) (v := ?_) (a' := ?_) T371 rfl rfl (by kernel_rfl) (fun _ _ _ h => h) (Or.inl ⟨by rfl,?_⟩) ?_ ?_
   rotate_left
   ·intro w'
    go_simp
    with_reducible rfl
   rotate_left
   ·simp only [Act.put,LS_]
    rfl
   refine pure_ (i := 16) (N := (some 39)) (v := ?_) (a' := ?_) T372 rfl rfl (by kernel_rfl) (fun _ _ _ h => h) (Or.inl ⟨by rfl,?_⟩) ?_ ?_
   rotate_left
   ·intro w'
    go_simp
    with_reducible rfl
   rotate_left
   ·simp only [Act.put,LS_]
    rfl
   refine pure_ (i := 17) (N := (some 40)) (v := ?_) (a' := ?_) T373 rfl rfl (by kernel_rfl) (fun _ _ _ h => h) (Or.inl ⟨by rfl,?_⟩) ?_ ?_
   rotate_left
   ·intro w'
    go_simp
    with_reducible rfl
   rotate_left
   ·simp only [Act.put,LS_]
    rfl
   refine last_ (i := 18) (N := none) T374 rfl rfl (by kernel_rfl) (by decide) (fun K hK => ?_)
   refine stM (v := .bool true) (by rfl) rfl rfl rfl (H4.out.below HS.out).ft sz4 rfl rfl rfl (by simp) ?_
   intro w7 h7 b7 k7
   have kf7 := (Kf.of_below (r := r) (f := f) (H4.out.wsz HL.out) HS.out).trans (Kf.of_keep (r := r) (.inr rfl) (b7 _ HL.out) k7)
   have HT7 : R'.exT seen = true := by unfold Rp.exT; rw [ht]; rfl
   have H7 := Aq.mk (show RS w7 r f (R'.exP seen) from ⟨(k7.2 r (blk_lt (H4.out.below HS.out).rd) H4.out.ne (by simp)).trans (H4.out.below HS.out).rd,by show w7.heap[f]? = some (.cells #[.int .i64 (R'.exB.outR 2).c,.bool (R'.exT seen)] 90 (0,0)); rw [HT7]; exact h7⟩)
   have I7 := Aq.mk (show RS w7 r2 f (R'.exI seen) from ⟨(k7.2 r2 (blk_lt (I4.out.below HS.out).rd) I4.out.ne (by simp)).trans (I4.out.below HS.out).rd,H7.out.ft⟩)
   have V7 := Mov.of_kf H4.out kf7
   have M7 := Aq.mk (M4.out.kf H4.out kf7)
   have R7 := Aq.mk (V7.row R4.out not3)
   have Y7 := Aq.mk (V7.set Y4.out)
   have K7 := Aq.mk (K4.out.trans (Kg.of_kf kf7))
   clear h7 b7 k7 kf7 HT7 V7
   refine hK.out _ _ ?_
   clear hK K
   refine done_ (by kernel_rfl) ?_
   by_cases hx : (exX take R' seen m').1 = true
   ·have HX := Aq.mk hx
    unfold exX at hx
    go_wp2_with (first
      | (at_mapUpdate; refine Kd.Y_put (Kd.int .i64) (w0 := w7) w.heap.size 3 rfl 68 _ _ _ rfl Try.underlying68 Try.underlying3 Try.underlying4 vm seen R'.exK (ok := fun _ => True) rfl rfl rfl HWF.out (by have := Bi.out.2.1; simp only [maxLen]; omega) Y7.out (Below.refl _ _) K7.out.below.size ?_; intro w8 ho8 hb8 hm8; have M8 := Aq.mk (M7.out.map hm8); have R8 := Aq.mk (Kd.R_map R7.out hm8); have Y8 := Aq.mk ho8; have H8 := Aq.mk (show RS w8 r f (R'.exP seen) from H7.out.map hm8); have I8 := Aq.mk (show RS w8 r2 f (R'.exI seen) from I7.out.map hm8); have K8 := Aq.mk (K7.out.over hb8 HLW.out (Nat.le_refl _)); clear ho8 hb8 hm8)
      | ((refine (HT.out.calls (fun j => some j ≠ u6.ownBlock) R'.exK m' (R'.exP seen) (R'.exI seen) r2 _ K8.out HN.out H8.out I8.out (Oi.out.exI seen) M8.out (R_lt R8.out)).mono ?_); rintro e9 w9 ⟨rfl,i9,m9,j9,k9⟩; have V_ := Mov.of_kh H8.out I8.out M8.out k9; have M9 := Aq.mk m9; have R9 := Aq.mk (V_.row R8.out not3'); have Y9 := Aq.mk (V_.set Y8.out); have I9 := Aq.mk i9; have H9 := Aq.mk (show RS w9 r f (exQ take lastf R' seen m') from j9); have K9 := Aq.mk (Kh.inner K8.out HN.out k9); clear i9 m9 j9 k9 V_)
      | (go_at_call 77; (with_reducible refine (done_c lo r2 f (exX take R' seen m').2.2 _ HL.out I9.out).mono ?_); rintro e10 w10 ⟨rfl,i10,k10⟩; have V10_ := Mov.of_kf I9.out k10; have M10 := Aq.mk (M9.out.kf I9.out k10); have R10 := Aq.mk (V10_.row R9.out not3); have Y10 := Aq.mk (V10_.set Y9.out); clear V10_; have H10 := Aq.mk (show RS w10 r f ((exQ take lastf R' seen m').back (exX take R' seen m').2.2.done) from H9.out.back (I := R') HNE.out k10 i10); have K10 := Aq.mk (Kg.inner K9.out HN.out (Kg.of_kf k10)); clear i10 k10))
    go_roundg gk'
    case rel => exact ⟨xs,(exX take R' seen m').2.1,exN take lastf R' seen m',seen ++ [R'.exK],⟨by unfold exN; rw [if_pos HX.out]; exact H10.out⟩,O3,M10,R10,Y10,K10,⟨B3.out.1,B3.out.2.1,by have := B3.out.2.2; omega⟩,⟨by rw [← E3.out.1]; unfold exO; rw [if_pos HX.out]; simp,E3.out.2⟩⟩
    case measure => omega
   ·replace hx : (exX take R' seen m').1 = false := by simpa using hx
    have HX := Aq.mk hx
    by_cases hc : (exQ take lastf R' seen m').c = 0
    ·have hc' : ((exQ take lastf R' seen m').c == 0) = true := beq_iff_eq.mpr hc
     have HC := Aq.mk hc
     clear hc
     unfold exX at hx
     go_wp2_with (first
       | (at_mapUpdate; refine Kd.Y_put (Kd.int .i64) (w0 := w7) w.heap.size 3 rfl 68 _ _ _ rfl Try.underlying68 Try.underlying3 Try.underlying4 vm seen R'.exK (ok := fun _ => True) rfl rfl rfl HWF.out (by have := Bi.out.2.1; simp only [maxLen]; omega) Y7.out (Below.refl _ _) K7.out.below.size ?_; intro w8 ho8 hb8 hm8; have M8 := Aq.mk (M7.out.map hm8); have R8 := Aq.mk (Kd.R_map R7.out hm8); have Y8 := Aq.mk ho8; have H8 := Aq.mk (show RS w8 r f (R'.exP seen) from H7.out.map hm8); have I8 := Aq.mk (show RS w8 r2 f (R'.exI seen) from I7.out.map hm8); have K8 := Aq.mk (K7.out.over hb8 HLW.out (Nat.le_refl _)); clear ho8 hb8 hm8)
       | ((refine (HT.out.calls (fun j => some j ≠ u6.ownBlock) R'.exK m' (R'.exP seen) (R'.exI seen) r2 _ K8.out HN.out H8.out I8.out (Oi.out.exI seen) M8.out (R_lt R8.out)).mono ?_); rintro e9 w9 ⟨rfl,i9,m9,j9,k9⟩; have V_ := Mov.of_kh H8.out I8.out M8.out k9; have M9 := Aq.mk m9; have R9 := Aq.mk (V_.row R8.out not3'); have Y9 := Aq.mk (V_.set Y8.out); have I9 := Aq.mk i9; have H9 := Aq.mk (show RS w9 r f (exQ take lastf R' seen m') from j9); have K9 := Aq.mk (Kh.inner K8.out HN.out k9); clear i9 m9 j9 k9 V_)
       | (go_at_call 51; (with_reducible refine (ok_c r f (exQ take lastf R' seen m') _ H9.out).mono ?_); rintro e10 w10 ⟨rfl,rfl⟩)
       | ((with_reducible refine gate_builtin (b := .append) (xs := #[.tmp 51,.tmp 53]) rfl ?_); at_builtin; refine Kd.R_append (Kd.int .i64) (w0 := w10) w.heap.size rfl (.tmp 51) (.tmp 53) 44 3 (.int .i64 0) 8 rfl Try.underlying44 info3 rfl (by decide) (by omega) u6 xs R'.exK [.int .i64 R'.exK] (fun _ => True) (fun _ => False) rfl rfl rfl (fun _ hk => hk.elim) (fun _ _ => trivial) R9.out (Below.refl _ _) K9.out.below.size (len_bd Bi.out.2.2 (mu_pos Oi.out.lo HMo.out) (by omega)) ?_; intro v11 w11 ho11 hb11 hg11 hat11; have M11 := Aq.mk (M9.out.app R9.out hg11 hat11); have R11 := Aq.mk ho11; have Y11 := Aq.mk (Y_app Y9.out R9.out hg11); have H11 := Aq.mk (show RS w11 r f (exQ take lastf R' seen m') from H9.out.app R9.out hg11); have K11 := Aq.mk (K9.out.over hb11 HLW.out (Nat.le_refl _)); clear ho11 hb11 hg11 hat11))
     go_roundg gk'
     case rel => exact ⟨xs ++ [R'.exK],(exX take R' seen m').2.1,exN take lastf R' seen m',seen ++ [R'.exK],⟨by unfold exN; rw [if_neg (by rw [HX.out]; decide)]; exact H11.out⟩,O3,M11,R11,Y11,K11,⟨B3.out.1,B3.out.2.1,by have := B3.out.2.2; rw [List.length_append,List.length_singleton]; omega⟩,⟨by rw [← E3.out.1]; unfold exO; rw [if_neg (by rw [HX.out]; decide),if_pos HC.out]; simp,E3.out.2⟩⟩
     case measure => omega
    ·have hc' : ((exQ take lastf R' seen m').c == 0) = false := beq_eq_false_iff_ne.mpr hc
     have HC := Aq.mk hc
     clear hc
     unfold exX at hx
     go_wp2_with (first
       | (at_mapUpdate; refine Kd.Y_put (Kd.int .i64) (w0 := w7) w.heap.size 3 rfl 68 _ _ _ rfl Try.underlying68 Try.underlying3 Try.underlying4 vm seen R'.exK (ok := fun _ => True) rfl rfl rfl HWF.out (by have := Bi.out.2.1; simp only [maxLen]; omega) Y7.out (Below.refl _ _) K7.out.below.size ?_; intro w8 ho8 hb8 hm8; have M8 := Aq.mk (M7.out.map hm8); have R8 := Aq.mk (Kd.R_map R7.out hm8); have Y8 := Aq.mk ho8; have H8 := Aq.mk (show RS w8 r f (R'.exP seen) from H7.out.map hm8); have I8 := Aq.mk (show RS w8 r2 f (R'.exI seen) from I7.out.map hm8); have K8 := Aq.mk (K7.out.over hb8 HLW.out (Nat.le_refl _)); clear ho8 hb8 hm8)
       | ((refine (HT.out.calls (fun j => some j ≠ u6.ownBlock) R'.exK m' (R'.exP seen) (R'.exI seen) r2 _ K8.out HN.out H8.out I8.out (Oi.out.exI seen) M8.out (R_lt R8.out)).mono ?_); rintro e9 w9 ⟨rfl,i9,m9,j9,k9⟩; have V_ := Mov.of_kh H8.out I8.out M8.out k9; have M9 := Aq.mk m9; have R9 := Aq.mk (V_.row R8.out not3'); have Y9 := Aq.mk (V_.set Y8.out); have I9 := Aq.mk i9; have H9 := Aq.mk (show RS w9 r f (exQ take lastf R' seen m') from j9); have K9 := Aq.mk (Kh.inner K8.out HN.out k9); clear i9 m9 j9 k9 V_)
       | (go_at_call 51; (with_reducible refine (ok_c r f (exQ take lastf R' seen m') _ H9.out).mono ?_); rintro e10 w10 ⟨rfl,rfl⟩))
     go_roundg gk'
     case rel => exact ⟨xs,(exX take R' seen m').2.1,exN take lastf R' seen m',seen ++ [R'.exK],⟨by unfold exN; rw [if_neg (by rw [HX.out]; decide)]; exact H9.out⟩,O3,M9,R9,Y9,K9,⟨B3.out.1,B3.out.2.1,by have := B3.out.2.2; omega⟩,⟨by rw [← E3.out.1]; unfold exO; rw [if_neg (by rw [HX.out]; decide),if_neg HC.out]; simp,E3.out.2⟩⟩
     case measure => omega
  ·replace ht : R'.t = false := by simpa using ht
   have HTT := Aq.mk ht
   go_wp2_with (first
     | (go_at_call 99; (with_reducible refine (more_c r f R' _ Hi.out).mono ?_); rintro e1 w1 ⟨rfl,b1⟩; have V_ := Mov.of_below b1 []; have H1 := Aq.mk (show RS w1 r f R' from Hi.out.below b1); have M1 := Aq.mk (Mi.out.below b1); have R1 := Aq.mk (V_.row Ri.out not3''); have Y1 := Aq.mk (V_.set Yi.out); have K1 := Aq.mk (Ki.out.over (b1.mono HBi.out) HLW.out (Nat.le_refl _)); clear b1 V_)
     | ((with_reducible refine gate_dst (N := 16) rfl ?_); refine ld (v := .bool R'.l) rfl rfl rfl H1.out.rd Try.underlying4 rfl rfl ?_)
     | (go_at_call 76; (with_reducible refine (allow_c lo r f R' _ (!R'.l) HL.out H1.out).mono ?_); rintro e2 w2 ⟨rfl,i2,k2⟩; have V2_ := Mov.of_kf H1.out k2; have M2 := Aq.mk (M1.out.kf H1.out k2); have R2 := Aq.mk (V2_.row R1.out not3); have Y2 := Aq.mk (V2_.set Y1.out); clear V2_; have H2 := Aq.mk (show RS w2 r f R'.exA from i2); have K2 := Aq.mk (K1.out.trans (Kg.of_kf k2)); clear i2 k2)
     | (go_at_call 70; (with_reducible refine (exK_c lo r f R' _ HL.out HL2.out H2.out Oi.out).mono ?_); rintro e3 w3 ⟨rfl,i3,k3⟩; have V3_ := Mov.of_kf H2.out k3; have M3 := Aq.mk (M2.out.kf H2.out k3); have R3 := Aq.mk (V3_.row R2.out not3); have Y3 := Aq.mk (V3_.set Y2.out); clear V3_; have H3 := Aq.mk i3; have K3 := Aq.mk (K2.out.trans (Kg.of_kf k3)); clear i3 k3)
     | (go_at_call 66; (with_reducible refine (rwithin_c lo r f R'.exB _ 2 2 rfl (by omega) (by omega) HL.out HL2.out H3.out Oi.out.exB).mono ?_); rintro e4 w4 ⟨r2,rfl,n4,i4,j4,k4⟩; have V4_ := Mov.of_kf H3.out k4; have M4 := Aq.mk (M3.out.kf H3.out k4); have R4 := Aq.mk (V4_.row R3.out not3); have Y4 := Aq.mk (V4_.set Y3.out); clear V4_; have HN := Aq.mk (Nat.le_trans K3.out.below.size n4); have H4 := Aq.mk i4; have I4 := Aq.mk j4; have K4 := Aq.mk (K3.out.trans (Kg.of_kf k4)); have HNE := Aq.mk (show r ≠ r2 from by have := H3.out.sz; omega); have HL3 := Aq.mk (show lo ≤ r2 from Nat.le_trans (H3.out.wsz HL.out) n4); clear n4 i4 j4 k4))
   refine start_ (n := 19) (S := fun w' => Below w4.heap.size w4 w') (ds := [18]) T30 (by kernel_rfl) rfl rfl (Below.refl w4.heap.size w4).drew (fun hHeld => ?_)
   have HS := Aq.mk (Below.refl w4.heap.size w4).drew
   generalize w4.drew = w5 at HS hHeld ⊢
   refine pure_ (i := 0) (N := (some 23)) (v := ?_) (a' := ?_) T37 rfl rfl (by kernel_rfl) (fun _ _ _ h => h) (Or.inl ⟨by rfl,?_⟩) ?_ ?_
   rotate_left
   ·intro w'
    go_simp
    with_reducible rfl
   rotate_left
   ·simp only [Act.put,LS_]
    rfl
   refine pure_ (i := 1) (N := (some 24)) (v := ?_) (a' := ?_) T319 rfl rfl (by kernel_rfl) (fun _ _ _ h => h) (Or.inl ⟨by rfl,?_⟩) ?_ ?_
   rotate_left
   ·intro w'
    go_simp
    with_reducible rfl
   rotate_left
   ·simp only [Act.put,LS_]
    rfl
   refine pure_ (i := 2) (N := (some 25)) (v := ?_) (a' := ?_) T326 rfl rfl (by kernel_rfl) (fun _ _ _ h => h) (Or.inl ⟨by rfl,?_⟩) ?_ ?_
   rotate_left
   ·intro w'
    go_simp
    with_reducible rfl
   rotate_left
   ·simp only [Act.put,LS_]
    rfl
   refine take_ (i := 3) (N := (some 26)) (v := ?_) (a' := ?_) T331 rfl rfl (by kernel_rfl) (fun _ _ _ h => h) (Or.inl ⟨by rfl,?_⟩) hHeld ?_ ?_
   rotate_left
   ·rintro w' hS
    have hq := rcell H4.out.rd hS
    obtain ⟨hc1,hc2,hc3⟩ := hq
    go_simp
    with_reducible rfl
   rotate_left
   ·simp only [Act.put,LS_]
    rfl
   refine pure_ (i := 4) (N := (some 27)) (v := ?_) (a' := ?_) T337 rfl rfl (by kernel_rfl) (fun _ _ _ h => h) (Or.inl ⟨by rfl,?_⟩) ?_ ?_
   rotate_left
   ·intro w'
    go_simp
    with_reducible rfl
   rotate_left
   ·simp only [Act.put,LS_]
    rfl
   refine pure_ (i := 5) (N := (some 28)) (v := ?_) (a' := ?_) T343 rfl rfl (by kernel_rfl) (fun _ _ _ h => h) (Or.inl ⟨by rfl,?_⟩) ?_ ?_
   rotate_left
   ·intro w'
    go_simp
    with_reducible rfl
   rotate_left
   ·simp only [Act.put,LS_]
    rfl
   refine pure_ (i := 6) (N := (some 29)) (v := ?_) (a' := ?_) T348 rfl rfl (by kernel_rfl) (fun _ _ _ h => h) (Or.inl ⟨by rfl,?_⟩) ?_ ?_
   rotate_left
   ·intro w'
    go_simp
    with_reducible rfl
   rotate_left
   ·simp only [Act.put,LS_]
    rfl
   refine take_ (i := 7) (N := (some 30)) (v := ?_) (a' := ?_) T353 rfl rfl (by kernel_rfl) (fun _ _ _ h => h) (Or.inl ⟨by rfl,?_⟩) hHeld ?_ ?_
   rotate_left
   ·rintro w' hS
    have hq := rcell H4.out.rd hS
    obtain ⟨hc1,hc2,hc3⟩ := hq
    go_simp
    with_reducible rfl
   rotate_left
   ·simp only [Act.put,LS_]
    rfl
   refine pure_ (i := 8) (N := (some 31)) (v := ?_) (a' := ?_) T357 rfl rfl (by kernel_rfl) (fun _ _ _ h => h) (Or.inl ⟨by rfl,?_⟩) ?_ ?_
   rotate_left
   ·intro w'
    go_simp
    with_reducible rfl
   rotate_left
   ·simp only [Act.put,LS_]
    rfl
   refine pure_ (i := 9) (N := (some 32)) (v := ?_) (a' := ?_) T360 rfl rfl (by kernel_rfl) (fun _ _ _ h => h) (Or.inl ⟨by rfl,?_⟩) ?_ ?_
   rotate_left
   ·intro w'
    go_simp
    with_reducible rfl
   rotate_left
   ·simp only [Act.put,LS_]
    rfl
   refine take_ (i := 10) (N := (some 33)) (v := ?_) (a' := ?_) T363 rfl rfl (by kernel_rfl) (fun _ _ _ h => h) (Or.inl ⟨by rfl,?_⟩) hHeld ?_ ?_
   rotate_left
   ·rintro w' hS
    have hc4 : w'.cell? ⟨f,1,none⟩ = some (.bool R'.t) := (blk_cell ((hS.block f (blk_lt H4.out.ft)).trans H4.out.ft) 1).trans rfl
    go_simp
    with_reducible rfl
   rotate_left
   ·simp only [Act.put,LS_]
    rfl
   refine pure_ (i := 11) (N := (some 34)) (v := ?_) (a' := ?_) T366 rfl rfl (by kernel_rfl) (fun _ _ _ h => h) (Or.inl ⟨by rfl,?_⟩) ?_ ?_
   rotate_left
   ·intro w'
    go_simp
    with_reducible rfl
   rotate_left
   ·simp only [Act.put,LS_]
    rfl
   refine pure_ (i := 12) (N := (some 35)) (v := ?_) (a' := ?_) T368 rfl rfl (by kernel_rfl) (fun _ _ _ h => h) (Or.inl ⟨by rfl,?_⟩) ?_ ?_
   rotate_left
   ·intro w'
    go_simp
    with_reducible rfl
   rotate_left
   ·simp only [Act.put,LS_]
    rfl
   refine pure_ (i := 13) (N := (some 36)) (v := ?_) (a' := ?_) T369 rfl rfl (by kernel_rfl) (fun _ _ _ h => h) (Or.inl ⟨by rfl,?_⟩) ?_ ?_
   rotate_left
   ·intro w'
    go_simp
    with_reducible rfl
   rotate_left
   ·simp only [Act.put,LS_]
    rfl
   refine take_ (i := 14) (N := (some 37)) (v := .bool (decide (R'.exK ∈ seen))) (a' := ?_) T370 rfl rfl (by kernel_rfl) (fun _ _ _ h => h) (Or.inl ⟨by rfl,?_⟩) hHeld ?_ ?_
   ·rintro w' hS
    exact Y_exec (d := Kd.int .i64) (v := vm) (k := R'.exK) (base := w.heap.size) (ok := fun _ => True) (xs := seen) rfl rfl rfl HWF.out (Kd.Y_below Y4.out hS)
   rotate_left
   ·simp only [Act.put,LS_]
    rfl
   refine pure_ (i := 15) (N := (some 38)) (v := ?_) (a' := ?_) T371 rfl rfl (by kernel_rfl) (fun _ _ _ h => h) (Or.inl ⟨by rfl,?_⟩) ?_ ?_
   rotate_left
   ·intro w'
    go_simp
    with_reducible rfl
   rotate_left
   ·simp only [Act.put,LS_]
    rfl
   refine pure_ (i := 16) (N := (some 39)) (v := ?_) (a' := ?_) T372 rfl rfl (by kernel_rfl) (fun _ _ _ h => h) (Or.inl ⟨by rfl,?_⟩) ?_ ?_
   rotate_left
   ·intro w'
    go_simp
    with_reducible rfl
   rotate_left
   ·simp only [Act.put,LS_]
    rfl
   refine pure_ (i := 17) (N := (some 40)) (v := ?_) (a' := ?_) T373 rfl rfl (by kernel_rfl) (fun _ _ _ h => h) (Or.inl ⟨by rfl,?_⟩) ?_ ?_
   rotate_left
   ·intro w'
    go_simp
    with_reducible rfl
   rotate_left
   ·simp only [Act.put,LS_]
    rfl
   refine last_ (i := 18) (N := none) T374 rfl rfl (by kernel_rfl) (by decide) (fun K hK => ?_)
   refine stM (v := .bool (decide (R'.exK ∈ seen))) (by rfl) rfl rfl rfl (H4.out.below HS.out).ft sz4 rfl rfl rfl (by simp) ?_
   intro w7 h7 b7 k7
   have kf7 := (Kf.of_below (r := r) (f := f) (H4.out.wsz HL.out) HS.out).trans (Kf.of_keep (r := r) (.inr rfl) (b7 _ HL.out) k7)
   have HT7 : R'.exT seen = (decide (R'.exK ∈ seen)) := by unfold Rp.exT; rw [ht]; exact Bool.false_or _
   have H7 := Aq.mk (show RS w7 r f (R'.exP seen) from ⟨(k7.2 r (blk_lt (H4.out.below HS.out).rd) H4.out.ne (by simp)).trans (H4.out.below HS.out).rd,by show w7.heap[f]? = some (.cells #[.int .i64 (R'.exB.outR 2).c,.bool (R'.exT seen)] 90 (0,0)); rw [HT7]; exact h7⟩)
   have I7 := Aq.mk (show RS w7 r2 f (R'.exI seen) from ⟨(k7.2 r2 (blk_lt (I4.out.below HS.out).rd) I4.out.ne (by simp)).trans (I4.out.below HS.out).rd,H7.out.ft⟩)
   have V7 := Mov.of_kf H4.out kf7
   have M7 := Aq.mk (M4.out.kf H4.out kf7)
   have R7 := Aq.mk (V7.row R4.out not3)
   have Y7 := Aq.mk (V7.set Y4.out)
   have K7 := Aq.mk (K4.out.trans (Kg.of_kf kf7))
   clear h7 b7 k7 kf7 HT7 V7
   refine hK.out _ _ ?_
   clear hK K
   refine done_ (by kernel_rfl) ?_
   by_cases hx : (exX take R' seen m').1 = true
   ·have HX := Aq.mk hx
    unfold exX at hx
    go_wp2_with (first
      | (at_mapUpdate; refine Kd.Y_put (Kd.int .i64) (w0 := w7) w.heap.size 3 rfl 68 _ _ _ rfl Try.underlying68 Try.underlying3 Try.underlying4 vm seen R'.exK (ok := fun _ => True) rfl rfl rfl HWF.out (by have := Bi.out.2.1; simp only [maxLen]; omega) Y7.out (Below.refl _ _) K7.out.below.size ?_; intro w8 ho8 hb8 hm8; have M8 := Aq.mk (M7.out.map hm8); have R8 := Aq.mk (Kd.R_map R7.out hm8); have Y8 := Aq.mk ho8; have H8 := Aq.mk (show RS w8 r f (R'.exP seen) from H7.out.map hm8); have I8 := Aq.mk (show RS w8 r2 f (R'.exI seen) from I7.out.map hm8); have K8 := Aq.mk (K7.out.over hb8 HLW.out (Nat.le_refl _)); clear ho8 hb8 hm8)
      | ((refine (HT.out.calls (fun j => some j ≠ u6.ownBlock) R'.exK m' (R'.exP seen) (R'.exI seen) r2 _ K8.out HN.out H8.out I8.out (Oi.out.exI seen) M8.out (R_lt R8.out)).mono ?_); rintro e9 w9 ⟨rfl,i9,m9,j9,k9⟩; have V_ := Mov.of_kh H8.out I8.out M8.out k9; have M9 := Aq.mk m9; have R9 := Aq.mk (V_.row R8.out not3'); have Y9 := Aq.mk (V_.set Y8.out); have I9 := Aq.mk i9; have H9 := Aq.mk (show RS w9 r f (exQ take lastf R' seen m') from j9); have K9 := Aq.mk (Kh.inner K8.out HN.out k9); clear i9 m9 j9 k9 V_)
      | (go_at_call 77; (with_reducible refine (done_c lo r2 f (exX take R' seen m').2.2 _ HL.out I9.out).mono ?_); rintro e10 w10 ⟨rfl,i10,k10⟩; have V10_ := Mov.of_kf I9.out k10; have M10 := Aq.mk (M9.out.kf I9.out k10); have R10 := Aq.mk (V10_.row R9.out not3); have Y10 := Aq.mk (V10_.set Y9.out); clear V10_; have H10 := Aq.mk (show RS w10 r f ((exQ take lastf R' seen m').back (exX take R' seen m').2.2.done) from H9.out.back (I := R') HNE.out k10 i10); have K10 := Aq.mk (Kg.inner K9.out HN.out (Kg.of_kf k10)); clear i10 k10))
    go_roundg gk'
    case rel => exact ⟨xs,(exX take R' seen m').2.1,exN take lastf R' seen m',seen ++ [R'.exK],⟨by unfold exN; rw [if_pos HX.out]; exact H10.out⟩,O3,M10,R10,Y10,K10,⟨B3.out.1,B3.out.2.1,by have := B3.out.2.2; omega⟩,⟨by rw [← E3.out.1]; unfold exO; rw [if_pos HX.out]; simp,E3.out.2⟩⟩
    case measure => omega
   ·replace hx : (exX take R' seen m').1 = false := by simpa using hx
    have HX := Aq.mk hx
    by_cases hc : (exQ take lastf R' seen m').c = 0
    ·have hc' : ((exQ take lastf R' seen m').c == 0) = true := beq_iff_eq.mpr hc
     have HC := Aq.mk hc
     clear hc
     unfold exX at hx
     go_wp2_with (first
       | (at_mapUpdate; refine Kd.Y_put (Kd.int .i64) (w0 := w7) w.heap.size 3 rfl 68 _ _ _ rfl Try.underlying68 Try.underlying3 Try.underlying4 vm seen R'.exK (ok := fun _ => True) rfl rfl rfl HWF.out (by have := Bi.out.2.1; simp only [maxLen]; omega) Y7.out (Below.refl _ _) K7.out.below.size ?_; intro w8 ho8 hb8 hm8; have M8 := Aq.mk (M7.out.map hm8); have R8 := Aq.mk (Kd.R_map R7.out hm8); have Y8 := Aq.mk ho8; have H8 := Aq.mk (show RS w8 r f (R'.exP seen) from H7.out.map hm8); have I8 := Aq.mk (show RS w8 r2 f (R'.exI seen) from I7.out.map hm8); have K8 := Aq.mk (K7.out.over hb8 HLW.out (Nat.le_refl _)); clear ho8 hb8 hm8)
       | ((refine (HT.out.calls (fun j => some j ≠ u6.ownBlock) R'.exK m' (R'.exP seen) (R'.exI seen) r2 _ K8.out HN.out H8.out I8.out (Oi.out.exI seen) M8.out (R_lt R8.out)).mono ?_); rintro e9 w9 ⟨rfl,i9,m9,j9,k9⟩; have V_ := Mov.of_kh H8.out I8.out M8.out k9; have M9 := Aq.mk m9; have R9 := Aq.mk (V_.row R8.out not3'); have Y9 := Aq.mk (V_.set Y8.out); have I9 := Aq.mk i9; have H9 := Aq.mk (show RS w9 r f (exQ take lastf R' seen m') from j9); have K9 := Aq.mk (Kh.inner K8.out HN.out k9); clear i9 m9 j9 k9 V_)
       | (go_at_call 51; (with_reducible refine (ok_c r f (exQ take lastf R' seen m') _ H9.out).mono ?_); rintro e10 w10 ⟨rfl,rfl⟩)
       | ((with_reducible refine gate_builtin (b := .append) (xs := #[.tmp 51,.tmp 53]) rfl ?_); at_builtin; refine Kd.R_append (Kd.int .i64) (w0 := w10) w.heap.size rfl (.tmp 51) (.tmp 53) 44 3 (.int .i64 0) 8 rfl Try.underlying44 info3 rfl (by decide) (by omega) u6 xs R'.exK [.int .i64 R'.exK] (fun _ => True) (fun _ => False) rfl rfl rfl (fun _ hk => hk.elim) (fun _ _ => trivial) R9.out (Below.refl _ _) K9.out.below.size (len_bd Bi.out.2.2 (mu_pos Oi.out.lo HMo.out) (by omega)) ?_; intro v11 w11 ho11 hb11 hg11 hat11; have M11 := Aq.mk (M9.out.app R9.out hg11 hat11); have R11 := Aq.mk ho11; have Y11 := Aq.mk (Y_app Y9.out R9.out hg11); have H11 := Aq.mk (show RS w11 r f (exQ take lastf R' seen m') from H9.out.app R9.out hg11); have K11 := Aq.mk (K9.out.over hb11 HLW.out (Nat.le_refl _)); clear ho11 hb11 hg11 hat11))
     go_roundg gk'
     case rel => exact ⟨xs ++ [R'.exK],(exX take R' seen m').2.1,exN take lastf R' seen m',seen ++ [R'.exK],⟨by unfold exN; rw [if_neg (by rw [HX.out]; decide)]; exact H11.out⟩,O3,M11,R11,Y11,K11,⟨B3.out.1,B3.out.2.1,by have := B3.out.2.2; rw [List.length_append,List.length_singleton]; omega⟩,⟨by rw [← E3.out.1]; unfold exO; rw [if_neg (by rw [HX.out]; decide),if_pos HC.out]; simp,E3.out.2⟩⟩
     case measure => omega
    ·have hc' : ((exQ take lastf R' seen m').c == 0) = false := beq_eq_false_iff_ne.mpr hc
     have HC := Aq.mk hc
     clear hc
     unfold exX at hx
     go_wp2_with (first
       | (at_mapUpdate; refine Kd.Y_put (Kd.int .i64) (w0 := w7) w.heap.size 3 rfl 68 _ _ _ rfl Try.underlying68 Try.underlying3 Try.underlying4 vm seen R'.exK (ok := fun _ => True) rfl rfl rfl HWF.out (by have := Bi.out.2.1; simp only [maxLen]; omega) Y7.out (Below.refl _ _) K7.out.below.size ?_; intro w8 ho8 hb8 hm8; have M8 := Aq.mk (M7.out.map hm8); have R8 := Aq.mk (Kd.R_map R7.out hm8); have Y8 := Aq.mk ho8; have H8 := Aq.mk (show RS w8 r f (R'.exP seen) from H7.out.map hm8); have I8 := Aq.mk (show RS w8 r2 f (R'.exI seen) from I7.out.map hm8); have K8 := Aq.mk (K7.out.over hb8 HLW.out (Nat.le_refl _)); clear ho8 hb8 hm8)
       | ((refine (HT.out.calls (fun j => some j ≠ u6.ownBlock) R'.exK m' (R'.exP seen) (R'.exI seen) r2 _ K8.out HN.out H8.out I8.out (Oi.out.exI seen) M8.out (R_lt R8.out)).mono ?_); rintro e9 w9 ⟨rfl,i9,m9,j9,k9⟩; have V_ := Mov.of_kh H8.out I8.out M8.out k9; have M9 := Aq.mk m9; have R9 := Aq.mk (V_.row R8.out not3'); have Y9 := Aq.mk (V_.set Y8.out); have I9 := Aq.mk i9; have H9 := Aq.mk (show RS w9 r f (exQ take lastf R' seen m') from j9); have K9 := Aq.mk (Kh.inner K8.out HN.out k9); clear i9 m9 j9 k9 V_)
       | (go_at_call 51; (with_reducible refine (ok_c r f (exQ take lastf R' seen m') _ H9.out).mono ?_); rintro e10 w10 ⟨rfl,rfl⟩))
     go_roundg gk'
     case rel => exact ⟨xs,(exX take R' seen m').2.1,exN take lastf R' seen m',seen ++ [R'.exK],⟨by unfold exN; rw [if_neg (by rw [HX.out]; decide)]; exact H9.out⟩,O3,M9,R9,Y9,K9,⟨B3.out.1,B3.out.2.1,by have := B3.out.2.2; omega⟩,⟨by rw [← E3.out.1]; unfold exO; rw [if_neg (by rw [HX.out]; decide),if_neg HC.out]; simp,E3.out.2⟩⟩
     case measure => omega
 ·have hmf : R'.more = false := by simpa using hm
  have E1 := Aq.mk (show xs = F.1 ∧ m' = F.2.1 ∧ R' = F.2.2 from by
   have h0 := Ei.out
   have h2 : exts take lastf gk seen m' R' = ([],m',R') := by
    cases gk with
    | zero => rfl
    | succ n => unfold exts; rw [if_neg hm]
   rw [h2] at h0
   exact ⟨by simpa using h0.1,congrArg Prod.fst h0.2,congrArg Prod.snd h0.2⟩)
  clear hm
  go_wp2_with (first
  | (go_at_call 99; (with_reducible refine (more_c r f R' _ Hi.out).mono ?_); rintro e1 w1 ⟨rfl,b1⟩; have V_ := Mov.of_below b1 []; have H1 := Aq.mk (show RS w1 r f R' from Hi.out.below b1); have M1 := Aq.mk (Mi.out.below b1); have R1 := Aq.mk (V_.row Ri.out not3''); have Y1 := Aq.mk (V_.set Yi.out); have K1 := Aq.mk (Ki.out.over (b1.mono HBi.out) HLW.out (Nat.le_refl _)); clear b1 V_))
  go_ret
  exact ⟨u6,rfl,by rw [← E1.out.1]; exact Kd.R_lower R1.out (Nat.zero_le _),by rw [← E1.out.2.1]; exact M1.out.weaken (fun _ _ => trivial),by rw [← E1.out.2.2]; exact H1.out,K1.out⟩
section
variable {ops : Array Oper} {rest : List Oper} {o : Oper} {a : Act} {Q : Exit → Act → World → Prop} {w : World}
theorem boxP {t : TypeId} (hgd : o.guard = none) {x : Operand} (ho : o.op = .box t x) {q : Option Addr} (hx : a.eval x = .pointer q)
  (H : ∀ g,g = w.heap.size → ∀ w1,w1.heap[g]? = some (.cells #[.pointer q] t (0,0)) → Below w.heap.size w w1 → wpList Try.prog ops Q rest (a.put o.dst (.pointer (some ⟨g,0,none⟩))) w1) : wpList Try.prog ops Q (o :: rest) a w := by
 refine Kd.event_run hgd ?_ (H _ rfl _ (blk_new w _) (below_alloc (Below.refl _ _) _))
 unfold execOp
 simp only [ho,hx]
 rfl
theorem zero87 : (Try.prog.info? 87).map (·.zero) = some (some (.pointer none)) := by kernel_rfl
theorem allocP {t : TypeId} (hz : (Try.prog.info? t).map (·.zero) = some (some (.pointer none))) (hgd : o.guard = none) (ho : o.op = .alloc t)
  (H : ∀ g,g = w.heap.size → ∀ w1,w1.heap[g]? = some (.cells #[.pointer none] t (0,0)) → Below w.heap.size w w1 → wpList Try.prog ops Q rest (a.put o.dst (.pointer (some ⟨g,0,none⟩))) w1) : wpList Try.prog ops Q (o :: rest) a w := by
 refine Kd.event_run hgd ?_ (H _ rfl _ (blk_new w (.cells #[.pointer none] t)) (below_alloc (Below.refl _ _) _))
 obtain ⟨i0,hi,hz⟩ := Option.map_eq_some_iff.1 hz
 unfold execOp
 simp only [ho,Instr.alloc,zeroValue,typeInfo,Sem.run_bind]
 simp [hi,hz]
 rfl
theorem sz87 : (Try.prog.info? 87).map (·.size) = some 1 := by kernel_rfl
end
def Rp.ceR (R : Rp) : Rp := (R.vecR 1 0 255).allow ((R.vecV 1 0 255).toList.isEmpty)
def Rp.ceV (R : Rp) : List ByteArray := allV oneCer (R.ceR.inR 3)
def Rp.ceN (R : Rp) : Rp := (R.ceR.outR 3).back (allR oneCer (R.ceR.inR 3))
theorem Rp.Ok.ceR {R : Rp} (h : R.Ok) : R.ceR.Ok := (h.vecR _ _ _).allow _
theorem Rp.Ok.ceN {R : Rp} (h : R.Ok) : R.ceN.Ok := (h.ceR.outR 3).back _
set_option maxRecDepth 100000 in
set_option maxHeartbeats 8000000 in
theorem certificate_c (lo r f gm : Nat) (R : Rp) (m : Mv) (w : World) (hl : lo ≤ f) (hl2 : lo ≤ r) (hg : lo ≤ gm) (h : RS w r f R) (ho : R.Ok) (hm : MO (fun _ => True) w gm m) :
  Calls Try.prog 69 #[.pointer (some ⟨r,0,none⟩),.pointer (some ⟨gm,0,none⟩)] w fun ex w' => ex = .returned (.tuple #[]) ∧ RS w' r f R.ceN ∧ MO (fun _ => True) w' gm { m with f14 := R.ceV } ∧ Kg lo r f gm w w' := by
 have H := Aq.mk h
 have HL := Aq.mk hl
 have HL2 := Aq.mk hl2
 have HG := Aq.mk hg
 have HO := Aq.mk ho
 have HWL := Aq.mk (h.wsz hl)
 have M := Aq.mk hm
 have K := Aq.mk (Kg.of_kf (g := gm) (Kf.refl lo r f w))
 clear h hl hl2 hg ho hm
 go_enter Try.func69,Try.ntmps69
 go_wp2_with (first
  | (go_at_call 71; (with_reducible refine (rvec_c lo r f R _ 1 1 rfl 0 255 (by omega) (by omega) HL.out HL2.out H.out HO.out).mono ?_); rintro e1 w1 ⟨rfl,i1,k1⟩; have M1 := Aq.mk (M.out.kf H.out k1); have H1 := Aq.mk i1; have K1 := Aq.mk (K.out.trans (Kg.of_kf k1)); clear i1 k1)
  | (go_at_call 76; (with_reducible refine (allow_c lo r f (R.vecR 1 0 255) _ ((R.vecV 1 0 255).toList.isEmpty) HL.out H1.out).mono ?_); rintro e2 w2 ⟨rfl,i2,k2⟩; have M2 := Aq.mk (M1.out.kf H1.out k2); have H2 := Aq.mk (show RS w2 r f R.ceR from i2); have K2 := Aq.mk (K1.out.trans (Kg.of_kf k2)); clear i2 k2)
  | (go_at_call 66; (with_reducible refine (rwithin_c lo r f R.ceR _ 3 3 rfl (by omega) (by omega) HL.out HL2.out H2.out HO.out.ceR).mono ?_); rintro e3 w3 ⟨r2,rfl,n1,i1,j1,k1⟩; have HN := Aq.mk n1; have HP := Aq.mk i1; have HI := Aq.mk j1; have M3 := Aq.mk (M2.out.kf H2.out k1); have KI := Aq.mk k1; have HL3 := Aq.mk (show lo ≤ r2 from Nat.le_trans (H2.out.wsz HL.out) n1); have HNE := Aq.mk (show r ≠ r2 from by have := H2.out.sz; omega); clear n1 i1 j1 k1)
  | (go_at_call 100; (refine (all_str oneCert lo r2 f (R.ceR.inR 3) _ HL.out HL3.out HI.out (HO.out.ceR.inR 3)).mono ?_); rintro e4 w4 ⟨v4,rfl,r4,i4,k4⟩; obtain ⟨A4,c4,rfl⟩ := Kd.R_slice r4; have R4 := Aq.mk (Kd.R_lower r4 (Nat.zero_le _)); have M4 := Aq.mk (M3.out.kf HI.out k4); have H4 := Aq.mk (show RS w4 r f R.ceN from HP.out.back (I := R) HNE.out k4 i4); have K4 := Aq.mk (K2.out.trans (Kg.of_kf (KI.out.inner HN.out k4))); clear i4 k4 r4)
  | ((with_reducible refine gate_store (p := 16) rfl ?_); obtain ⟨hd_,hm_⟩ := M4.out; refine st (v := .slice A4 (allV oneCer (R.ceR.inR 3)).length c4) rfl rfl rfl hm_.box sz47' rfl rfl rfl (by rw [cells_size]; omega) ?_; intro w5 h3_ b3_ k3_; have M5 := Aq.mk (hm_.s14 R4.out h3_ k3_); have H5 := Aq.mk (H4.out.store hm_ k3_); have K5 := Aq.mk (K4.out.trans (Kg.of_store (b3_ _ HG.out) k3_)); clear h3_ b3_ k3_ hm_))
 first | go_end0 | ((try simp only [Exit.inBlock,Exit.then]); refine bodyPost_ret (results_none rfl _ _ _) rfl ?_)
 exact ⟨rfl,H5.out,M5.out,K5.out⟩
def Rp.ti1 (R : Rp) : Rp := R.numR 4
def Rp.ti2 (R : Rp) : Rp := R.ti1.numR 4
def Rp.ti3 (R : Rp) : Rp := R.ti2.vecR 1 0 255
def Rp.ti4 (R : Rp) : Rp := R.ti3.vecR 2 1 65536
def Rp.tiM (R : Rp) (m : Mv) : Mv := { m with f17 := R.numV 4,f18 := R.ti1.numV 4,f19 := R.ti2.vecV 1 0 255,f16 := R.ti3.vecV 2 1 65536 }
theorem Rp.Ok.ti1 {R : Rp} (h : R.Ok) : R.ti1.Ok := h.numR 4
theorem Rp.Ok.ti2 {R : Rp} (h : R.Ok) : R.ti2.Ok := h.ti1.numR 4
theorem Rp.Ok.ti3 {R : Rp} (h : R.Ok) : R.ti3.Ok := h.ti2.vecR _ _ _
theorem Rp.Ok.ti4 {R : Rp} (h : R.Ok) : R.ti4.Ok := h.ti3.vecR _ _ _
set_option maxRecDepth 100000 in
set_option maxHeartbeats 8000000 in
theorem ticket_c (lo r f gm : Nat) (R : Rp) (m : Mv) (w : World) (hl : lo ≤ f) (hl2 : lo ≤ r) (hg : lo ≤ gm) (h : RS w r f R) (ho : R.Ok) (hm : MO (fun _ => True) w gm m) :
  Calls Try.prog 74 #[.pointer (some ⟨r,0,none⟩),.pointer (some ⟨gm,0,none⟩)] w fun ex w' => ex = .returned (.tuple #[]) ∧ RS w' r f R.ti4.barR ∧ MO (fun _ => True) w' gm (R.tiM m) ∧ Kg lo r f gm w w' := by
 have H := Aq.mk h
 have HL := Aq.mk hl
 have HL2 := Aq.mk hl2
 have HG := Aq.mk hg
 have HO := Aq.mk ho
 have HWL := Aq.mk (h.wsz hl)
 have M := Aq.mk hm
 have K := Aq.mk (Kg.of_kf (g := gm) (Kf.refl lo r f w))
 clear h hl hl2 hg ho hm
 go_enter Try.func74,Try.ntmps74
 go_wp2_with (first
  | (go_at_call 104; first | ((with_reducible refine (u32_c lo r f R _ HL.out HL2.out H.out HO.out).mono ?_); rintro e1 w1 ⟨rfl,i1,k1⟩; have M1 := Aq.mk (M.out.kf H.out k1); have H1 := Aq.mk i1; have K1 := Aq.mk (K.out.trans (Kg.of_kf k1)); clear i1 k1; clear H) | ((with_reducible refine (u32_c lo r f R.ti1 _ HL.out HL2.out H1.out HO.out.ti1).mono ?_); rintro e2 w2 ⟨rfl,i1,k1⟩; have M2 := Aq.mk (M1.out.kf H1.out k1); have H2 := Aq.mk i1; have K2 := Aq.mk (K1.out.trans (Kg.of_kf k1)); clear i1 k1))
  | ((with_reducible refine gate_store (p := 11) rfl ?_); obtain ⟨hd_,hm_⟩ := M2.out; refine st (v := .int .i64 (R.numV 4)) rfl rfl rfl hm_.box sz3' rfl rfl rfl (by rw [cells_size]; omega) ?_; intro w3 h3_ b3_ k3_; have M3 := Aq.mk (hm_.s17 _ h3_ k3_); have H3 := Aq.mk (H2.out.store hm_ k3_); have K3 := Aq.mk (K2.out.trans (Kg.of_store (b3_ _ HG.out) k3_)); clear h3_ b3_ k3_ hm_)
  | ((with_reducible refine gate_store (p := 13) rfl ?_); obtain ⟨hd_,hm_⟩ := M3.out; refine st (v := .int .i64 (R.ti1.numV 4)) rfl rfl rfl hm_.box sz3' rfl rfl rfl (by rw [cells_size]; omega) ?_; intro w4 h3_ b3_ k3_; have M4 := Aq.mk (hm_.s18 _ h3_ k3_); have H4 := Aq.mk (H3.out.store hm_ k3_); have K4 := Aq.mk (K3.out.trans (Kg.of_store (b3_ _ HG.out) k3_)); clear h3_ b3_ k3_ hm_)
  | (go_at_call 71; first | ((with_reducible refine (rvec_c lo r f R.ti2 _ 1 1 rfl 0 255 (by omega) (by omega) HL.out HL2.out H4.out HO.out.ti2).mono ?_); rintro e5 w5 ⟨rfl,i1,k1⟩; have M5 := Aq.mk (M4.out.kf H4.out k1); have H5 := Aq.mk i1; have K5 := Aq.mk (K4.out.trans (Kg.of_kf k1)); clear i1 k1) | ((with_reducible refine (rvec_c lo r f R.ti3 _ 2 2 rfl 1 65536 (by omega) (by omega) HL.out HL2.out H6.out HO.out.ti3).mono ?_); rintro e7 w7 ⟨rfl,i1,k1⟩; have M7 := Aq.mk (M6.out.kf H6.out k1); have H7 := Aq.mk i1; have K7 := Aq.mk (K6.out.trans (Kg.of_kf k1)); clear i1 k1))
  | ((with_reducible refine gate_store (p := 18) rfl ?_); obtain ⟨hd_,hm_⟩ := M5.out; refine st (v := .string (R.ti2.vecV 1 0 255)) rfl rfl rfl hm_.box sz9 rfl rfl rfl (by rw [cells_size]; omega) ?_; intro w6 h3_ b3_ k3_; have M6 := Aq.mk (hm_.s19 _ h3_ k3_); have H6 := Aq.mk (H5.out.store hm_ k3_); have K6 := Aq.mk (K5.out.trans (Kg.of_store (b3_ _ HG.out) k3_)); clear h3_ b3_ k3_ hm_)
  | ((with_reducible refine gate_store (p := 23) rfl ?_); obtain ⟨hd_,hm_⟩ := M7.out; refine st (v := .string (R.ti3.vecV 2 1 65536)) rfl rfl rfl hm_.box sz9 rfl rfl rfl (by rw [cells_size]; omega) ?_; intro w8 h3_ b3_ k3_; have M8 := Aq.mk (hm_.s16 _ h3_ k3_); have H8 := Aq.mk (H7.out.store hm_ k3_); have K8 := Aq.mk (K7.out.trans (Kg.of_store (b3_ _ HG.out) k3_)); clear h3_ b3_ k3_ hm_)
  | (go_at_call 102; (with_reducible refine (bare_c lo r f R.ti4 _ HL.out HL2.out H8.out HO.out.ti4).mono ?_); rintro e9 w9 ⟨rfl,i1,k1⟩; have M9 := Aq.mk (M8.out.kf H8.out k1); have H9 := Aq.mk i1; have K9 := Aq.mk (K8.out.trans (Kg.of_kf k1)); clear i1 k1))
 first | go_end0 | ((try simp only [Exit.inBlock,Exit.then]); refine bodyPost_ret (results_none rfl _ _ _) rfl ?_)
 exact ⟨rfl,H9.out,M9.out,K9.out⟩
theorem MO.other {ok : Nat → Prop} {w w1 : World} {gm g : Nat} {m : Mv} {cs : Array Value} {t : TypeId} (a : MO ok w gm m) (hb : w.heap[g]? = some (.cells cs t (0,0))) (h0 : t ≠ 49) (h3 : 3 ≠ t) (h9 : 9 ≠ t) (h66 : 66 ≠ t) (h111 : 111 ≠ t) (k : KeepBut w w1 g none) : MO ok w1 gm m := by
 obtain ⟨hd,a⟩ := a
 have hm : ∀ (j : Nat) (cs : Array Value) (t' : TypeId),w.heap[j]? = some (.cells cs t' (0,0)) → t' ∉ [t] → w1.heap[j]? = some (.cells cs t' (0,0)) := fun j cs t' hj ht => (k.2 j (blk_lt hj) (blk_ne hj hb (by intro e; exact ht (by simp [e]))) (by simp)).trans hj
 exact ⟨hd,a.move ((k.2 gm (blk_lt a.box) (blk_ne a.box hb (by intro e; exact h0 e.symm)) (by simp)).trans a.box) _ hm (by simpa using h3) (by simpa using h9) (by simpa using h66) (by simpa using h111)⟩
def Rp.h1 (R : Rp) : Rp := R.verR
def Rp.h2 (R : Rp) : Rp := R.h1.bytR 32
def Rp.h3 (R : Rp) : Rp := R.h2.vecR 1 0 32
def Rp.hM (R : Rp) (m : Mv) : Mv := { m with f1 := R.h1.bytV 32,f2 := R.h2.vecV 1 0 32 }
def Rp.c4 (R : Rp) : Rp := lstR (oneNum 2) R.h3 2
def Rp.c5 (R : Rp) : Rp := R.c4.vecR 1 0 255
def Rp.c6 (R : Rp) : Rp := R.c5.allow ((R.c4.vecV 1 0 255).toList == ([0] : List UInt8))
def Rp.cM (R : Rp) (m : Mv) : Mv := { R.hM m with f3 := lstV (oneNum 2) R.h3 2 }
def Rp.cX (R : Rp) (m : Mv) : List Int × Mv × Rp := exts cli pskL (R.c6.inR 2).s.size [] (R.cM m) (R.c6.inR 2)
def Rp.chM (R : Rp) (m : Mv) : Mv := { (R.cX m).2.1 with f13 := (R.cX m).1 }
def Rp.chR (R : Rp) (m : Mv) : Rp := (R.c6.outR 2).back (R.cX m).2.2
def Rp.s4 (R : Rp) : Rp := R.h3.numR 2
def Rp.s5 (R : Rp) : Rp := R.s4.numR 1
def Rp.s6 (R : Rp) : Rp := R.s5.allow (R.s4.numV 1 == 0)
def Rp.sM (R : Rp) (m : Mv) : Mv := { R.hM m with f3 := [R.h3.numV 2] }
def Rp.sX (R : Rp) (m : Mv) : List Int × Mv × Rp := exts srv sameL (R.s6.inR 2).s.size [] (R.sM m) (R.s6.inR 2)
def Rp.shM (R : Rp) (m : Mv) : Mv := { (R.sX m).2.1 with f13 := (R.sX m).1 }
def Rp.shR (R : Rp) (m : Mv) : Rp := (R.s6.outR 2).back (R.sX m).2.2
theorem Rp.Ok.h1 {R : Rp} (h : R.Ok) : R.h1.Ok := h.verR
theorem Rp.Ok.h2 {R : Rp} (h : R.Ok) : R.h2.Ok := h.h1.bytR (by omega)
theorem Rp.Ok.h3 {R : Rp} (h : R.Ok) : R.h3.Ok := h.h2.vecR _ _ _
theorem Rp.Ok.c4 {R : Rp} (h : R.Ok) : R.c4.Ok := h.h3.lstR 2
theorem Rp.Ok.c5 {R : Rp} (h : R.Ok) : R.c5.Ok := h.c4.vecR _ _ _
theorem Rp.Ok.c6 {R : Rp} (h : R.Ok) : R.c6.Ok := h.c5.allow _
theorem Rp.Ok.chR {R : Rp} (h : R.Ok) (m : Mv) : (R.chR m).Ok := (h.c6.outR 2).back _
theorem Rp.Ok.s4 {R : Rp} (h : R.Ok) : R.s4.Ok := h.h3.numR _
theorem Rp.Ok.s5 {R : Rp} (h : R.Ok) : R.s5.Ok := h.s4.numR _
theorem Rp.Ok.s6 {R : Rp} (h : R.Ok) : R.s6.Ok := h.s5.allow _
theorem Rp.Ok.shR {R : Rp} (h : R.Ok) (m : Mv) : (R.shR m).Ok := (h.s6.outR 2).back _
set_option maxRecDepth 100000 in
set_option maxHeartbeats 8000000 in
theorem clientHello_c (lo r f gm : Nat) (R : Rp) (m : Mv) (w : World) (hl : lo ≤ f) (hl2 : lo ≤ r) (hg : lo ≤ gm) (h : RS w r f R) (ho : R.Ok) (hm : MO (fun _ => True) w gm m) :
  Calls Try.prog 64 #[.pointer (some ⟨r,0,none⟩),.pointer (some ⟨gm,0,none⟩)] w fun ex w' => ex = .returned (.tuple #[]) ∧ RS w' r f (R.chR m) ∧ MO (fun _ => True) w' gm (R.chM m) ∧ Kg lo r f gm w w' := by
 have H := Aq.mk h
 have HL := Aq.mk hl
 have HL2 := Aq.mk hl2
 have HG := Aq.mk hg
 have HO := Aq.mk ho
 have HWL := Aq.mk (h.wsz hl)
 have M := Aq.mk hm
 have K := Aq.mk (Kg.of_kf (g := gm) (Kf.refl lo r f w))
 clear h hl hl2 hg ho hm
 go_enter Try.func64,Try.ntmps64
 go_wp2_with (first
  | ((with_reducible refine gate_dst (N := 3) rfl ?_); refine boxP rfl rfl rfl ?_; intro gb eb w0 h0_ b0_; have X0 := Aq.mk h0_; have H0 := Aq.mk (show RS w0 r f R from H.out.below b0_); have M0 := Aq.mk (M.out.below b0_); have K0 := Aq.mk (K.out.trans (Kg.of_kf (Kf.of_below (r := r) (f := f) HWL.out b0_))); clear h0_ b0_ eb)
  | (go_at_call 93; (with_reducible refine (version_c lo r f R _ HL.out HL2.out H0.out HO.out).mono ?_); rintro e1 w1 ⟨rfl,i1,k1⟩; have X1 := Aq.mk (k1.keep gb _ X0.out (blk_ne X0.out H0.out.rd (by decide)) (blk_ne X0.out H0.out.ft (by decide))); have M1 := Aq.mk (M0.out.kf H0.out k1); have H1 := Aq.mk (show RS w1 r f R.h1 from i1); have K1 := Aq.mk (K0.out.trans (Kg.of_kf k1)); clear i1 k1))
 refine start_ (n := 6) (S := fun w' => w'.heap[gb]? = some (.cells #[.pointer (some ⟨gm,0,none⟩)] 85 (0,0))) (ds := [5]) T36 (by kernel_rfl) rfl rfl (((Below.refl w1.heap.size w1).drew.block gb (blk_lt X1.out)).trans X1.out) (fun hHeld => ?_)
 have HS1 := Aq.mk (Below.refl w1.heap.size w1).drew
 generalize w1.drew = w1d at HS1 hHeld ⊢
 have XD1 := Aq.mk hHeld
 have HD1 := Aq.mk (H1.out.below HS1.out)
 have MD1 := Aq.mk (M1.out.below HS1.out)
 have KD1 := Aq.mk (K1.out.trans (Kg.of_kf (Kf.of_below (r := r) (f := f) (H1.out.wsz HL.out) HS1.out)))
 refine take_ (i := 0) (N := (some 8)) (v := ?_) (a' := ?_) T313 rfl rfl (by kernel_rfl) (fun _ _ _ h => h) (Or.inl ⟨by rfl,?_⟩) hHeld ?_ ?_
 rotate_left
 ·rintro w' hS
  have hc : w'.cell? ⟨gb,0,none⟩ = some (.pointer (some ⟨gm,0,none⟩)) := (blk_cell hS 0).trans rfl
  go_simp
  with_reducible rfl
 rotate_left
 ·simp only [Act.put,LS_]
  rfl
 refine pure_ (i := 1) (N := (some 9)) (v := ?_) (a' := ?_) T324 rfl rfl (by kernel_rfl) (fun _ _ _ h => h) (Or.inl ⟨by rfl,?_⟩) ?_ ?_
 rotate_left
 ·intro w'
  go_simp
  with_reducible rfl
 rotate_left
 ·simp only [Act.put,LS_]
  rfl
 refine one_ (i := 2) (N := (some 10)) #[true,true,true,false,false,false] rfl rfl (by kernel_rfl) (by decide) (fun K hK => ?_)
 refine goes_ (f := 73) Try.func73 (by kernel_rfl) rfl #[.pointer (some ⟨r,0,none⟩),.int .i64 32] (by rfl) rfl rfl (by (try simp only [List.map_toArray,List.map_cons,List.map_nil]); first | done | rfl) ?_
 refine (bytes_c lo r f R.h1 _ 32 (by omega) (by omega) HL.out HL2.out HD1.out HO.out.h1).mono ?_
 rintro e w1c ⟨rfl,i_,k_⟩
 refine ⟨_,rfl,?_⟩
 have XC1 := Aq.mk (k_.keep gb _ XD1.out (blk_ne XD1.out HD1.out.rd (by decide)) (blk_ne XD1.out HD1.out.ft (by decide)))
 have MC1 := Aq.mk (MD1.out.kf HD1.out k_)
 have HC1 := Aq.mk (show RS w1c r f R.h2 from i_)
 have KC1 := Aq.mk (KD1.out.trans (Kg.of_kf k_))
 clear i_ k_
 refine hK.out _ _ (XC1.out) (fun hHeld => ?_)
 clear hK K
 refine norm_ (a' := ?_) ?_ ?_
 rotate_left
 ·show Act.put _ (some 10) _ = _
  simp only [Act.put,LS_]
  rfl
 refine pure_ (i := 3) (N := (some 11)) (v := ?_) (a' := ?_) #[true,true,true,true,false,false] rfl rfl (by kernel_rfl) (fun _ _ _ h => h) (Or.inl ⟨by rfl,?_⟩) ?_ ?_
 rotate_left
 ·intro w'
  go_simp
  with_reducible rfl
 rotate_left
 ·simp only [Act.put,LS_]
  rfl
 refine pure_ (i := 4) (N := (some 12)) (v := ?_) (a' := ?_) #[true,true,true,true,true,false] rfl rfl (by kernel_rfl) (fun _ _ _ h => h) (Or.inl ⟨by rfl,?_⟩) ?_ ?_
 rotate_left
 ·intro w'
  go_simp
  with_reducible rfl
 rotate_left
 ·simp only [Act.put,LS_]
  rfl
 refine last_ (i := 5) (N := none) #[true,true,true,true,true,true] rfl rfl (by kernel_rfl) (by decide) (fun K hK => ?_)
 obtain ⟨hd_,hm_⟩ := MC1.out
 refine stM (v := .string (R.h1.bytV 32)) (by rfl) rfl rfl rfl hm_.box sz9 rfl rfl rfl (by rw [cells_size]; omega) ?_
 intro w2 h3_ b3_ k3_
 have X2 := Aq.mk ((k3_.2 gb (blk_lt XC1.out) (blk_ne XC1.out hm_.box (by decide)) (by simp)).trans XC1.out)
 have M2 := Aq.mk (hm_.s1 _ h3_ k3_)
 have H2 := Aq.mk (show RS w2 r f R.h2 from HC1.out.store hm_ k3_)
 have K2 := Aq.mk (KC1.out.trans (Kg.of_store (b3_ _ HG.out) k3_))
 clear h3_ b3_ k3_ hm_
 refine hK.out _ _ ?_
 clear hK K
 refine done_ (by kernel_rfl) ?_
 go_wp2
 refine start_ (n := 6) (S := fun w' => w'.heap[gb]? = some (.cells #[.pointer (some ⟨gm,0,none⟩)] 85 (0,0))) (ds := [5]) T36 (by kernel_rfl) rfl rfl (((Below.refl w2.heap.size w2).drew.block gb (blk_lt X2.out)).trans X2.out) (fun hHeld => ?_)
 have HS2 := Aq.mk (Below.refl w2.heap.size w2).drew
 generalize w2.drew = w2d at HS2 hHeld ⊢
 have XD2 := Aq.mk hHeld
 have HD2 := Aq.mk (H2.out.below HS2.out)
 have MD2 := Aq.mk (M2.out.below HS2.out)
 have KD2 := Aq.mk (K2.out.trans (Kg.of_kf (Kf.of_below (r := r) (f := f) (H2.out.wsz HL.out) HS2.out)))
 refine take_ (i := 0) (N := (some 13)) (v := ?_) (a' := ?_) T313 rfl rfl (by kernel_rfl) (fun _ _ _ h => h) (Or.inl ⟨by rfl,?_⟩) hHeld ?_ ?_
 rotate_left
 ·rintro w' hS
  have hc : w'.cell? ⟨gb,0,none⟩ = some (.pointer (some ⟨gm,0,none⟩)) := (blk_cell hS 0).trans rfl
  go_simp
  with_reducible rfl
 rotate_left
 ·simp only [Act.put,LS_]
  rfl
 refine pure_ (i := 1) (N := (some 14)) (v := ?_) (a' := ?_) T324 rfl rfl (by kernel_rfl) (fun _ _ _ h => h) (Or.inl ⟨by rfl,?_⟩) ?_ ?_
 rotate_left
 ·intro w'
  go_simp
  with_reducible rfl
 rotate_left
 ·simp only [Act.put,LS_]
  rfl
 refine one_ (i := 2) (N := (some 15)) #[true,true,true,false,false,false] rfl rfl (by kernel_rfl) (by decide) (fun K hK => ?_)
 refine goes_ (f := 71) Try.func71 (by kernel_rfl) rfl #[.pointer (some ⟨r,0,none⟩),.int .i64 1,.int .i64 0,.int .i64 32] (by rfl) rfl rfl (by (try simp only [List.map_toArray,List.map_cons,List.map_nil]); first | done | rfl) ?_
 refine (rvec_c lo r f R.h2 _ 1 1 rfl 0 32 (by omega) (by omega) HL.out HL2.out HD2.out HO.out.h2).mono ?_
 rintro e w2c ⟨rfl,i_,k_⟩
 refine ⟨_,rfl,?_⟩
 have XC2 := Aq.mk (k_.keep gb _ XD2.out (blk_ne XD2.out HD2.out.rd (by decide)) (blk_ne XD2.out HD2.out.ft (by decide)))
 have MC2 := Aq.mk (MD2.out.kf HD2.out k_)
 have HC2 := Aq.mk (show RS w2c r f R.h3 from i_)
 have KC2 := Aq.mk (KD2.out.trans (Kg.of_kf k_))
 clear i_ k_
 refine hK.out _ _ (XC2.out) (fun hHeld => ?_)
 clear hK K
 refine norm_ (a' := ?_) ?_ ?_
 rotate_left
 ·show Act.put _ (some 15) _ = _
  simp only [Act.put,LS_]
  rfl
 refine pure_ (i := 3) (N := (some 16)) (v := ?_) (a' := ?_) #[true,true,true,true,false,false] rfl rfl (by kernel_rfl) (fun _ _ _ h => h) (Or.inl ⟨by rfl,?_⟩) ?_ ?_
 rotate_left
 ·intro w'
  go_simp
  with_reducible rfl
 rotate_left
 ·simp only [Act.put,LS_]
  rfl
 refine pure_ (i := 4) (N := (some 17)) (v := ?_) (a' := ?_) #[true,true,true,true,true,false] rfl rfl (by kernel_rfl) (fun _ _ _ h => h) (Or.inl ⟨by rfl,?_⟩) ?_ ?_
 rotate_left
 ·intro w'
  go_simp
  with_reducible rfl
 rotate_left
 ·simp only [Act.put,LS_]
  rfl
 refine last_ (i := 5) (N := none) #[true,true,true,true,true,true] rfl rfl (by kernel_rfl) (by decide) (fun K hK => ?_)
 obtain ⟨hd_,hm_⟩ := MC2.out
 refine stM (v := .string (R.h2.vecV 1 0 32)) (by rfl) rfl rfl rfl hm_.box sz9 rfl rfl rfl (by rw [cells_size]; omega) ?_
 intro w3 h3_ b3_ k3_
 have X3 := Aq.mk ((k3_.2 gb (blk_lt XC2.out) (blk_ne XC2.out hm_.box (by decide)) (by simp)).trans XC2.out)
 have M3 := Aq.mk (hm_.s2 _ h3_ k3_)
 have H3 := Aq.mk (show RS w3 r f R.h3 from HC2.out.store hm_ k3_)
 have K3 := Aq.mk (KC2.out.trans (Kg.of_store (b3_ _ HG.out) k3_))
 clear h3_ b3_ k3_ hm_
 refine hK.out _ _ ?_
 clear hK K
 refine done_ (by kernel_rfl) ?_
 go_wp2
 refine start_ (n := 6) (S := fun w' => w'.heap[gb]? = some (.cells #[.pointer (some ⟨gm,0,none⟩)] 85 (0,0))) (ds := [5]) T36 (by kernel_rfl) rfl rfl (((Below.refl w3.heap.size w3).drew.block gb (blk_lt X3.out)).trans X3.out) (fun hHeld => ?_)
 have HS3 := Aq.mk (Below.refl w3.heap.size w3).drew
 generalize w3.drew = w3d at HS3 hHeld ⊢
 have XD3 := Aq.mk hHeld
 have HD3 := Aq.mk (H3.out.below HS3.out)
 have MD3 := Aq.mk (M3.out.below HS3.out)
 have KD3 := Aq.mk (K3.out.trans (Kg.of_kf (Kf.of_below (r := r) (f := f) (H3.out.wsz HL.out) HS3.out)))
 refine take_ (i := 0) (N := (some 18)) (v := ?_) (a' := ?_) T313 rfl rfl (by kernel_rfl) (fun _ _ _ h => h) (Or.inl ⟨by rfl,?_⟩) hHeld ?_ ?_
 rotate_left
 ·rintro w' hS
  have hc : w'.cell? ⟨gb,0,none⟩ = some (.pointer (some ⟨gm,0,none⟩)) := (blk_cell hS 0).trans rfl
  go_simp
  with_reducible rfl
 rotate_left
 ·simp only [Act.put,LS_]
  rfl
 refine pure_ (i := 1) (N := (some 19)) (v := ?_) (a' := ?_) T324 rfl rfl (by kernel_rfl) (fun _ _ _ h => h) (Or.inl ⟨by rfl,?_⟩) ?_ ?_
 rotate_left
 ·intro w'
  go_simp
  with_reducible rfl
 rotate_left
 ·simp only [Act.put,LS_]
  rfl
 refine one_ (i := 2) (N := (some 20)) #[true,true,true,false,false,false] rfl rfl (by kernel_rfl) (by decide) (fun K hK => ?_)
 refine goes_ (f := 94) Try.func94 (by kernel_rfl) rfl #[.pointer (some ⟨r,0,none⟩),.int .i64 2,.func (.func 70) #[] #[]] (by rfl) rfl rfl (by (try simp only [List.map_toArray,List.map_cons,List.map_nil]); first | done | rfl) ?_
 refine (list_int oneU16 lo r f R.h3 _ 2 2 rfl (by omega) (by omega) HL.out HL2.out HD3.out HO.out.h3).mono ?_
 rintro e w3c ⟨v4,rfl,r_,i_,k_⟩
 obtain ⟨A4,c4,rfl⟩ := Kd.R_slice r_
 refine ⟨_,rfl,?_⟩
 have XC3 := Aq.mk (k_.keep gb _ XD3.out (blk_ne XD3.out HD3.out.rd (by decide)) (blk_ne XD3.out HD3.out.ft (by decide)))
 have MC3 := Aq.mk (MD3.out.kf HD3.out k_)
 have HC3 := Aq.mk (show RS w3c r f R.c4 from i_)
 have KC3 := Aq.mk (KD3.out.trans (Kg.of_kf k_))
 have RC3 := Aq.mk (Kd.R_lower r_ (Nat.zero_le _))
 clear r_
 clear i_ k_
 refine hK.out _ _ (XC3.out) (fun hHeld => ?_)
 clear hK K
 refine norm_ (a' := ?_) ?_ ?_
 rotate_left
 ·show Act.put _ (some 20) _ = _
  simp only [Act.put,LS_]
  rfl
 refine pure_ (i := 3) (N := (some 21)) (v := ?_) (a' := ?_) #[true,true,true,true,false,false] rfl rfl (by kernel_rfl) (fun _ _ _ h => h) (Or.inl ⟨by rfl,?_⟩) ?_ ?_
 rotate_left
 ·intro w'
  go_simp
  with_reducible rfl
 rotate_left
 ·simp only [Act.put,LS_]
  rfl
 refine pure_ (i := 4) (N := (some 22)) (v := ?_) (a' := ?_) #[true,true,true,true,true,false] rfl rfl (by kernel_rfl) (fun _ _ _ h => h) (Or.inl ⟨by rfl,?_⟩) ?_ ?_
 rotate_left
 ·intro w'
  go_simp
  with_reducible rfl
 rotate_left
 ·simp only [Act.put,LS_]
  rfl
 refine last_ (i := 5) (N := none) #[true,true,true,true,true,true] rfl rfl (by kernel_rfl) (by decide) (fun K hK => ?_)
 obtain ⟨hd_,hm_⟩ := MC3.out
 refine stM (v := .slice A4 (lstV (oneNum 2) R.h3 2).length c4) (by rfl) rfl rfl rfl hm_.box sz44 rfl rfl rfl (by rw [cells_size]; omega) ?_
 intro w4 h3_ b3_ k3_
 have X4 := Aq.mk ((k3_.2 gb (blk_lt XC3.out) (blk_ne XC3.out hm_.box (by decide)) (by simp)).trans XC3.out)
 have M4 := Aq.mk (hm_.s3 RC3.out h3_ k3_)
 have H4 := Aq.mk (show RS w4 r f R.c4 from HC3.out.store hm_ k3_)
 have K4 := Aq.mk (KC3.out.trans (Kg.of_store (b3_ _ HG.out) k3_))
 clear h3_ b3_ k3_ hm_
 refine hK.out _ _ ?_
 clear hK K
 refine done_ (by kernel_rfl) ?_
 go_wp2_with (first
  | (go_at_call 71; (with_reducible refine (rvec_c lo r f R.c4 _ 1 1 rfl 0 255 (by omega) (by omega) HL.out HL2.out H4.out HO.out.c4).mono ?_); rintro e5 w5 ⟨rfl,i1,k1⟩; have X5 := Aq.mk (k1.keep gb _ X4.out (blk_ne X4.out H4.out.rd (by decide)) (blk_ne X4.out H4.out.ft (by decide))); have M5 := Aq.mk (M4.out.kf H4.out k1); have H5 := Aq.mk (show RS w5 r f R.c5 from i1); have K5 := Aq.mk (K4.out.trans (Kg.of_kf k1)); clear i1 k1)
  | (go_at_call 76; (with_reducible refine (allow_c lo r f R.c5 _ ((R.c4.vecV 1 0 255).toList == ([0] : List UInt8)) HL.out H5.out).mono ?_); rintro e6 w6 ⟨rfl,i1,k1⟩; have X6 := Aq.mk (k1.keep gb _ X5.out (blk_ne X5.out H5.out.rd (by decide)) (blk_ne X5.out H5.out.ft (by decide))); have M6 := Aq.mk (M5.out.kf H5.out k1); have H6 := Aq.mk (show RS w6 r f R.c6 from i1); have K6 := Aq.mk (K5.out.trans (Kg.of_kf k1)); clear i1 k1)
  | (go_at_call 66; (with_reducible refine (rwithin_c lo r f R.c6 _ 2 2 rfl (by omega) (by omega) HL.out HL2.out H6.out HO.out.c6).mono ?_); rintro e7 w7 ⟨r2,rfl,n1,i1,j1,k1⟩; have X7 := Aq.mk (k1.keep gb _ X6.out (blk_ne X6.out H6.out.rd (by decide)) (blk_ne X6.out H6.out.ft (by decide))); have M7 := Aq.mk (M6.out.kf H6.out k1); have HN2 := Aq.mk (Nat.le_trans K6.out.below.size n1); have H7 := Aq.mk i1; have I7 := Aq.mk j1; have K7 := Aq.mk (K6.out.trans (Kg.of_kf k1)); have HNE := Aq.mk (show r ≠ r2 from by have := H6.out.sz; omega); have HL3 := Aq.mk (show lo ≤ r2 from Nat.le_trans (H6.out.wsz HL.out) n1); clear n1 i1 j1 k1)
  | ((with_reducible refine gate_dst (N := 5) rfl ?_); refine allocP zero87 rfl rfl ?_; intro gi eg w8 h1 b1; have G8 := Aq.mk h1; have X8 := Aq.mk ((b1.block gb (blk_lt X7.out)).trans X7.out); have H8 := Aq.mk (show RS w8 r f (R.c6.outR 2) from H7.out.below b1); have I8 := Aq.mk (show RS w8 r2 f (R.c6.inR 2) from I7.out.below b1); have M8 := Aq.mk (M7.out.below b1); have K8 := Aq.mk (K7.out.trans (Kg.of_kf (Kf.of_below (r := r) (f := f) (H7.out.wsz HL.out) b1))); have HGI := Aq.mk (show w.heap.size ≤ gi ∧ lo ≤ gi from by have := K7.out.below.size; have := HWL.out; omega); clear h1 b1 eg)
  | ((with_reducible refine gate_store (p := 5) rfl ?_); refine st (v := .pointer (some ⟨r2,0,none⟩)) rfl rfl rfl G8.out sz87 rfl rfl rfl (by simp) ?_; intro w9 h3 b3 k3; have G9 := Aq.mk (show w9.heap[gi]? = some (.cells #[.pointer (some ⟨r2,0,none⟩)] 87 (0,0)) from h3); have X9 := Aq.mk ((k3.2 gb (blk_lt X8.out) (blk_ne X8.out G8.out (by decide)) (by simp)).trans X8.out); have HP9 := Aq.mk (show RS w9 r f (R.c6.outR 2) from ⟨(k3.2 r (blk_lt H8.out.rd) (blk_ne H8.out.rd G8.out (by decide)) (by simp)).trans H8.out.rd,(k3.2 f (blk_lt H8.out.ft) (blk_ne H8.out.ft G8.out (by decide)) (by simp)).trans H8.out.ft⟩); have H9 := HP9; have I9 := Aq.mk (show RS w9 r2 f (R.c6.inR 2) from ⟨(k3.2 r2 (blk_lt I8.out.rd) (blk_ne I8.out.rd G8.out (by decide)) (by simp)).trans I8.out.rd,HP9.out.ft⟩); have M9 := Aq.mk (MO.other M8.out G8.out (by decide) (by decide) (by decide) (by decide) (by decide) k3); have K9 := Aq.mk (Kg.over K8.out (b3 w.heap.size HGI.out.1) HWL.out (Nat.le_refl _)); clear h3 b3 k3))
 refine start_ (n := 7) (S := fun w' => w'.heap[gb]? = some (.cells #[.pointer (some ⟨gm,0,none⟩)] 85 (0,0)) ∧ w'.heap[gi]? = some (.cells #[.pointer (some ⟨r2,0,none⟩)] 87 (0,0))) (ds := [6]) T35 (by kernel_rfl) rfl rfl ⟨(((Below.refl w9.heap.size w9).drew.block gb (blk_lt X9.out)).trans X9.out),(((Below.refl w9.heap.size w9).drew.block gi (blk_lt G9.out)).trans G9.out)⟩ (fun hHeld => ?_)
 have HSx := Aq.mk (Below.refl w9.heap.size w9).drew
 generalize w9.drew = wd at HSx hHeld ⊢
 have XD := Aq.mk hHeld.1
 have HD := Aq.mk (H9.out.below HSx.out)
 have MD := Aq.mk (M9.out.below HSx.out)
 have KD := Aq.mk (K9.out.trans (Kg.of_kf (Kf.of_below (r := r) (f := f) (H9.out.wsz HL.out) HSx.out)))
 have GD := Aq.mk hHeld.2
 have ID := Aq.mk (I9.out.below HSx.out)
 refine take_ (i := 0) (N := (some 31)) (v := ?_) (a' := ?_) T312 rfl rfl (by kernel_rfl) (fun _ _ _ h => h) (Or.inl ⟨by rfl,?_⟩) hHeld ?_ ?_
 rotate_left
 ·rintro w' hS
  have hc : w'.cell? ⟨gb,0,none⟩ = some (.pointer (some ⟨gm,0,none⟩)) := (blk_cell hS.1 0).trans rfl
  go_simp
  with_reducible rfl
 rotate_left
 ·simp only [Act.put,LS_]
  rfl
 refine take_ (i := 1) (N := (some 32)) (v := ?_) (a' := ?_) T323 rfl rfl (by kernel_rfl) (fun _ _ _ h => h) (Or.inl ⟨by rfl,?_⟩) hHeld ?_ ?_
 rotate_left
 ·rintro w' hS
  have hc : w'.cell? ⟨gi,0,none⟩ = some (.pointer (some ⟨r2,0,none⟩)) := (blk_cell hS.2 0).trans rfl
  go_simp
  with_reducible rfl
 rotate_left
 ·simp only [Act.put,LS_]
  rfl
 refine pure_ (i := 2) (N := (some 33)) (v := ?_) (a' := ?_) T329 rfl rfl (by kernel_rfl) (fun _ _ _ h => h) (Or.inl ⟨by rfl,?_⟩) ?_ ?_
 rotate_left
 ·intro w'
  go_simp
  with_reducible rfl
 rotate_left
 ·simp only [Act.put,LS_]
  rfl
 refine one_ (i := 3) (N := (some 34)) T335 rfl rfl (by kernel_rfl) (by decide) (fun K hK => ?_)
 have HPD := Aq.mk (show RS wd r f (R.c6.outR 2) from HP9.out.below HSx.out)
 refine goes_ (f := 67) Try.func67 (by kernel_rfl) rfl #[.pointer (some ⟨r2,0,none⟩),.func (.func 95) #[] #[.pointer (some ⟨gi,0,none⟩),.pointer (some ⟨gb,0,none⟩)]] (by rfl) rfl rfl (by (try simp only [List.map_toArray,List.map_cons,List.map_nil]); first | done | rfl) ?_
 refine (exts_c 95 #[.pointer (some ⟨gi,0,none⟩),.pointer (some ⟨gb,0,none⟩)] lo r2 f gm cli pskL (R.c6.inR 2) (R.cM m) _ (cliT_c lo r2 f gm gi gb wd HL.out HG.out (ID.out.wsz HL.out) HL3.out GD.out XD.out (blk_ne XD.out ID.out.rd (by decide)) (blk_ne XD.out ID.out.ft (by decide)) (by obtain ⟨_,z⟩ := MD.out; exact blk_ne XD.out z.box (by decide)) (blk_ne GD.out ID.out.rd (by decide)) (blk_ne GD.out ID.out.ft (by decide)) (by obtain ⟨_,z⟩ := MD.out; exact blk_ne GD.out z.box (by decide)) ID.out.sz.1) HL.out HL3.out ID.out (HO.out.c6.inR 2) MD.out).mono ?_
 rintro e wx ⟨vx,rfl,rx_,mx_,ix_,kx_⟩
 obtain ⟨Ax,cx,rfl⟩ := Kd.R_slice rx_
 refine ⟨_,rfl,?_⟩
 have RX := Aq.mk (show Kd.R (Kd.int .i64) 3 wx 0 (fun _ => True) (.slice Ax (R.cX m).1.length cx) (R.cX m).1 from rx_)
 have MX := Aq.mk (show MO (fun _ => True) wx gm (R.cX m).2.1 from mx_)
 have HGR := Aq.mk (show r ≠ gm from by obtain ⟨_,z⟩ := MD.out; exact blk_ne HPD.out.rd z.box (by decide))
 have HXx := Aq.mk (show RS wx r f ((R.c6.outR 2).back (R.cX m).2.2) from ⟨kx_.keep r _ HPD.out.rd HNE.out HPD.out.ne HGR.out,ix_.ft⟩)
 have XX := Aq.mk (kx_.keep gb _ XD.out (blk_ne XD.out ID.out.rd (by decide)) (blk_ne XD.out ID.out.ft (by decide)) (by obtain ⟨_,z⟩ := MD.out; exact blk_ne XD.out z.box (by decide)))
 have GX := Aq.mk (kx_.keep gi _ GD.out (blk_ne GD.out ID.out.rd (by decide)) (blk_ne GD.out ID.out.ft (by decide)) (by obtain ⟨_,z⟩ := MD.out; exact blk_ne GD.out z.box (by decide)))
 have KX := Aq.mk (Kg.inner KD.out HN2.out kx_)
 clear rx_ mx_ ix_ kx_
 refine hK.out _ _ (⟨XX.out,GX.out⟩) (fun hHeld => ?_)
 clear hK K
 refine norm_ (a' := ?_) ?_ ?_
 rotate_left
 ·show Act.put _ (some 34) _ = _
  simp only [Act.put,LS_]
  rfl
 refine pure_ (i := 4) (N := (some 35)) (v := ?_) (a' := ?_) T341 rfl rfl (by kernel_rfl) (fun _ _ _ h => h) (Or.inl ⟨by rfl,?_⟩) ?_ ?_
 rotate_left
 ·intro w'
  go_simp
  with_reducible rfl
 rotate_left
 ·simp only [Act.put,LS_]
  rfl
 refine pure_ (i := 5) (N := (some 36)) (v := ?_) (a' := ?_) T347 rfl rfl (by kernel_rfl) (fun _ _ _ h => h) (Or.inl ⟨by rfl,?_⟩) ?_ ?_
 rotate_left
 ·intro w'
  go_simp
  with_reducible rfl
 rotate_left
 ·simp only [Act.put,LS_]
  rfl
 refine last_ (i := 6) (N := none) T379 rfl rfl (by kernel_rfl) (by decide) (fun K hK => ?_)
 obtain ⟨hd_,hm_⟩ := MX.out
 refine stM (v := .slice Ax (R.cX m).1.length cx) (by rfl) rfl rfl rfl hm_.box sz44 rfl rfl rfl (by rw [cells_size]; omega) ?_
 intro wy h3_ b3_ k3_
 have MY := Aq.mk (hm_.s13 RX.out h3_ k3_)
 have HY := Aq.mk (HXx.out.store hm_ k3_)
 have KY := Aq.mk (KX.out.trans (Kg.of_store (b3_ _ HG.out) k3_))
 clear h3_ b3_ k3_ hm_
 refine hK.out _ _ ?_
 clear hK K
 refine done_ (by kernel_rfl) ?_
 go_wp2
 first | go_end0 | ((try simp only [Exit.inBlock,Exit.then]); refine bodyPost_ret (results_none rfl _ _ _) rfl ?_)
 exact ⟨rfl,HY.out,MY.out,KY.out⟩
set_option maxRecDepth 100000 in
set_option maxHeartbeats 8000000 in
theorem serverHello_c (lo r f gm : Nat) (R : Rp) (m : Mv) (w : World) (hl : lo ≤ f) (hl2 : lo ≤ r) (hg : lo ≤ gm) (h : RS w r f R) (ho : R.Ok) (hm : MO (fun _ => True) w gm m) :
  Calls Try.prog 65 #[.pointer (some ⟨r,0,none⟩),.pointer (some ⟨gm,0,none⟩)] w fun ex w' => ex = .returned (.tuple #[]) ∧ RS w' r f (R.shR m) ∧ MO (fun _ => True) w' gm (R.shM m) ∧ Kg lo r f gm w w' := by
 have H := Aq.mk h
 have HL := Aq.mk hl
 have HL2 := Aq.mk hl2
 have HG := Aq.mk hg
 have HO := Aq.mk ho
 have HWL := Aq.mk (h.wsz hl)
 have M := Aq.mk hm
 have K := Aq.mk (Kg.of_kf (g := gm) (Kf.refl lo r f w))
 clear h hl hl2 hg ho hm
 go_enter Try.func65,Try.ntmps65
 go_wp2_with (first
  | ((with_reducible refine gate_dst (N := 3) rfl ?_); refine boxP rfl rfl rfl ?_; intro gb eb w0 h0_ b0_; have X0 := Aq.mk h0_; have H0 := Aq.mk (show RS w0 r f R from H.out.below b0_); have M0 := Aq.mk (M.out.below b0_); have K0 := Aq.mk (K.out.trans (Kg.of_kf (Kf.of_below (r := r) (f := f) HWL.out b0_))); clear h0_ b0_ eb)
  | (go_at_call 93; (with_reducible refine (version_c lo r f R _ HL.out HL2.out H0.out HO.out).mono ?_); rintro e1 w1 ⟨rfl,i1,k1⟩; have X1 := Aq.mk (k1.keep gb _ X0.out (blk_ne X0.out H0.out.rd (by decide)) (blk_ne X0.out H0.out.ft (by decide))); have M1 := Aq.mk (M0.out.kf H0.out k1); have H1 := Aq.mk (show RS w1 r f R.h1 from i1); have K1 := Aq.mk (K0.out.trans (Kg.of_kf k1)); clear i1 k1))
 refine start_ (n := 6) (S := fun w' => w'.heap[gb]? = some (.cells #[.pointer (some ⟨gm,0,none⟩)] 85 (0,0))) (ds := [5]) T36 (by kernel_rfl) rfl rfl (((Below.refl w1.heap.size w1).drew.block gb (blk_lt X1.out)).trans X1.out) (fun hHeld => ?_)
 have HS1 := Aq.mk (Below.refl w1.heap.size w1).drew
 generalize w1.drew = w1d at HS1 hHeld ⊢
 have XD1 := Aq.mk hHeld
 have HD1 := Aq.mk (H1.out.below HS1.out)
 have MD1 := Aq.mk (M1.out.below HS1.out)
 have KD1 := Aq.mk (K1.out.trans (Kg.of_kf (Kf.of_below (r := r) (f := f) (H1.out.wsz HL.out) HS1.out)))
 refine take_ (i := 0) (N := (some 7)) (v := ?_) (a' := ?_) T313 rfl rfl (by kernel_rfl) (fun _ _ _ h => h) (Or.inl ⟨by rfl,?_⟩) hHeld ?_ ?_
 rotate_left
 ·rintro w' hS
  have hc : w'.cell? ⟨gb,0,none⟩ = some (.pointer (some ⟨gm,0,none⟩)) := (blk_cell hS 0).trans rfl
  go_simp
  with_reducible rfl
 rotate_left
 ·simp only [Act.put,LS_]
  rfl
 refine pure_ (i := 1) (N := (some 8)) (v := ?_) (a' := ?_) T324 rfl rfl (by kernel_rfl) (fun _ _ _ h => h) (Or.inl ⟨by rfl,?_⟩) ?_ ?_
 rotate_left
 ·intro w'
  go_simp
  with_reducible rfl
 rotate_left
 ·simp only [Act.put,LS_]
  rfl
 refine one_ (i := 2) (N := (some 9)) #[true,true,true,false,false,false] rfl rfl (by kernel_rfl) (by decide) (fun K hK => ?_)
 refine goes_ (f := 73) Try.func73 (by kernel_rfl) rfl #[.pointer (some ⟨r,0,none⟩),.int .i64 32] (by rfl) rfl rfl (by (try simp only [List.map_toArray,List.map_cons,List.map_nil]); first | done | rfl) ?_
 refine (bytes_c lo r f R.h1 _ 32 (by omega) (by omega) HL.out HL2.out HD1.out HO.out.h1).mono ?_
 rintro e w1c ⟨rfl,i_,k_⟩
 refine ⟨_,rfl,?_⟩
 have XC1 := Aq.mk (k_.keep gb _ XD1.out (blk_ne XD1.out HD1.out.rd (by decide)) (blk_ne XD1.out HD1.out.ft (by decide)))
 have MC1 := Aq.mk (MD1.out.kf HD1.out k_)
 have HC1 := Aq.mk (show RS w1c r f R.h2 from i_)
 have KC1 := Aq.mk (KD1.out.trans (Kg.of_kf k_))
 clear i_ k_
 refine hK.out _ _ (XC1.out) (fun hHeld => ?_)
 clear hK K
 refine norm_ (a' := ?_) ?_ ?_
 rotate_left
 ·show Act.put _ (some 9) _ = _
  simp only [Act.put,LS_]
  rfl
 refine pure_ (i := 3) (N := (some 10)) (v := ?_) (a' := ?_) #[true,true,true,true,false,false] rfl rfl (by kernel_rfl) (fun _ _ _ h => h) (Or.inl ⟨by rfl,?_⟩) ?_ ?_
 rotate_left
 ·intro w'
  go_simp
  with_reducible rfl
 rotate_left
 ·simp only [Act.put,LS_]
  rfl
 refine pure_ (i := 4) (N := (some 11)) (v := ?_) (a' := ?_) #[true,true,true,true,true,false] rfl rfl (by kernel_rfl) (fun _ _ _ h => h) (Or.inl ⟨by rfl,?_⟩) ?_ ?_
 rotate_left
 ·intro w'
  go_simp
  with_reducible rfl
 rotate_left
 ·simp only [Act.put,LS_]
  rfl
 refine last_ (i := 5) (N := none) #[true,true,true,true,true,true] rfl rfl (by kernel_rfl) (by decide) (fun K hK => ?_)
 obtain ⟨hd_,hm_⟩ := MC1.out
 refine stM (v := .string (R.h1.bytV 32)) (by rfl) rfl rfl rfl hm_.box sz9 rfl rfl rfl (by rw [cells_size]; omega) ?_
 intro w2 h3_ b3_ k3_
 have X2 := Aq.mk ((k3_.2 gb (blk_lt XC1.out) (blk_ne XC1.out hm_.box (by decide)) (by simp)).trans XC1.out)
 have M2 := Aq.mk (hm_.s1 _ h3_ k3_)
 have H2 := Aq.mk (show RS w2 r f R.h2 from HC1.out.store hm_ k3_)
 have K2 := Aq.mk (KC1.out.trans (Kg.of_store (b3_ _ HG.out) k3_))
 clear h3_ b3_ k3_ hm_
 refine hK.out _ _ ?_
 clear hK K
 refine done_ (by kernel_rfl) ?_
 go_wp2
 refine start_ (n := 6) (S := fun w' => w'.heap[gb]? = some (.cells #[.pointer (some ⟨gm,0,none⟩)] 85 (0,0))) (ds := [5]) T36 (by kernel_rfl) rfl rfl (((Below.refl w2.heap.size w2).drew.block gb (blk_lt X2.out)).trans X2.out) (fun hHeld => ?_)
 have HS2 := Aq.mk (Below.refl w2.heap.size w2).drew
 generalize w2.drew = w2d at HS2 hHeld ⊢
 have XD2 := Aq.mk hHeld
 have HD2 := Aq.mk (H2.out.below HS2.out)
 have MD2 := Aq.mk (M2.out.below HS2.out)
 have KD2 := Aq.mk (K2.out.trans (Kg.of_kf (Kf.of_below (r := r) (f := f) (H2.out.wsz HL.out) HS2.out)))
 refine take_ (i := 0) (N := (some 12)) (v := ?_) (a' := ?_) T313 rfl rfl (by kernel_rfl) (fun _ _ _ h => h) (Or.inl ⟨by rfl,?_⟩) hHeld ?_ ?_
 rotate_left
 ·rintro w' hS
  have hc : w'.cell? ⟨gb,0,none⟩ = some (.pointer (some ⟨gm,0,none⟩)) := (blk_cell hS 0).trans rfl
  go_simp
  with_reducible rfl
 rotate_left
 ·simp only [Act.put,LS_]
  rfl
 refine pure_ (i := 1) (N := (some 13)) (v := ?_) (a' := ?_) T324 rfl rfl (by kernel_rfl) (fun _ _ _ h => h) (Or.inl ⟨by rfl,?_⟩) ?_ ?_
 rotate_left
 ·intro w'
  go_simp
  with_reducible rfl
 rotate_left
 ·simp only [Act.put,LS_]
  rfl
 refine one_ (i := 2) (N := (some 14)) #[true,true,true,false,false,false] rfl rfl (by kernel_rfl) (by decide) (fun K hK => ?_)
 refine goes_ (f := 71) Try.func71 (by kernel_rfl) rfl #[.pointer (some ⟨r,0,none⟩),.int .i64 1,.int .i64 0,.int .i64 32] (by rfl) rfl rfl (by (try simp only [List.map_toArray,List.map_cons,List.map_nil]); first | done | rfl) ?_
 refine (rvec_c lo r f R.h2 _ 1 1 rfl 0 32 (by omega) (by omega) HL.out HL2.out HD2.out HO.out.h2).mono ?_
 rintro e w2c ⟨rfl,i_,k_⟩
 refine ⟨_,rfl,?_⟩
 have XC2 := Aq.mk (k_.keep gb _ XD2.out (blk_ne XD2.out HD2.out.rd (by decide)) (blk_ne XD2.out HD2.out.ft (by decide)))
 have MC2 := Aq.mk (MD2.out.kf HD2.out k_)
 have HC2 := Aq.mk (show RS w2c r f R.h3 from i_)
 have KC2 := Aq.mk (KD2.out.trans (Kg.of_kf k_))
 clear i_ k_
 refine hK.out _ _ (XC2.out) (fun hHeld => ?_)
 clear hK K
 refine norm_ (a' := ?_) ?_ ?_
 rotate_left
 ·show Act.put _ (some 14) _ = _
  simp only [Act.put,LS_]
  rfl
 refine pure_ (i := 3) (N := (some 15)) (v := ?_) (a' := ?_) #[true,true,true,true,false,false] rfl rfl (by kernel_rfl) (fun _ _ _ h => h) (Or.inl ⟨by rfl,?_⟩) ?_ ?_
 rotate_left
 ·intro w'
  go_simp
  with_reducible rfl
 rotate_left
 ·simp only [Act.put,LS_]
  rfl
 refine pure_ (i := 4) (N := (some 16)) (v := ?_) (a' := ?_) #[true,true,true,true,true,false] rfl rfl (by kernel_rfl) (fun _ _ _ h => h) (Or.inl ⟨by rfl,?_⟩) ?_ ?_
 rotate_left
 ·intro w'
  go_simp
  with_reducible rfl
 rotate_left
 ·simp only [Act.put,LS_]
  rfl
 refine last_ (i := 5) (N := none) #[true,true,true,true,true,true] rfl rfl (by kernel_rfl) (by decide) (fun K hK => ?_)
 obtain ⟨hd_,hm_⟩ := MC2.out
 refine stM (v := .string (R.h2.vecV 1 0 32)) (by rfl) rfl rfl rfl hm_.box sz9 rfl rfl rfl (by rw [cells_size]; omega) ?_
 intro w3 h3_ b3_ k3_
 have X3 := Aq.mk ((k3_.2 gb (blk_lt XC2.out) (blk_ne XC2.out hm_.box (by decide)) (by simp)).trans XC2.out)
 have M3 := Aq.mk (hm_.s2 _ h3_ k3_)
 have H3 := Aq.mk (show RS w3 r f R.h3 from HC2.out.store hm_ k3_)
 have K3 := Aq.mk (KC2.out.trans (Kg.of_store (b3_ _ HG.out) k3_))
 clear h3_ b3_ k3_ hm_
 refine hK.out _ _ ?_
 clear hK K
 refine done_ (by kernel_rfl) ?_
 go_wp2
 refine start_ (n := 7) (S := fun w' => w'.heap[gb]? = some (.cells #[.pointer (some ⟨gm,0,none⟩)] 85 (0,0))) (ds := [6]) T35 (by kernel_rfl) rfl rfl (((Below.refl w3.heap.size w3).drew.block gb (blk_lt X3.out)).trans X3.out) (fun hHeld => ?_)
 have HS3 := Aq.mk (Below.refl w3.heap.size w3).drew
 generalize w3.drew = w3d at HS3 hHeld ⊢
 have XD3 := Aq.mk hHeld
 have HD3 := Aq.mk (H3.out.below HS3.out)
 have MD3 := Aq.mk (M3.out.below HS3.out)
 have KD3 := Aq.mk (K3.out.trans (Kg.of_kf (Kf.of_below (r := r) (f := f) (H3.out.wsz HL.out) HS3.out)))
 refine take_ (i := 0) (N := (some 17)) (v := ?_) (a' := ?_) T312 rfl rfl (by kernel_rfl) (fun _ _ _ h => h) (Or.inl ⟨by rfl,?_⟩) hHeld ?_ ?_
 rotate_left
 ·rintro w' hS
  have hc : w'.cell? ⟨gb,0,none⟩ = some (.pointer (some ⟨gm,0,none⟩)) := (blk_cell hS 0).trans rfl
  go_simp
  with_reducible rfl
 rotate_left
 ·simp only [Act.put,LS_]
  rfl
 refine pure_ (i := 1) (N := (some 18)) (v := ?_) (a' := ?_) T323 rfl rfl (by kernel_rfl) (fun _ _ _ h => h) (Or.inl ⟨by rfl,?_⟩) ?_ ?_
 rotate_left
 ·intro w'
  go_simp
  with_reducible rfl
 rotate_left
 ·simp only [Act.put,LS_]
  rfl
 refine one_ (i := 2) (N := (some 19)) T329 rfl rfl (by kernel_rfl) (by decide) (fun K hK => ?_)
 refine goes_ (f := 70) Try.func70 (by kernel_rfl) rfl #[.pointer (some ⟨r,0,none⟩)] (by rfl) rfl rfl (by (try simp only [List.map_toArray,List.map_cons,List.map_nil]); first | done | rfl) ?_
 refine (u16_c lo r f R.h3 _ HL.out HL2.out HD3.out HO.out.h3).mono ?_
 rintro e w3c ⟨rfl,i_,k_⟩
 refine ⟨_,rfl,?_⟩
 have XC3 := Aq.mk (k_.keep gb _ XD3.out (blk_ne XD3.out HD3.out.rd (by decide)) (blk_ne XD3.out HD3.out.ft (by decide)))
 have MC3 := Aq.mk (MD3.out.kf HD3.out k_)
 have HC3 := Aq.mk (show RS w3c r f R.s4 from i_)
 have KC3 := Aq.mk (KD3.out.trans (Kg.of_kf k_))
 clear i_ k_
 refine hK.out _ _ (XC3.out) (fun hHeld => ?_)
 clear hK K
 refine norm_ (a' := ?_) ?_ ?_
 rotate_left
 ·show Act.put _ (some 19) _ = _
  simp only [Act.put,LS_]
  rfl
 refine one_ (i := 3) (N := (some 20)) T335 rfl rfl (by kernel_rfl) (by decide) (fun K hK => ?_)
 refine Kd.R_lit_step (Kd.int .i64) _ 3 (by rfl) (N := 20) rfl (xs := [(R.h3.numV 2)]) (inner := [.int .i64 (R.h3.numV 2)]) (ok := fun _ => True) (okp := fun _ => True) ?hr ?hp (fun _ hk => hk) trivial (Below.refl _ _) (Nat.le_refl _) (by simp) ?_
 (case hr => first | (go_simp; done) | (go_simp; rfl))
 (case hp => exact (Reps.one (show Kd.M (Kd.int .i64) _ _ _ (R.h3.numV 2) [.int .i64 (R.h3.numV 2)] from rfl) (Reps.none _ _)))
 intro v4 w3l ho_ hb_ hg_ hnew_
 clear hg_ hnew_
 obtain ⟨A4,c4,rfl⟩ := Kd.R_slice ho_
 have n1_ := Aq.mk ((hb_.block gb (blk_lt XC3.out)).trans XC3.out)
 have n2_ := Aq.mk (MC3.out.below hb_)
 have n3_ := Aq.mk (show RS w3l r f R.s4 from HC3.out.below hb_)
 have n4_ := Aq.mk (KC3.out.trans (Kg.of_kf (Kf.of_below (r := r) (f := f) (HC3.out.wsz HL.out) hb_)))
 have RC3 := Aq.mk (Kd.R_lower ho_ (Nat.zero_le _))
 clear XC3 MC3 HC3 KC3 ho_ hb_
 have XC3 := n1_
 have MC3 := n2_
 have HC3 := n3_
 have KC3 := n4_
 clear n1_ n2_ n3_ n4_
 refine hK.out _ _ (XC3.out) (fun hHeld => ?_)
 clear hK K
 refine norm_ (a' := ?_) ?_ ?_
 rotate_left
 ·show Act.put _ (some 20) _ = _
  simp only [Act.put,LS_]
  rfl
 refine pure_ (i := 4) (N := (some 21)) (v := ?_) (a' := ?_) T341 rfl rfl (by kernel_rfl) (fun _ _ _ h => h) (Or.inl ⟨by rfl,?_⟩) ?_ ?_
 rotate_left
 ·intro w'
  go_simp
  with_reducible rfl
 rotate_left
 ·simp only [Act.put,LS_]
  rfl
 refine pure_ (i := 5) (N := (some 22)) (v := ?_) (a' := ?_) T347 rfl rfl (by kernel_rfl) (fun _ _ _ h => h) (Or.inl ⟨by rfl,?_⟩) ?_ ?_
 rotate_left
 ·intro w'
  go_simp
  with_reducible rfl
 rotate_left
 ·simp only [Act.put,LS_]
  rfl
 refine last_ (i := 6) (N := none) T379 rfl rfl (by kernel_rfl) (by decide) (fun K hK => ?_)
 obtain ⟨hd_,hm_⟩ := MC3.out
 refine stM (v := .slice A4 1 c4) (by rfl) rfl rfl rfl hm_.box sz44 rfl rfl rfl (by rw [cells_size]; omega) ?_
 intro w4 h3_ b3_ k3_
 have X4 := Aq.mk ((k3_.2 gb (blk_lt XC3.out) (blk_ne XC3.out hm_.box (by decide)) (by simp)).trans XC3.out)
 have M4 := Aq.mk (hm_.s3 RC3.out h3_ k3_)
 have H4 := Aq.mk (show RS w4 r f R.s4 from HC3.out.store hm_ k3_)
 have K4 := Aq.mk (KC3.out.trans (Kg.of_store (b3_ _ HG.out) k3_))
 clear h3_ b3_ k3_ hm_
 refine hK.out _ _ ?_
 clear hK K
 refine done_ (by kernel_rfl) ?_
 go_wp2_with (first
  | (go_at_call 75; (with_reducible refine (u8_c lo r f R.s4 _ HL.out HL2.out H4.out HO.out.s4).mono ?_); rintro e5 w5 ⟨rfl,i1,k1⟩; have X5 := Aq.mk (k1.keep gb _ X4.out (blk_ne X4.out H4.out.rd (by decide)) (blk_ne X4.out H4.out.ft (by decide))); have M5 := Aq.mk (M4.out.kf H4.out k1); have H5 := Aq.mk (show RS w5 r f R.s5 from i1); have K5 := Aq.mk (K4.out.trans (Kg.of_kf k1)); clear i1 k1)
  | (go_at_call 76; (with_reducible refine (allow_c lo r f R.s5 _ (R.s4.numV 1 == 0) HL.out H5.out).mono ?_); rintro e6 w6 ⟨rfl,i1,k1⟩; have X6 := Aq.mk (k1.keep gb _ X5.out (blk_ne X5.out H5.out.rd (by decide)) (blk_ne X5.out H5.out.ft (by decide))); have M6 := Aq.mk (M5.out.kf H5.out k1); have H6 := Aq.mk (show RS w6 r f R.s6 from i1); have K6 := Aq.mk (K5.out.trans (Kg.of_kf k1)); clear i1 k1))
 refine start_ (n := 8) (S := fun w' => w'.heap[gb]? = some (.cells #[.pointer (some ⟨gm,0,none⟩)] 85 (0,0))) (ds := [7]) #[false,false,false,false,false,false,false,false] (by kernel_rfl) rfl rfl (((Below.refl w6.heap.size w6).drew.block gb (blk_lt X6.out)).trans X6.out) (fun hHeld => ?_)
 have HSx := Aq.mk (Below.refl w6.heap.size w6).drew
 generalize w6.drew = wd at HSx hHeld ⊢
 have XD := Aq.mk hHeld
 have HD := Aq.mk (H6.out.below HSx.out)
 have MD := Aq.mk (M6.out.below HSx.out)
 have KD := Aq.mk (K6.out.trans (Kg.of_kf (Kf.of_below (r := r) (f := f) (H6.out.wsz HL.out) HSx.out)))
 refine take_ (i := 0) (N := (some 29)) (v := ?_) (a' := ?_) #[true,false,false,false,false,false,false,false] rfl rfl (by kernel_rfl) (fun _ _ _ h => h) (Or.inl ⟨by rfl,?_⟩) hHeld ?_ ?_
 rotate_left
 ·rintro w' hS
  have hc : w'.cell? ⟨gb,0,none⟩ = some (.pointer (some ⟨gm,0,none⟩)) := (blk_cell hS 0).trans rfl
  go_simp
  with_reducible rfl
 rotate_left
 ·simp only [Act.put,LS_]
  rfl
 refine pure_ (i := 1) (N := (some 30)) (v := ?_) (a' := ?_) #[true,true,false,false,false,false,false,false] rfl rfl (by kernel_rfl) (fun _ _ _ h => h) (Or.inl ⟨by rfl,?_⟩) ?_ ?_
 rotate_left
 ·intro w'
  go_simp
  with_reducible rfl
 rotate_left
 ·simp only [Act.put,LS_]
  rfl
 refine pure_ (i := 3) (N := (some 32)) (v := ?_) (a' := ?_) #[true,true,false,true,false,false,false,false] rfl rfl (by kernel_rfl) (fun _ _ _ h => h) (Or.inl ⟨by rfl,?_⟩) ?_ ?_
 rotate_left
 ·intro w'
  go_simp
  with_reducible rfl
 rotate_left
 ·simp only [Act.put,LS_]
  rfl
 refine one_ (i := 2) (N := (some 31)) #[true,true,true,true,false,false,false,false] rfl rfl (by kernel_rfl) (by decide) (fun K hK => ?_)
 refine goes_ (f := 66) Try.func66 (by kernel_rfl) rfl #[.pointer (some ⟨r,0,none⟩),.int .i64 2] (by rfl) rfl rfl (by (try simp only [List.map_toArray,List.map_cons,List.map_nil]); first | done | rfl) ?_
 refine (rwithin_c lo r f R.s6 _ 2 2 rfl (by omega) (by omega) HL.out HL2.out HD.out HO.out.s6).mono ?_
 rintro e wi ⟨r2,rfl,n1_,i1_,j1_,k1_⟩
 refine ⟨_,rfl,?_⟩
 have HN := Aq.mk n1_
 have HI := Aq.mk i1_
 have ID := Aq.mk j1_
 have XI := Aq.mk (k1_.keep gb _ XD.out (blk_ne XD.out HD.out.rd (by decide)) (blk_ne XD.out HD.out.ft (by decide)))
 have MI := Aq.mk (MD.out.kf HD.out k1_)
 have KI := Aq.mk (KD.out.trans (Kg.of_kf k1_))
 have HNE := Aq.mk (show r ≠ r2 from by have := HD.out.sz; omega)
 have HL3 := Aq.mk (show lo ≤ r2 from Nat.le_trans (HD.out.wsz HL.out) n1_)
 clear n1_ i1_ j1_ k1_
 refine hK.out _ _ (XI.out) (fun hHeld => ?_)
 clear hK K
 refine norm_ (a' := ?_) ?_ ?_
 rotate_left
 ·show Act.put _ (some 31) _ = _
  simp only [Act.put,LS_]
  rfl
 refine one_ (i := 4) (N := (some 33)) #[true,true,true,true,true,false,false,false] rfl rfl (by kernel_rfl) (by decide) (fun K hK => ?_)
 refine goes_ (f := 67) Try.func67 (by kernel_rfl) rfl #[.pointer (some ⟨r2,0,none⟩),.func (.func 97) #[] #[.pointer (some ⟨gb,0,none⟩)]] (by rfl) rfl rfl (by (try simp only [List.map_toArray,List.map_cons,List.map_nil]); first | done | rfl) ?_
 refine (exts_c 97 #[.pointer (some ⟨gb,0,none⟩)] lo r2 f gm srv sameL (R.s6.inR 2) (R.sM m) _ (srvT_c lo r2 f gm gb wi HL.out HG.out (ID.out.wsz HL.out) XI.out (blk_ne XI.out ID.out.rd (by decide)) (blk_ne XI.out ID.out.ft (by decide)) (by obtain ⟨_,z⟩ := MI.out; exact blk_ne XI.out z.box (by decide)) ID.out.sz.1) HL.out HL3.out ID.out (HO.out.s6.inR 2) MI.out).mono ?_
 rintro e wx ⟨vx,rfl,rx_,mx_,ix_,kx_⟩
 obtain ⟨Ax,cx,rfl⟩ := Kd.R_slice rx_
 refine ⟨_,rfl,?_⟩
 have RX := Aq.mk (show Kd.R (Kd.int .i64) 3 wx 0 (fun _ => True) (.slice Ax (R.sX m).1.length cx) (R.sX m).1 from rx_)
 have MX := Aq.mk (show MO (fun _ => True) wx gm (R.sX m).2.1 from mx_)
 have HGR := Aq.mk (show r ≠ gm from by obtain ⟨_,z⟩ := MI.out; exact blk_ne HI.out.rd z.box (by decide))
 have HXx := Aq.mk (show RS wx r f ((R.s6.outR 2).back (R.sX m).2.2) from ⟨kx_.keep r _ HI.out.rd HNE.out HI.out.ne HGR.out,ix_.ft⟩)
 have XX := Aq.mk (kx_.keep gb _ XI.out (blk_ne XI.out ID.out.rd (by decide)) (blk_ne XI.out ID.out.ft (by decide)) (by obtain ⟨_,z⟩ := MI.out; exact blk_ne XI.out z.box (by decide)))
 have KX := Aq.mk (Kg.inner KI.out (Nat.le_trans KD.out.below.size HN.out) kx_)
 clear rx_ mx_ ix_ kx_
 refine hK.out _ _ (XX.out) (fun hHeld => ?_)
 clear hK K
 refine norm_ (a' := ?_) ?_ ?_
 rotate_left
 ·show Act.put _ (some 33) _ = _
  simp only [Act.put,LS_]
  rfl
 refine pure_ (i := 5) (N := (some 34)) (v := ?_) (a' := ?_) #[true,true,true,true,true,true,false,false] rfl rfl (by kernel_rfl) (fun _ _ _ h => h) (Or.inl ⟨by rfl,?_⟩) ?_ ?_
 rotate_left
 ·intro w'
  go_simp
  with_reducible rfl
 rotate_left
 ·simp only [Act.put,LS_]
  rfl
 refine pure_ (i := 6) (N := (some 35)) (v := ?_) (a' := ?_) #[true,true,true,true,true,true,true,false] rfl rfl (by kernel_rfl) (fun _ _ _ h => h) (Or.inl ⟨by rfl,?_⟩) ?_ ?_
 rotate_left
 ·intro w'
  go_simp
  with_reducible rfl
 rotate_left
 ·simp only [Act.put,LS_]
  rfl
 refine last_ (i := 7) (N := none) #[true,true,true,true,true,true,true,true] rfl rfl (by kernel_rfl) (by decide) (fun K hK => ?_)
 obtain ⟨hd_,hm_⟩ := MX.out
 refine stM (v := .slice Ax (R.sX m).1.length cx) (by rfl) rfl rfl rfl hm_.box sz44 rfl rfl rfl (by rw [cells_size]; omega) ?_
 intro wy h3_ b3_ k3_
 have MY := Aq.mk (hm_.s13 RX.out h3_ k3_)
 have HY := Aq.mk (HXx.out.store hm_ k3_)
 have KY := Aq.mk (KX.out.trans (Kg.of_store (b3_ _ HG.out) k3_))
 clear h3_ b3_ k3_ hm_
 refine hK.out _ _ ?_
 clear hK K
 refine done_ (by kernel_rfl) ?_
 go_wp2
 first | go_end0 | ((try simp only [Exit.inBlock,Exit.then]); refine bodyPost_ret (results_none rfl _ _ _) rfl ?_)
 exact ⟨rfl,HY.out,MY.out,KY.out⟩
end Go.Proofs.Ytlkebjkpmiehcaa.Ms
end
section
namespace Go.Proofs.Ytlkebjkpmiehcaa.Ms
open Go.RowKit Go.Proofs.YtlkebjkpmiehcaaW.PrintWords Go.Proofs.YtlkebjkpmiehcaaW.PrintLast Go.Proofs.YtlkebjkpmiehcaaW.PrintMore Go.Proofs.Ytlkebjkpmiehcaa.X
open Go.Proofs.Ytlkebjkpmiehcaa.Pure (nv numOf vecOf nv_bd nv_bd4 number_any vec_ok)
set_option linter.unusedVariables false
def fin32 (n : Int) : Bool := n == 32 || n == 48
theorem fin_f (n : Int) : slices_Contains_int_int.f 9 [32,48] n = some (fin32 n) := by
 unfold slices_Contains_int_int.f slices_Index_int_int.f fin32
 by_cases h1 : n = 32
 ·subst h1
  decide
 ·by_cases h2 : n = 48
  ·subst h2
   decide +kernel
  ·have e : slices_Index_int_int.l0 9 [32,48] n (([32,48] : List Int).length : Int) 0 = some (-1) := by
    have r0 : rd [32,48] 0 = 32 := rfl
    have r1 : rd [32,48] 1 = 48 := rfl
    have w1 : wrap64 1 = 1 := by unfold wrap64; omega
    have w2 : wrap64 2 = 2 := by unfold wrap64; omega
    simp [slices_Index_int_int.l0,h1,h2,w1,w2,rd]
   rw [e]
   simp [beq_eq_false_iff_ne.mpr h1,beq_eq_false_iff_ne.mpr h2]
def Rp.f1 (R : Rp) : Rp := R.need (fin32 (R.s.size : Int))
def Rp.nX (R : Rp) (m : Mv) : List Int × Mv × Rp := exts nonT sameL (R.inR 2).s.size [] m (R.inR 2)
def Rp.u1 (R : Rp) : Rp := (R.numR 1).allow (decide (R.numV 1 ≤ 1))
def bodyP (R : Rp) (m : Mv) : Mv × Rp :=
 if m.f0 = 1 then (R.chM m,R.chR m)
 else if m.f0 = 2 then (R.shM m,R.shR m)
 else if m.f0 = 8 then ({ (R.nX m).2.1 with f13 := (R.nX m).1 },(R.outR 2).back (R.nX m).2.2)
 else if m.f0 = 11 then ({ m with f14 := R.ceV },R.ceN)
 else if m.f0 = 15 then ({ m with f15 := R.numV 2,f16 := (R.numR 2).vecV 2 0 65536 },(R.numR 2).vecR 2 0 65536)
 else if m.f0 = 20 then ({ m with f16 := R.f1.bytV (R.s.size : Int) },R.f1.bytR (R.s.size : Int))
 else if m.f0 = 4 then (R.tiM m,R.ti4.barR)
 else ({ m with f20 := R.numV 1 + 1 },R.u1)
theorem Rp.Ok.f1 {R : Rp} (h : R.Ok) : R.f1.Ok := h.need _
theorem Rp.Ok.u1 {R : Rp} (h : R.Ok) : R.u1.Ok := (h.numR 1).allow _
set_option maxRecDepth 100000 in
set_option maxHeartbeats 8000000 in
theorem body_1 (lo r f gm : Nat) (R : Rp) (m : Mv) (w : World) (hk : m.f0 = 1) (hl : lo ≤ f) (hl2 : lo ≤ r) (hg : lo ≤ gm) (h : RS w r f R) (ho : R.Ok) (hm : MO (fun _ => True) w gm m) :
  Calls Try.prog 49 #[.pointer (some ⟨r,0,none⟩),.pointer (some ⟨gm,0,none⟩)] w fun ex w' => ex = .returned (.tuple #[]) ∧ RS w' r f (Rp.done (R.chR m)) ∧ MO (fun _ => True) w' gm (R.chM m) ∧ Kg lo r f gm w w' := by
 have HKK := Aq.mk hk
 clear hk
 have H := Aq.mk h
 have HL := Aq.mk hl
 have HL2 := Aq.mk hl2
 have HG := Aq.mk hg
 have HO := Aq.mk ho
 have HWL := Aq.mk (h.wsz hl)
 have M := Aq.mk hm
 have K := Aq.mk (Kg.of_kf (g := gm) (Kf.refl lo r f w))
 clear h hl hl2 hg ho hm
 go_enter Try.func49,Try.ntmps49
 go_wp2_with (first
  | ((with_reducible refine gate_dst (N := 8) rfl ?_); obtain ⟨hd_,hm_⟩ := M.out; refine ld (v := .int .i64 1) rfl rfl rfl hm_.box Try.underlying3 rfl (by show some (Value.int .i64 m.f0) = _; rw [HKK.out]) ?_; clear hm_)
  | (go_at_call 64; (with_reducible refine (clientHello_c lo r f gm R m _ HL.out HL2.out HG.out H.out HO.out M.out).mono ?_); rintro e1 w1 ⟨rfl,i1,m1,k1⟩; have H1 := Aq.mk i1; have M1 := Aq.mk m1; have K1 := Aq.mk k1; clear i1 m1 k1)
  | (go_at_call 77; (with_reducible refine (done_c lo r f (R.chR m) _ HL.out H1.out).mono ?_); rintro e20 w20 ⟨rfl,i20,k20⟩; have M20 := Aq.mk (M1.out.kf H1.out k20); have H20 := Aq.mk i20; have K20 := Aq.mk (K1.out.trans (Kg.of_kf k20)); clear i20 k20))
 first | go_end0 | ((try simp only [Exit.inBlock,Exit.then]); refine bodyPost_ret (results_none rfl _ _ _) rfl ?_)
 exact ⟨rfl,H20.out,M20.out,K20.out⟩
set_option maxRecDepth 100000 in
set_option maxHeartbeats 8000000 in
theorem body_2 (lo r f gm : Nat) (R : Rp) (m : Mv) (w : World) (hk : m.f0 = 2) (hl : lo ≤ f) (hl2 : lo ≤ r) (hg : lo ≤ gm) (h : RS w r f R) (ho : R.Ok) (hm : MO (fun _ => True) w gm m) :
  Calls Try.prog 49 #[.pointer (some ⟨r,0,none⟩),.pointer (some ⟨gm,0,none⟩)] w fun ex w' => ex = .returned (.tuple #[]) ∧ RS w' r f (Rp.done (R.shR m)) ∧ MO (fun _ => True) w' gm (R.shM m) ∧ Kg lo r f gm w w' := by
 have HKK := Aq.mk hk
 clear hk
 have H := Aq.mk h
 have HL := Aq.mk hl
 have HL2 := Aq.mk hl2
 have HG := Aq.mk hg
 have HO := Aq.mk ho
 have HWL := Aq.mk (h.wsz hl)
 have M := Aq.mk hm
 have K := Aq.mk (Kg.of_kf (g := gm) (Kf.refl lo r f w))
 clear h hl hl2 hg ho hm
 go_enter Try.func49,Try.ntmps49
 go_wp2_with (first
  | ((with_reducible refine gate_dst (N := 8) rfl ?_); obtain ⟨hd_,hm_⟩ := M.out; refine ld (v := .int .i64 2) rfl rfl rfl hm_.box Try.underlying3 rfl (by show some (Value.int .i64 m.f0) = _; rw [HKK.out]) ?_; clear hm_)
  | (go_at_call 65; (with_reducible refine (serverHello_c lo r f gm R m _ HL.out HL2.out HG.out H.out HO.out M.out).mono ?_); rintro e1 w1 ⟨rfl,i1,m1,k1⟩; have H1 := Aq.mk i1; have M1 := Aq.mk m1; have K1 := Aq.mk k1; clear i1 m1 k1)
  | (go_at_call 77; (with_reducible refine (done_c lo r f (R.shR m) _ HL.out H1.out).mono ?_); rintro e20 w20 ⟨rfl,i20,k20⟩; have M20 := Aq.mk (M1.out.kf H1.out k20); have H20 := Aq.mk i20; have K20 := Aq.mk (K1.out.trans (Kg.of_kf k20)); clear i20 k20))
 first | go_end0 | ((try simp only [Exit.inBlock,Exit.then]); refine bodyPost_ret (results_none rfl _ _ _) rfl ?_)
 exact ⟨rfl,H20.out,M20.out,K20.out⟩
set_option maxRecDepth 100000 in
set_option maxHeartbeats 8000000 in
theorem body_11 (lo r f gm : Nat) (R : Rp) (m : Mv) (w : World) (hk : m.f0 = 11) (hl : lo ≤ f) (hl2 : lo ≤ r) (hg : lo ≤ gm) (h : RS w r f R) (ho : R.Ok) (hm : MO (fun _ => True) w gm m) :
  Calls Try.prog 49 #[.pointer (some ⟨r,0,none⟩),.pointer (some ⟨gm,0,none⟩)] w fun ex w' => ex = .returned (.tuple #[]) ∧ RS w' r f (Rp.done R.ceN) ∧ MO (fun _ => True) w' gm { m with f14 := R.ceV } ∧ Kg lo r f gm w w' := by
 have HKK := Aq.mk hk
 clear hk
 have H := Aq.mk h
 have HL := Aq.mk hl
 have HL2 := Aq.mk hl2
 have HG := Aq.mk hg
 have HO := Aq.mk ho
 have HWL := Aq.mk (h.wsz hl)
 have M := Aq.mk hm
 have K := Aq.mk (Kg.of_kf (g := gm) (Kf.refl lo r f w))
 clear h hl hl2 hg ho hm
 go_enter Try.func49,Try.ntmps49
 go_wp2_with (first
  | ((with_reducible refine gate_dst (N := 8) rfl ?_); obtain ⟨hd_,hm_⟩ := M.out; refine ld (v := .int .i64 11) rfl rfl rfl hm_.box Try.underlying3 rfl (by show some (Value.int .i64 m.f0) = _; rw [HKK.out]) ?_; clear hm_)
  | (go_at_call 69; (with_reducible refine (certificate_c lo r f gm R m _ HL.out HL2.out HG.out H.out HO.out M.out).mono ?_); rintro e1 w1 ⟨rfl,i1,m1,k1⟩; have H1 := Aq.mk i1; have M1 := Aq.mk m1; have K1 := Aq.mk k1; clear i1 m1 k1)
  | (go_at_call 77; (with_reducible refine (done_c lo r f R.ceN _ HL.out H1.out).mono ?_); rintro e20 w20 ⟨rfl,i20,k20⟩; have M20 := Aq.mk (M1.out.kf H1.out k20); have H20 := Aq.mk i20; have K20 := Aq.mk (K1.out.trans (Kg.of_kf k20)); clear i20 k20))
 first | go_end0 | ((try simp only [Exit.inBlock,Exit.then]); refine bodyPost_ret (results_none rfl _ _ _) rfl ?_)
 exact ⟨rfl,H20.out,M20.out,K20.out⟩
set_option maxRecDepth 100000 in
set_option maxHeartbeats 8000000 in
theorem body_4 (lo r f gm : Nat) (R : Rp) (m : Mv) (w : World) (hk : m.f0 = 4) (hl : lo ≤ f) (hl2 : lo ≤ r) (hg : lo ≤ gm) (h : RS w r f R) (ho : R.Ok) (hm : MO (fun _ => True) w gm m) :
  Calls Try.prog 49 #[.pointer (some ⟨r,0,none⟩),.pointer (some ⟨gm,0,none⟩)] w fun ex w' => ex = .returned (.tuple #[]) ∧ RS w' r f (Rp.done R.ti4.barR) ∧ MO (fun _ => True) w' gm (R.tiM m) ∧ Kg lo r f gm w w' := by
 have HKK := Aq.mk hk
 clear hk
 have H := Aq.mk h
 have HL := Aq.mk hl
 have HL2 := Aq.mk hl2
 have HG := Aq.mk hg
 have HO := Aq.mk ho
 have HWL := Aq.mk (h.wsz hl)
 have M := Aq.mk hm
 have K := Aq.mk (Kg.of_kf (g := gm) (Kf.refl lo r f w))
 clear h hl hl2 hg ho hm
 go_enter Try.func49,Try.ntmps49
 go_wp2_with (first
  | ((with_reducible refine gate_dst (N := 8) rfl ?_); obtain ⟨hd_,hm_⟩ := M.out; refine ld (v := .int .i64 4) rfl rfl rfl hm_.box Try.underlying3 rfl (by show some (Value.int .i64 m.f0) = _; rw [HKK.out]) ?_; clear hm_)
  | (go_at_call 74; (with_reducible refine (ticket_c lo r f gm R m _ HL.out HL2.out HG.out H.out HO.out M.out).mono ?_); rintro e1 w1 ⟨rfl,i1,m1,k1⟩; have H1 := Aq.mk i1; have M1 := Aq.mk m1; have K1 := Aq.mk k1; clear i1 m1 k1)
  | (go_at_call 77; (with_reducible refine (done_c lo r f R.ti4.barR _ HL.out H1.out).mono ?_); rintro e20 w20 ⟨rfl,i20,k20⟩; have M20 := Aq.mk (M1.out.kf H1.out k20); have H20 := Aq.mk i20; have K20 := Aq.mk (K1.out.trans (Kg.of_kf k20)); clear i20 k20))
 first | go_end0 | ((try simp only [Exit.inBlock,Exit.then]); refine bodyPost_ret (results_none rfl _ _ _) rfl ?_)
 exact ⟨rfl,H20.out,M20.out,K20.out⟩
set_option maxRecDepth 100000 in
set_option maxHeartbeats 8000000 in
theorem body_15 (lo r f gm : Nat) (R : Rp) (m : Mv) (w : World) (hk : m.f0 = 15) (hl : lo ≤ f) (hl2 : lo ≤ r) (hg : lo ≤ gm) (h : RS w r f R) (ho : R.Ok) (hm : MO (fun _ => True) w gm m) :
  Calls Try.prog 49 #[.pointer (some ⟨r,0,none⟩),.pointer (some ⟨gm,0,none⟩)] w fun ex w' => ex = .returned (.tuple #[]) ∧ RS w' r f (Rp.done ((R.numR 2).vecR 2 0 65536)) ∧ MO (fun _ => True) w' gm { m with f15 := R.numV 2,f16 := (R.numR 2).vecV 2 0 65536 } ∧ Kg lo r f gm w w' := by
 have HKK := Aq.mk hk
 clear hk
 have H := Aq.mk h
 have HL := Aq.mk hl
 have HL2 := Aq.mk hl2
 have HG := Aq.mk hg
 have HO := Aq.mk ho
 have HWL := Aq.mk (h.wsz hl)
 have M := Aq.mk hm
 have K := Aq.mk (Kg.of_kf (g := gm) (Kf.refl lo r f w))
 clear h hl hl2 hg ho hm
 go_enter Try.func49,Try.ntmps49
 go_wp2_with (first
  | ((with_reducible refine gate_dst (N := 8) rfl ?_); obtain ⟨hd_,hm_⟩ := M.out; refine ld (v := .int .i64 15) rfl rfl rfl hm_.box Try.underlying3 rfl (by show some (Value.int .i64 m.f0) = _; rw [HKK.out]) ?_; clear hm_)
  | (go_at_call 70; (with_reducible refine (u16_c lo r f R _ HL.out HL2.out H.out HO.out).mono ?_); rintro e1 w1 ⟨rfl,i1,k1⟩; have M1 := Aq.mk (M.out.kf H.out k1); have H1 := Aq.mk i1; have K1 := Aq.mk (K.out.trans (Kg.of_kf k1)); clear i1 k1)
  | ((with_reducible refine gate_store (p := 49) rfl ?_); obtain ⟨hd_,hm_⟩ := M1.out; refine st (v := .int .i64 (R.numV 2)) rfl rfl rfl hm_.box sz3' rfl rfl rfl (by rw [cells_size]; omega) ?_; intro w2 h3_ b3_ k3_; have M2 := Aq.mk (hm_.s15 _ h3_ k3_); have H2 := Aq.mk (H1.out.store hm_ k3_); have K2 := Aq.mk (K1.out.trans (Kg.of_store (b3_ _ HG.out) k3_)); clear h3_ b3_ k3_ hm_)
  | (go_at_call 71; (with_reducible refine (rvec_c lo r f (R.numR 2) _ 2 2 rfl 0 65536 (by omega) (by omega) HL.out HL2.out H2.out (HO.out.numR 2)).mono ?_); rintro e3 w3 ⟨rfl,i1,k1⟩; have M3 := Aq.mk (M2.out.kf H2.out k1); have H3 := Aq.mk i1; have K3 := Aq.mk (K2.out.trans (Kg.of_kf k1)); clear i1 k1)
  | ((with_reducible refine gate_store (p := 54) rfl ?_); obtain ⟨hd_,hm_⟩ := M3.out; refine st (v := .string ((R.numR 2).vecV 2 0 65536)) rfl rfl rfl hm_.box sz9 rfl rfl rfl (by rw [cells_size]; omega) ?_; intro w4 h3_ b3_ k3_; have M4 := Aq.mk (hm_.s16 _ h3_ k3_); have H4 := Aq.mk (H3.out.store hm_ k3_); have K4 := Aq.mk (K3.out.trans (Kg.of_store (b3_ _ HG.out) k3_)); clear h3_ b3_ k3_ hm_)
  | (go_at_call 77; (with_reducible refine (done_c lo r f ((R.numR 2).vecR 2 0 65536) _ HL.out H4.out).mono ?_); rintro e20 w20 ⟨rfl,i20,k20⟩; have M20 := Aq.mk (M4.out.kf H4.out k20); have H20 := Aq.mk i20; have K20 := Aq.mk (K4.out.trans (Kg.of_kf k20)); clear i20 k20))
 first | go_end0 | ((try simp only [Exit.inBlock,Exit.then]); refine bodyPost_ret (results_none rfl _ _ _) rfl ?_)
 exact ⟨rfl,H20.out,M20.out,K20.out⟩
set_option maxRecDepth 100000 in
set_option maxHeartbeats 8000000 in
theorem body_8 (lo r f gm : Nat) (R : Rp) (m : Mv) (w : World) (hk : m.f0 = 8) (hl : lo ≤ f) (hl2 : lo ≤ r) (hg : lo ≤ gm) (h : RS w r f R) (ho : R.Ok) (hm : MO (fun _ => True) w gm m) :
  Calls Try.prog 49 #[.pointer (some ⟨r,0,none⟩),.pointer (some ⟨gm,0,none⟩)] w fun ex w' => ex = .returned (.tuple #[]) ∧ RS w' r f (Rp.done ((R.outR 2).back (R.nX m).2.2)) ∧ MO (fun _ => True) w' gm { (R.nX m).2.1 with f13 := (R.nX m).1 } ∧ Kg lo r f gm w w' := by
 have HKK := Aq.mk hk
 clear hk
 have H := Aq.mk h
 have HL := Aq.mk hl
 have HL2 := Aq.mk hl2
 have HG := Aq.mk hg
 have HO := Aq.mk ho
 have HWL := Aq.mk (h.wsz hl)
 have M := Aq.mk hm
 have K := Aq.mk (Kg.of_kf (g := gm) (Kf.refl lo r f w))
 clear h hl hl2 hg ho hm
 go_enter Try.func49,Try.ntmps49
 go_wp2_with (first
  | ((with_reducible refine gate_dst (N := 8) rfl ?_); obtain ⟨hd_,hm_⟩ := M.out; refine ld (v := .int .i64 8) rfl rfl rfl hm_.box Try.underlying3 rfl (by show some (Value.int .i64 m.f0) = _; rw [HKK.out]) ?_; clear hm_)
  | (go_at_call 66; (with_reducible refine (rwithin_c lo r f R _ 2 2 rfl (by omega) (by omega) HL.out HL2.out H.out HO.out).mono ?_); rintro e3 w3 ⟨r2,rfl,n1,i1,j1,k1⟩; have HN := Aq.mk n1; have HP := Aq.mk i1; have HI := Aq.mk j1; have M3 := Aq.mk (M.out.kf H.out k1); have KI := Aq.mk (K.out.trans (Kg.of_kf k1)); have HL3 := Aq.mk (show lo ≤ r2 from Nat.le_trans (H.out.wsz HL.out) n1); have HNE := Aq.mk (show r ≠ r2 from by have := H.out.sz; omega); clear n1 i1 j1 k1)
  | (go_at_call 67; (refine (exts_c 68 #[] lo r2 f gm nonT sameL (R.inR 2) m _ (nonT_c lo r2 f gm _) HL.out HL3.out HI.out (HO.out.inR 2) M3.out).mono ?_); rintro e4 w4 ⟨v4,rfl,r4,m4,i4,k4⟩; obtain ⟨A4,c4,rfl⟩ := Kd.R_slice r4; have R4 := Aq.mk (show Kd.R (Kd.int .i64) 3 w4 0 (fun _ => True) (.slice A4 (R.nX m).1.length c4) (R.nX m).1 from r4); have M4 := Aq.mk (show MO (fun _ => True) w4 gm (R.nX m).2.1 from m4); have HGR := Aq.mk (show r ≠ gm from by obtain ⟨_,z⟩ := M3.out; exact blk_ne HP.out.rd z.box (by decide)); have H4 := Aq.mk (show RS w4 r f ((R.outR 2).back (R.nX m).2.2) from ⟨k4.keep r _ HP.out.rd HNE.out HP.out.ne HGR.out,i4.ft⟩); have K4 := Aq.mk (Kg.inner KI.out HN.out k4); clear i4 k4 r4 m4)
  | ((with_reducible refine gate_store (p := 37) rfl ?_); obtain ⟨hd_,hm_⟩ := M4.out; refine st (v := .slice A4 (R.nX m).1.length c4) rfl rfl rfl hm_.box sz44 rfl rfl rfl (by rw [cells_size]; omega) ?_; intro w5 h3_ b3_ k3_; have M5 := Aq.mk (hm_.s13 R4.out h3_ k3_); have H5 := Aq.mk (H4.out.store hm_ k3_); have K5 := Aq.mk (K4.out.trans (Kg.of_store (b3_ _ HG.out) k3_)); clear h3_ b3_ k3_ hm_)
  | (go_at_call 77; (with_reducible refine (done_c lo r f ((R.outR 2).back (R.nX m).2.2) _ HL.out H5.out).mono ?_); rintro e20 w20 ⟨rfl,i20,k20⟩; have M20 := Aq.mk (M5.out.kf H5.out k20); have H20 := Aq.mk i20; have K20 := Aq.mk (K5.out.trans (Kg.of_kf k20)); clear i20 k20))
 first | go_end0 | ((try simp only [Exit.inBlock,Exit.then]); refine bodyPost_ret (results_none rfl _ _ _) rfl ?_)
 exact ⟨rfl,H20.out,M20.out,K20.out⟩
set_option maxRecDepth 100000 in
set_option maxHeartbeats 8000000 in
theorem body_20 (lo r f gm : Nat) (R : Rp) (m : Mv) (w : World) (hk : m.f0 = 20) (hl : lo ≤ f) (hl2 : lo ≤ r) (hg : lo ≤ gm) (h : RS w r f R) (ho : R.Ok) (hm : MO (fun _ => True) w gm m) :
  Calls Try.prog 49 #[.pointer (some ⟨r,0,none⟩),.pointer (some ⟨gm,0,none⟩)] w fun ex w' => ex = .returned (.tuple #[]) ∧ RS w' r f (Rp.done (R.f1.bytR (R.s.size : Int))) ∧ MO (fun _ => True) w' gm { m with f16 := R.f1.bytV (R.s.size : Int) } ∧ Kg lo r f gm w w' := by
 have HKK := Aq.mk hk
 clear hk
 have H := Aq.mk h
 have HL := Aq.mk hl
 have HL2 := Aq.mk hl2
 have HG := Aq.mk hg
 have HO := Aq.mk ho
 have HWL := Aq.mk (h.wsz hl)
 have M := Aq.mk hm
 have K := Aq.mk (Kg.of_kf (g := gm) (Kf.refl lo r f w))
 clear h hl hl2 hg ho hm
 go_enter Try.func49,Try.ntmps49
 go_wp2_with (first
  | ((with_reducible refine gate_dst (N := 8) rfl ?_); obtain ⟨hd_,hm_⟩ := M.out; refine ld (v := .int .i64 20) rfl rfl rfl hm_.box Try.underlying3 rfl (by show some (Value.int .i64 m.f0) = _; rw [HKK.out]) ?_; clear hm_))
 refine start_ (n := 9) (S := fun w' => Below w.heap.size w w') (ds := [8]) #[false,false,false,false,false,false,false,false,false] (by kernel_rfl) rfl rfl (Below.refl w.heap.size w).drew (fun hHeld => ?_)
 have KA := K
 have HS := Aq.mk (Below.refl w.heap.size w).drew
 generalize w.drew = w7 at HS hHeld ⊢
 refine pure_ (i := 0) (N := (some 57)) (v := ?_) (a' := ?_) #[true,false,false,false,false,false,false,false,false] rfl rfl (by kernel_rfl) (fun _ _ _ h => h) (Or.inl ⟨by rfl,?_⟩) ?_ ?_
 rotate_left
 ·intro w'
  go_simp
  with_reducible rfl
 rotate_left
 ·simp only [Act.put,LS_]
  rfl
 refine pure_ (i := 2) (N := (some 59)) (v := ?_) (a' := ?_) #[true,false,true,false,false,false,false,false,false] rfl rfl (by kernel_rfl) (fun _ _ _ h => h) (Or.inl ⟨by rfl,?_⟩) ?_ ?_
 rotate_left
 ·intro w'
  go_simp
  with_reducible rfl
 rotate_left
 ·simp only [Act.put,LS_]
  rfl
 refine pure_ (i := 3) (N := (some 60)) (v := ?_) (a' := ?_) #[true,false,true,true,false,false,false,false,false] rfl rfl (by kernel_rfl) (fun _ _ _ h => h) (Or.inl ⟨by rfl,?_⟩) ?_ ?_
 rotate_left
 ·intro w'
  go_simp
  with_reducible rfl
 rotate_left
 ·simp only [Act.put,LS_]
  rfl
 refine pure_ (i := 4) (N := (some 61)) (v := ?_) (a' := ?_) #[true,false,true,true,true,false,false,false,false] rfl rfl (by kernel_rfl) (fun _ _ _ h => h) (Or.inl ⟨by rfl,?_⟩) ?_ ?_
 rotate_left
 ·intro w'
  go_simp
  with_reducible rfl
 rotate_left
 ·simp only [Act.put,LS_]
  rfl
 refine take_ (i := 5) (N := (some 62)) (v := ?_) (a' := ?_) #[true,false,true,true,true,true,false,false,false] rfl rfl (by kernel_rfl) (fun _ _ _ h => h) (Or.inl ⟨by rfl,?_⟩) hHeld ?_ ?_
 rotate_left
 ·rintro w' hS
  have hc := rcell H.out.rd hS
  obtain ⟨hc1,hc2,hc3⟩ := hc
  go_simp
  with_reducible rfl
 rotate_left
 ·simp only [Act.put,LS_]
  rfl
 refine pure_ (i := 6) (N := (some 63)) (v := ?_) (a' := ?_) #[true,false,true,true,true,true,true,false,false] rfl rfl (by kernel_rfl) (fun _ _ _ h => h) (Or.inl ⟨by rfl,?_⟩) ?_ ?_
 rotate_left
 ·intro w'
  go_simp
  with_reducible rfl
 rotate_left
 ·simp only [Act.put,LS_]
  rfl
 refine one_ (i := 1) (N := (some 58)) #[true,true,true,true,true,true,true,false,false] rfl rfl (by kernel_rfl) (by decide) (fun K hK => ?_)
 refine goes_ (f := 63) Try.func63 (by kernel_rfl) rfl #[] (by rfl) rfl rfl (by (try simp only [List.map_toArray,List.map_cons,List.map_nil]); first | done | rfl) ?_
 refine (msg_finished.calls [32,48] _ rfl).mono ?_
 rintro e w8 ⟨v63,rfl,r63,b63⟩
 obtain ⟨A63,c63,e63,l63,C63⟩ := Kd.R_reads r63
 subst e63
 refine ⟨_,rfl,?_⟩
 have HS8 := Aq.mk (below_step HS.out b63)
 have R63 := Aq.mk (show Kd.C (Kd.int .i64) w8 A63 2 [32,48] from C63)
 clear r63 b63 C63
 refine hK.out _ _ (HS8.out) (fun hHeld => ?_)
 clear hK K
 refine norm_ (a' := ?_) ?_ ?_
 rotate_left
 ·show Act.put _ (some 58) _ = _
  simp only [Act.put,LS_]
  rfl
 refine one_ (i := 7) (N := (some 64)) #[true,true,true,true,true,true,true,true,false] rfl rfl (by kernel_rfl) (by decide) (fun K hK => ?_)
 refine goes_ (f := 62) Try.func62 (by kernel_rfl) rfl #[.slice A63 2 c63,.int .i64 (R.s.size : Int)] (by rfl) rfl rfl (by (try simp only [List.map_toArray,List.map_cons,List.map_nil]); first | done | rfl) ?_
 refine (slices_Contains_int_int.calls 9 A63 c63 [32,48] (R.s.size : Int) (fin32 (R.s.size : Int)) _ R63.out l63 (fin_f _)).mono ?_
 rintro e w9 ⟨rfl,d9⟩
 refine ⟨_,rfl,?_⟩
 have HS9 := Aq.mk (below_step HS8.out d9.below)
 clear d9
 refine hK.out _ _ (HS9.out) (fun hHeld => ?_)
 clear hK K
 refine norm_ (a' := ?_) ?_ ?_
 rotate_left
 ·show Act.put _ (some 64) _ = _
  simp only [Act.put,LS_]
  rfl
 refine last_ (i := 8) (N := (some 65)) #[true,true,true,true,true,true,true,true,true] rfl rfl (by kernel_rfl) (by decide) (fun K hK => ?_)
 refine goes_ (f := 72) Try.func72 (by kernel_rfl) rfl #[.pointer (some ⟨r,0,none⟩),.bool (fin32 (R.s.size : Int))] (by rfl) rfl rfl (by (try simp only [List.map_toArray,List.map_cons,List.map_nil]); first | done | rfl) ?_
 refine (rneed_c lo r f R _ (fin32 (R.s.size : Int)) HL.out (H.out.below HS9.out)).mono ?_
 rintro e w10 ⟨rfl,i10,k10⟩
 refine ⟨_,rfl,?_⟩
 have M1 := Aq.mk ((M.out.below HS9.out).kf (show RS w9 r f R from H.out.below HS9.out) k10)
 have H1 := Aq.mk (show RS w10 r f R.f1 from i10)
 have K1 := Aq.mk (KA.out.trans (Kg.of_kf ((Kf.of_below (r := r) (f := f) HWL.out HS9.out).trans k10)))
 clear i10 k10
 refine hK.out _ _ ?_
 clear hK K
 refine norm_ (a' := ?_) ?_ ?_
 rotate_left
 ·show Act.put _ (some 65) _ = _
  simp only [Act.put,LS_]
  rfl
 refine done_ (by kernel_rfl) ?_
 go_wp2_with (first
  | ((with_reducible refine gate_dst (N := 71) rfl ?_); refine ld (v := .string R.s) rfl rfl rfl H1.out.rd Try.underlying9 rfl rfl ?_)
  | (go_at_call 73; (with_reducible refine (bytes_c lo r f R.f1 _ (R.s.size : Int) (by omega) (by have := HO.out.sz; omega) HL.out HL2.out H1.out HO.out.f1).mono ?_); rintro e2 w2 ⟨rfl,i1,k1⟩; have M2 := Aq.mk (M1.out.kf H1.out k1); have H2 := Aq.mk i1; have K2 := Aq.mk (K1.out.trans (Kg.of_kf k1)); clear i1 k1)
  | ((with_reducible refine gate_store (p := 75) rfl ?_); obtain ⟨hd_,hm_⟩ := M2.out; refine st (v := .string (R.f1.bytV (R.s.size : Int))) rfl rfl rfl hm_.box sz9 rfl rfl rfl (by rw [cells_size]; omega) ?_; intro w3 h3_ b3_ k3_; have M3 := Aq.mk (hm_.s16 _ h3_ k3_); have H3 := Aq.mk (H2.out.store hm_ k3_); have K3 := Aq.mk (K2.out.trans (Kg.of_store (b3_ _ HG.out) k3_)); clear h3_ b3_ k3_ hm_)
  | (go_at_call 77; (with_reducible refine (done_c lo r f (R.f1.bytR (R.s.size : Int)) _ HL.out H3.out).mono ?_); rintro e20 w20 ⟨rfl,i20,k20⟩; have M20 := Aq.mk (M3.out.kf H3.out k20); have H20 := Aq.mk i20; have K20 := Aq.mk (K3.out.trans (Kg.of_kf k20)); clear i20 k20))
 first | go_end0 | ((try simp only [Exit.inBlock,Exit.then]); refine bodyPost_ret (results_none rfl _ _ _) rfl ?_)
 exact ⟨rfl,H20.out,M20.out,K20.out⟩
set_option maxRecDepth 100000 in
set_option maxHeartbeats 8000000 in
theorem body_no (lo r f gm : Nat) (R : Rp) (m : Mv) (w : World) (k0 : Int) (hk : m.f0 = k0) (n1 : (k0 == 1) = false) (n2 : (k0 == 2) = false) (n8 : (k0 == 8) = false) (n11 : (k0 == 11) = false) (n15 : (k0 == 15) = false) (n20 : (k0 == 20) = false) (n4 : (k0 == 4) = false) (hl : lo ≤ f) (hl2 : lo ≤ r) (hg : lo ≤ gm) (h : RS w r f R) (ho : R.Ok) (hm : MO (fun _ => True) w gm m) :
  Calls Try.prog 49 #[.pointer (some ⟨r,0,none⟩),.pointer (some ⟨gm,0,none⟩)] w fun ex w' => ex = .returned (.tuple #[]) ∧ RS w' r f (Rp.done R.u1) ∧ MO (fun _ => True) w' gm { m with f20 := R.numV 1 + 1 } ∧ Kg lo r f gm w w' := by
 have nb0 := (R.numV_bd 1).1
 have nb1 : R.numV 1 ≤ 255 := by have := (R.numV_bd 1).2; omega
 have HKK := Aq.mk hk
 clear hk
 have H := Aq.mk h
 have HL := Aq.mk hl
 have HL2 := Aq.mk hl2
 have HG := Aq.mk hg
 have HO := Aq.mk ho
 have HWL := Aq.mk (h.wsz hl)
 have M := Aq.mk hm
 have K := Aq.mk (Kg.of_kf (g := gm) (Kf.refl lo r f w))
 clear h hl hl2 hg ho hm
 go_enter Try.func49,Try.ntmps49
 go_wp2_with (first
  | ((with_reducible refine gate_dst (N := 8) rfl ?_); obtain ⟨hd_,hm_⟩ := M.out; refine ld (v := .int .i64 k0) rfl rfl rfl hm_.box Try.underlying3 rfl (by show some (Value.int .i64 m.f0) = _; rw [HKK.out]) ?_; clear hm_)
  | (go_at_call 75; (with_reducible refine (u8_c lo r f R _ HL.out HL2.out H.out HO.out).mono ?_); rintro e1 w1 ⟨rfl,i1,k1⟩; have M1 := Aq.mk (M.out.kf H.out k1); have H1 := Aq.mk i1; have K1 := Aq.mk (K.out.trans (Kg.of_kf k1)); clear i1 k1)
  | (go_at_call 76; (with_reducible refine (allow_c lo r f (R.numR 1) _ (decide (R.numV 1 ≤ 1)) HL.out H1.out).mono ?_); rintro e2 w2 ⟨rfl,i1,k1⟩; have M2 := Aq.mk (M1.out.kf H1.out k1); have H2 := Aq.mk (show RS w2 r f R.u1 from i1); have K2 := Aq.mk (K1.out.trans (Kg.of_kf k1)); clear i1 k1)
  | ((with_reducible refine gate_store (p := 19) rfl ?_); obtain ⟨hd_,hm_⟩ := M2.out; refine st (v := .int .i64 (R.numV 1 + 1)) rfl rfl rfl hm_.box sz3' rfl rfl rfl (by rw [cells_size]; omega) ?_; intro w3 h3_ b3_ k3_; have M3 := Aq.mk (hm_.s20 _ h3_ k3_); have H3 := Aq.mk (H2.out.store hm_ k3_); have K3 := Aq.mk (K2.out.trans (Kg.of_store (b3_ _ HG.out) k3_)); clear h3_ b3_ k3_ hm_)
  | (go_at_call 77; (with_reducible refine (done_c lo r f R.u1 _ HL.out H3.out).mono ?_); rintro e20 w20 ⟨rfl,i20,k20⟩; have M20 := Aq.mk (M3.out.kf H3.out k20); have H20 := Aq.mk i20; have K20 := Aq.mk (K3.out.trans (Kg.of_kf k20)); clear i20 k20))
 first | go_end0 | ((try simp only [Exit.inBlock,Exit.then]); refine bodyPost_ret (results_none rfl _ _ _) rfl ?_)
 exact ⟨rfl,H20.out,M20.out,K20.out⟩
theorem body_c (lo r f gm : Nat) (R : Rp) (m : Mv) (w : World) (hl : lo ≤ f) (hl2 : lo ≤ r) (hg : lo ≤ gm) (h : RS w r f R) (ho : R.Ok) (hm : MO (fun _ => True) w gm m) :
  Calls Try.prog 49 #[.pointer (some ⟨r,0,none⟩),.pointer (some ⟨gm,0,none⟩)] w fun ex w' => ex = .returned (.tuple #[]) ∧ RS w' r f (Rp.done (bodyP R m).2) ∧ MO (fun _ => True) w' gm (bodyP R m).1 ∧ Kg lo r f gm w w' := by
 unfold bodyP
 by_cases e1 : m.f0 = 1
 ·rw [if_pos e1]
  exact body_1 lo r f gm R m w e1 hl hl2 hg h ho hm
 rw [if_neg e1]
 by_cases e2 : m.f0 = 2
 ·rw [if_pos e2]
  exact body_2 lo r f gm R m w e2 hl hl2 hg h ho hm
 rw [if_neg e2]
 by_cases e8 : m.f0 = 8
 ·rw [if_pos e8]
  exact body_8 lo r f gm R m w e8 hl hl2 hg h ho hm
 rw [if_neg e8]
 by_cases e11 : m.f0 = 11
 ·rw [if_pos e11]
  exact body_11 lo r f gm R m w e11 hl hl2 hg h ho hm
 rw [if_neg e11]
 by_cases e15 : m.f0 = 15
 ·rw [if_pos e15]
  exact body_15 lo r f gm R m w e15 hl hl2 hg h ho hm
 rw [if_neg e15]
 by_cases e20 : m.f0 = 20
 ·rw [if_pos e20]
  exact body_20 lo r f gm R m w e20 hl hl2 hg h ho hm
 rw [if_neg e20]
 by_cases e4 : m.f0 = 4
 ·rw [if_pos e4]
  exact body_4 lo r f gm R m w e4 hl hl2 hg h ho hm
 rw [if_neg e4]
 exact body_no lo r f gm R m w _ rfl (beq_eq_false_iff_ne.mpr e1) (beq_eq_false_iff_ne.mpr e2) (beq_eq_false_iff_ne.mpr e8) (beq_eq_false_iff_ne.mpr e11) (beq_eq_false_iff_ne.mpr e15) (beq_eq_false_iff_ne.mpr e20) (beq_eq_false_iff_ne.mpr e4) hl hl2 hg h ho hm
end Go.Proofs.Ytlkebjkpmiehcaa.Ms
end
