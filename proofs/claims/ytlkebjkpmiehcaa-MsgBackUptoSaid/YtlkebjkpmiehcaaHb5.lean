/- Words, contracts and lemmas that the claim needs, in the order in which they build. Conditions: each lemma's own. -/
import Derived.OrdersHeld
import Derived.Tactics
import Derived.Test.YtlkebjkpmiehcaaHb4
namespace Go.Proofs.Ytlkebjkpmiehcaa
abbrev T50 : Array Bool := #[false,false,false,false,false,false,false,false,false,false,false,false,false,false,false,false,false,false,false,false,false]
abbrev T51 : Array Bool := #[false,false,false,false,false,false,false,false,false,false,false,false,false]
abbrev T54 : Array Bool := #[true,false,false,false,false,false,false,false,false,false,false,false,false,false,false,false,false,false,false,false,false]
abbrev T55 : Array Bool := #[true,false,false,false,false,false,false,false,false,false,false,false,false]
abbrev T513 : Array Bool := #[true,true,false,false,false,false,false,false,false,false,false,false,false,false,false,false,false,false,false,false,false]
abbrev T514 : Array Bool := #[true,true,false,false,false,false,false,false,false,false,false,false,false]
abbrev T516 : Array Bool := #[true,true,true,false,false,false,false,false,false,false,false,false,false,false,false,false,false,false,false,false,false]
abbrev T517 : Array Bool := #[true,true,true,false,false,false,false,false,false,false,false,false,false]
abbrev T519 : Array Bool := #[true,true,true,true,false,false,false,false,false,false,false,false,false,false,false,false,false,false,false,false,false]
abbrev T520 : Array Bool := #[true,true,true,true,false,false,false,false,false,false,false,false,false]
abbrev T522 : Array Bool := #[true,true,true,true,true,false,false,false,false,false,false,false,false,false,false,false,false,false,false,false,false]
abbrev T523 : Array Bool := #[true,true,true,true,true,false,false,false,false,false,false,false,false]
abbrev T525 : Array Bool := #[true,true,true,true,true,true,false,false,false,false,false,false,false,false,false,false,false,false,false,false,false]
abbrev T526 : Array Bool := #[true,true,true,true,true,true,false,false,false,false,false,false,false]
abbrev T528 : Array Bool := #[true,true,true,true,true,true,true,false,false,false,false,false,false,false,false,false,false,false,false,false,false]
abbrev T529 : Array Bool := #[true,true,true,true,true,true,true,false,false,false,false,false,false]
abbrev T532 : Array Bool := #[true,true,true,true,true,true,true,true,false,false,false,false,false,false,false,false,false,false,false,false,false]
abbrev T533 : Array Bool := #[true,true,true,true,true,true,true,true,false,false,false,false,false]
abbrev T536 : Array Bool := #[true,true,true,true,true,true,true,true,true,false,false,false,false,false,false,false,false,false,false,false,false]
abbrev T537 : Array Bool := #[true,true,true,true,true,true,true,true,true,false,false,false,false]
abbrev T539 : Array Bool := #[true,true,true,true,true,true,true,true,true,true,false,false,false,false,false,false,false,false,false,false,false]
abbrev T540 : Array Bool := #[true,true,true,true,true,true,true,true,true,true,false,false,false]
abbrev T541 : Array Bool := #[true,true,true,true,true,true,true,true,true,true,true,false,false,false,false,false,false,false,false,false,false]
abbrev T542 : Array Bool := #[true,true,true,true,true,true,true,true,true,true,true,false,false]
abbrev T543 : Array Bool := #[true,true,true,true,true,true,true,true,true,true,true,true,false,false,false,false,false,false,false,false,false]
abbrev T544 : Array Bool := #[true,true,true,true,true,true,true,true,true,true,true,true,false]
abbrev T545 : Array Bool := #[true,true,true,true,true,true,true,true,true,true,true,true,true,false,false,false,false,false,false,false,false]
abbrev T546 : Array Bool := #[true,true,true,true,true,true,true,true,true,true,true,true,true,true,false,false,false,false,false,false,false]
abbrev T547 : Array Bool := #[true,true,true,true,true,true,true,true,true,true,true,true,true,true,true,false,false,false,false,false,false]
abbrev T548 : Array Bool := #[true,true,true,true,true,true,true,true,true,true,true,true,true,true,true,true,false,false,false,false,false]
abbrev T549 : Array Bool := #[true,true,true,true,true,true,true,true,true,true,true,true,true,true,true,true,true,false,false,false,false]
abbrev T550 : Array Bool := #[true,true,true,true,true,true,true,true,true,true,true,true,true,true,true,true,true,true,false,false,false]
abbrev T551 : Array Bool := #[true,true,true,true,true,true,true,true,true,true,true,true,true,true,true,true,true,true,true,false,false]
abbrev T552 : Array Bool := #[true,true,true,true,true,true,true,true,true,true,true,true,true,true,true,true,true,true,true,true,false]
abbrev T553 : Array Bool := #[true,true,true,true,true,true,true,true,true,true,true,true,true,true,true,true,true,true,true,true,true]
abbrev T554 : Array Bool := #[true,true,true,true,true,true,true,true,true,true,true,true,true]
end Go.Proofs.Ytlkebjkpmiehcaa
section
namespace Go.Proofs.Ytlkebjkpmiehcaa.Ms
open Go.RowKit Go.Proofs.YtlkebjkpmiehcaaW.PrintWords Go.Proofs.YtlkebjkpmiehcaaW.PrintLast Go.Proofs.YtlkebjkpmiehcaaW.PrintMore Go.Proofs.Ytlkebjkpmiehcaa.X
set_option linter.unusedVariables false
set_option linter.unusedSimpArgs false
theorem putL_size (l : List E.S41) : (Go.Proofs.Ytlkebjkpmiehcaa.Pure.putL [] l).1.size ≤ 65539 * l.length := by
 have key : ∀ (r pre : List E.S41),(Go.Proofs.Ytlkebjkpmiehcaa.Pure.encs pre).size ≤ 65539 * pre.length → (Go.Proofs.Ytlkebjkpmiehcaa.Pure.putL pre r).1.size ≤ 65539 * (pre.length + r.length) := by
  intro r
  induction r with
  | nil =>
   intro pre hp
   unfold Go.Proofs.Ytlkebjkpmiehcaa.Pure.putL
   split
   ·show (0 : Nat) ≤ _
    omega
   ·show (Go.Proofs.Ytlkebjkpmiehcaa.Pure.encs pre).size ≤ _
    simp only [List.length_nil,Nat.add_zero]
    exact hp
  | cons y r ih =>
   intro pre hp
   unfold Go.Proofs.Ytlkebjkpmiehcaa.Pure.putL
   split
   ·next hy =>
    have h1 := Go.Proofs.Ytlkebjkpmiehcaa.Pure.encE_size hy
    have h2 := ih (pre ++ [y]) (by
     rw [Go.Proofs.Ytlkebjkpmiehcaa.Pure.encs_snoc,ByteArray.size_append,List.length_append,List.length_singleton]
     omega)
    rw [List.length_append,List.length_singleton] at h2
    rw [List.length_cons]
    omega
   ·show (0 : Nat) ≤ _
    omega
 have := key l [] (by show (0 : Nat) ≤ _; omega)
 simpa using this
theorem xPut_s (is : Bool) (W U : Wp) : (xPut is W U).s = W.s := by
 unfold xPut
 split <;> rfl
def XB (l : List E.S41) (n : Nat) : Prop := l.length ≤ n ∧ ∀ y ∈ l,y.f1.size ≤ 140737488351232
theorem XB.nil : XB [] 0 := ⟨Nat.le_refl _,fun y h => by cases h⟩
theorem XB.put {l : List E.S41} {n : Nat} (h : XB l n) (is : Bool) (k : Int) (U : Wp) (hU : U.s.size ≤ 140737488351232) : XB (xPutL is k U l) (n + 1) := by
 unfold xPutL
 split
 ·refine ⟨by rw [List.length_append,List.length_singleton]; have := h.1; omega,fun y hy => ?_⟩
  rcases List.mem_append.1 hy with h1 | h1
  ·exact h.2 y h1
  ·rw [List.mem_singleton] at h1
   rw [h1]
   exact hU
 ·exact ⟨by have := h.1; omega,h.2⟩
theorem WS.bad_cell {lo g : Nat} {w : World} {W : Wp} {b : Bool} (h : WS lo w g W) (hb : W.b = b) : ∃ v,w.heap[g]? = some (.cells #[v,.bool b] 83 (0,0)) := by
 obtain ⟨v,h1,_,_⟩ := h
 rw [hb] at h1
 exact ⟨v,h1⟩
theorem built115 (g : Nat) : Try.prog.built 115 [(0,.pointer (some ⟨g,0,none⟩))] = some #[.pointer (some ⟨g,0,none⟩),.slice none 0 0] := by kernel_rfl
theorem build115 {ops : Array Oper} {rest : List Oper} {o : Oper} {a : Act} {Q : Exit → Act → World → Prop} {w : World} {x : Operand} {g : Nat} (hgd : o.guard = none) (ho : o.op = .build 115 #[(0,x)]) (hx : a.eval x = .pointer (some ⟨g,0,none⟩))
  (H : wpList Try.prog ops Q rest (a.put o.dst (.agg #[.pointer (some ⟨g,0,none⟩),.slice none 0 0])) w) : wpList Try.prog ops Q (o :: rest) a w := by
 refine Kd.event_run hgd ?_ H
 have hr := run_build (P := Try.prog) w 115 #[(0,.pointer (some ⟨g,0,none⟩))] _ (built115 g)
 have he : (#[(0,x)] : Array (Nat × Operand)).map (fun x => (x.fst,a.eval x.snd)) = #[(0,.pointer (some ⟨g,0,none⟩))] := by simp [hx]
 unfold execOp
 simp only [ho,Sem.run_bind]
 rw [he,hr]
 rfl
theorem XS.start {x g : Nat} {w : World} (h : w.heap[x]? = some (.cells #[.pointer (some ⟨g,0,none⟩),.slice none 0 0] 115 (0,0))) : XS x g w [] := ⟨_,h,Kd.R_nil _ _ _ _ _⟩
structure MB (m : Mv) : Prop where
 b1 : m.f1.size ≤ 2097152
 b2 : m.f2.size ≤ 2097152
 b3 : m.f3.length ≤ 16777216
 b4 : m.f4.size ≤ 2097152
 b5 : m.f5.length ≤ 16777216
 b6 : m.f6.length ≤ 16777216
 b7 : m.f7.length ≤ 16777216
 b8 : m.f8.length ≤ 16777216
 b9 : m.f9.length ≤ 16777216
 c9 : ∀ a,a ∈ m.f9 → a.f1.size ≤ 2097152
 b10 : m.f10.length ≤ 16777216
 c10 : ∀ a,a ∈ m.f10 → a.f0.size ≤ 2097152
 b11 : m.f11.length ≤ 16777216
 c11 : ∀ a,a ∈ m.f11 → a.size ≤ 2097152
 b14 : m.f14.length ≤ 16777216
 c14 : ∀ a,a ∈ m.f14 → a.size ≤ 2097152
 b16 : m.f16.size ≤ 2097152
 b19 : m.f19.size ≤ 2097152
def shOk1 (m : Mv) : Bool := ((m.f3.length : Int) == 1) && decide ((m.f5.length : Int) ≤ 1)
def shOk2 (m : Mv) : Bool := (m.retry && decide ((m.f6.length : Int) ≤ 1) && ((m.f9.length : Int) == 0) && (m.f12 == 0)) || (!m.retry && ((m.f6.length : Int) == 0) && decide ((m.f9.length : Int) ≤ 1))
def shW (W : Wp) (m : Mv) : Wp := ((W.hello m.f1 m.f2).need (shOk1 m)).need (shOk2 m)
theorem hello_size (W : Wp) (r s : ByteArray) (hr : r.size ≤ 2097152) (hs : s.size ≤ 2097152) : (W.hello r s).s.size ≤ W.s.size + 33554432 := by
 have h1 := W.num_size 771 2 (by omega) (by omega)
 have h2 := (((W.num 771 2).need ((r.size : Int) == 32)).add r).vec_size s 1 0 32 (by omega) (by omega) (by omega)
 rw [Wp.add_size] at h2
 have h3 : ((W.num 771 2).need ((r.size : Int) == 32)).s.size = (W.num 771 2).s.size := rfl
 unfold Wp.hello
 omega
theorem retry_at (m : Mv) (h : Hd) (w : World) (rd : Reads w m h) (r : Bool) (hr : m.retry = r) :
  Calls Try.prog 30 #[.agg (cells m h)] w fun e w' => e = .returned (.bool r) ∧ Below w.heap.size w w' := by
 rw [← hr]
 exact retry_calls m h w rd
theorem gate_load {ops : Array Oper} {rest : List Oper} {o : Oper} {a : Act} {Q : Exit → Act → World → Prop} {w : World} {t : TypeId} {x : Operand} (_ho : o.op = .load t x) (h : wpList Try.prog ops Q (o :: rest) a w) : wpList Try.prog ops Q (o :: rest) a w := h
theorem n_lo2 {lo g : Nat} {w : World} {W : Wp} (h : WS lo w g W) : lo ≤ w.heap.size := h.size
theorem n_lo {lo g : Nat} {w1 w : World} {W : Wp} (h : WS lo w1 g W) (b : Below w.heap.size w w1) (k : lo ≤ w.heap.size) : lo ≤ w.heap.size := k
theorem hb_ {w0 w w' : World} {lo g : Nat} (b : Below w0.heap.size w0 w) (f : Fr lo g w w') (hl : w0.heap.size ≤ lo) : Below w0.heap.size w0 w' := b.trans (f.below.mono hl)
theorem paths1 (a b : Bool) : (a = false ∧ True) ∨ (a = true ∧ b = false) ∨ (a = true ∧ b = true) := by cases a <;> cases b <;> simp
theorem paths2 (r a b c d e : Bool) : (r = true ∧ a = false ∧ True ∧ True) ∨ (r = true ∧ a = true ∧ b = false ∧ True) ∨ (r = true ∧ a = true ∧ b = true ∧ c = false) ∨ (r = true ∧ a = true ∧ b = true ∧ c = true) ∨ (r = false ∧ d = false ∧ True ∧ True) ∨ (r = false ∧ d = true ∧ e = false ∧ True) ∨ (r = false ∧ d = true ∧ e = true ∧ True) := by
 cases r <;> cases a <;> cases b <;> cases c <;> cases d <;> cases e <;> simp
set_option maxRecDepth 100000 in
set_option maxHeartbeats 8000000 in
theorem sh_bad (lo g gm : Nat) (m : Mv) (hd : Hd) (W : Wp) (w0 w : World) (h : WS lo w g W) (hlo : w0.heap.size ≤ lo) (hb0 : Below w0.heap.size w0 w) (hy : w.heap[gm]? = some (.cells (cells m hd) 49 (0,0))) (hne : gm ≠ g) (hr : Reads w0 m hd) (hm : MB m) (hn : W.s.size ≤ 16777216) (hb : (shW W m).b = true) :
  Calls Try.prog 56 #[.pointer (some ⟨g,0,none⟩),.pointer (some ⟨gm,0,none⟩)] w fun ex w' => ex = .returned (.tuple #[]) ∧ WS lo w' g (shW W m) ∧ Fr lo g w w' := by
 have hsz_ := Aq.mk h.size
 have HB0 := Aq.mk hb0
 have HW := Aq.mk h
 have HL := Aq.mk hlo
 have HY := Aq.mk hy
 have HYN := Aq.mk hne
 have HR := Aq.mk hr
 have HMB := Aq.mk hm
 have HN := Aq.mk (show W.s.size + 16 + m.f1.size + m.f2.size ≤ 140737488355328 from by have := hm.b1; have := hm.b2; omega)
 have HWS := Aq.mk hn
 unfold shW shOk1 shOk2 at hb ⊢
 rcases paths1 ((m.f3.length : Int) == 1) (decide ((m.f5.length : Int) ≤ 1)) with ⟨e1,e2⟩ | ⟨e1,e2⟩ | ⟨e1,e2⟩ <;> rcases paths2 m.retry (decide ((m.f6.length : Int) ≤ 1)) ((m.f9.length : Int) == 0) (m.f12 == 0) ((m.f6.length : Int) == 0) (decide ((m.f9.length : Int) ≤ 1)) with ⟨er,e3,e4,e5⟩ | ⟨er,e3,e4,e5⟩ | ⟨er,e3,e4,e5⟩ | ⟨er,e3,e4,e5⟩ | ⟨er,e3,e4,e5⟩ | ⟨er,e3,e4,e5⟩ | ⟨er,e3,e4,e5⟩
 all_goals
  simp only [e1,e2,er,e3,e4,e5,Bool.and_false,Bool.and_true,Bool.false_and,Bool.true_and,Bool.or_false,Bool.or_true,Bool.false_or,Bool.true_or,Bool.not_true,Bool.not_false] at hb ⊢
  have ER := Aq.mk er
  have HBB := Aq.mk hb
  clear h hlo hy hne hr hm hb hb0 hn er
  go_enter Try.func56,Try.ntmps56
  go_wp2_with (first
   | ((with_reducible refine gate_dst (N := 3) rfl ?_); refine boxT (v := .pointer (some ⟨gm,0,none⟩)) (cs := #[.pointer (some ⟨gm,0,none⟩)]) rfl rfl rfl rfl ?_; intro gb eb w1 h1 b1; have HX := Aq.mk h1; have HXN := Aq.mk (show gb ≠ g from by have := HW.out.lt; omega); have n_ := Aq.mk ((b1.block gm (blk_lt HY.out)).trans HY.out); clear HY; have HY := n_; clear n_; have n_ := Aq.mk (HW.out.below b1); clear HW; have HW := n_; clear n_; have HF := Aq.mk (Fr.of_below (g := g) (n_lo HW.out b1 hsz_.out) b1); clear h1 b1 eb)
   | ((with_reducible refine gate_load rfl ?_); first
    | ((with_reducible refine gate_dst (N := 6) rfl ?_); refine ld (v := .pointer (some ⟨gm,0,none⟩)) rfl rfl rfl HX.out Try.underlying85 rfl rfl ?_)
    | ((with_reducible refine gate_dst (N := 8) rfl ?_); refine wpList_load_row rfl 49 _ rfl gm rfl 49 _ (0,0) _ HY.out Try.underlying49 rfl sz49 ?_)
    | ((with_reducible refine gate_dst (N := 11) rfl ?_); refine ld (v := .pointer (some ⟨gm,0,none⟩)) rfl rfl rfl HX.out Try.underlying85 rfl rfl ?_)
    | ((with_reducible refine gate_dst (N := 14) rfl ?_); refine ld (v := .pointer (some ⟨gm,0,none⟩)) rfl rfl rfl HX.out Try.underlying85 rfl rfl ?_)
    | ((with_reducible refine gate_dst (N := 17) rfl ?_); refine ld (v := .slice hd.A3 m.f3.length hd.c3) rfl rfl rfl HY.out Try.underlying44 rfl rfl ?_)
    | ((with_reducible refine gate_dst (N := 21) rfl ?_); (have k_ : ((m.f3.length : Int) == 1) = true := by with_reducible exact e1); clear k_; refine gate_guard rfl ?_; refine ld (v := .pointer (some ⟨gm,0,none⟩)) rfl rfl rfl HX.out Try.underlying85 rfl rfl ?_)
    | ((with_reducible refine gate_dst (N := 24) rfl ?_); (have k_ : ((m.f3.length : Int) == 1) = true := by with_reducible exact e1); clear k_; refine gate_guard rfl ?_; refine ld (v := .slice hd.A5 m.f5.length hd.c5) rfl rfl rfl HY.out Try.underlying44 rfl rfl ?_)
    | ((with_reducible refine gate_dst (N := 32) rfl ?_); (have k_ : m.retry = true := by with_reducible exact ER.out); clear k_; refine gate_guard rfl ?_; refine ld (v := .pointer (some ⟨gm,0,none⟩)) rfl rfl rfl HX.out Try.underlying85 rfl rfl ?_)
    | ((with_reducible refine gate_dst (N := 35) rfl ?_); (have k_ : m.retry = true := by with_reducible exact ER.out); clear k_; refine gate_guard rfl ?_; refine ld (v := .slice hd.A6 m.f6.length hd.c6) rfl rfl rfl HY.out Try.underlying44 rfl rfl ?_)
    | ((with_reducible refine gate_dst (N := 40) rfl ?_); (have k_ : m.retry = true ∧ decide ((m.f6.length : Int) ≤ 1) = true := by with_reducible exact ⟨ER.out,e3⟩); clear k_; refine gate_guard rfl ?_; refine ld (v := .pointer (some ⟨gm,0,none⟩)) rfl rfl rfl HX.out Try.underlying85 rfl rfl ?_)
    | ((with_reducible refine gate_dst (N := 43) rfl ?_); (have k_ : m.retry = true ∧ decide ((m.f6.length : Int) ≤ 1) = true := by with_reducible exact ⟨ER.out,e3⟩); clear k_; refine gate_guard rfl ?_; refine ld (v := .slice hd.A9 m.f9.length hd.c9) rfl rfl rfl HY.out Try.underlying45 rfl rfl ?_)
    | ((with_reducible refine gate_dst (N := 48) rfl ?_); (have k_ : m.retry = true ∧ ((m.f9.length : Int) == 0) = true := by with_reducible exact ⟨ER.out,e4⟩); clear k_; refine gate_guard rfl ?_; refine ld (v := .pointer (some ⟨gm,0,none⟩)) rfl rfl rfl HX.out Try.underlying85 rfl rfl ?_)
    | ((with_reducible refine gate_dst (N := 51) rfl ?_); (have k_ : m.retry = true ∧ ((m.f9.length : Int) == 0) = true := by with_reducible exact ⟨ER.out,e4⟩); clear k_; refine gate_guard rfl ?_; refine ld (v := .int .i64 m.f12) rfl rfl rfl HY.out Try.underlying3 rfl rfl ?_)
    | ((with_reducible refine gate_dst (N := 58) rfl ?_); (have k_ : m.retry = false := by with_reducible exact ER.out); clear k_; refine gate_guard rfl ?_; refine ld (v := .pointer (some ⟨gm,0,none⟩)) rfl rfl rfl HX.out Try.underlying85 rfl rfl ?_)
    | ((with_reducible refine gate_dst (N := 61) rfl ?_); (have k_ : m.retry = false := by with_reducible exact ER.out); clear k_; refine gate_guard rfl ?_; refine ld (v := .slice hd.A6 m.f6.length hd.c6) rfl rfl rfl HY.out Try.underlying44 rfl rfl ?_)
    | ((with_reducible refine gate_dst (N := 66) rfl ?_); (have k_ : m.retry = false ∧ ((m.f6.length : Int) == 0) = true := by with_reducible exact ⟨ER.out,e3⟩); clear k_; refine gate_guard rfl ?_; refine ld (v := .pointer (some ⟨gm,0,none⟩)) rfl rfl rfl HX.out Try.underlying85 rfl rfl ?_)
    | ((with_reducible refine gate_dst (N := 69) rfl ?_); (have k_ : m.retry = false ∧ ((m.f6.length : Int) == 0) = true := by with_reducible exact ⟨ER.out,e3⟩); clear k_; refine gate_guard rfl ?_; refine ld (v := .slice hd.A9 m.f9.length hd.c9) rfl rfl rfl HY.out Try.underlying45 rfl rfl ?_)
    | ((with_reducible refine gate_dst (N := 78) rfl ?_); refine ld (v := .bool true) rfl rfl rfl H78.out Try.underlying4 rfl rfl ?_))
   | (go_at_call 30; (with_reducible refine (retry_at m hd _ (HR.out.below (hb_ HB0.out HF.out HL.out)) _ ER.out).mono ?_); rintro e1 w1 ⟨rfl,b1⟩; have n_ := Aq.mk (HW.out.below b1); have f1 := Fr.of_below (g := g) (n_lo2 HW.out) b1; clear HW; have HW := n_; clear n_; have n_ := Aq.mk (HF.out.trans f1); clear HF; have HF := n_; clear n_; have n_ := Aq.mk (f1.blk HX.out HXN.out (by decide)); clear HX; have HX := n_; clear n_; have n_ := Aq.mk (f1.blk HY.out HYN.out (by decide)); clear HY; have HY := n_; clear n_; clear b1 f1)
   | (go_at_call 78; (with_reducible refine (hello_w lo g gm (cells m hd) W _ HW.out HY.out HYN.out m.f1 m.f2 rfl rfl HN.out).mono ?_); rintro e2 w2 ⟨rfl,i2,f2⟩; have HW2 := Aq.mk i2; have n_ := Aq.mk (HF.out.trans f2); clear HF; have HF := n_; clear n_; have n_ := Aq.mk (f2.blk HX.out HXN.out (by decide)); clear HX; have HX := n_; clear n_; have n_ := Aq.mk (f2.blk HY.out HYN.out (by decide)); clear HY; have HY := n_; clear n_; clear i2 f2)
   | (go_at_call 61; first
    | ((with_reducible refine (need_w lo g _ _ _ HW3.out).mono ?_); rintro e4 w4 ⟨rfl,i4,f4⟩; have HW4 := Aq.mk i4; obtain ⟨v78,h78⟩ := WS.bad_cell i4 HBB.out; have H78 := Aq.mk h78; have n_ := Aq.mk (HF.out.trans f4); clear HF; have HF := n_; clear n_; have n_ := Aq.mk (f4.blk HX.out HXN.out (by decide)); clear HX; have HX := n_; clear n_; have n_ := Aq.mk (f4.blk HY.out HYN.out (by decide)); clear HY; have HY := n_; clear n_; clear i4 f4 h78)
    | ((with_reducible refine (need_w lo g (W.hello m.f1 m.f2) _ _ HW2.out).mono ?_); rintro e3 w3 ⟨rfl,i3,f3⟩; have HW3 := Aq.mk i3; have n_ := Aq.mk (HF.out.trans f3); clear HF; have HF := n_; clear n_; have n_ := Aq.mk (f3.blk HX.out HXN.out (by decide)); clear HX; have HX := n_; clear n_; have n_ := Aq.mk (f3.blk HY.out HYN.out (by decide)); clear HY; have HY := n_; clear n_; clear i3 f3)))
  show bodyPost Try.prog Try.f56 _ Exit.ret ⟨_,[]⟩ _
  refine bodyPost_ret (results_none rfl _ _ _) rfl ?_
  exact ⟨rfl,HW4.out,HF.out⟩
theorem or_paths (r a b c d e : Bool) (h : ((r && a && b && c) || (!r && d && e)) = true) : (r = true ∧ a = true ∧ b = true ∧ c = true) ∨ (r = false ∧ d = true ∧ e = true ∧ True) := by
 revert h
 cases r <;> cases a <;> cases b <;> cases c <;> cases d <;> cases e <;> simp
theorem or3 {a b c : Bool} (h : ((a || !b) || !c) = false) : a = false ∧ b = true ∧ c = true := by
 revert h
 cases a <;> cases b <;> cases c <;> simp
def xAll (W : Wp) (L : List (Bool × Int × Wp)) : Wp × List E.S41 := L.foldl (fun p e => (xPut e.1 p.1 e.2.2,xPutL e.1 e.2.1 e.2.2 p.2)) (W,[])
def shL (m : Mv) : List (Bool × Int × Wp) := [(decide (0 < m.f5.length),43,W0.num (rd m.f5 0) 2),(decide (0 < m.f6.length),51,W0.num (rd m.f6 0) 2),(decide (0 < m.f9.length),51,wS W0 (rd_T66 m.f9 0)),(m.f12 != 0,41,W0.num (wrap64 (m.f12 - 1)) 2)]
def shT (W : Wp) (m : Mv) : Wp := ((shW W m).num (rd m.f3 0) 2).num 0 1
def shP (W : Wp) (m : Mv) : Wp := if (shW W m).b = true then shW W m else (xAll (shT W m) (shL m)).1.ends (xAll (shT W m) (shL m)).2
theorem rdT_mem {l : List S66} (h : 0 < l.length) : rd_T66 l 0 ∈ l := by
 unfold rd_T66
 show l.getD 0 z66 ∈ l
 rw [List.getD_eq_getElem?_getD,List.getElem?_eq_getElem h]
 exact List.getElem_mem h
theorem Fx.fr {lo g x : Nat} {w w' : World} (h : Fx lo g x w w') (hx : w.heap.size ≤ x) : Fr lo g w w' := ⟨h.below,fun k cs t hk hg ht => h.keep k cs t hk hg (Nat.lt_of_lt_of_le (blk_lt hk) hx) ht⟩
theorem of_dec {l : Nat} (h : decide (0 < l) = true) : 0 < l := of_decide_eq_true h
set_option maxRecDepth 100000 in
set_option maxHeartbeats 8000000 in
theorem sh_good (lo g gm : Nat) (m : Mv) (hd : Hd) (W : Wp) (w0 w : World) (h : WS lo w g W) (hlo : w0.heap.size ≤ lo) (hb0 : Below w0.heap.size w0 w) (hy : w.heap[gm]? = some (.cells (cells m hd) 49 (0,0))) (hne : gm ≠ g) (hr : Reads w0 m hd) (hm : MB m) (hn : W.s.size ≤ 16777216) (hb : (shW W m).b = false) :
  Calls Try.prog 56 #[.pointer (some ⟨g,0,none⟩),.pointer (some ⟨gm,0,none⟩)] w fun ex w' => ex = .returned (.tuple #[]) ∧ WS lo w' g ((xAll (shT W m) (shL m)).1.ends (xAll (shT W m) (shL m)).2) ∧ Fr lo g w w' := by
 have hmf := mkf
 have hsz_ := Aq.mk h.size
 have HB0 := Aq.mk hb0
 have HW := Aq.mk h
 have HL := Aq.mk hlo
 have HY := Aq.mk hy
 have HYN := Aq.mk hne
 have HR := Aq.mk hr
 have HMB := Aq.mk hm
 have HN := Aq.mk (show W.s.size + 16 + m.f1.size + m.f2.size ≤ 140737488355328 from by have := hm.b1; have := hm.b2; omega)
 have HWS := Aq.mk hn
 obtain ⟨_,ok1,ok2⟩ := or3 hb
 have EW0 : shW W m = ((W.hello m.f1 m.f2).need true).need true := by
  unfold shW
  rw [ok1,ok2]
 have hsz := hello_size W m.f1 m.f2 hm.b1 hm.b2
 obtain ⟨W4,hW4⟩ : ∃ X,shW W m = X := ⟨_,rfl⟩
 have h4s : W4.s.size ≤ 50331648 := by
  rw [← hW4]
  show (W.hello m.f1 m.f2).s.size ≤ _
  omega
 unfold shT
 rw [hW4] at hb EW0 ⊢
 have EW := Aq.mk EW0.symm
 have HBB := Aq.mk hb
 unfold shOk1 at ok1
 unfold shOk2 at ok2
 rw [Bool.and_eq_true] at ok1
 obtain ⟨e1,e2⟩ := ok1
 have l3 : m.f3.length = 1 := by
  have := beq_iff_eq.mp e1
  omega
 have Q0 := Aq.mk (show (0 : Int) < (m.f3.length : Int) from by omega)
 have q1 := eq_true Q0.out
 have q2 : (0 < m.f3.length) = True := eq_true (by omega)
 have s5 := W4.num_size (rd m.f3 0) 2 (by omega) (by omega)
 have s6 := (W4.num (rd m.f3 0) 2).num_size 0 1 (by omega) (by omega)
 have HN4 := Aq.mk (show W4.s.size + 4 ≤ 140737488355328 from by omega)
 have HN5 := Aq.mk (show (W4.num (rd m.f3 0) 2).s.size + 4 ≤ 140737488355328 from by omega)
 have u1 : (W0.num (rd m.f5 0) 2).s.size ≤ 140737488351232 := Nat.le_trans (W0.num_size _ 2 (by omega) (by omega)) (by rw [W0_size]; omega)
 have u2 : (W0.num (rd m.f6 0) 2).s.size ≤ 140737488351232 := Nat.le_trans (W0.num_size _ 2 (by omega) (by omega)) (by rw [W0_size]; omega)
 have u4 : (W0.num (wrap64 (m.f12 - 1)) 2).s.size ≤ 140737488351232 := Nat.le_trans (W0.num_size _ 2 (by omega) (by omega)) (by rw [W0_size]; omega)
 have x1 := XB.nil.put (decide (0 < m.f5.length)) 43 (W0.num (rd m.f5 0) 2) u1
 have x2 := x1.put (decide (0 < m.f6.length)) 51 (W0.num (rd m.f6 0) 2) u2
 have x3 : XB (xPutL (decide (0 < m.f9.length)) 51 (wS W0 (rd_T66 m.f9 0)) (xPutL (decide (0 < m.f6.length)) 51 (W0.num (rd m.f6 0) 2) (xPutL (decide (0 < m.f5.length)) 43 (W0.num (rd m.f5 0) 2) ([] : List E.S41)))) 3 := by
  by_cases c : decide (0 < m.f9.length) = true
  ·exact x2.put (decide (0 < m.f9.length)) 51 (wS W0 (rd_T66 m.f9 0)) (Nat.le_trans (wS_size W0 _ (HMB.out.c9 _ (rdT_mem (of_dec c)))) (by rw [W0_size]; omega))
  ·have c' : (decide (0 < m.f9.length)) = false := by simpa using c
   rw [c']
   exact ⟨Nat.le_succ_of_le x2.1,x2.2⟩
 have x4 := x3.put (m.f12 != 0) 41 (W0.num (wrap64 (m.f12 - 1)) 2) u4
 have HLE6 := Aq.mk (show ([] : List E.S41).length ≤ 1000000000 from by decide)
 have HLE7 := Aq.mk (show (xPutL (decide (0 < m.f5.length)) 43 (W0.num (rd m.f5 0) 2) ([] : List E.S41)).length ≤ 1000000000 from Nat.le_trans x1.1 (by omega))
 have HLE8 := Aq.mk (show (xPutL (decide (0 < m.f6.length)) 51 (W0.num (rd m.f6 0) 2) (xPutL (decide (0 < m.f5.length)) 43 (W0.num (rd m.f5 0) 2) ([] : List E.S41))).length ≤ 1000000000 from Nat.le_trans x2.1 (by omega))
 have HLE9 := Aq.mk (show (xPutL (decide (0 < m.f9.length)) 51 (wS W0 (rd_T66 m.f9 0)) (xPutL (decide (0 < m.f6.length)) 51 (W0.num (rd m.f6 0) 2) (xPutL (decide (0 < m.f5.length)) 43 (W0.num (rd m.f5 0) 2) ([] : List E.S41)))).length ≤ 1000000000 from Nat.le_trans x3.1 (by omega))
 have HEL := Aq.mk (show (xPutL (m.f12 != 0) 41 (W0.num (wrap64 (m.f12 - 1)) 2) (xPutL (decide (0 < m.f9.length)) 51 (wS W0 (rd_T66 m.f9 0)) (xPutL (decide (0 < m.f6.length)) 51 (W0.num (rd m.f6 0) 2) (xPutL (decide (0 < m.f5.length)) 43 (W0.num (rd m.f5 0) 2) ([] : List E.S41))))).length ≤ 16777216 from Nat.le_trans x4.1 (by omega))
 have HEB := Aq.mk (show ∀ y ∈ (xPutL (m.f12 != 0) 41 (W0.num (wrap64 (m.f12 - 1)) 2) (xPutL (decide (0 < m.f9.length)) 51 (wS W0 (rd_T66 m.f9 0)) (xPutL (decide (0 < m.f6.length)) 51 (W0.num (rd m.f6 0) 2) (xPutL (decide (0 < m.f5.length)) 43 (W0.num (rd m.f5 0) 2) ([] : List E.S41))))),y.f1.size ≤ 140737488351232 from fun y hy => Nat.le_trans (x4.2 y hy) (by omega))
 have zL := putL_size (xPutL (m.f12 != 0) 41 (W0.num (wrap64 (m.f12 - 1)) 2) (xPutL (decide (0 < m.f9.length)) 51 (wS W0 (rd_T66 m.f9 0)) (xPutL (decide (0 < m.f6.length)) 51 (W0.num (rd m.f6 0) 2) (xPutL (decide (0 < m.f5.length)) 43 (W0.num (rd m.f5 0) 2) ([] : List E.S41)))))
 have HEN := Aq.mk (show (xPut (m.f12 != 0) (xPut (decide (0 < m.f9.length)) (xPut (decide (0 < m.f6.length)) (xPut (decide (0 < m.f5.length)) (((W4.num (rd m.f3 0) 2).num 0 1)) (W0.num (rd m.f5 0) 2)) (W0.num (rd m.f6 0) 2)) (wS W0 (rd_T66 m.f9 0))) (W0.num (wrap64 (m.f12 - 1)) 2)).s.size + 3 + (Go.Proofs.Ytlkebjkpmiehcaa.Pure.putL [] (xPutL (m.f12 != 0) 41 (W0.num (wrap64 (m.f12 - 1)) 2) (xPutL (decide (0 < m.f9.length)) 51 (wS W0 (rd_T66 m.f9 0)) (xPutL (decide (0 < m.f6.length)) 51 (W0.num (rd m.f6 0) 2) (xPutL (decide (0 < m.f5.length)) 43 (W0.num (rd m.f5 0) 2) ([] : List E.S41)))))).1.size ≤ 140737488355328 from by
  have := x4.1
  simp only [xPut_s]
  omega)
 rcases or_paths _ _ _ _ _ _ ok2 with ⟨er,e3,e4,e5⟩ | ⟨er,e3,e4,e5⟩
 all_goals
  have ER := Aq.mk er
  clear h hlo hy hne hr hm hb hb0 hn er ok2 hsz h4s hW4 EW0 s5 s6 u1 u2 u4 x1 x2 x3 x4 zL l3
  go_enter Try.func56,Try.ntmps56
  go_wp2_with (first
   | ((with_reducible refine gate_dst (N := 3) rfl ?_); refine boxT (v := .pointer (some ⟨gm,0,none⟩)) (cs := #[.pointer (some ⟨gm,0,none⟩)]) rfl rfl rfl rfl ?_; intro gb eb w1 h1 b1; have HX := Aq.mk h1; have HXN := Aq.mk (show gb ≠ g from by have := HW.out.lt; omega); have n_ := Aq.mk ((b1.block gm (blk_lt HY.out)).trans HY.out); clear HY; have HY := n_; clear n_; have n_ := Aq.mk (HW.out.below b1); clear HW; have HW := n_; clear n_; have HF := Aq.mk (Fr.of_below (g := g) (n_lo HW.out b1 hsz_.out) b1); clear h1 b1 eb)
   | ((with_reducible refine gate_load rfl ?_); first
    | ((with_reducible refine gate_dst (N := 6) rfl ?_); refine ld (v := .pointer (some ⟨gm,0,none⟩)) rfl rfl rfl HX.out Try.underlying85 rfl rfl ?_)
    | ((with_reducible refine gate_dst (N := 8) rfl ?_); refine wpList_load_row rfl 49 _ rfl gm rfl 49 _ (0,0) _ HY.out Try.underlying49 rfl sz49 ?_)
    | ((with_reducible refine gate_dst (N := 11) rfl ?_); refine ld (v := .pointer (some ⟨gm,0,none⟩)) rfl rfl rfl HX.out Try.underlying85 rfl rfl ?_)
    | ((with_reducible refine gate_dst (N := 14) rfl ?_); refine ld (v := .pointer (some ⟨gm,0,none⟩)) rfl rfl rfl HX.out Try.underlying85 rfl rfl ?_)
    | ((with_reducible refine gate_dst (N := 17) rfl ?_); refine ld (v := .slice hd.A3 m.f3.length hd.c3) rfl rfl rfl HY.out Try.underlying44 rfl rfl ?_)
    | ((with_reducible refine gate_dst (N := 21) rfl ?_); (have k_ : ((m.f3.length : Int) == 1) = true := by with_reducible exact e1); clear k_; refine gate_guard rfl ?_; refine ld (v := .pointer (some ⟨gm,0,none⟩)) rfl rfl rfl HX.out Try.underlying85 rfl rfl ?_)
    | ((with_reducible refine gate_dst (N := 24) rfl ?_); (have k_ : ((m.f3.length : Int) == 1) = true := by with_reducible exact e1); clear k_; refine gate_guard rfl ?_; refine ld (v := .slice hd.A5 m.f5.length hd.c5) rfl rfl rfl HY.out Try.underlying44 rfl rfl ?_)
    | ((with_reducible refine gate_dst (N := 32) rfl ?_); (have k_ : m.retry = true := by with_reducible exact ER.out); clear k_; refine gate_guard rfl ?_; refine ld (v := .pointer (some ⟨gm,0,none⟩)) rfl rfl rfl HX.out Try.underlying85 rfl rfl ?_)
    | ((with_reducible refine gate_dst (N := 35) rfl ?_); (have k_ : m.retry = true := by with_reducible exact ER.out); clear k_; refine gate_guard rfl ?_; refine ld (v := .slice hd.A6 m.f6.length hd.c6) rfl rfl rfl HY.out Try.underlying44 rfl rfl ?_)
    | ((with_reducible refine gate_dst (N := 40) rfl ?_); (have k_ : m.retry = true ∧ decide ((m.f6.length : Int) ≤ 1) = true := by with_reducible exact ⟨ER.out,e3⟩); clear k_; refine gate_guard rfl ?_; refine ld (v := .pointer (some ⟨gm,0,none⟩)) rfl rfl rfl HX.out Try.underlying85 rfl rfl ?_)
    | ((with_reducible refine gate_dst (N := 43) rfl ?_); (have k_ : m.retry = true ∧ decide ((m.f6.length : Int) ≤ 1) = true := by with_reducible exact ⟨ER.out,e3⟩); clear k_; refine gate_guard rfl ?_; refine ld (v := .slice hd.A9 m.f9.length hd.c9) rfl rfl rfl HY.out Try.underlying45 rfl rfl ?_)
    | ((with_reducible refine gate_dst (N := 48) rfl ?_); (have k_ : m.retry = true ∧ ((m.f9.length : Int) == 0) = true := by with_reducible exact ⟨ER.out,e4⟩); clear k_; refine gate_guard rfl ?_; refine ld (v := .pointer (some ⟨gm,0,none⟩)) rfl rfl rfl HX.out Try.underlying85 rfl rfl ?_)
    | ((with_reducible refine gate_dst (N := 51) rfl ?_); (have k_ : m.retry = true ∧ ((m.f9.length : Int) == 0) = true := by with_reducible exact ⟨ER.out,e4⟩); clear k_; refine gate_guard rfl ?_; refine ld (v := .int .i64 m.f12) rfl rfl rfl HY.out Try.underlying3 rfl rfl ?_)
    | ((with_reducible refine gate_dst (N := 58) rfl ?_); (have k_ : m.retry = false := by with_reducible exact ER.out); clear k_; refine gate_guard rfl ?_; refine ld (v := .pointer (some ⟨gm,0,none⟩)) rfl rfl rfl HX.out Try.underlying85 rfl rfl ?_)
    | ((with_reducible refine gate_dst (N := 61) rfl ?_); (have k_ : m.retry = false := by with_reducible exact ER.out); clear k_; refine gate_guard rfl ?_; refine ld (v := .slice hd.A6 m.f6.length hd.c6) rfl rfl rfl HY.out Try.underlying44 rfl rfl ?_)
    | ((with_reducible refine gate_dst (N := 66) rfl ?_); (have k_ : m.retry = false ∧ ((m.f6.length : Int) == 0) = true := by with_reducible exact ⟨ER.out,e3⟩); clear k_; refine gate_guard rfl ?_; refine ld (v := .pointer (some ⟨gm,0,none⟩)) rfl rfl rfl HX.out Try.underlying85 rfl rfl ?_)
    | ((with_reducible refine gate_dst (N := 69) rfl ?_); (have k_ : m.retry = false ∧ ((m.f6.length : Int) == 0) = true := by with_reducible exact ⟨ER.out,e3⟩); clear k_; refine gate_guard rfl ?_; refine ld (v := .slice hd.A9 m.f9.length hd.c9) rfl rfl rfl HY.out Try.underlying45 rfl rfl ?_)
    | ((with_reducible refine gate_dst (N := 78) rfl ?_); refine ld (v := .bool false) rfl rfl rfl H78.out Try.underlying4 rfl rfl ?_)
    | ((with_reducible refine gate_dst (N := 80) rfl ?_); refine ld (v := .pointer (some ⟨gm,0,none⟩)) rfl rfl rfl HX.out Try.underlying85 rfl rfl ?_)
    | ((with_reducible refine gate_dst (N := 83) rfl ?_); obtain ⟨ad,e0,hx0⟩ := Kd.at_int (Kd.C_below HR.out.r3 (hb_ HB0.out HF.out HL.out)) 0 (by omega) Q0.out; (have e3_ : ad.add (Int.toNat 0) = ad := by simp [Addr.add]); (rw [e3_] at hx0; clear e3_; refine ld (v := .slice (some ad) m.f3.length hd.c3) rfl rfl rfl HY.out Try.underlying44 rfl (by rw [← e0]; rfl) ?_; have HAD := Aq.mk hx0; clear hx0 e0))
    | ((with_reducible refine gate_dst (N := 85) rfl ?_); refine ldQ (v := .int .i64 (rd m.f3 0)) rfl rfl rfl Try.underlying3 rfl HAD.out ?_)
    | ((with_reducible refine gate_dst (N := 93) rfl ?_); refine ld (v := .pointer (some ⟨gm,0,none⟩)) rfl rfl rfl HX.out Try.underlying85 rfl rfl ?_)
    | ((with_reducible refine gate_dst (N := 96) rfl ?_); refine ld (v := .slice hd.A5 m.f5.length hd.c5) rfl rfl rfl HY.out Try.underlying44 rfl rfl ?_)
    | ((with_reducible refine gate_dst (N := 102) rfl ?_); refine ld (v := .pointer (some ⟨gm,0,none⟩)) rfl rfl rfl HX.out Try.underlying85 rfl rfl ?_)
    | ((with_reducible refine gate_dst (N := 105) rfl ?_); refine ld (v := .slice hd.A6 m.f6.length hd.c6) rfl rfl rfl HY.out Try.underlying44 rfl rfl ?_)
    | ((with_reducible refine gate_dst (N := 111) rfl ?_); refine ld (v := .pointer (some ⟨gm,0,none⟩)) rfl rfl rfl HX.out Try.underlying85 rfl rfl ?_)
    | ((with_reducible refine gate_dst (N := 114) rfl ?_); refine ld (v := .slice hd.A9 m.f9.length hd.c9) rfl rfl rfl HY.out Try.underlying45 rfl rfl ?_)
    | ((with_reducible refine gate_dst (N := 120) rfl ?_); refine ld (v := .pointer (some ⟨gm,0,none⟩)) rfl rfl rfl HX.out Try.underlying85 rfl rfl ?_)
    | ((with_reducible refine gate_dst (N := 123) rfl ?_); refine ld (v := .int .i64 m.f12) rfl rfl rfl HY.out Try.underlying3 rfl rfl ?_))
   | (go_at_call 30; (with_reducible refine (retry_at m hd _ (HR.out.below (hb_ HB0.out HF.out HL.out)) _ ER.out).mono ?_); rintro e1 w1 ⟨rfl,b1⟩; have n_ := Aq.mk (HW.out.below b1); have f1 := Fr.of_below (g := g) (n_lo2 HW.out) b1; clear HW; have HW := n_; clear n_; have n_ := Aq.mk (HF.out.trans f1); clear HF; have HF := n_; clear n_; have n_ := Aq.mk (f1.blk HX.out HXN.out (by decide)); clear HX; have HX := n_; clear n_; have n_ := Aq.mk (f1.blk HY.out HYN.out (by decide)); clear HY; have HY := n_; clear n_; clear b1 f1)
   | (go_at_call 78; (with_reducible refine (hello_w lo g gm (cells m hd) W _ HW.out HY.out HYN.out m.f1 m.f2 rfl rfl HN.out).mono ?_); rintro e2 w2 ⟨rfl,i2,f2⟩; have HW2 := Aq.mk i2; have n_ := Aq.mk (HF.out.trans f2); clear HF; have HF := n_; clear n_; have n_ := Aq.mk (f2.blk HX.out HXN.out (by decide)); clear HX; have HX := n_; clear n_; have n_ := Aq.mk (f2.blk HY.out HYN.out (by decide)); clear HY; have HY := n_; clear n_; clear i2 f2)
   | (go_at_call 61; first
    | ((with_reducible refine (need_w lo g _ _ _ HW3.out).mono ?_); rintro e4 w4 ⟨rfl,i4,f4⟩; have HW4 := Aq.mk (show WS lo w4 g W4 from by rw [← EW.out]; exact i4); obtain ⟨v78,h78⟩ := WS.bad_cell HW4.out HBB.out; have H78 := Aq.mk h78; have n_ := Aq.mk (HF.out.trans f4); clear HF; have HF := n_; clear n_; have n_ := Aq.mk (f4.blk HX.out HXN.out (by decide)); clear HX; have HX := n_; clear n_; have n_ := Aq.mk (f4.blk HY.out HYN.out (by decide)); clear HY; have HY := n_; clear n_; clear i4 f4 h78)
    | ((with_reducible refine (need_w lo g (W.hello m.f1 m.f2) _ _ HW2.out).mono ?_); rintro e3 w3 ⟨rfl,i3,f3⟩; have HW3 := Aq.mk i3; have n_ := Aq.mk (HF.out.trans f3); clear HF; have HF := n_; clear n_; have n_ := Aq.mk (f3.blk HX.out HXN.out (by decide)); clear HX; have HX := n_; clear n_; have n_ := Aq.mk (f3.blk HY.out HYN.out (by decide)); clear HY; have HY := n_; clear n_; clear i3 f3))
   | (go_at_call 60; first
    | ((with_reducible refine (num_w lo g (W4.num (rd m.f3 0) 2) 0 1 _ HW5.out (by omega) (by omega) HN5.out).mono ?_); rintro e6 w6 ⟨rfl,i6,f6⟩; have HW6 := Aq.mk i6; have n_ := Aq.mk (HF.out.trans f6); clear HF; have HF := n_; clear n_; have n_ := Aq.mk (f6.blk HX.out HXN.out (by decide)); clear HX; have HX := n_; clear n_; have n_ := Aq.mk (f6.blk HY.out HYN.out (by decide)); clear HY; have HY := n_; clear n_; clear i6 f6)
    | ((with_reducible refine (num_w lo g W4 (rd m.f3 0) 2 _ HW4.out (by omega) (by omega) HN4.out).mono ?_); rintro e5 w5 ⟨rfl,i5,f5⟩; have HW5 := Aq.mk i5; have n_ := Aq.mk (HF.out.trans f5); clear HF; have HF := n_; clear n_; have n_ := Aq.mk (f5.blk HX.out HXN.out (by decide)); clear HX; have HX := n_; clear n_; have n_ := Aq.mk (f5.blk HY.out HYN.out (by decide)); clear HY; have HY := n_; clear n_; clear i5 f5))
   | ((with_reducible refine gate_dst (N := 90) rfl ?_); refine build115 rfl rfl rfl ?_)
   | ((with_reducible refine gate_dst (N := 91) rfl ?_); refine boxT (v := .agg #[.pointer (some ⟨g,0,none⟩),.slice none 0 0]) (cs := #[.pointer (some ⟨g,0,none⟩),.slice none 0 0]) rfl rfl rfl rfl ?_; intro x ex w7 h7 b7; have HXS := Aq.mk (XS.start h7); have HLX := Aq.mk (show lo ≤ x from by have := HW6.out.size; omega); have HXX := Aq.mk (show gb < x from by have := blk_lt HX.out; omega); have HYX := Aq.mk (show gm < x from by have := blk_lt HY.out; omega); have HWX := Aq.mk (show w.heap.size ≤ x from by have := HF.out.below.size; have := hsz_.out; first | omega | (rw [ex]; exact this)); have n_ := Aq.mk (HW6.out.below b7); have f7 := Fr.of_below (g := g) HW6.out.size b7; clear HW6; have HW6 := n_; clear n_; have n_ := Aq.mk (HF.out.trans f7); clear HF; have HF := n_; clear n_; have n_ := Aq.mk (f7.blk HX.out HXN.out (by decide)); clear HX; have HX := n_; clear n_; have n_ := Aq.mk (f7.blk HY.out HYN.out (by decide)); clear HY; have HY := n_; clear n_; have HG := Aq.mk (Fx.of_fr (x := x) HF.out); clear h7 b7 f7 ex)
   | ((with_reducible refine gate_callee (f := 80) rfl ?_); refine goesL_ (some 100) rfl rfl Try.func80 (by kernel_rfl) rfl #[.pointer (some ⟨x,0,none⟩),.bool (decide (0 < m.f5.length)),.int .i64 43,.func (.func 88) #[] #[.pointer (some ⟨gb,0,none⟩)]] rfl (by (try simp only [List.map_toArray,List.map_cons,List.map_nil]); first | done | rfl) ?_; (refine (xput_w lo x g 88 _ (((W4.num (rd m.f3 0) 2).num 0 1)) (W0.num (rd m.f5 0) 2) ([] : List E.S41) (decide (0 < m.f5.length)) 43 _ HW6.out HLX.out HXS.out (fun hi => sv1_w gb gm (cells m hd) hd.A5 hd.c5 m.f5 _ HX.out HY.out rfl (Kd.C_below HR.out.r5 (HB0.out.trans (HG.out.below.mono HL.out))) (of_dec hi)) enters88 HLE6.out).mono ?_); rintro e_ w_ ⟨rfl,iw,ix,f_⟩; refine ⟨_,rfl,?_⟩; have HW7 := Aq.mk iw; clear HXS; have HXS := Aq.mk ix; have n_ := Aq.mk (HG.out.trans f_); clear HG; have HG := n_; clear n_; have n_ := Aq.mk (f_.keep _ _ _ HX.out HXN.out HXX.out (by decide)); clear HX; have HX := n_; clear n_; have n_ := Aq.mk (f_.keep _ _ _ HY.out HYN.out HYX.out (by decide)); clear HY; have HY := n_; clear n_; clear iw ix f_)
   | ((with_reducible refine gate_callee (f := 80) rfl ?_); refine goesL_ (some 109) rfl rfl Try.func80 (by kernel_rfl) rfl #[.pointer (some ⟨x,0,none⟩),.bool (decide (0 < m.f6.length)),.int .i64 51,.func (.func 89) #[] #[.pointer (some ⟨gb,0,none⟩)]] rfl (by (try simp only [List.map_toArray,List.map_cons,List.map_nil]); first | done | rfl) ?_; (refine (xput_w lo x g 89 _ (xPut (decide (0 < m.f5.length)) (((W4.num (rd m.f3 0) 2).num 0 1)) (W0.num (rd m.f5 0) 2)) (W0.num (rd m.f6 0) 2) (xPutL (decide (0 < m.f5.length)) 43 (W0.num (rd m.f5 0) 2) ([] : List E.S41)) (decide (0 < m.f6.length)) 51 _ HW7.out HLX.out HXS.out (fun hi => sv2_w gb gm (cells m hd) hd.A6 hd.c6 m.f6 _ HX.out HY.out rfl (Kd.C_below HR.out.r6 (HB0.out.trans (HG.out.below.mono HL.out))) (of_dec hi)) enters89 HLE7.out).mono ?_); rintro e_ w_ ⟨rfl,iw,ix,f_⟩; refine ⟨_,rfl,?_⟩; have HW8 := Aq.mk iw; clear HXS; have HXS := Aq.mk ix; have n_ := Aq.mk (HG.out.trans f_); clear HG; have HG := n_; clear n_; have n_ := Aq.mk (f_.keep _ _ _ HX.out HXN.out HXX.out (by decide)); clear HX; have HX := n_; clear n_; have n_ := Aq.mk (f_.keep _ _ _ HY.out HYN.out HYX.out (by decide)); clear HY; have HY := n_; clear n_; clear iw ix f_)
   | ((with_reducible refine gate_callee (f := 80) rfl ?_); refine goesL_ (some 118) rfl rfl Try.func80 (by kernel_rfl) rfl #[.pointer (some ⟨x,0,none⟩),.bool (decide (0 < m.f9.length)),.int .i64 51,.func (.func 90) #[] #[.pointer (some ⟨gb,0,none⟩)]] rfl (by (try simp only [List.map_toArray,List.map_cons,List.map_nil]); first | done | rfl) ?_; (refine (xput_w lo x g 90 _ (xPut (decide (0 < m.f6.length)) (xPut (decide (0 < m.f5.length)) (((W4.num (rd m.f3 0) 2).num 0 1)) (W0.num (rd m.f5 0) 2)) (W0.num (rd m.f6 0) 2)) (wS W0 (rd_T66 m.f9 0)) (xPutL (decide (0 < m.f6.length)) 51 (W0.num (rd m.f6 0) 2) (xPutL (decide (0 < m.f5.length)) 43 (W0.num (rd m.f5 0) 2) ([] : List E.S41))) (decide (0 < m.f9.length)) 51 _ HW8.out HLX.out HXS.out (fun hi => sv3_w gb gm (cells m hd) hd.A9 hd.c9 m.f9 _ HX.out HY.out rfl (Kd.C_below HR.out.r9 (HB0.out.trans (HG.out.below.mono HL.out))) (of_dec hi) (HMB.out.c9 _ (rdT_mem (of_dec hi)))) enters90 HLE8.out).mono ?_); rintro e_ w_ ⟨rfl,iw,ix,f_⟩; refine ⟨_,rfl,?_⟩; have HW9 := Aq.mk iw; clear HXS; have HXS := Aq.mk ix; have n_ := Aq.mk (HG.out.trans f_); clear HG; have HG := n_; clear n_; have n_ := Aq.mk (f_.keep _ _ _ HX.out HXN.out HXX.out (by decide)); clear HX; have HX := n_; clear n_; have n_ := Aq.mk (f_.keep _ _ _ HY.out HYN.out HYX.out (by decide)); clear HY; have HY := n_; clear n_; clear iw ix f_)
   | ((with_reducible refine gate_callee (f := 80) rfl ?_); refine goesL_ (some 126) rfl rfl Try.func80 (by kernel_rfl) rfl #[.pointer (some ⟨x,0,none⟩),.bool (m.f12 != 0),.int .i64 41,.func (.func 91) #[] #[.pointer (some ⟨gb,0,none⟩)]] rfl (by (try simp only [List.map_toArray,List.map_cons,List.map_nil]); first | done | rfl) ?_; (refine (xput_w lo x g 91 _ (xPut (decide (0 < m.f9.length)) (xPut (decide (0 < m.f6.length)) (xPut (decide (0 < m.f5.length)) (((W4.num (rd m.f3 0) 2).num 0 1)) (W0.num (rd m.f5 0) 2)) (W0.num (rd m.f6 0) 2)) (wS W0 (rd_T66 m.f9 0))) (W0.num (wrap64 (m.f12 - 1)) 2) (xPutL (decide (0 < m.f9.length)) 51 (wS W0 (rd_T66 m.f9 0)) (xPutL (decide (0 < m.f6.length)) 51 (W0.num (rd m.f6 0) 2) (xPutL (decide (0 < m.f5.length)) 43 (W0.num (rd m.f5 0) 2) ([] : List E.S41)))) (m.f12 != 0) 41 _ HW9.out HLX.out HXS.out (fun hi => sv4_w gb gm (cells m hd) m.f12 _ HX.out HY.out rfl) enters91 HLE9.out).mono ?_); rintro e_ w_ ⟨rfl,iw,ix,f_⟩; refine ⟨_,rfl,?_⟩; have HW10 := Aq.mk iw; clear HXS; have HXS := Aq.mk ix; have n_ := Aq.mk (HG.out.trans f_); clear HG; have HG := n_; clear n_; have n_ := Aq.mk (f_.keep _ _ _ HX.out HXN.out HXX.out (by decide)); clear HX; have HX := n_; clear n_; have n_ := Aq.mk (f_.keep _ _ _ HY.out HYN.out HYX.out (by decide)); clear HY; have HY := n_; clear n_; clear iw ix f_)
   | (go_at_call 87; (with_reducible refine (xend_w lo x g (xPut (m.f12 != 0) (xPut (decide (0 < m.f9.length)) (xPut (decide (0 < m.f6.length)) (xPut (decide (0 < m.f5.length)) (((W4.num (rd m.f3 0) 2).num 0 1)) (W0.num (rd m.f5 0) 2)) (W0.num (rd m.f6 0) 2)) (wS W0 (rd_T66 m.f9 0))) (W0.num (wrap64 (m.f12 - 1)) 2)) (xPutL (m.f12 != 0) 41 (W0.num (wrap64 (m.f12 - 1)) 2) (xPutL (decide (0 < m.f9.length)) 51 (wS W0 (rd_T66 m.f9 0)) (xPutL (decide (0 < m.f6.length)) 51 (W0.num (rd m.f6 0) 2) (xPutL (decide (0 < m.f5.length)) 43 (W0.num (rd m.f5 0) 2) ([] : List E.S41))))) _ HW10.out HXS.out HEL.out HEB.out HEN.out).mono ?_); rintro e_ w_ ⟨rfl,iw,f_⟩; have HWz := Aq.mk iw; have HFz := Aq.mk (HG.out.trans (Fx.of_fr f_)); clear iw f_))
  first | go_end0 | ((try simp only [Exit.inBlock,Exit.then]); refine bodyPost_ret (results_none rfl _ _ _) rfl ?_)
  exact ⟨rfl,HWz.out,HFz.out.fr HWX.out⟩
theorem sh_w (lo g gm : Nat) (m : Mv) (hd : Hd) (W : Wp) (w0 w : World) (h : WS lo w g W) (hlo : w0.heap.size ≤ lo) (hb0 : Below w0.heap.size w0 w) (hy : w.heap[gm]? = some (.cells (cells m hd) 49 (0,0))) (hne : gm ≠ g) (hr : Reads w0 m hd) (hm : MB m) (hn : W.s.size ≤ 16777216) :
  Calls Try.prog 56 #[.pointer (some ⟨g,0,none⟩),.pointer (some ⟨gm,0,none⟩)] w fun ex w' => ex = .returned (.tuple #[]) ∧ WS lo w' g (shP W m) ∧ Fr lo g w w' := by
 unfold shP
 by_cases c : (shW W m).b = true
 ·rw [if_pos c]
  exact sh_bad lo g gm m hd W w0 w h hlo hb0 hy hne hr hm hn c
 ·rw [if_neg c]
  exact sh_good lo g gm m hd W w0 w h hlo hb0 hy hne hr hm hn (by simpa using c)
set_option maxRecDepth 100000 in
set_option maxHeartbeats 8000000 in
theorem nums1_g (lo g : Nat) (W : Wp) (bs bx bw : Nat) (z n : Int) (hz1 : 1 ≤ z) (hz3 : z ≤ 3) (hn1 : 1 ≤ n) (hn4 : n ≤ 4) (A : Option Addr) (c : Nat) (l : List Int) (w : World) (h : WS lo w g W)
  (hs : w.heap[bs]? = some (.cells #[.int .i64 z] 3 (0,0))) (hx : w.heap[bx]? = some (.cells #[.slice A l.length c] 44 (0,0))) (hw : w.heap[bw]? = some (.cells #[.int .i64 n] 3 (0,0))) (hr : Kd.C (Kd.int .i64) w A l.length l) (hlc : l.length ≤ c) (hl : l.length ≤ 16777216) (hn : W.s.size ≤ 100000000) :
  Calls Try.prog 106 #[.pointer (some ⟨g,0,none⟩),.pointer (some ⟨bs,0,none⟩),.pointer (some ⟨bx,0,none⟩),.pointer (some ⟨bw,0,none⟩)] w fun ex w' => ex = .returned (.tuple #[]) ∧ WS lo w' g (W.within (fw (wN n) l) z) ∧ Fr lo g w w' := by
 have HW := Aq.mk h
 have hmf := mkf
 have HS := Aq.mk hs
 have HX := Aq.mk hx
 have HY := Aq.mk hw
 have HR := Aq.mk hr
 have HLC := Aq.mk hlc
 have HLL := Aq.mk hl
 have hfa := fw_all (wN n) l hl (fun W a _ => wN_size n hn1 hn4 W a)
 have HN := Aq.mk (show W.s.size + 3 + (fw (wN n) l).s.size ≤ 140737488355328 from by omega)
 have HZ1 := Aq.mk hz1
 have HZ3 := Aq.mk hz3
 have HN1 := Aq.mk hn1
 have HN4 := Aq.mk hn4
 clear h hs hx hw hr hfa
 go_enter Try.func106,Try.ntmps106
 go_wp2_with (first
  | ((with_reducible refine gate_dst (N := 6) rfl ?_); refine ld (v := .int .i64 z) rfl rfl rfl HS.out Try.underlying3 rfl rfl ?_)
  | (go_at_call 58; (refine (within_w lo g 107 _ W (fw (wN n) l) z _ HW.out enters107 (nums2_w bx bw n HN1.out HN4.out A c l _ HX.out HY.out HR.out HLC.out HLL.out) HZ1.out HZ3.out HN.out).mono ?_); rintro e1 w1 ⟨rfl,i1,f1⟩; have HWz := Aq.mk i1; have HFz := Aq.mk f1; clear i1 f1))
 first | go_end0 | ((try simp only [Exit.inBlock,Exit.then]); refine bodyPost_ret (results_none rfl _ _ _) rfl ?_)
 exact ⟨rfl,HWz.out,HFz.out⟩
def chOk (m : Mv) : Bool := decide (0 < m.f3.length) && ((m.f11.length : Int) == (m.f10.length : Int))
def chL (m : Mv) : List (Bool × Int × Wp) := [(!m.f4.toList.isEmpty,0,W0.within ((W0.num 0 1).vec m.f4 2 1 64) 2),(decide (0 < m.f6.length),10,W0.within (fw (wN 2) m.f6) 2),(decide (0 < m.f7.length),13,W0.within (fw (wN 2) m.f7) 2),(decide (0 < m.f5.length),43,W0.within (fw (wN 2) m.f5) 1),(decide (0 < m.f8.length),45,W0.within (fw (wN 1) m.f8) 1),(decide (0 < m.f9.length),51,W0.within (fw wS m.f9) 2),(decide (0 < m.f10.length),41,(W0.within (fw wI m.f10) 2).within (fw wB m.f11) 2)]
def chT (W : Wp) (m : Mv) : Wp := (((W.hello m.f1 m.f2).need (chOk m)).within (fw (wN 2) m.f3) 2).vec ⟨#[0]⟩ 1 1 1
def chP (W : Wp) (m : Mv) : Wp := (xAll (chT W m) (chL m)).1.ends (xAll (chT W m) (chL m)).2
set_option maxRecDepth 100000 in
set_option maxHeartbeats 8000000 in
theorem ch_w (lo g gm : Nat) (m : Mv) (hd : Hd) (W : Wp) (w0 w : World) (h : WS lo w g W) (hlo : w0.heap.size ≤ lo) (hb0 : Below w0.heap.size w0 w) (hy : w.heap[gm]? = some (.cells (cells m hd) 49 (0,0))) (hne : gm ≠ g) (hr : Reads w0 m hd) (hm : MB m) (hn : W.s.size ≤ 16777216) :
  Calls Try.prog 55 #[.pointer (some ⟨g,0,none⟩),.pointer (some ⟨gm,0,none⟩)] w fun ex w' => ex = .returned (.tuple #[]) ∧ WS lo w' g (chP W m) ∧ Fr lo g w w' := by
 have hmf := mkf
 have hsz_ := Aq.mk h.size
 have HB0 := Aq.mk hb0
 have HW := Aq.mk h
 have HL := Aq.mk hlo
 have HY := Aq.mk hy
 have HYN := Aq.mk hne
 have HR := Aq.mk hr
 have HMB := Aq.mk hm
 have HN := Aq.mk (show W.s.size + 16 + m.f1.size + m.f2.size ≤ 140737488355328 from by have := hm.b1; have := hm.b2; omega)
 have HWS := Aq.mk hn
 have hsz := hello_size W m.f1 m.f2 hm.b1 hm.b2
 have u0 : (W0.within ((W0.num 0 1).vec m.f4 2 1 64) 2).s.size ≤ 140737488351232 := Nat.le_trans (W0.within_small _ 2 (by omega) (by omega) (by have := W0.num_size 0 1 (by omega) (by omega); have := (W0.num 0 1).vec_size m.f4 2 1 64 (by omega) (by omega) (by have := hm.b4; omega); have := hm.b4; rw [W0_size] at *; omega)) (by rw [W0_size]; omega)
 have u1 : (W0.within (fw (wN 2) m.f6) 2).s.size ≤ 140737488351232 := Nat.le_trans (W0.within_small _ 2 (by omega) (by omega) (by have := fw_all (wN 2) m.f6 hm.b6 (fun W a _ => wN_size 2 (by omega) (by omega) W a); omega)) (by rw [W0_size]; omega)
 have u2 : (W0.within (fw (wN 2) m.f7) 2).s.size ≤ 140737488351232 := Nat.le_trans (W0.within_small _ 2 (by omega) (by omega) (by have := fw_all (wN 2) m.f7 hm.b7 (fun W a _ => wN_size 2 (by omega) (by omega) W a); omega)) (by rw [W0_size]; omega)
 have u3 : (W0.within (fw (wN 2) m.f5) 1).s.size ≤ 140737488351232 := Nat.le_trans (W0.within_small _ 1 (by omega) (by omega) (by have := fw_all (wN 2) m.f5 hm.b5 (fun W a _ => wN_size 2 (by omega) (by omega) W a); omega)) (by rw [W0_size]; omega)
 have u4 : (W0.within (fw (wN 1) m.f8) 1).s.size ≤ 140737488351232 := Nat.le_trans (W0.within_small _ 1 (by omega) (by omega) (by have := fw_all (wN 1) m.f8 hm.b8 (fun W a _ => wN_size 1 (by omega) (by omega) W a); omega)) (by rw [W0_size]; omega)
 have u5 : (W0.within (fw wS m.f9) 2).s.size ≤ 140737488351232 := Nat.le_trans (W0.within_small _ 2 (by omega) (by omega) (by have := fw_all wS m.f9 hm.b9 (fun W a ha => wS_size W a (hm.c9 a ha)); omega)) (by rw [W0_size]; omega)
 have u6 : ((W0.within (fw wI m.f10) 2).within (fw wB m.f11) 2).s.size ≤ 140737488351232 := by
  have h1 := W0.within_small (fw wI m.f10) 2 (by omega) (by omega) (by have := fw_all wI m.f10 hm.b10 (fun W a ha => wI_size W a (hm.c10 a ha)); omega)
  have h2 := (W0.within (fw wI m.f10) 2).within_small (fw wB m.f11) 2 (by omega) (by omega) (by have := fw_all wB m.f11 hm.b11 (fun W a ha => wB_size W a (hm.c11 a ha)); omega)
  rw [W0_size] at h1
  omega
 have x1 := XB.nil.put (!m.f4.toList.isEmpty) 0 (W0.within ((W0.num 0 1).vec m.f4 2 1 64) 2) u0
 have x2 := x1.put (decide (0 < m.f6.length)) 10 (W0.within (fw (wN 2) m.f6) 2) u1
 have x3 := x2.put (decide (0 < m.f7.length)) 13 (W0.within (fw (wN 2) m.f7) 2) u2
 have x4 := x3.put (decide (0 < m.f5.length)) 43 (W0.within (fw (wN 2) m.f5) 1) u3
 have x5 := x4.put (decide (0 < m.f8.length)) 45 (W0.within (fw (wN 1) m.f8) 1) u4
 have x6 := x5.put (decide (0 < m.f9.length)) 51 (W0.within (fw wS m.f9) 2) u5
 have x7 := x6.put (decide (0 < m.f10.length)) 41 ((W0.within (fw wI m.f10) 2).within (fw wB m.f11) 2) u6
 have HLE6 := Aq.mk (show ([] : List E.S41).length ≤ 1000000000 from by decide)
 have HLE7 := Aq.mk (show (xPutL (!m.f4.toList.isEmpty) 0 (W0.within ((W0.num 0 1).vec m.f4 2 1 64) 2) ([] : List E.S41)).length ≤ 1000000000 from Nat.le_trans x1.1 (by omega))
 have HLE8 := Aq.mk (show (xPutL (decide (0 < m.f6.length)) 10 (W0.within (fw (wN 2) m.f6) 2) (xPutL (!m.f4.toList.isEmpty) 0 (W0.within ((W0.num 0 1).vec m.f4 2 1 64) 2) ([] : List E.S41))).length ≤ 1000000000 from Nat.le_trans x2.1 (by omega))
 have HLE9 := Aq.mk (show (xPutL (decide (0 < m.f7.length)) 13 (W0.within (fw (wN 2) m.f7) 2) (xPutL (decide (0 < m.f6.length)) 10 (W0.within (fw (wN 2) m.f6) 2) (xPutL (!m.f4.toList.isEmpty) 0 (W0.within ((W0.num 0 1).vec m.f4 2 1 64) 2) ([] : List E.S41)))).length ≤ 1000000000 from Nat.le_trans x3.1 (by omega))
 have HLE10 := Aq.mk (show (xPutL (decide (0 < m.f5.length)) 43 (W0.within (fw (wN 2) m.f5) 1) (xPutL (decide (0 < m.f7.length)) 13 (W0.within (fw (wN 2) m.f7) 2) (xPutL (decide (0 < m.f6.length)) 10 (W0.within (fw (wN 2) m.f6) 2) (xPutL (!m.f4.toList.isEmpty) 0 (W0.within ((W0.num 0 1).vec m.f4 2 1 64) 2) ([] : List E.S41))))).length ≤ 1000000000 from Nat.le_trans x4.1 (by omega))
 have HLE11 := Aq.mk (show (xPutL (decide (0 < m.f8.length)) 45 (W0.within (fw (wN 1) m.f8) 1) (xPutL (decide (0 < m.f5.length)) 43 (W0.within (fw (wN 2) m.f5) 1) (xPutL (decide (0 < m.f7.length)) 13 (W0.within (fw (wN 2) m.f7) 2) (xPutL (decide (0 < m.f6.length)) 10 (W0.within (fw (wN 2) m.f6) 2) (xPutL (!m.f4.toList.isEmpty) 0 (W0.within ((W0.num 0 1).vec m.f4 2 1 64) 2) ([] : List E.S41)))))).length ≤ 1000000000 from Nat.le_trans x5.1 (by omega))
 have HLE12 := Aq.mk (show (xPutL (decide (0 < m.f9.length)) 51 (W0.within (fw wS m.f9) 2) (xPutL (decide (0 < m.f8.length)) 45 (W0.within (fw (wN 1) m.f8) 1) (xPutL (decide (0 < m.f5.length)) 43 (W0.within (fw (wN 2) m.f5) 1) (xPutL (decide (0 < m.f7.length)) 13 (W0.within (fw (wN 2) m.f7) 2) (xPutL (decide (0 < m.f6.length)) 10 (W0.within (fw (wN 2) m.f6) 2) (xPutL (!m.f4.toList.isEmpty) 0 (W0.within ((W0.num 0 1).vec m.f4 2 1 64) 2) ([] : List E.S41))))))).length ≤ 1000000000 from Nat.le_trans x6.1 (by omega))
 obtain ⟨W6,hW6⟩ : ∃ X,chT W m = X := ⟨_,rfl⟩
 have t1 := ((W.hello m.f1 m.f2).need (chOk m)).within_small (fw (wN 2) m.f3) 2 (by omega) (by omega) (by have := fw_all (wN 2) m.f3 hm.b3 (fun W a _ => wN_size 2 (by omega) (by omega) W a); omega)
 have t0 : ((W.hello m.f1 m.f2).need (chOk m)).s.size = (W.hello m.f1 m.f2).s.size := rfl
 have t2 := (((W.hello m.f1 m.f2).need (chOk m)).within (fw (wN 2) m.f3) 2).vec_small ⟨#[0]⟩ 1 1 1 (by omega) (by omega) (by decide)
 have HNH := Aq.mk (show ((W.hello m.f1 m.f2).need (chOk m)).s.size ≤ 100000000 from by omega)
 have HNV := Aq.mk (show (((W.hello m.f1 m.f2).need (chOk m)).within (fw (wN 2) m.f3) 2).s.size + 3 + (⟨#[0]⟩ : ByteArray).size ≤ 140737488355328 from by show _ + 3 + 1 ≤ _; omega)
 have h6s : W6.s.size ≤ 200000000 := by
  rw [← hW6]
  unfold chT
  omega
 unfold chP
 rw [hW6]
 have EW6 := Aq.mk hW6
 unfold chT at EW6
 have HEL := Aq.mk (show (xPutL (decide (0 < m.f10.length)) 41 ((W0.within (fw wI m.f10) 2).within (fw wB m.f11) 2) (xPutL (decide (0 < m.f9.length)) 51 (W0.within (fw wS m.f9) 2) (xPutL (decide (0 < m.f8.length)) 45 (W0.within (fw (wN 1) m.f8) 1) (xPutL (decide (0 < m.f5.length)) 43 (W0.within (fw (wN 2) m.f5) 1) (xPutL (decide (0 < m.f7.length)) 13 (W0.within (fw (wN 2) m.f7) 2) (xPutL (decide (0 < m.f6.length)) 10 (W0.within (fw (wN 2) m.f6) 2) (xPutL (!m.f4.toList.isEmpty) 0 (W0.within ((W0.num 0 1).vec m.f4 2 1 64) 2) ([] : List E.S41)))))))).length ≤ 16777216 from Nat.le_trans x7.1 (by omega))
 have HEB := Aq.mk (show ∀ y ∈ (xPutL (decide (0 < m.f10.length)) 41 ((W0.within (fw wI m.f10) 2).within (fw wB m.f11) 2) (xPutL (decide (0 < m.f9.length)) 51 (W0.within (fw wS m.f9) 2) (xPutL (decide (0 < m.f8.length)) 45 (W0.within (fw (wN 1) m.f8) 1) (xPutL (decide (0 < m.f5.length)) 43 (W0.within (fw (wN 2) m.f5) 1) (xPutL (decide (0 < m.f7.length)) 13 (W0.within (fw (wN 2) m.f7) 2) (xPutL (decide (0 < m.f6.length)) 10 (W0.within (fw (wN 2) m.f6) 2) (xPutL (!m.f4.toList.isEmpty) 0 (W0.within ((W0.num 0 1).vec m.f4 2 1 64) 2) ([] : List E.S41)))))))),y.f1.size ≤ 140737488351232 from x7.2)
 have zL := putL_size (xPutL (decide (0 < m.f10.length)) 41 ((W0.within (fw wI m.f10) 2).within (fw wB m.f11) 2) (xPutL (decide (0 < m.f9.length)) 51 (W0.within (fw wS m.f9) 2) (xPutL (decide (0 < m.f8.length)) 45 (W0.within (fw (wN 1) m.f8) 1) (xPutL (decide (0 < m.f5.length)) 43 (W0.within (fw (wN 2) m.f5) 1) (xPutL (decide (0 < m.f7.length)) 13 (W0.within (fw (wN 2) m.f7) 2) (xPutL (decide (0 < m.f6.length)) 10 (W0.within (fw (wN 2) m.f6) 2) (xPutL (!m.f4.toList.isEmpty) 0 (W0.within ((W0.num 0 1).vec m.f4 2 1 64) 2) ([] : List E.S41))))))))
 have HEN := Aq.mk (show (xPut (decide (0 < m.f10.length)) (xPut (decide (0 < m.f9.length)) (xPut (decide (0 < m.f8.length)) (xPut (decide (0 < m.f5.length)) (xPut (decide (0 < m.f7.length)) (xPut (decide (0 < m.f6.length)) (xPut (!m.f4.toList.isEmpty) W6 (W0.within ((W0.num 0 1).vec m.f4 2 1 64) 2)) (W0.within (fw (wN 2) m.f6) 2)) (W0.within (fw (wN 2) m.f7) 2)) (W0.within (fw (wN 2) m.f5) 1)) (W0.within (fw (wN 1) m.f8) 1)) (W0.within (fw wS m.f9) 2)) ((W0.within (fw wI m.f10) 2).within (fw wB m.f11) 2)).s.size + 3 + (Go.Proofs.Ytlkebjkpmiehcaa.Pure.putL [] (xPutL (decide (0 < m.f10.length)) 41 ((W0.within (fw wI m.f10) 2).within (fw wB m.f11) 2) (xPutL (decide (0 < m.f9.length)) 51 (W0.within (fw wS m.f9) 2) (xPutL (decide (0 < m.f8.length)) 45 (W0.within (fw (wN 1) m.f8) 1) (xPutL (decide (0 < m.f5.length)) 43 (W0.within (fw (wN 2) m.f5) 1) (xPutL (decide (0 < m.f7.length)) 13 (W0.within (fw (wN 2) m.f7) 2) (xPutL (decide (0 < m.f6.length)) 10 (W0.within (fw (wN 2) m.f6) 2) (xPutL (!m.f4.toList.isEmpty) 0 (W0.within ((W0.num 0 1).vec m.f4 2 1 64) 2) ([] : List E.S41))))))))).1.size ≤ 140737488355328 from by
  have := x7.1
  simp only [xPut_s]
  omega)
 clear u0 u1 u2 u3 u4 u5 u6 x1 x2 x3 x4 x5 x6 x7 zL t0 t1 t2 h6s hsz hW6 h hlo hy hne hr hm hb0 hn
 rcases Bool.eq_false_or_eq_true (decide (0 < m.f3.length)) with e1 | e1
 all_goals
  have E1 := Aq.mk e1
  go_enter Try.func55,Try.ntmps55
  go_wp2_with (first
   | ((with_reducible refine gate_dst (N := 3) rfl ?_); refine boxT (v := .pointer (some ⟨gm,0,none⟩)) (cs := #[.pointer (some ⟨gm,0,none⟩)]) rfl rfl rfl rfl ?_; intro gb eb w1 h1 b1; have HX := Aq.mk h1; have HXN := Aq.mk (show gb ≠ g from by have := HW.out.lt; omega); have n_ := Aq.mk ((b1.block gm (blk_lt HY.out)).trans HY.out); clear HY; have HY := n_; clear n_; have n_ := Aq.mk (HW.out.below b1); clear HW; have HW := n_; clear n_; have HF := Aq.mk (Fr.of_below (g := g) (n_lo HW.out b1 hsz_.out) b1); clear h1 b1 eb)
   | ((with_reducible refine gate_dst (N := 6) rfl ?_); refine ld (v := .pointer (some ⟨gm,0,none⟩)) rfl rfl rfl HX.out Try.underlying85 rfl rfl ?_)
   | (go_at_call 78; (with_reducible refine (hello_w lo g gm (cells m hd) W _ HW.out HY.out HYN.out m.f1 m.f2 rfl rfl HN.out).mono ?_); rintro e2 w2 ⟨rfl,i2,f2⟩; have HW2 := Aq.mk i2; have n_ := Aq.mk (HF.out.trans f2); clear HF; have HF := n_; clear n_; have n_ := Aq.mk (f2.blk HX.out HXN.out (by decide)); clear HX; have HX := n_; clear n_; have n_ := Aq.mk (f2.blk HY.out HYN.out (by decide)); clear HY; have HY := n_; clear n_; clear i2 f2))
  first
  | (have k_ : decide (0 < m.f3.length) = true := by with_reducible exact E1.out
     clear k_
     have EOK := Aq.mk (show chOk m = ((m.f11.length : Int) == (m.f10.length : Int)) from by unfold chOk; rw [E1.out,Bool.true_and])
     refine start_ (n := 21) (S := fun w' => Below w2.heap.size w2 w') (ds := [20]) T50 (by kernel_rfl) rfl rfl (Below.refl w2.heap.size w2).drew (fun hHeld => ?_)
     have HS := Aq.mk (Below.refl w2.heap.size w2).drew
     generalize w2.drew = w3 at HS hHeld ⊢
     refine pure_ (i := 0) (N := (some 8)) (v := ?_) (a' := ?_) T54 rfl rfl (by kernel_rfl) (fun _ _ _ h => h) (Or.inl ⟨by rfl,?_⟩) ?_ ?_
     rotate_left
     ·intro w'
      go_simp
      with_reducible rfl
     rotate_left
     ·simp only [Act.put,LS_]
      rfl
     refine take_ (i := 1) (N := (some 9)) (v := ?_) (a' := ?_) T513 rfl rfl (by kernel_rfl) (fun _ _ _ h => h) (Or.inl ⟨by rfl,?_⟩) hHeld ?_ ?_
     rotate_left
     ·rintro w' hS
      have hc := (blk_cell ((hS.block gb (blk_lt HX.out)).trans HX.out) 0).trans rfl
      go_simp
      with_reducible rfl
     rotate_left
     ·simp only [Act.put,LS_]
      rfl
     refine pure_ (i := 2) (N := (some 10)) (v := ?_) (a' := ?_) T516 rfl rfl (by kernel_rfl) (fun _ _ _ h => h) (Or.inl ⟨by rfl,?_⟩) ?_ ?_
     rotate_left
     ·intro w'
      go_simp
      with_reducible rfl
     rotate_left
     ·simp only [Act.put,LS_]
      rfl
     refine pure_ (i := 3) (N := (some 11)) (v := ?_) (a' := ?_) T519 rfl rfl (by kernel_rfl) (fun _ _ _ h => h) (Or.inl ⟨by rfl,?_⟩) ?_ ?_
     rotate_left
     ·intro w'
      go_simp
      with_reducible rfl
     rotate_left
     ·simp only [Act.put,LS_]
      rfl
     refine take_ (i := 4) (N := (some 12)) (v := ?_) (a' := ?_) T522 rfl rfl (by kernel_rfl) (fun _ _ _ h => h) (Or.inl ⟨by rfl,?_⟩) hHeld ?_ ?_
     rotate_left
     ·rintro w' hS
      have hc := ((blk_cell ((hS.block gm (blk_lt HY.out)).trans HY.out) 3).trans (show (cells m hd)[3]? = some (.slice hd.A3 m.f3.length hd.c3) from rfl))
      go_simp
      with_reducible rfl
     rotate_left
     ·simp only [Act.put,LS_]
      rfl
     refine pure_ (i := 5) (N := (some 13)) (v := ?_) (a' := ?_) T525 rfl rfl (by kernel_rfl) (fun _ _ _ h => h) (Or.inl ⟨by rfl,?_⟩) ?_ ?_
     rotate_left
     ·intro w'
      go_simp
      with_reducible rfl
     rotate_left
     ·simp only [Act.put,LS_]
      rfl
     refine pure_ (i := 6) (N := (some 14)) (v := ?_) (a' := ?_) T528 rfl rfl (by kernel_rfl) (fun _ _ _ h => h) (Or.inl ⟨by rfl,?_⟩) ?_ ?_
     rotate_left
     ·intro w'
      go_simp
      with_reducible rfl
     rotate_left
     ·simp only [Act.put,LS_]
      rfl
     refine pure_ (i := 7) (N := (some 15)) (v := ?_) (a' := ?_) T532 rfl rfl (by kernel_rfl) (fun _ _ _ h => h) (Or.inl ⟨by rfl,?_⟩) ?_ ?_
     rotate_left
     ·intro w'
      go_simp
      with_reducible rfl
     rotate_left
     ·simp only [Act.put,LS_]
      rfl
     refine take_ (i := 8) (N := (some 16)) (v := ?_) (a' := ?_) T536 rfl rfl (by kernel_rfl) (fun _ _ _ h => h) (Or.inl ⟨by rfl,?_⟩) hHeld ?_ ?_
     rotate_left
     ·rintro w' hS
      have hc := (blk_cell ((hS.block gb (blk_lt HX.out)).trans HX.out) 0).trans rfl
      go_simp
      with_reducible rfl
     rotate_left
     ·simp only [Act.put,LS_]
      rfl
     refine pure_ (i := 9) (N := (some 17)) (v := ?_) (a' := ?_) T539 rfl rfl (by kernel_rfl) (fun _ _ _ h => h) (Or.inl ⟨by rfl,?_⟩) ?_ ?_
     rotate_left
     ·intro w'
      go_simp
      with_reducible rfl
     rotate_left
     ·simp only [Act.put,LS_]
      rfl
     refine pure_ (i := 10) (N := (some 18)) (v := ?_) (a' := ?_) T541 rfl rfl (by kernel_rfl) (fun _ _ _ h => h) (Or.inl ⟨by rfl,?_⟩) ?_ ?_
     rotate_left
     ·intro w'
      go_simp
      with_reducible rfl
     rotate_left
     ·simp only [Act.put,LS_]
      rfl
     refine take_ (i := 11) (N := (some 19)) (v := ?_) (a' := ?_) T543 rfl rfl (by kernel_rfl) (fun _ _ _ h => h) (Or.inl ⟨by rfl,?_⟩) hHeld ?_ ?_
     rotate_left
     ·rintro w' hS
      have hc := ((blk_cell ((hS.block gm (blk_lt HY.out)).trans HY.out) 11).trans (show (cells m hd)[11]? = some (.slice hd.A11 m.f11.length hd.c11) from rfl))
      go_simp
      with_reducible rfl
     rotate_left
     ·simp only [Act.put,LS_]
      rfl
     refine pure_ (i := 12) (N := (some 20)) (v := ?_) (a' := ?_) T545 rfl rfl (by kernel_rfl) (fun _ _ _ h => h) (Or.inl ⟨by rfl,?_⟩) ?_ ?_
     rotate_left
     ·intro w'
      go_simp
      with_reducible rfl
     rotate_left
     ·simp only [Act.put,LS_]
      rfl
     refine take_ (i := 13) (N := (some 21)) (v := ?_) (a' := ?_) T546 rfl rfl (by kernel_rfl) (fun _ _ _ h => h) (Or.inl ⟨by rfl,?_⟩) hHeld ?_ ?_
     rotate_left
     ·rintro w' hS
      have hc := (blk_cell ((hS.block gb (blk_lt HX.out)).trans HX.out) 0).trans rfl
      go_simp
      with_reducible rfl
     rotate_left
     ·simp only [Act.put,LS_]
      rfl
     refine pure_ (i := 14) (N := (some 22)) (v := ?_) (a' := ?_) T547 rfl rfl (by kernel_rfl) (fun _ _ _ h => h) (Or.inl ⟨by rfl,?_⟩) ?_ ?_
     rotate_left
     ·intro w'
      go_simp
      with_reducible rfl
     rotate_left
     ·simp only [Act.put,LS_]
      rfl
     refine pure_ (i := 15) (N := (some 23)) (v := ?_) (a' := ?_) T548 rfl rfl (by kernel_rfl) (fun _ _ _ h => h) (Or.inl ⟨by rfl,?_⟩) ?_ ?_
     rotate_left
     ·intro w'
      go_simp
      with_reducible rfl
     rotate_left
     ·simp only [Act.put,LS_]
      rfl
     refine take_ (i := 16) (N := (some 24)) (v := ?_) (a' := ?_) T549 rfl rfl (by kernel_rfl) (fun _ _ _ h => h) (Or.inl ⟨by rfl,?_⟩) hHeld ?_ ?_
     rotate_left
     ·rintro w' hS
      have hc := ((blk_cell ((hS.block gm (blk_lt HY.out)).trans HY.out) 10).trans (show (cells m hd)[10]? = some (.slice hd.A10 m.f10.length hd.c10) from rfl))
      go_simp
      with_reducible rfl
     rotate_left
     ·simp only [Act.put,LS_]
      rfl
     refine pure_ (i := 17) (N := (some 25)) (v := ?_) (a' := ?_) T550 rfl rfl (by kernel_rfl) (fun _ _ _ h => h) (Or.inl ⟨by rfl,?_⟩) ?_ ?_
     rotate_left
     ·intro w'
      go_simp
      with_reducible rfl
     rotate_left
     ·simp only [Act.put,LS_]
      rfl
     refine pure_ (i := 18) (N := (some 26)) (v := ?_) (a' := ?_) T551 rfl rfl (by kernel_rfl) (fun _ _ _ h => h) (Or.inl ⟨by rfl,?_⟩) ?_ ?_
     rotate_left
     ·intro w'
      go_simp
      with_reducible rfl
     rotate_left
     ·simp only [Act.put,LS_]
      rfl
     refine pure_ (i := 19) (N := (some 27)) (v := ?_) (a' := ?_) T552 rfl rfl (by kernel_rfl) (fun _ _ _ h => h) (Or.inl ⟨by rfl,?_⟩) ?_ ?_
     rotate_left
     ·intro w'
      go_simp
      with_reducible rfl
     rotate_left
     ·simp only [Act.put,LS_]
      rfl
     refine last_ (i := 20) (N := (some 28)) T553 rfl rfl (by kernel_rfl) (by decide) (fun K hK => ?_)
     refine goes_ (f := 61) Try.func61 (by kernel_rfl) rfl #[.pointer (some ⟨g,0,none⟩),.bool (chOk m)] (by rfl) rfl rfl (by (try simp only [List.map_toArray,List.map_cons,List.map_nil]); first | done | rfl | (rw [EOK.out]; done) | (rw [EOK.out]; rfl)) ?_
     refine (need_w lo g (W.hello m.f1 m.f2) (chOk m) _ (HW2.out.below HS.out)).mono ?_
     rintro e w4 ⟨rfl,i4,f4⟩
     refine ⟨_,rfl,?_⟩
     have HW4 := Aq.mk i4
     have f34 := (Fr.of_below (g := g) HW2.out.size HS.out).trans f4
     have n_ := Aq.mk (HF.out.trans f34)
     clear HF
     have HF := n_
     clear n_
     have n_ := Aq.mk (f34.blk HX.out HXN.out (by decide))
     clear HX
     have HX := n_
     clear n_
     have n_ := Aq.mk (f34.blk HY.out HYN.out (by decide))
     clear HY
     have HY := n_
     clear n_
     clear i4 f4 f34
     refine hK.out _ _ ?_
     clear hK K
     refine norm_ (a' := ?_) ?_ ?_
     rotate_left
     ·show Act.put _ (some 28) _ = _
      simp only [Act.put,LS_]
      rfl
     refine done_ (by kernel_rfl) ?_)
  | (have EOK := Aq.mk (show chOk m = false from by unfold chOk; rw [E1.out,Bool.false_and])
     refine start_ (n := 21) (S := fun w' => Below w2.heap.size w2 w') (ds := [20]) T50 (by kernel_rfl) rfl rfl (Below.refl w2.heap.size w2).drew (fun hHeld => ?_)
     have HS := Aq.mk (Below.refl w2.heap.size w2).drew
     generalize w2.drew = w3 at HS hHeld ⊢
     refine pure_ (i := 0) (N := (some 8)) (v := ?_) (a' := ?_) T54 rfl rfl (by kernel_rfl) (fun _ _ _ h => h) (Or.inl ⟨by rfl,?_⟩) ?_ ?_
     rotate_left
     ·intro w'
      go_simp
      with_reducible rfl
     rotate_left
     ·simp only [Act.put,LS_]
      rfl
     refine take_ (i := 1) (N := (some 9)) (v := ?_) (a' := ?_) T513 rfl rfl (by kernel_rfl) (fun _ _ _ h => h) (Or.inl ⟨by rfl,?_⟩) hHeld ?_ ?_
     rotate_left
     ·rintro w' hS
      have hc := (blk_cell ((hS.block gb (blk_lt HX.out)).trans HX.out) 0).trans rfl
      go_simp
      with_reducible rfl
     rotate_left
     ·simp only [Act.put,LS_]
      rfl
     refine pure_ (i := 2) (N := (some 10)) (v := ?_) (a' := ?_) T516 rfl rfl (by kernel_rfl) (fun _ _ _ h => h) (Or.inl ⟨by rfl,?_⟩) ?_ ?_
     rotate_left
     ·intro w'
      go_simp
      with_reducible rfl
     rotate_left
     ·simp only [Act.put,LS_]
      rfl
     refine pure_ (i := 3) (N := (some 11)) (v := ?_) (a' := ?_) T519 rfl rfl (by kernel_rfl) (fun _ _ _ h => h) (Or.inl ⟨by rfl,?_⟩) ?_ ?_
     rotate_left
     ·intro w'
      go_simp
      with_reducible rfl
     rotate_left
     ·simp only [Act.put,LS_]
      rfl
     refine take_ (i := 4) (N := (some 12)) (v := ?_) (a' := ?_) T522 rfl rfl (by kernel_rfl) (fun _ _ _ h => h) (Or.inl ⟨by rfl,?_⟩) hHeld ?_ ?_
     rotate_left
     ·rintro w' hS
      have hc := ((blk_cell ((hS.block gm (blk_lt HY.out)).trans HY.out) 3).trans (show (cells m hd)[3]? = some (.slice hd.A3 m.f3.length hd.c3) from rfl))
      go_simp
      with_reducible rfl
     rotate_left
     ·simp only [Act.put,LS_]
      rfl
     refine pure_ (i := 5) (N := (some 13)) (v := ?_) (a' := ?_) T525 rfl rfl (by kernel_rfl) (fun _ _ _ h => h) (Or.inl ⟨by rfl,?_⟩) ?_ ?_
     rotate_left
     ·intro w'
      go_simp
      with_reducible rfl
     rotate_left
     ·simp only [Act.put,LS_]
      rfl
     refine pure_ (i := 6) (N := (some 14)) (v := ?_) (a' := ?_) T528 rfl rfl (by kernel_rfl) (fun _ _ _ h => h) (Or.inl ⟨by rfl,?_⟩) ?_ ?_
     rotate_left
     ·intro w'
      go_simp
      with_reducible rfl
     rotate_left
     ·simp only [Act.put,LS_]
      rfl
     refine pure_ (i := 7) (N := (some 15)) (v := ?_) (a' := ?_) T532 rfl rfl (by kernel_rfl) (fun _ _ _ h => h) (Or.inl ⟨by rfl,?_⟩) ?_ ?_
     rotate_left
     ·intro w'
      go_simp
      with_reducible rfl
     rotate_left
     ·simp only [Act.put,LS_]
      rfl
     refine pure_ (i := 8) (N := (some 16)) (v := undef) (a' := ?_) T536 rfl rfl (by kernel_rfl) (fun _ _ _ h => h) (Or.inr ⟨by rfl,by rfl⟩) ?_ ?_
     rotate_left
     ·simp only [Act.put,LS_]
      rfl
     refine pure_ (i := 9) (N := (some 17)) (v := undef) (a' := ?_) T539 rfl rfl (by kernel_rfl) (fun _ _ _ h => h) (Or.inr ⟨by rfl,by rfl⟩) ?_ ?_
     rotate_left
     ·simp only [Act.put,LS_]
      rfl
     refine pure_ (i := 10) (N := (some 18)) (v := undef) (a' := ?_) T541 rfl rfl (by kernel_rfl) (fun _ _ _ h => h) (Or.inr ⟨by rfl,by rfl⟩) ?_ ?_
     rotate_left
     ·simp only [Act.put,LS_]
      rfl
     refine pure_ (i := 11) (N := (some 19)) (v := undef) (a' := ?_) T543 rfl rfl (by kernel_rfl) (fun _ _ _ h => h) (Or.inr ⟨by rfl,by rfl⟩) ?_ ?_
     rotate_left
     ·simp only [Act.put,LS_]
      rfl
     refine pure_ (i := 12) (N := (some 20)) (v := undef) (a' := ?_) T545 rfl rfl (by kernel_rfl) (fun _ _ _ h => h) (Or.inr ⟨by rfl,by rfl⟩) ?_ ?_
     rotate_left
     ·simp only [Act.put,LS_]
      rfl
     refine pure_ (i := 13) (N := (some 21)) (v := undef) (a' := ?_) T546 rfl rfl (by kernel_rfl) (fun _ _ _ h => h) (Or.inr ⟨by rfl,by rfl⟩) ?_ ?_
     rotate_left
     ·simp only [Act.put,LS_]
      rfl
     refine pure_ (i := 14) (N := (some 22)) (v := undef) (a' := ?_) T547 rfl rfl (by kernel_rfl) (fun _ _ _ h => h) (Or.inr ⟨by rfl,by rfl⟩) ?_ ?_
     rotate_left
     ·simp only [Act.put,LS_]
      rfl
     refine pure_ (i := 15) (N := (some 23)) (v := undef) (a' := ?_) T548 rfl rfl (by kernel_rfl) (fun _ _ _ h => h) (Or.inr ⟨by rfl,by rfl⟩) ?_ ?_
     rotate_left
     ·simp only [Act.put,LS_]
      rfl
     refine pure_ (i := 16) (N := (some 24)) (v := undef) (a' := ?_) T549 rfl rfl (by kernel_rfl) (fun _ _ _ h => h) (Or.inr ⟨by rfl,by rfl⟩) ?_ ?_
     rotate_left
     ·simp only [Act.put,LS_]
      rfl
     refine pure_ (i := 17) (N := (some 25)) (v := undef) (a' := ?_) T550 rfl rfl (by kernel_rfl) (fun _ _ _ h => h) (Or.inr ⟨by rfl,by rfl⟩) ?_ ?_
     rotate_left
     ·simp only [Act.put,LS_]
      rfl
     refine pure_ (i := 18) (N := (some 26)) (v := undef) (a' := ?_) T551 rfl rfl (by kernel_rfl) (fun _ _ _ h => h) (Or.inr ⟨by rfl,by rfl⟩) ?_ ?_
     rotate_left
     ·simp only [Act.put,LS_]
      rfl
     refine pure_ (i := 19) (N := (some 27)) (v := ?_) (a' := ?_) T552 rfl rfl (by kernel_rfl) (fun _ _ _ h => h) (Or.inl ⟨by rfl,?_⟩) ?_ ?_
     rotate_left
     ·intro w'
      go_simp
      with_reducible rfl
     rotate_left
     ·simp only [Act.put,LS_]
      rfl
     refine last_ (i := 20) (N := (some 28)) T553 rfl rfl (by kernel_rfl) (by decide) (fun K hK => ?_)
     refine goes_ (f := 61) Try.func61 (by kernel_rfl) rfl #[.pointer (some ⟨g,0,none⟩),.bool (chOk m)] (by rfl) rfl rfl (by (try simp only [List.map_toArray,List.map_cons,List.map_nil]); first | done | rfl | (rw [EOK.out]; done) | (rw [EOK.out]; rfl)) ?_
     refine (need_w lo g (W.hello m.f1 m.f2) (chOk m) _ (HW2.out.below HS.out)).mono ?_
     rintro e w4 ⟨rfl,i4,f4⟩
     refine ⟨_,rfl,?_⟩
     have HW4 := Aq.mk i4
     have f34 := (Fr.of_below (g := g) HW2.out.size HS.out).trans f4
     have n_ := Aq.mk (HF.out.trans f34)
     clear HF
     have HF := n_
     clear n_
     have n_ := Aq.mk (f34.blk HX.out HXN.out (by decide))
     clear HX
     have HX := n_
     clear n_
     have n_ := Aq.mk (f34.blk HY.out HYN.out (by decide))
     clear HY
     have HY := n_
     clear n_
     clear i4 f4 f34
     refine hK.out _ _ ?_
     clear hK K
     refine norm_ (a' := ?_) ?_ ?_
     rotate_left
     ·show Act.put _ (some 28) _ = _
      simp only [Act.put,LS_]
      rfl
     refine done_ (by kernel_rfl) ?_)
  go_wp2_with (first
   | ((with_reducible refine gate_load rfl ?_); first
    | ((with_reducible refine gate_dst (N := 29) rfl ?_); refine ld (v := .pointer (some ⟨gm,0,none⟩)) rfl rfl rfl HX.out Try.underlying85 rfl rfl ?_)
    | ((with_reducible refine gate_dst (N := 32) rfl ?_); refine ld (v := .slice hd.A3 m.f3.length hd.c3) rfl rfl rfl HY.out Try.underlying44 rfl rfl ?_))
   | (go_at_call 79; (with_reducible refine (nums_w hd.A3 hd.c3 m.f3 2 2 _).mono ?_); rintro e_ w_ ⟨bs,bx,bw,rfl,h1_,h2_,h3_,b_⟩; have H1_ := Aq.mk h1_; have H2_ := Aq.mk h2_; have H3_ := Aq.mk h3_; have n_ := Aq.mk (HW4.out.below b_); have f_ := Fr.of_below (g := g) HW4.out.size b_; clear HW4; have HW4 := n_; clear n_; have n_ := Aq.mk (HF.out.trans f_); clear HF; have HF := n_; clear n_; have n_ := Aq.mk (f_.blk HX.out HXN.out (by decide)); clear HX; have HX := n_; clear n_; have n_ := Aq.mk (f_.blk HY.out HYN.out (by decide)); clear HY; have HY := n_; clear n_; clear h1_ h2_ h3_ b_ f_)
   | ((refine (nums1_g lo g ((W.hello m.f1 m.f2).need (chOk m)) bs bx bw 2 2 (by omega) (by omega) (by omega) (by omega) hd.A3 hd.c3 m.f3 _ HW4.out H1_.out H2_.out H3_.out (Kd.C_below HR.out.r3 (hb_ HB0.out HF.out HL.out)) HR.out.l3 HMB.out.b3 HNH.out).mono ?_); rintro e_ w_ ⟨rfl,i5,f5⟩; have HW5 := Aq.mk i5; have n_ := Aq.mk (HF.out.trans f5); clear HF; have HF := n_; clear n_; have n_ := Aq.mk (f5.blk HX.out HXN.out (by decide)); clear HX; have HX := n_; clear n_; have n_ := Aq.mk (f5.blk HY.out HYN.out (by decide)); clear HY; have HY := n_; clear n_; clear i5 f5 H1_ H2_ H3_)
   | (go_at_call 57; (with_reducible refine (vec_w lo g (((W.hello m.f1 m.f2).need (chOk m)).within (fw (wN 2) m.f3) 2) ⟨#[0]⟩ 1 1 1 _ HW5.out (by omega) (by omega) HNV.out).mono ?_); rintro e_ w_ ⟨rfl,i6,f6⟩; have HW6 := Aq.mk (show WS lo w_ g W6 from by rw [← EW6.out]; exact i6); have n_ := Aq.mk (HF.out.trans f6); clear HF; have HF := n_; clear n_; have n_ := Aq.mk (f6.blk HX.out HXN.out (by decide)); clear HX; have HX := n_; clear n_; have n_ := Aq.mk (f6.blk HY.out HYN.out (by decide)); clear HY; have HY := n_; clear n_; clear i6 f6)
   | ((with_reducible refine gate_dst (N := 39) rfl ?_); refine build115 rfl rfl rfl ?_)
   | ((with_reducible refine gate_dst (N := 40) rfl ?_); refine boxT (v := .agg #[.pointer (some ⟨g,0,none⟩),.slice none 0 0]) (cs := #[.pointer (some ⟨g,0,none⟩),.slice none 0 0]) rfl rfl rfl rfl ?_; intro x ex w7 h7 b7; have HXS := Aq.mk (XS.start h7); have HLX := Aq.mk (show lo ≤ x from by have := HW6.out.size; omega); have HXX := Aq.mk (show gb < x from by have := blk_lt HX.out; omega); have HYX := Aq.mk (show gm < x from by have := blk_lt HY.out; omega); have HWX := Aq.mk (show w.heap.size ≤ x from by have := HF.out.below.size; have := hsz_.out; first | omega | (rw [ex]; exact this)); have n_ := Aq.mk (HW6.out.below b7); have f7 := Fr.of_below (g := g) HW6.out.size b7; clear HW6; have HW6 := n_; clear n_; have n_ := Aq.mk (HF.out.trans f7); clear HF; have HF := n_; clear n_; have n_ := Aq.mk (f7.blk HX.out HXN.out (by decide)); clear HX; have HX := n_; clear n_; have n_ := Aq.mk (f7.blk HY.out HYN.out (by decide)); clear HY; have HY := n_; clear n_; have HG := Aq.mk (Fx.of_fr (x := x) HF.out); clear h7 b7 f7 ex)
   | ((with_reducible refine gate_load rfl ?_); first
    | ((with_reducible refine gate_dst (N := 42) rfl ?_); refine ld (v := .pointer (some ⟨gm,0,none⟩)) rfl rfl rfl HX.out Try.underlying85 rfl rfl ?_)
    | ((with_reducible refine gate_dst (N := 45) rfl ?_); refine ld (v := .string m.f4) rfl rfl rfl HY.out Try.underlying9 rfl rfl ?_))
   | ((with_reducible refine gate_callee (f := 80) rfl ?_); refine goesL_ (some 48) rfl rfl Try.func80 (by kernel_rfl) rfl #[.pointer (some ⟨x,0,none⟩),.bool (!m.f4.toList.isEmpty),.int .i64 0,.func (.func 81) #[] #[.pointer (some ⟨gb,0,none⟩)]] rfl (by (try simp only [List.map_toArray,List.map_cons,List.map_nil]); first | done | rfl) ?_; (refine (xput_w lo x g 81 _ W6 (W0.within ((W0.num 0 1).vec m.f4 2 1 64) 2) ([] : List E.S41) (!m.f4.toList.isEmpty) 0 _ HW6.out HLX.out HXS.out (fun hi => name1_w gb gm (cells m hd) m.f4 _ HX.out HY.out rfl HMB.out.b4) enters81 HLE6.out).mono ?_); rintro e_ wx0 ⟨rfl,iw,ix,f_⟩; refine ⟨_,rfl,?_⟩; have HW7 := Aq.mk iw; clear HXS; have HXS := Aq.mk ix; have n_ := Aq.mk (HG.out.trans f_); clear HG; have HG := n_; clear n_; have n_ := Aq.mk (f_.keep _ _ _ HX.out HXN.out HXX.out (by decide)); clear HX; have HX := n_; clear n_; have n_ := Aq.mk (f_.keep _ _ _ HY.out HYN.out HYX.out (by decide)); clear HY; have HY := n_; clear n_; clear iw ix f_))
  refine start_ (n := 13) (S := fun w' => Below wx0.heap.size wx0 w') (ds := [12]) T51 (by kernel_rfl) rfl rfl (Below.refl wx0.heap.size wx0).drew (fun hHeld => ?_)
  have HS := Aq.mk (Below.refl wx0.heap.size wx0).drew
  generalize wx0.drew = wd7 at HS hHeld ⊢
  refine pure_ (i := 0) (N := (some 49)) (v := ?_) (a' := ?_) T55 rfl rfl (by kernel_rfl) (fun _ _ _ h => h) (Or.inl ⟨by rfl,?_⟩) ?_ ?_
  rotate_left
  ·intro w'
   go_simp
   with_reducible rfl
  rotate_left
  ·simp only [Act.put,LS_]
   rfl
  refine take_ (i := 1) (N := (some 50)) (v := ?_) (a' := ?_) T514 rfl rfl (by kernel_rfl) (fun _ _ _ h => h) (Or.inl ⟨by rfl,?_⟩) hHeld ?_ ?_
  rotate_left
  ·rintro w' hS
   have hc := (blk_cell ((hS.block gb (blk_lt HX.out)).trans HX.out) 0).trans rfl
   go_simp
   with_reducible rfl
  rotate_left
  ·simp only [Act.put,LS_]
   rfl
  refine pure_ (i := 2) (N := (some 51)) (v := ?_) (a' := ?_) T517 rfl rfl (by kernel_rfl) (fun _ _ _ h => h) (Or.inl ⟨by rfl,?_⟩) ?_ ?_
  rotate_left
  ·intro w'
   go_simp
   with_reducible rfl
  rotate_left
  ·simp only [Act.put,LS_]
   rfl
  refine pure_ (i := 3) (N := (some 52)) (v := ?_) (a' := ?_) T520 rfl rfl (by kernel_rfl) (fun _ _ _ h => h) (Or.inl ⟨by rfl,?_⟩) ?_ ?_
  rotate_left
  ·intro w'
   go_simp
   with_reducible rfl
  rotate_left
  ·simp only [Act.put,LS_]
   rfl
  refine take_ (i := 4) (N := (some 53)) (v := ?_) (a' := ?_) T523 rfl rfl (by kernel_rfl) (fun _ _ _ h => h) (Or.inl ⟨by rfl,?_⟩) hHeld ?_ ?_
  rotate_left
  ·rintro w' hS
   have hc := ((blk_cell ((hS.block gm (blk_lt HY.out)).trans HY.out) 6).trans (show (cells m hd)[6]? = some (.slice hd.A6 m.f6.length hd.c6) from rfl))
   go_simp
   with_reducible rfl
  rotate_left
  ·simp only [Act.put,LS_]
   rfl
  refine pure_ (i := 5) (N := (some 54)) (v := ?_) (a' := ?_) T526 rfl rfl (by kernel_rfl) (fun _ _ _ h => h) (Or.inl ⟨by rfl,?_⟩) ?_ ?_
  rotate_left
  ·intro w'
   go_simp
   with_reducible rfl
  rotate_left
  ·simp only [Act.put,LS_]
   rfl
  refine pure_ (i := 6) (N := (some 55)) (v := ?_) (a' := ?_) T529 rfl rfl (by kernel_rfl) (fun _ _ _ h => h) (Or.inl ⟨by rfl,?_⟩) ?_ ?_
  rotate_left
  ·intro w'
   go_simp
   with_reducible rfl
  rotate_left
  ·simp only [Act.put,LS_]
   rfl
  refine take_ (i := 7) (N := (some 56)) (v := ?_) (a' := ?_) T533 rfl rfl (by kernel_rfl) (fun _ _ _ h => h) (Or.inl ⟨by rfl,?_⟩) hHeld ?_ ?_
  rotate_left
  ·rintro w' hS
   have hc := (blk_cell ((hS.block gb (blk_lt HX.out)).trans HX.out) 0).trans rfl
   go_simp
   with_reducible rfl
  rotate_left
  ·simp only [Act.put,LS_]
   rfl
  refine pure_ (i := 8) (N := (some 57)) (v := ?_) (a' := ?_) T537 rfl rfl (by kernel_rfl) (fun _ _ _ h => h) (Or.inl ⟨by rfl,?_⟩) ?_ ?_
  rotate_left
  ·intro w'
   go_simp
   with_reducible rfl
  rotate_left
  ·simp only [Act.put,LS_]
   rfl
  refine pure_ (i := 9) (N := (some 58)) (v := ?_) (a' := ?_) T540 rfl rfl (by kernel_rfl) (fun _ _ _ h => h) (Or.inl ⟨by rfl,?_⟩) ?_ ?_
  rotate_left
  ·intro w'
   go_simp
   with_reducible rfl
  rotate_left
  ·simp only [Act.put,LS_]
   rfl
  refine take_ (i := 10) (N := (some 59)) (v := ?_) (a' := ?_) T542 rfl rfl (by kernel_rfl) (fun _ _ _ h => h) (Or.inl ⟨by rfl,?_⟩) hHeld ?_ ?_
  rotate_left
  ·rintro w' hS
   have hc := ((blk_cell ((hS.block gm (blk_lt HY.out)).trans HY.out) 6).trans (show (cells m hd)[6]? = some (.slice hd.A6 m.f6.length hd.c6) from rfl))
   go_simp
   with_reducible rfl
  rotate_left
  ·simp only [Act.put,LS_]
   rfl
  refine one_ (i := 11) (N := (some 60)) T544 rfl rfl (by kernel_rfl) (by decide) (fun K hK => ?_)
  refine goes_ (f := 79) Try.func79 (by kernel_rfl) rfl #[.slice hd.A6 m.f6.length hd.c6,.int .i64 2,.int .i64 2] (by rfl) rfl rfl (by (try simp only [List.map_toArray,List.map_cons,List.map_nil]); first | done | rfl) ?_
  refine (nums_w hd.A6 hd.c6 m.f6 2 2 _).mono ?_
  rintro e wn1 ⟨bs,bx,bw,rfl,h1_,h2_,h3_,b_⟩
  refine ⟨_,rfl,?_⟩
  have HS2 := Aq.mk (below_step HS.out b_)
  clear b_
  refine hK.out _ _ (HS2.out) (fun hHeld => ?_)
  clear hK K
  refine norm_ (a' := ?_) ?_ ?_
  rotate_left
  ·show Act.put _ (some 60) _ = _
   simp only [Act.put,LS_]
   rfl
  refine last_ (i := 12) (N := (some 61)) T554 rfl rfl (by kernel_rfl) (by decide) (fun K hK => ?_)
  refine goes_ (f := 80) Try.func80 (by kernel_rfl) rfl #[.pointer (some ⟨x,0,none⟩),.bool (decide (0 < m.f6.length)),.int .i64 10,.func (.func 106) #[] #[.pointer (some ⟨bs,0,none⟩),.pointer (some ⟨bx,0,none⟩),.pointer (some ⟨bw,0,none⟩)]] (by rfl) rfl rfl (by (try simp only [List.map_toArray,List.map_cons,List.map_nil]); first | done | rfl) ?_
  refine (xput_w lo x g 106 _ (xPut (!m.f4.toList.isEmpty) W6 (W0.within ((W0.num 0 1).vec m.f4 2 1 64) 2)) (W0.within (fw (wN 2) m.f6) 2) (xPutL (!m.f4.toList.isEmpty) 0 (W0.within ((W0.num 0 1).vec m.f4 2 1 64) 2) ([] : List E.S41)) (decide (0 < m.f6.length)) 10 _ (HW7.out.below HS2.out) HLX.out (HXS.out.below HS2.out) (fun hi => nums1_w bs bx bw 2 2 (by omega) (by omega) (by omega) (by omega) hd.A6 hd.c6 m.f6 _ h1_ h2_ h3_ (Kd.C_below HR.out.r6 ((HB0.out.trans (HG.out.below.mono HL.out)).trans (HS2.out.mono (HB0.out.trans (HG.out.below.mono HL.out)).size))) HR.out.l6 HMB.out.b6) enters106 HLE7.out).mono ?_
  rintro e wx1 ⟨rfl,iw,ix,f_⟩
  refine ⟨_,rfl,?_⟩
  have HW8 := Aq.mk iw
  have fq := (Fx.of_fr (x := x) (Fr.of_below (g := g) HW7.out.size HS2.out)).trans f_
  clear HXS
  have HXS := Aq.mk ix
  have n_ := Aq.mk (HG.out.trans fq)
  clear HG
  have HG := n_
  clear n_
  have n_ := Aq.mk (fq.keep _ _ _ HX.out HXN.out HXX.out (by decide))
  clear HX
  have HX := n_
  clear n_
  have n_ := Aq.mk (fq.keep _ _ _ HY.out HYN.out HYX.out (by decide))
  clear HY
  have HY := n_
  clear n_
  clear iw ix f_ fq HS HS2
  refine hK.out _ _ ?_
  clear hK K
  refine norm_ (a' := ?_) ?_ ?_
  rotate_left
  ·show Act.put _ (some 61) _ = _
   simp only [Act.put,LS_]
   rfl
  refine done_ (by kernel_rfl) ?_
  go_wp2
  refine start_ (n := 13) (S := fun w' => Below wx1.heap.size wx1 w') (ds := [12]) T51 (by kernel_rfl) rfl rfl (Below.refl wx1.heap.size wx1).drew (fun hHeld => ?_)
  have HS := Aq.mk (Below.refl wx1.heap.size wx1).drew
  generalize wx1.drew = wd8 at HS hHeld ⊢
  refine pure_ (i := 0) (N := (some 62)) (v := ?_) (a' := ?_) T55 rfl rfl (by kernel_rfl) (fun _ _ _ h => h) (Or.inl ⟨by rfl,?_⟩) ?_ ?_
  rotate_left
  ·intro w'
   go_simp
   with_reducible rfl
  rotate_left
  ·simp only [Act.put,LS_]
   rfl
  refine take_ (i := 1) (N := (some 63)) (v := ?_) (a' := ?_) T514 rfl rfl (by kernel_rfl) (fun _ _ _ h => h) (Or.inl ⟨by rfl,?_⟩) hHeld ?_ ?_
  rotate_left
  ·rintro w' hS
   have hc := (blk_cell ((hS.block gb (blk_lt HX.out)).trans HX.out) 0).trans rfl
   go_simp
   with_reducible rfl
  rotate_left
  ·simp only [Act.put,LS_]
   rfl
  refine pure_ (i := 2) (N := (some 64)) (v := ?_) (a' := ?_) T517 rfl rfl (by kernel_rfl) (fun _ _ _ h => h) (Or.inl ⟨by rfl,?_⟩) ?_ ?_
  rotate_left
  ·intro w'
   go_simp
   with_reducible rfl
  rotate_left
  ·simp only [Act.put,LS_]
   rfl
  refine pure_ (i := 3) (N := (some 65)) (v := ?_) (a' := ?_) T520 rfl rfl (by kernel_rfl) (fun _ _ _ h => h) (Or.inl ⟨by rfl,?_⟩) ?_ ?_
  rotate_left
  ·intro w'
   go_simp
   with_reducible rfl
  rotate_left
  ·simp only [Act.put,LS_]
   rfl
  refine take_ (i := 4) (N := (some 66)) (v := ?_) (a' := ?_) T523 rfl rfl (by kernel_rfl) (fun _ _ _ h => h) (Or.inl ⟨by rfl,?_⟩) hHeld ?_ ?_
  rotate_left
  ·rintro w' hS
   have hc := ((blk_cell ((hS.block gm (blk_lt HY.out)).trans HY.out) 7).trans (show (cells m hd)[7]? = some (.slice hd.A7 m.f7.length hd.c7) from rfl))
   go_simp
   with_reducible rfl
  rotate_left
  ·simp only [Act.put,LS_]
   rfl
  refine pure_ (i := 5) (N := (some 67)) (v := ?_) (a' := ?_) T526 rfl rfl (by kernel_rfl) (fun _ _ _ h => h) (Or.inl ⟨by rfl,?_⟩) ?_ ?_
  rotate_left
  ·intro w'
   go_simp
   with_reducible rfl
  rotate_left
  ·simp only [Act.put,LS_]
   rfl
  refine pure_ (i := 6) (N := (some 68)) (v := ?_) (a' := ?_) T529 rfl rfl (by kernel_rfl) (fun _ _ _ h => h) (Or.inl ⟨by rfl,?_⟩) ?_ ?_
  rotate_left
  ·intro w'
   go_simp
   with_reducible rfl
  rotate_left
  ·simp only [Act.put,LS_]
   rfl
  refine take_ (i := 7) (N := (some 69)) (v := ?_) (a' := ?_) T533 rfl rfl (by kernel_rfl) (fun _ _ _ h => h) (Or.inl ⟨by rfl,?_⟩) hHeld ?_ ?_
  rotate_left
  ·rintro w' hS
   have hc := (blk_cell ((hS.block gb (blk_lt HX.out)).trans HX.out) 0).trans rfl
   go_simp
   with_reducible rfl
  rotate_left
  ·simp only [Act.put,LS_]
   rfl
  refine pure_ (i := 8) (N := (some 70)) (v := ?_) (a' := ?_) T537 rfl rfl (by kernel_rfl) (fun _ _ _ h => h) (Or.inl ⟨by rfl,?_⟩) ?_ ?_
  rotate_left
  ·intro w'
   go_simp
   with_reducible rfl
  rotate_left
  ·simp only [Act.put,LS_]
   rfl
  refine pure_ (i := 9) (N := (some 71)) (v := ?_) (a' := ?_) T540 rfl rfl (by kernel_rfl) (fun _ _ _ h => h) (Or.inl ⟨by rfl,?_⟩) ?_ ?_
  rotate_left
  ·intro w'
   go_simp
   with_reducible rfl
  rotate_left
  ·simp only [Act.put,LS_]
   rfl
  refine take_ (i := 10) (N := (some 72)) (v := ?_) (a' := ?_) T542 rfl rfl (by kernel_rfl) (fun _ _ _ h => h) (Or.inl ⟨by rfl,?_⟩) hHeld ?_ ?_
  rotate_left
  ·rintro w' hS
   have hc := ((blk_cell ((hS.block gm (blk_lt HY.out)).trans HY.out) 7).trans (show (cells m hd)[7]? = some (.slice hd.A7 m.f7.length hd.c7) from rfl))
   go_simp
   with_reducible rfl
  rotate_left
  ·simp only [Act.put,LS_]
   rfl
  refine one_ (i := 11) (N := (some 73)) T544 rfl rfl (by kernel_rfl) (by decide) (fun K hK => ?_)
  refine goes_ (f := 79) Try.func79 (by kernel_rfl) rfl #[.slice hd.A7 m.f7.length hd.c7,.int .i64 2,.int .i64 2] (by rfl) rfl rfl (by (try simp only [List.map_toArray,List.map_cons,List.map_nil]); first | done | rfl) ?_
  refine (nums_w hd.A7 hd.c7 m.f7 2 2 _).mono ?_
  rintro e wn2 ⟨bs,bx,bw,rfl,h1_,h2_,h3_,b_⟩
  refine ⟨_,rfl,?_⟩
  have HS2 := Aq.mk (below_step HS.out b_)
  clear b_
  refine hK.out _ _ (HS2.out) (fun hHeld => ?_)
  clear hK K
  refine norm_ (a' := ?_) ?_ ?_
  rotate_left
  ·show Act.put _ (some 73) _ = _
   simp only [Act.put,LS_]
   rfl
  refine last_ (i := 12) (N := (some 74)) T554 rfl rfl (by kernel_rfl) (by decide) (fun K hK => ?_)
  refine goes_ (f := 80) Try.func80 (by kernel_rfl) rfl #[.pointer (some ⟨x,0,none⟩),.bool (decide (0 < m.f7.length)),.int .i64 13,.func (.func 106) #[] #[.pointer (some ⟨bs,0,none⟩),.pointer (some ⟨bx,0,none⟩),.pointer (some ⟨bw,0,none⟩)]] (by rfl) rfl rfl (by (try simp only [List.map_toArray,List.map_cons,List.map_nil]); first | done | rfl) ?_
  refine (xput_w lo x g 106 _ (xPut (decide (0 < m.f6.length)) (xPut (!m.f4.toList.isEmpty) W6 (W0.within ((W0.num 0 1).vec m.f4 2 1 64) 2)) (W0.within (fw (wN 2) m.f6) 2)) (W0.within (fw (wN 2) m.f7) 2) (xPutL (decide (0 < m.f6.length)) 10 (W0.within (fw (wN 2) m.f6) 2) (xPutL (!m.f4.toList.isEmpty) 0 (W0.within ((W0.num 0 1).vec m.f4 2 1 64) 2) ([] : List E.S41))) (decide (0 < m.f7.length)) 13 _ (HW8.out.below HS2.out) HLX.out (HXS.out.below HS2.out) (fun hi => nums1_w bs bx bw 2 2 (by omega) (by omega) (by omega) (by omega) hd.A7 hd.c7 m.f7 _ h1_ h2_ h3_ (Kd.C_below HR.out.r7 ((HB0.out.trans (HG.out.below.mono HL.out)).trans (HS2.out.mono (HB0.out.trans (HG.out.below.mono HL.out)).size))) HR.out.l7 HMB.out.b7) enters106 HLE8.out).mono ?_
  rintro e wx2 ⟨rfl,iw,ix,f_⟩
  refine ⟨_,rfl,?_⟩
  have HW9 := Aq.mk iw
  have fq := (Fx.of_fr (x := x) (Fr.of_below (g := g) HW8.out.size HS2.out)).trans f_
  clear HXS
  have HXS := Aq.mk ix
  have n_ := Aq.mk (HG.out.trans fq)
  clear HG
  have HG := n_
  clear n_
  have n_ := Aq.mk (fq.keep _ _ _ HX.out HXN.out HXX.out (by decide))
  clear HX
  have HX := n_
  clear n_
  have n_ := Aq.mk (fq.keep _ _ _ HY.out HYN.out HYX.out (by decide))
  clear HY
  have HY := n_
  clear n_
  clear iw ix f_ fq HS HS2
  refine hK.out _ _ ?_
  clear hK K
  refine norm_ (a' := ?_) ?_ ?_
  rotate_left
  ·show Act.put _ (some 74) _ = _
   simp only [Act.put,LS_]
   rfl
  refine done_ (by kernel_rfl) ?_
  go_wp2
  refine start_ (n := 13) (S := fun w' => Below wx2.heap.size wx2 w') (ds := [12]) T51 (by kernel_rfl) rfl rfl (Below.refl wx2.heap.size wx2).drew (fun hHeld => ?_)
  have HS := Aq.mk (Below.refl wx2.heap.size wx2).drew
  generalize wx2.drew = wd9 at HS hHeld ⊢
  refine pure_ (i := 0) (N := (some 75)) (v := ?_) (a' := ?_) T55 rfl rfl (by kernel_rfl) (fun _ _ _ h => h) (Or.inl ⟨by rfl,?_⟩) ?_ ?_
  rotate_left
  ·intro w'
   go_simp
   with_reducible rfl
  rotate_left
  ·simp only [Act.put,LS_]
   rfl
  refine take_ (i := 1) (N := (some 76)) (v := ?_) (a' := ?_) T514 rfl rfl (by kernel_rfl) (fun _ _ _ h => h) (Or.inl ⟨by rfl,?_⟩) hHeld ?_ ?_
  rotate_left
  ·rintro w' hS
   have hc := (blk_cell ((hS.block gb (blk_lt HX.out)).trans HX.out) 0).trans rfl
   go_simp
   with_reducible rfl
  rotate_left
  ·simp only [Act.put,LS_]
   rfl
  refine pure_ (i := 2) (N := (some 77)) (v := ?_) (a' := ?_) T517 rfl rfl (by kernel_rfl) (fun _ _ _ h => h) (Or.inl ⟨by rfl,?_⟩) ?_ ?_
  rotate_left
  ·intro w'
   go_simp
   with_reducible rfl
  rotate_left
  ·simp only [Act.put,LS_]
   rfl
  refine pure_ (i := 3) (N := (some 78)) (v := ?_) (a' := ?_) T520 rfl rfl (by kernel_rfl) (fun _ _ _ h => h) (Or.inl ⟨by rfl,?_⟩) ?_ ?_
  rotate_left
  ·intro w'
   go_simp
   with_reducible rfl
  rotate_left
  ·simp only [Act.put,LS_]
   rfl
  refine take_ (i := 4) (N := (some 79)) (v := ?_) (a' := ?_) T523 rfl rfl (by kernel_rfl) (fun _ _ _ h => h) (Or.inl ⟨by rfl,?_⟩) hHeld ?_ ?_
  rotate_left
  ·rintro w' hS
   have hc := ((blk_cell ((hS.block gm (blk_lt HY.out)).trans HY.out) 5).trans (show (cells m hd)[5]? = some (.slice hd.A5 m.f5.length hd.c5) from rfl))
   go_simp
   with_reducible rfl
  rotate_left
  ·simp only [Act.put,LS_]
   rfl
  refine pure_ (i := 5) (N := (some 80)) (v := ?_) (a' := ?_) T526 rfl rfl (by kernel_rfl) (fun _ _ _ h => h) (Or.inl ⟨by rfl,?_⟩) ?_ ?_
  rotate_left
  ·intro w'
   go_simp
   with_reducible rfl
  rotate_left
  ·simp only [Act.put,LS_]
   rfl
  refine pure_ (i := 6) (N := (some 81)) (v := ?_) (a' := ?_) T529 rfl rfl (by kernel_rfl) (fun _ _ _ h => h) (Or.inl ⟨by rfl,?_⟩) ?_ ?_
  rotate_left
  ·intro w'
   go_simp
   with_reducible rfl
  rotate_left
  ·simp only [Act.put,LS_]
   rfl
  refine take_ (i := 7) (N := (some 82)) (v := ?_) (a' := ?_) T533 rfl rfl (by kernel_rfl) (fun _ _ _ h => h) (Or.inl ⟨by rfl,?_⟩) hHeld ?_ ?_
  rotate_left
  ·rintro w' hS
   have hc := (blk_cell ((hS.block gb (blk_lt HX.out)).trans HX.out) 0).trans rfl
   go_simp
   with_reducible rfl
  rotate_left
  ·simp only [Act.put,LS_]
   rfl
  refine pure_ (i := 8) (N := (some 83)) (v := ?_) (a' := ?_) T537 rfl rfl (by kernel_rfl) (fun _ _ _ h => h) (Or.inl ⟨by rfl,?_⟩) ?_ ?_
  rotate_left
  ·intro w'
   go_simp
   with_reducible rfl
  rotate_left
  ·simp only [Act.put,LS_]
   rfl
  refine pure_ (i := 9) (N := (some 84)) (v := ?_) (a' := ?_) T540 rfl rfl (by kernel_rfl) (fun _ _ _ h => h) (Or.inl ⟨by rfl,?_⟩) ?_ ?_
  rotate_left
  ·intro w'
   go_simp
   with_reducible rfl
  rotate_left
  ·simp only [Act.put,LS_]
   rfl
  refine take_ (i := 10) (N := (some 85)) (v := ?_) (a' := ?_) T542 rfl rfl (by kernel_rfl) (fun _ _ _ h => h) (Or.inl ⟨by rfl,?_⟩) hHeld ?_ ?_
  rotate_left
  ·rintro w' hS
   have hc := ((blk_cell ((hS.block gm (blk_lt HY.out)).trans HY.out) 5).trans (show (cells m hd)[5]? = some (.slice hd.A5 m.f5.length hd.c5) from rfl))
   go_simp
   with_reducible rfl
  rotate_left
  ·simp only [Act.put,LS_]
   rfl
  refine one_ (i := 11) (N := (some 86)) T544 rfl rfl (by kernel_rfl) (by decide) (fun K hK => ?_)
  refine goes_ (f := 79) Try.func79 (by kernel_rfl) rfl #[.slice hd.A5 m.f5.length hd.c5,.int .i64 1,.int .i64 2] (by rfl) rfl rfl (by (try simp only [List.map_toArray,List.map_cons,List.map_nil]); first | done | rfl) ?_
  refine (nums_w hd.A5 hd.c5 m.f5 1 2 _).mono ?_
  rintro e wn3 ⟨bs,bx,bw,rfl,h1_,h2_,h3_,b_⟩
  refine ⟨_,rfl,?_⟩
  have HS2 := Aq.mk (below_step HS.out b_)
  clear b_
  refine hK.out _ _ (HS2.out) (fun hHeld => ?_)
  clear hK K
  refine norm_ (a' := ?_) ?_ ?_
  rotate_left
  ·show Act.put _ (some 86) _ = _
   simp only [Act.put,LS_]
   rfl
  refine last_ (i := 12) (N := (some 87)) T554 rfl rfl (by kernel_rfl) (by decide) (fun K hK => ?_)
  refine goes_ (f := 80) Try.func80 (by kernel_rfl) rfl #[.pointer (some ⟨x,0,none⟩),.bool (decide (0 < m.f5.length)),.int .i64 43,.func (.func 106) #[] #[.pointer (some ⟨bs,0,none⟩),.pointer (some ⟨bx,0,none⟩),.pointer (some ⟨bw,0,none⟩)]] (by rfl) rfl rfl (by (try simp only [List.map_toArray,List.map_cons,List.map_nil]); first | done | rfl) ?_
  refine (xput_w lo x g 106 _ (xPut (decide (0 < m.f7.length)) (xPut (decide (0 < m.f6.length)) (xPut (!m.f4.toList.isEmpty) W6 (W0.within ((W0.num 0 1).vec m.f4 2 1 64) 2)) (W0.within (fw (wN 2) m.f6) 2)) (W0.within (fw (wN 2) m.f7) 2)) (W0.within (fw (wN 2) m.f5) 1) (xPutL (decide (0 < m.f7.length)) 13 (W0.within (fw (wN 2) m.f7) 2) (xPutL (decide (0 < m.f6.length)) 10 (W0.within (fw (wN 2) m.f6) 2) (xPutL (!m.f4.toList.isEmpty) 0 (W0.within ((W0.num 0 1).vec m.f4 2 1 64) 2) ([] : List E.S41)))) (decide (0 < m.f5.length)) 43 _ (HW9.out.below HS2.out) HLX.out (HXS.out.below HS2.out) (fun hi => nums1_w bs bx bw 1 2 (by omega) (by omega) (by omega) (by omega) hd.A5 hd.c5 m.f5 _ h1_ h2_ h3_ (Kd.C_below HR.out.r5 ((HB0.out.trans (HG.out.below.mono HL.out)).trans (HS2.out.mono (HB0.out.trans (HG.out.below.mono HL.out)).size))) HR.out.l5 HMB.out.b5) enters106 HLE9.out).mono ?_
  rintro e wx3 ⟨rfl,iw,ix,f_⟩
  refine ⟨_,rfl,?_⟩
  have HW10 := Aq.mk iw
  have fq := (Fx.of_fr (x := x) (Fr.of_below (g := g) HW9.out.size HS2.out)).trans f_
  clear HXS
  have HXS := Aq.mk ix
  have n_ := Aq.mk (HG.out.trans fq)
  clear HG
  have HG := n_
  clear n_
  have n_ := Aq.mk (fq.keep _ _ _ HX.out HXN.out HXX.out (by decide))
  clear HX
  have HX := n_
  clear n_
  have n_ := Aq.mk (fq.keep _ _ _ HY.out HYN.out HYX.out (by decide))
  clear HY
  have HY := n_
  clear n_
  clear iw ix f_ fq HS HS2
  refine hK.out _ _ ?_
  clear hK K
  refine norm_ (a' := ?_) ?_ ?_
  rotate_left
  ·show Act.put _ (some 87) _ = _
   simp only [Act.put,LS_]
   rfl
  refine done_ (by kernel_rfl) ?_
  go_wp2
  refine start_ (n := 13) (S := fun w' => Below wx3.heap.size wx3 w') (ds := [12]) T51 (by kernel_rfl) rfl rfl (Below.refl wx3.heap.size wx3).drew (fun hHeld => ?_)
  have HS := Aq.mk (Below.refl wx3.heap.size wx3).drew
  generalize wx3.drew = wd10 at HS hHeld ⊢
  refine pure_ (i := 0) (N := (some 88)) (v := ?_) (a' := ?_) T55 rfl rfl (by kernel_rfl) (fun _ _ _ h => h) (Or.inl ⟨by rfl,?_⟩) ?_ ?_
  rotate_left
  ·intro w'
   go_simp
   with_reducible rfl
  rotate_left
  ·simp only [Act.put,LS_]
   rfl
  refine take_ (i := 1) (N := (some 89)) (v := ?_) (a' := ?_) T514 rfl rfl (by kernel_rfl) (fun _ _ _ h => h) (Or.inl ⟨by rfl,?_⟩) hHeld ?_ ?_
  rotate_left
  ·rintro w' hS
   have hc := (blk_cell ((hS.block gb (blk_lt HX.out)).trans HX.out) 0).trans rfl
   go_simp
   with_reducible rfl
  rotate_left
  ·simp only [Act.put,LS_]
   rfl
  refine pure_ (i := 2) (N := (some 90)) (v := ?_) (a' := ?_) T517 rfl rfl (by kernel_rfl) (fun _ _ _ h => h) (Or.inl ⟨by rfl,?_⟩) ?_ ?_
  rotate_left
  ·intro w'
   go_simp
   with_reducible rfl
  rotate_left
  ·simp only [Act.put,LS_]
   rfl
  refine pure_ (i := 3) (N := (some 91)) (v := ?_) (a' := ?_) T520 rfl rfl (by kernel_rfl) (fun _ _ _ h => h) (Or.inl ⟨by rfl,?_⟩) ?_ ?_
  rotate_left
  ·intro w'
   go_simp
   with_reducible rfl
  rotate_left
  ·simp only [Act.put,LS_]
   rfl
  refine take_ (i := 4) (N := (some 92)) (v := ?_) (a' := ?_) T523 rfl rfl (by kernel_rfl) (fun _ _ _ h => h) (Or.inl ⟨by rfl,?_⟩) hHeld ?_ ?_
  rotate_left
  ·rintro w' hS
   have hc := ((blk_cell ((hS.block gm (blk_lt HY.out)).trans HY.out) 8).trans (show (cells m hd)[8]? = some (.slice hd.A8 m.f8.length hd.c8) from rfl))
   go_simp
   with_reducible rfl
  rotate_left
  ·simp only [Act.put,LS_]
   rfl
  refine pure_ (i := 5) (N := (some 93)) (v := ?_) (a' := ?_) T526 rfl rfl (by kernel_rfl) (fun _ _ _ h => h) (Or.inl ⟨by rfl,?_⟩) ?_ ?_
  rotate_left
  ·intro w'
   go_simp
   with_reducible rfl
  rotate_left
  ·simp only [Act.put,LS_]
   rfl
  refine pure_ (i := 6) (N := (some 94)) (v := ?_) (a' := ?_) T529 rfl rfl (by kernel_rfl) (fun _ _ _ h => h) (Or.inl ⟨by rfl,?_⟩) ?_ ?_
  rotate_left
  ·intro w'
   go_simp
   with_reducible rfl
  rotate_left
  ·simp only [Act.put,LS_]
   rfl
  refine take_ (i := 7) (N := (some 95)) (v := ?_) (a' := ?_) T533 rfl rfl (by kernel_rfl) (fun _ _ _ h => h) (Or.inl ⟨by rfl,?_⟩) hHeld ?_ ?_
  rotate_left
  ·rintro w' hS
   have hc := (blk_cell ((hS.block gb (blk_lt HX.out)).trans HX.out) 0).trans rfl
   go_simp
   with_reducible rfl
  rotate_left
  ·simp only [Act.put,LS_]
   rfl
  refine pure_ (i := 8) (N := (some 96)) (v := ?_) (a' := ?_) T537 rfl rfl (by kernel_rfl) (fun _ _ _ h => h) (Or.inl ⟨by rfl,?_⟩) ?_ ?_
  rotate_left
  ·intro w'
   go_simp
   with_reducible rfl
  rotate_left
  ·simp only [Act.put,LS_]
   rfl
  refine pure_ (i := 9) (N := (some 97)) (v := ?_) (a' := ?_) T540 rfl rfl (by kernel_rfl) (fun _ _ _ h => h) (Or.inl ⟨by rfl,?_⟩) ?_ ?_
  rotate_left
  ·intro w'
   go_simp
   with_reducible rfl
  rotate_left
  ·simp only [Act.put,LS_]
   rfl
  refine take_ (i := 10) (N := (some 98)) (v := ?_) (a' := ?_) T542 rfl rfl (by kernel_rfl) (fun _ _ _ h => h) (Or.inl ⟨by rfl,?_⟩) hHeld ?_ ?_
  rotate_left
  ·rintro w' hS
   have hc := ((blk_cell ((hS.block gm (blk_lt HY.out)).trans HY.out) 8).trans (show (cells m hd)[8]? = some (.slice hd.A8 m.f8.length hd.c8) from rfl))
   go_simp
   with_reducible rfl
  rotate_left
  ·simp only [Act.put,LS_]
   rfl
  refine one_ (i := 11) (N := (some 99)) T544 rfl rfl (by kernel_rfl) (by decide) (fun K hK => ?_)
  refine goes_ (f := 79) Try.func79 (by kernel_rfl) rfl #[.slice hd.A8 m.f8.length hd.c8,.int .i64 1,.int .i64 1] (by rfl) rfl rfl (by (try simp only [List.map_toArray,List.map_cons,List.map_nil]); first | done | rfl) ?_
  refine (nums_w hd.A8 hd.c8 m.f8 1 1 _).mono ?_
  rintro e wn4 ⟨bs,bx,bw,rfl,h1_,h2_,h3_,b_⟩
  refine ⟨_,rfl,?_⟩
  have HS2 := Aq.mk (below_step HS.out b_)
  clear b_
  refine hK.out _ _ (HS2.out) (fun hHeld => ?_)
  clear hK K
  refine norm_ (a' := ?_) ?_ ?_
  rotate_left
  ·show Act.put _ (some 99) _ = _
   simp only [Act.put,LS_]
   rfl
  refine last_ (i := 12) (N := (some 100)) T554 rfl rfl (by kernel_rfl) (by decide) (fun K hK => ?_)
  refine goes_ (f := 80) Try.func80 (by kernel_rfl) rfl #[.pointer (some ⟨x,0,none⟩),.bool (decide (0 < m.f8.length)),.int .i64 45,.func (.func 106) #[] #[.pointer (some ⟨bs,0,none⟩),.pointer (some ⟨bx,0,none⟩),.pointer (some ⟨bw,0,none⟩)]] (by rfl) rfl rfl (by (try simp only [List.map_toArray,List.map_cons,List.map_nil]); first | done | rfl) ?_
  refine (xput_w lo x g 106 _ (xPut (decide (0 < m.f5.length)) (xPut (decide (0 < m.f7.length)) (xPut (decide (0 < m.f6.length)) (xPut (!m.f4.toList.isEmpty) W6 (W0.within ((W0.num 0 1).vec m.f4 2 1 64) 2)) (W0.within (fw (wN 2) m.f6) 2)) (W0.within (fw (wN 2) m.f7) 2)) (W0.within (fw (wN 2) m.f5) 1)) (W0.within (fw (wN 1) m.f8) 1) (xPutL (decide (0 < m.f5.length)) 43 (W0.within (fw (wN 2) m.f5) 1) (xPutL (decide (0 < m.f7.length)) 13 (W0.within (fw (wN 2) m.f7) 2) (xPutL (decide (0 < m.f6.length)) 10 (W0.within (fw (wN 2) m.f6) 2) (xPutL (!m.f4.toList.isEmpty) 0 (W0.within ((W0.num 0 1).vec m.f4 2 1 64) 2) ([] : List E.S41))))) (decide (0 < m.f8.length)) 45 _ (HW10.out.below HS2.out) HLX.out (HXS.out.below HS2.out) (fun hi => nums1_w bs bx bw 1 1 (by omega) (by omega) (by omega) (by omega) hd.A8 hd.c8 m.f8 _ h1_ h2_ h3_ (Kd.C_below HR.out.r8 ((HB0.out.trans (HG.out.below.mono HL.out)).trans (HS2.out.mono (HB0.out.trans (HG.out.below.mono HL.out)).size))) HR.out.l8 HMB.out.b8) enters106 HLE10.out).mono ?_
  rintro e wx4 ⟨rfl,iw,ix,f_⟩
  refine ⟨_,rfl,?_⟩
  have HW11 := Aq.mk iw
  have fq := (Fx.of_fr (x := x) (Fr.of_below (g := g) HW10.out.size HS2.out)).trans f_
  clear HXS
  have HXS := Aq.mk ix
  have n_ := Aq.mk (HG.out.trans fq)
  clear HG
  have HG := n_
  clear n_
  have n_ := Aq.mk (fq.keep _ _ _ HX.out HXN.out HXX.out (by decide))
  clear HX
  have HX := n_
  clear n_
  have n_ := Aq.mk (fq.keep _ _ _ HY.out HYN.out HYX.out (by decide))
  clear HY
  have HY := n_
  clear n_
  clear iw ix f_ fq HS HS2
  refine hK.out _ _ ?_
  clear hK K
  refine norm_ (a' := ?_) ?_ ?_
  rotate_left
  ·show Act.put _ (some 100) _ = _
   simp only [Act.put,LS_]
   rfl
  refine done_ (by kernel_rfl) ?_
  go_wp2_with (first
   | ((with_reducible refine gate_load rfl ?_); first
    | ((with_reducible refine gate_dst (N := 102) rfl ?_); refine ld (v := .pointer (some ⟨gm,0,none⟩)) rfl rfl rfl HX.out Try.underlying85 rfl rfl ?_)
    | ((with_reducible refine gate_dst (N := 105) rfl ?_); refine ld (v := .slice hd.A9 m.f9.length hd.c9) rfl rfl rfl HY.out Try.underlying45 rfl rfl ?_))
   | ((with_reducible refine gate_callee (f := 80) rfl ?_); refine goesL_ (some 109) rfl rfl Try.func80 (by kernel_rfl) rfl #[.pointer (some ⟨x,0,none⟩),.bool (decide (0 < m.f9.length)),.int .i64 51,.func (.func 83) #[] #[.pointer (some ⟨gb,0,none⟩)]] rfl (by (try simp only [List.map_toArray,List.map_cons,List.map_nil]); first | done | rfl) ?_; (refine (xput_w lo x g 83 _ (xPut (decide (0 < m.f8.length)) (xPut (decide (0 < m.f5.length)) (xPut (decide (0 < m.f7.length)) (xPut (decide (0 < m.f6.length)) (xPut (!m.f4.toList.isEmpty) W6 (W0.within ((W0.num 0 1).vec m.f4 2 1 64) 2)) (W0.within (fw (wN 2) m.f6) 2)) (W0.within (fw (wN 2) m.f7) 2)) (W0.within (fw (wN 2) m.f5) 1)) (W0.within (fw (wN 1) m.f8) 1)) (W0.within (fw wS m.f9) 2) (xPutL (decide (0 < m.f8.length)) 45 (W0.within (fw (wN 1) m.f8) 1) (xPutL (decide (0 < m.f5.length)) 43 (W0.within (fw (wN 2) m.f5) 1) (xPutL (decide (0 < m.f7.length)) 13 (W0.within (fw (wN 2) m.f7) 2) (xPutL (decide (0 < m.f6.length)) 10 (W0.within (fw (wN 2) m.f6) 2) (xPutL (!m.f4.toList.isEmpty) 0 (W0.within ((W0.num 0 1).vec m.f4 2 1 64) 2) ([] : List E.S41)))))) (decide (0 < m.f9.length)) 51 _ HW11.out HLX.out HXS.out (fun hi => shares1_w gb gm (cells m hd) hd.A9 hd.c9 m.f9 _ HX.out HY.out rfl (Kd.C_below HR.out.r9 (HB0.out.trans (HG.out.below.mono HL.out))) HR.out.l9 HMB.out.b9 HMB.out.c9) enters83 HLE11.out).mono ?_); rintro e_ wx5 ⟨rfl,iw,ix,f_⟩; refine ⟨_,rfl,?_⟩; have HW12 := Aq.mk iw; clear HXS; have HXS := Aq.mk ix; have n_ := Aq.mk (HG.out.trans f_); clear HG; have HG := n_; clear n_; have n_ := Aq.mk (f_.keep _ _ _ HX.out HXN.out HXX.out (by decide)); clear HX; have HX := n_; clear n_; have n_ := Aq.mk (f_.keep _ _ _ HY.out HYN.out HYX.out (by decide)); clear HY; have HY := n_; clear n_; clear iw ix f_))
  refine start_ (n := 10) (S := fun w' => Below wx5.heap.size wx5 w') (ds := [9]) #[false,false,false,false,false,false,false,false,false,false] (by kernel_rfl) rfl rfl (Below.refl wx5.heap.size wx5).drew (fun hHeld => ?_)
  have HS := Aq.mk (Below.refl wx5.heap.size wx5).drew
  generalize wx5.drew = wd12 at HS hHeld ⊢
  refine pure_ (i := 0) (N := (some 110)) (v := ?_) (a' := ?_) #[true,false,false,false,false,false,false,false,false,false] rfl rfl (by kernel_rfl) (fun _ _ _ h => h) (Or.inl ⟨by rfl,?_⟩) ?_ ?_
  rotate_left
  ·intro w'
   go_simp
   with_reducible rfl
  rotate_left
  ·simp only [Act.put,LS_]
   rfl
  refine take_ (i := 1) (N := (some 111)) (v := ?_) (a' := ?_) #[true,true,false,false,false,false,false,false,false,false] rfl rfl (by kernel_rfl) (fun _ _ _ h => h) (Or.inl ⟨by rfl,?_⟩) hHeld ?_ ?_
  rotate_left
  ·rintro w' hS
   have hc := (blk_cell ((hS.block gb (blk_lt HX.out)).trans HX.out) 0).trans rfl
   go_simp
   with_reducible rfl
  rotate_left
  ·simp only [Act.put,LS_]
   rfl
  refine pure_ (i := 2) (N := (some 112)) (v := ?_) (a' := ?_) #[true,true,true,false,false,false,false,false,false,false] rfl rfl (by kernel_rfl) (fun _ _ _ h => h) (Or.inl ⟨by rfl,?_⟩) ?_ ?_
  rotate_left
  ·intro w'
   go_simp
   with_reducible rfl
  rotate_left
  ·simp only [Act.put,LS_]
   rfl
  refine pure_ (i := 3) (N := (some 113)) (v := ?_) (a' := ?_) #[true,true,true,true,false,false,false,false,false,false] rfl rfl (by kernel_rfl) (fun _ _ _ h => h) (Or.inl ⟨by rfl,?_⟩) ?_ ?_
  rotate_left
  ·intro w'
   go_simp
   with_reducible rfl
  rotate_left
  ·simp only [Act.put,LS_]
   rfl
  refine take_ (i := 4) (N := (some 114)) (v := ?_) (a' := ?_) #[true,true,true,true,true,false,false,false,false,false] rfl rfl (by kernel_rfl) (fun _ _ _ h => h) (Or.inl ⟨by rfl,?_⟩) hHeld ?_ ?_
  rotate_left
  ·rintro w' hS
   have hc := ((blk_cell ((hS.block gm (blk_lt HY.out)).trans HY.out) 10).trans (show (cells m hd)[10]? = some (.slice hd.A10 m.f10.length hd.c10) from rfl))
   go_simp
   with_reducible rfl
  rotate_left
  ·simp only [Act.put,LS_]
   rfl
  refine pure_ (i := 5) (N := (some 115)) (v := ?_) (a' := ?_) #[true,true,true,true,true,true,false,false,false,false] rfl rfl (by kernel_rfl) (fun _ _ _ h => h) (Or.inl ⟨by rfl,?_⟩) ?_ ?_
  rotate_left
  ·intro w'
   go_simp
   with_reducible rfl
  rotate_left
  ·simp only [Act.put,LS_]
   rfl
  refine pure_ (i := 6) (N := (some 116)) (v := ?_) (a' := ?_) #[true,true,true,true,true,true,true,false,false,false] rfl rfl (by kernel_rfl) (fun _ _ _ h => h) (Or.inl ⟨by rfl,?_⟩) ?_ ?_
  rotate_left
  ·intro w'
   go_simp
   with_reducible rfl
  rotate_left
  ·simp only [Act.put,LS_]
   rfl
  refine take_ (i := 7) (N := (some 117)) (v := ?_) (a' := ?_) #[true,true,true,true,true,true,true,true,false,false] rfl rfl (by kernel_rfl) (fun _ _ _ h => h) (Or.inl ⟨by rfl,?_⟩) hHeld ?_ ?_
  rotate_left
  ·rintro w' hS
   have hc := (blk_cell ((hS.block gb (blk_lt HX.out)).trans HX.out) 0).trans rfl
   go_simp
   with_reducible rfl
  rotate_left
  ·simp only [Act.put,LS_]
   rfl
  refine one_ (i := 8) (N := (some 118)) #[true,true,true,true,true,true,true,true,true,false] rfl rfl (by kernel_rfl) (by decide) (fun K hK => ?_)
  refine goes_ (f := 86) Try.func86 (by kernel_rfl) rfl #[.pointer (some ⟨gm,0,none⟩)] (by rfl) rfl rfl (by (try simp only [List.map_toArray,List.map_cons,List.map_nil]); first | done | rfl) ?_
  refine (psk_w gm _).mono ?_
  rintro e wn6 ⟨gb2,rfl,h1_,b_⟩
  refine ⟨_,rfl,?_⟩
  have HS2 := Aq.mk (below_step HS.out b_)
  clear b_
  refine hK.out _ _ (HS2.out) (fun hHeld => ?_)
  clear hK K
  refine norm_ (a' := ?_) ?_ ?_
  rotate_left
  ·show Act.put _ (some 118) _ = _
   simp only [Act.put,LS_]
   rfl
  refine last_ (i := 9) (N := (some 119)) #[true,true,true,true,true,true,true,true,true,true] rfl rfl (by kernel_rfl) (by decide) (fun K hK => ?_)
  refine goes_ (f := 80) Try.func80 (by kernel_rfl) rfl #[.pointer (some ⟨x,0,none⟩),.bool (decide (0 < m.f10.length)),.int .i64 41,.func (.func 108) #[] #[.pointer (some ⟨gb2,0,none⟩)]] (by rfl) rfl rfl (by (try simp only [List.map_toArray,List.map_cons,List.map_nil]); first | done | rfl) ?_
  refine (xput_w lo x g 108 _ (xPut (decide (0 < m.f9.length)) (xPut (decide (0 < m.f8.length)) (xPut (decide (0 < m.f5.length)) (xPut (decide (0 < m.f7.length)) (xPut (decide (0 < m.f6.length)) (xPut (!m.f4.toList.isEmpty) W6 (W0.within ((W0.num 0 1).vec m.f4 2 1 64) 2)) (W0.within (fw (wN 2) m.f6) 2)) (W0.within (fw (wN 2) m.f7) 2)) (W0.within (fw (wN 2) m.f5) 1)) (W0.within (fw (wN 1) m.f8) 1)) (W0.within (fw wS m.f9) 2)) ((W0.within (fw wI m.f10) 2).within (fw wB m.f11) 2) (xPutL (decide (0 < m.f9.length)) 51 (W0.within (fw wS m.f9) 2) (xPutL (decide (0 < m.f8.length)) 45 (W0.within (fw (wN 1) m.f8) 1) (xPutL (decide (0 < m.f5.length)) 43 (W0.within (fw (wN 2) m.f5) 1) (xPutL (decide (0 < m.f7.length)) 13 (W0.within (fw (wN 2) m.f7) 2) (xPutL (decide (0 < m.f6.length)) 10 (W0.within (fw (wN 2) m.f6) 2) (xPutL (!m.f4.toList.isEmpty) 0 (W0.within ((W0.num 0 1).vec m.f4 2 1 64) 2) ([] : List E.S41))))))) (decide (0 < m.f10.length)) 41 _ (HW12.out.below HS2.out) HLX.out (HXS.out.below HS2.out) (fun hi => psk1_w gb2 gm (cells m hd) hd.A10 hd.c10 m.f10 hd.A11 hd.c11 m.f11 _ h1_ ((HS2.out.block gm (blk_lt HY.out)).trans HY.out) rfl (Kd.C_below HR.out.r10 ((HB0.out.trans (HG.out.below.mono HL.out)).trans (HS2.out.mono (HB0.out.trans (HG.out.below.mono HL.out)).size))) HR.out.l10 HMB.out.b10 HMB.out.c10 rfl (Kd.C_below HR.out.r11 ((HB0.out.trans (HG.out.below.mono HL.out)).trans (HS2.out.mono (HB0.out.trans (HG.out.below.mono HL.out)).size))) HR.out.l11 HMB.out.b11 HMB.out.c11) enters108 HLE12.out).mono ?_
  rintro e wx6 ⟨rfl,iw,ix,f_⟩
  refine ⟨_,rfl,?_⟩
  have HW13 := Aq.mk iw
  have fq := (Fx.of_fr (x := x) (Fr.of_below (g := g) HW12.out.size HS2.out)).trans f_
  clear HXS
  have HXS := Aq.mk ix
  have n_ := Aq.mk (HG.out.trans fq)
  clear HG
  have HG := n_
  clear n_
  have n_ := Aq.mk (fq.keep _ _ _ HX.out HXN.out HXX.out (by decide))
  clear HX
  have HX := n_
  clear n_
  have n_ := Aq.mk (fq.keep _ _ _ HY.out HYN.out HYX.out (by decide))
  clear HY
  have HY := n_
  clear n_
  clear iw ix f_ fq HS HS2
  refine hK.out _ _ ?_
  clear hK K
  refine norm_ (a' := ?_) ?_ ?_
  rotate_left
  ·show Act.put _ (some 119) _ = _
   simp only [Act.put,LS_]
   rfl
  refine done_ (by kernel_rfl) ?_
  go_wp2_with (first
   | (go_at_call 87; (with_reducible refine (xend_w lo x g (xPut (decide (0 < m.f10.length)) (xPut (decide (0 < m.f9.length)) (xPut (decide (0 < m.f8.length)) (xPut (decide (0 < m.f5.length)) (xPut (decide (0 < m.f7.length)) (xPut (decide (0 < m.f6.length)) (xPut (!m.f4.toList.isEmpty) W6 (W0.within ((W0.num 0 1).vec m.f4 2 1 64) 2)) (W0.within (fw (wN 2) m.f6) 2)) (W0.within (fw (wN 2) m.f7) 2)) (W0.within (fw (wN 2) m.f5) 1)) (W0.within (fw (wN 1) m.f8) 1)) (W0.within (fw wS m.f9) 2)) ((W0.within (fw wI m.f10) 2).within (fw wB m.f11) 2)) (xPutL (decide (0 < m.f10.length)) 41 ((W0.within (fw wI m.f10) 2).within (fw wB m.f11) 2) (xPutL (decide (0 < m.f9.length)) 51 (W0.within (fw wS m.f9) 2) (xPutL (decide (0 < m.f8.length)) 45 (W0.within (fw (wN 1) m.f8) 1) (xPutL (decide (0 < m.f5.length)) 43 (W0.within (fw (wN 2) m.f5) 1) (xPutL (decide (0 < m.f7.length)) 13 (W0.within (fw (wN 2) m.f7) 2) (xPutL (decide (0 < m.f6.length)) 10 (W0.within (fw (wN 2) m.f6) 2) (xPutL (!m.f4.toList.isEmpty) 0 (W0.within ((W0.num 0 1).vec m.f4 2 1 64) 2) ([] : List E.S41)))))))) _ HW13.out HXS.out HEL.out HEB.out HEN.out).mono ?_); rintro e_ w_ ⟨rfl,iw,f_⟩; have HWz := Aq.mk iw; have HFz := Aq.mk (HG.out.trans (Fx.of_fr f_)); clear iw f_))
  first | go_end0 | ((try simp only [Exit.inBlock,Exit.then]); refine bodyPost_ret (results_none rfl _ _ _) rfl ?_)
  exact ⟨rfl,HWz.out,HFz.out.fr HWX.out⟩
set_option maxRecDepth 100000 in
set_option maxHeartbeats 8000000 in
theorem bod8 (m : Mv) (hd : Hd) (w0 w : World) (lo g gm : Nat) (h : At w0 w lo g gm (cells m hd)) (hr : Reads w0 m hd) (hm : MB m) (hk : m.f0 = 8) :
  Calls Try.prog 44 #[.pointer (some ⟨g,0,none⟩),.pointer (some ⟨gm,0,none⟩)] w fun ex w' => ex = .returned (.tuple #[]) ∧ WS lo w' g (W0.vec ⟨#[]⟩ 2 0 0) ∧ Fr lo g w w' := by
 have HW := Aq.mk (show WS lo w g W0 from h.wt)
 have hsz_ := Aq.mk h.wt.size
 have HL := Aq.mk h.le
 have HB0 := Aq.mk h.below
 have HY := Aq.mk h.box
 have HYN := Aq.mk (show gm ≠ g from by have := h.wt.lt; have := h.lt; omega)
 have HR := Aq.mk hr
 have HMB := Aq.mk hm
 have KK := Aq.mk hk
 have hz0 := W0_size
 have HN := Aq.mk (show W0.s.size + 3 + (⟨#[]⟩ : ByteArray).size ≤ 140737488355328 from by rw [W0_size]; show 0 + 3 + 0 ≤ _; omega)
 clear h hr hm hk hz0
 go_enter Try.func44,Try.ntmps44
 go_wp2_with (first
  | ((with_reducible refine gate_dst (N := 3) rfl ?_); refine boxT (v := .pointer (some ⟨gm,0,none⟩)) (cs := #[.pointer (some ⟨gm,0,none⟩)]) rfl rfl rfl rfl ?_; intro gb eb w1 h1 b1; have HX := Aq.mk h1; have HXN := Aq.mk (show gb ≠ g from by have := HW.out.lt; omega); have n_ := Aq.mk ((b1.block gm (blk_lt HY.out)).trans HY.out); clear HY; have HY := n_; clear n_; have n_ := Aq.mk (HW.out.below b1); clear HW; have HW := n_; clear n_; have HF := Aq.mk (Fr.of_below (g := g) (n_lo HW.out b1 hsz_.out) b1); clear h1 b1 eb)
  | ((with_reducible refine gate_load rfl ?_); first
   | ((with_reducible refine gate_dst (N := 4) rfl ?_); refine ld (v := .pointer (some ⟨gm,0,none⟩)) rfl rfl rfl HX.out Try.underlying85 rfl rfl ?_)
   | ((with_reducible refine gate_dst (N := 7) rfl ?_); refine ld (v := .int .i64 8) rfl rfl rfl HY.out Try.underlying3 rfl (by rw [← KK.out]; rfl) ?_))
  | (go_at_call 57; ((with_reducible refine (vec_w lo g W0 ⟨#[]⟩ 2 0 0 _ HW.out (by omega) (by omega) HN.out).mono ?_); rintro e2 w2 ⟨rfl,i2,f2⟩; have HW2 := Aq.mk i2; have n_ := Aq.mk (HF.out.trans f2); clear HF; have HF := n_; clear n_; have n_ := Aq.mk (f2.blk HX.out HXN.out (by decide)); clear HX; have HX := n_; clear n_; have n_ := Aq.mk (f2.blk HY.out HYN.out (by decide)); clear HY; have HY := n_; clear n_; clear i2 f2)))
 first | go_end0 | ((try simp only [Exit.inBlock,Exit.then]); refine bodyPost_ret (results_none rfl _ _ _) rfl ?_)
 exact ⟨rfl,HW2.out,HF.out⟩
set_option maxRecDepth 100000 in
set_option maxHeartbeats 8000000 in
theorem bod15 (m : Mv) (hd : Hd) (w0 w : World) (lo g gm : Nat) (h : At w0 w lo g gm (cells m hd)) (hr : Reads w0 m hd) (hm : MB m) (hk : m.f0 = 15) :
  Calls Try.prog 44 #[.pointer (some ⟨g,0,none⟩),.pointer (some ⟨gm,0,none⟩)] w fun ex w' => ex = .returned (.tuple #[]) ∧ WS lo w' g ((W0.num m.f15 2).vec m.f16 2 0 65536) ∧ Fr lo g w w' := by
 have HW := Aq.mk (show WS lo w g W0 from h.wt)
 have hsz_ := Aq.mk h.wt.size
 have HL := Aq.mk h.le
 have HB0 := Aq.mk h.below
 have HY := Aq.mk h.box
 have HYN := Aq.mk (show gm ≠ g from by have := h.wt.lt; have := h.lt; omega)
 have HR := Aq.mk hr
 have HMB := Aq.mk hm
 have KK := Aq.mk hk
 have hz0 := W0_size
 have z1 := W0.num_size m.f15 2 (by omega) (by omega)
 have z2 := hm.b16
 have HN := Aq.mk (show W0.s.size + 4 ≤ 140737488355328 from by omega)
 have HN2 := Aq.mk (show (W0.num m.f15 2).s.size + 3 + m.f16.size ≤ 140737488355328 from by omega)
 clear z1 z2
 clear h hr hm hk hz0
 go_enter Try.func44,Try.ntmps44
 go_wp2_with (first
  | ((with_reducible refine gate_dst (N := 3) rfl ?_); refine boxT (v := .pointer (some ⟨gm,0,none⟩)) (cs := #[.pointer (some ⟨gm,0,none⟩)]) rfl rfl rfl rfl ?_; intro gb eb w1 h1 b1; have HX := Aq.mk h1; have HXN := Aq.mk (show gb ≠ g from by have := HW.out.lt; omega); have n_ := Aq.mk ((b1.block gm (blk_lt HY.out)).trans HY.out); clear HY; have HY := n_; clear n_; have n_ := Aq.mk (HW.out.below b1); clear HW; have HW := n_; clear n_; have HF := Aq.mk (Fr.of_below (g := g) (n_lo HW.out b1 hsz_.out) b1); clear h1 b1 eb)
  | ((with_reducible refine gate_load rfl ?_); first
   | ((with_reducible refine gate_dst (N := 4) rfl ?_); refine ld (v := .pointer (some ⟨gm,0,none⟩)) rfl rfl rfl HX.out Try.underlying85 rfl rfl ?_)
   | ((with_reducible refine gate_dst (N := 7) rfl ?_); refine ld (v := .int .i64 15) rfl rfl rfl HY.out Try.underlying3 rfl (by rw [← KK.out]; rfl) ?_)
   | ((with_reducible refine gate_dst (N := 81) rfl ?_); refine ld (v := .pointer (some ⟨gm,0,none⟩)) rfl rfl rfl HX.out Try.underlying85 rfl rfl ?_)
   | ((with_reducible refine gate_dst (N := 84) rfl ?_); refine ld (v := .int .i64 m.f15) rfl rfl rfl HY.out Try.underlying3 rfl rfl ?_)
   | ((with_reducible refine gate_dst (N := 87) rfl ?_); refine ld (v := .pointer (some ⟨gm,0,none⟩)) rfl rfl rfl HX.out Try.underlying85 rfl rfl ?_)
   | ((with_reducible refine gate_dst (N := 90) rfl ?_); refine ld (v := .string m.f16) rfl rfl rfl HY.out Try.underlying9 rfl rfl ?_))
  | (go_at_call 60; ((with_reducible refine (num_w lo g W0 m.f15 2 _ HW.out (by omega) (by omega) HN.out).mono ?_); rintro e2 w2 ⟨rfl,i2,f2⟩; have HW2 := Aq.mk i2; have n_ := Aq.mk (HF.out.trans f2); clear HF; have HF := n_; clear n_; have n_ := Aq.mk (f2.blk HX.out HXN.out (by decide)); clear HX; have HX := n_; clear n_; have n_ := Aq.mk (f2.blk HY.out HYN.out (by decide)); clear HY; have HY := n_; clear n_; clear i2 f2))
  | (go_at_call 57; ((with_reducible refine (vec_w lo g (W0.num m.f15 2) m.f16 2 0 65536 _ HW2.out (by omega) (by omega) HN2.out).mono ?_); rintro e3 w3 ⟨rfl,i3,f3⟩; have HW3 := Aq.mk i3; have n_ := Aq.mk (HF.out.trans f3); clear HF; have HF := n_; clear n_; have n_ := Aq.mk (f3.blk HX.out HXN.out (by decide)); clear HX; have HX := n_; clear n_; have n_ := Aq.mk (f3.blk HY.out HYN.out (by decide)); clear HY; have HY := n_; clear n_; clear i3 f3)))
 first | go_end0 | ((try simp only [Exit.inBlock,Exit.then]); refine bodyPost_ret (results_none rfl _ _ _) rfl ?_)
 exact ⟨rfl,HW3.out,HF.out⟩
set_option maxRecDepth 100000 in
set_option maxHeartbeats 8000000 in
theorem bod4 (m : Mv) (hd : Hd) (w0 w : World) (lo g gm : Nat) (h : At w0 w lo g gm (cells m hd)) (hr : Reads w0 m hd) (hm : MB m) (hk : m.f0 = 4) :
  Calls Try.prog 44 #[.pointer (some ⟨g,0,none⟩),.pointer (some ⟨gm,0,none⟩)] w fun ex w' => ex = .returned (.tuple #[]) ∧ WS lo w' g (((((W0.num m.f17 4).num m.f18 4).vec m.f19 1 0 255).vec m.f16 2 1 65536).vec ⟨#[]⟩ 2 0 0) ∧ Fr lo g w w' := by
 have HW := Aq.mk (show WS lo w g W0 from h.wt)
 have hsz_ := Aq.mk h.wt.size
 have HL := Aq.mk h.le
 have HB0 := Aq.mk h.below
 have HY := Aq.mk h.box
 have HYN := Aq.mk (show gm ≠ g from by have := h.wt.lt; have := h.lt; omega)
 have HR := Aq.mk hr
 have HMB := Aq.mk hm
 have KK := Aq.mk hk
 have hz0 := W0_size
 have z1 := W0.num_size m.f17 4 (by omega) (by omega)
 have z2 := (W0.num m.f17 4).num_size m.f18 4 (by omega) (by omega)
 have b1 := hm.b16
 have b2 := hm.b19
 have z3 := ((W0.num m.f17 4).num m.f18 4).vec_size m.f19 1 0 255 (by omega) (by omega) (by omega)
 have z4 := (((W0.num m.f17 4).num m.f18 4).vec m.f19 1 0 255).vec_size m.f16 2 1 65536 (by omega) (by omega) (by omega)
 have HN := Aq.mk (show W0.s.size + 4 ≤ 140737488355328 from by omega)
 have HN2 := Aq.mk (show (W0.num m.f17 4).s.size + 4 ≤ 140737488355328 from by omega)
 have HN3 := Aq.mk (show ((W0.num m.f17 4).num m.f18 4).s.size + 3 + m.f19.size ≤ 140737488355328 from by omega)
 have HN4 := Aq.mk (show (((W0.num m.f17 4).num m.f18 4).vec m.f19 1 0 255).s.size + 3 + m.f16.size ≤ 140737488355328 from by omega)
 have HN5 := Aq.mk (show ((((W0.num m.f17 4).num m.f18 4).vec m.f19 1 0 255).vec m.f16 2 1 65536).s.size + 3 + (⟨#[]⟩ : ByteArray).size ≤ 140737488355328 from by show _ + 3 + 0 ≤ _; omega)
 clear z1 z2 z3 z4 b1 b2
 clear h hr hm hk hz0
 go_enter Try.func44,Try.ntmps44
 go_wp2_with (first
  | ((with_reducible refine gate_dst (N := 3) rfl ?_); refine boxT (v := .pointer (some ⟨gm,0,none⟩)) (cs := #[.pointer (some ⟨gm,0,none⟩)]) rfl rfl rfl rfl ?_; intro gb eb w1 h1 b1; have HX := Aq.mk h1; have HXN := Aq.mk (show gb ≠ g from by have := HW.out.lt; omega); have n_ := Aq.mk ((b1.block gm (blk_lt HY.out)).trans HY.out); clear HY; have HY := n_; clear n_; have n_ := Aq.mk (HW.out.below b1); clear HW; have HW := n_; clear n_; have HF := Aq.mk (Fr.of_below (g := g) (n_lo HW.out b1 hsz_.out) b1); clear h1 b1 eb)
  | ((with_reducible refine gate_load rfl ?_); first
   | ((with_reducible refine gate_dst (N := 4) rfl ?_); refine ld (v := .pointer (some ⟨gm,0,none⟩)) rfl rfl rfl HX.out Try.underlying85 rfl rfl ?_)
   | ((with_reducible refine gate_dst (N := 7) rfl ?_); refine ld (v := .int .i64 4) rfl rfl rfl HY.out Try.underlying3 rfl (by rw [← KK.out]; rfl) ?_)
   | ((with_reducible refine gate_dst (N := 53) rfl ?_); refine ld (v := .pointer (some ⟨gm,0,none⟩)) rfl rfl rfl HX.out Try.underlying85 rfl rfl ?_)
   | ((with_reducible refine gate_dst (N := 56) rfl ?_); refine ld (v := .int .i64 m.f17) rfl rfl rfl HY.out Try.underlying3 rfl rfl ?_)
   | ((with_reducible refine gate_dst (N := 59) rfl ?_); refine ld (v := .pointer (some ⟨gm,0,none⟩)) rfl rfl rfl HX.out Try.underlying85 rfl rfl ?_)
   | ((with_reducible refine gate_dst (N := 62) rfl ?_); refine ld (v := .int .i64 m.f18) rfl rfl rfl HY.out Try.underlying3 rfl rfl ?_)
   | ((with_reducible refine gate_dst (N := 65) rfl ?_); refine ld (v := .pointer (some ⟨gm,0,none⟩)) rfl rfl rfl HX.out Try.underlying85 rfl rfl ?_)
   | ((with_reducible refine gate_dst (N := 68) rfl ?_); refine ld (v := .string m.f19) rfl rfl rfl HY.out Try.underlying9 rfl rfl ?_)
   | ((with_reducible refine gate_dst (N := 71) rfl ?_); refine ld (v := .pointer (some ⟨gm,0,none⟩)) rfl rfl rfl HX.out Try.underlying85 rfl rfl ?_)
   | ((with_reducible refine gate_dst (N := 74) rfl ?_); refine ld (v := .string m.f16) rfl rfl rfl HY.out Try.underlying9 rfl rfl ?_))
  | (go_at_call 60; first
   | ((with_reducible refine (num_w lo g (W0.num m.f17 4) m.f18 4 _ HW2.out (by omega) (by omega) HN2.out).mono ?_); rintro e3 w3 ⟨rfl,i3,f3⟩; have HW3 := Aq.mk i3; have n_ := Aq.mk (HF.out.trans f3); clear HF; have HF := n_; clear n_; have n_ := Aq.mk (f3.blk HX.out HXN.out (by decide)); clear HX; have HX := n_; clear n_; have n_ := Aq.mk (f3.blk HY.out HYN.out (by decide)); clear HY; have HY := n_; clear n_; clear i3 f3)
   | ((with_reducible refine (num_w lo g W0 m.f17 4 _ HW.out (by omega) (by omega) HN.out).mono ?_); rintro e2 w2 ⟨rfl,i2,f2⟩; have HW2 := Aq.mk i2; have n_ := Aq.mk (HF.out.trans f2); clear HF; have HF := n_; clear n_; have n_ := Aq.mk (f2.blk HX.out HXN.out (by decide)); clear HX; have HX := n_; clear n_; have n_ := Aq.mk (f2.blk HY.out HYN.out (by decide)); clear HY; have HY := n_; clear n_; clear i2 f2))
  | (go_at_call 57; first
   | ((with_reducible refine (vec_w lo g ((((W0.num m.f17 4).num m.f18 4).vec m.f19 1 0 255).vec m.f16 2 1 65536) ⟨#[]⟩ 2 0 0 _ HW5.out (by omega) (by omega) HN5.out).mono ?_); rintro e6 w6 ⟨rfl,i6,f6⟩; have HW6 := Aq.mk i6; have n_ := Aq.mk (HF.out.trans f6); clear HF; have HF := n_; clear n_; have n_ := Aq.mk (f6.blk HX.out HXN.out (by decide)); clear HX; have HX := n_; clear n_; have n_ := Aq.mk (f6.blk HY.out HYN.out (by decide)); clear HY; have HY := n_; clear n_; clear i6 f6)
   | ((with_reducible refine (vec_w lo g (((W0.num m.f17 4).num m.f18 4).vec m.f19 1 0 255) m.f16 2 1 65536 _ HW4.out (by omega) (by omega) HN4.out).mono ?_); rintro e5 w5 ⟨rfl,i5,f5⟩; have HW5 := Aq.mk i5; have n_ := Aq.mk (HF.out.trans f5); clear HF; have HF := n_; clear n_; have n_ := Aq.mk (f5.blk HX.out HXN.out (by decide)); clear HX; have HX := n_; clear n_; have n_ := Aq.mk (f5.blk HY.out HYN.out (by decide)); clear HY; have HY := n_; clear n_; clear i5 f5)
   | ((with_reducible refine (vec_w lo g ((W0.num m.f17 4).num m.f18 4) m.f19 1 0 255 _ HW3.out (by omega) (by omega) HN3.out).mono ?_); rintro e4 w4 ⟨rfl,i4,f4⟩; have HW4 := Aq.mk i4; have n_ := Aq.mk (HF.out.trans f4); clear HF; have HF := n_; clear n_; have n_ := Aq.mk (f4.blk HX.out HXN.out (by decide)); clear HX; have HX := n_; clear n_; have n_ := Aq.mk (f4.blk HY.out HYN.out (by decide)); clear HY; have HY := n_; clear n_; clear i4 f4)))
 first | go_end0 | ((try simp only [Exit.inBlock,Exit.then]); refine bodyPost_ret (results_none rfl _ _ _) rfl ?_)
 exact ⟨rfl,HW6.out,HF.out⟩
set_option maxRecDepth 100000 in
set_option maxHeartbeats 8000000 in
theorem bod1 (m : Mv) (hd : Hd) (w0 w : World) (lo g gm : Nat) (h : At w0 w lo g gm (cells m hd)) (hr : Reads w0 m hd) (hm : MB m) (hk : m.f0 = 1) :
  Calls Try.prog 44 #[.pointer (some ⟨g,0,none⟩),.pointer (some ⟨gm,0,none⟩)] w fun ex w' => ex = .returned (.tuple #[]) ∧ WS lo w' g (chP W0 m) ∧ Fr lo g w w' := by
 have HW := Aq.mk (show WS lo w g W0 from h.wt)
 have hsz_ := Aq.mk h.wt.size
 have HL := Aq.mk h.le
 have HB0 := Aq.mk h.below
 have HY := Aq.mk h.box
 have HYN := Aq.mk (show gm ≠ g from by have := h.wt.lt; have := h.lt; omega)
 have HR := Aq.mk hr
 have HMB := Aq.mk hm
 have KK := Aq.mk hk
 have hz0 := W0_size
 have HNW := Aq.mk (show W0.s.size ≤ 16777216 from by omega)
 clear h hr hm hk hz0
 go_enter Try.func44,Try.ntmps44
 go_wp2_with (first
  | ((with_reducible refine gate_dst (N := 3) rfl ?_); refine boxT (v := .pointer (some ⟨gm,0,none⟩)) (cs := #[.pointer (some ⟨gm,0,none⟩)]) rfl rfl rfl rfl ?_; intro gb eb w1 h1 b1; have HX := Aq.mk h1; have HXN := Aq.mk (show gb ≠ g from by have := HW.out.lt; omega); have n_ := Aq.mk ((b1.block gm (blk_lt HY.out)).trans HY.out); clear HY; have HY := n_; clear n_; have n_ := Aq.mk (HW.out.below b1); clear HW; have HW := n_; clear n_; have HF := Aq.mk (Fr.of_below (g := g) (n_lo HW.out b1 hsz_.out) b1); clear h1 b1 eb)
  | ((with_reducible refine gate_load rfl ?_); first
   | ((with_reducible refine gate_dst (N := 4) rfl ?_); refine ld (v := .pointer (some ⟨gm,0,none⟩)) rfl rfl rfl HX.out Try.underlying85 rfl rfl ?_)
   | ((with_reducible refine gate_dst (N := 7) rfl ?_); refine ld (v := .int .i64 1) rfl rfl rfl HY.out Try.underlying3 rfl (by rw [← KK.out]; rfl) ?_)
   | ((with_reducible refine gate_dst (N := 32) rfl ?_); refine ld (v := .pointer (some ⟨gm,0,none⟩)) rfl rfl rfl HX.out Try.underlying85 rfl rfl ?_))
  | (go_at_call 55; (with_reducible refine (ch_w lo g gm m hd W0 w0 _ HW.out HL.out (hb_ HB0.out HF.out HL.out) HY.out HYN.out HR.out HMB.out HNW.out).mono ?_); rintro e2 w2 ⟨rfl,i2,f2⟩; have HW2 := Aq.mk i2; have n_ := Aq.mk (HF.out.trans f2); clear HF; have HF := n_; clear n_; have n_ := Aq.mk (f2.blk HX.out HXN.out (by decide)); clear HX; have HX := n_; clear n_; have n_ := Aq.mk (f2.blk HY.out HYN.out (by decide)); clear HY; have HY := n_; clear n_; clear i2 f2))
 first | go_end0 | ((try simp only [Exit.inBlock,Exit.then]); refine bodyPost_ret (results_none rfl _ _ _) rfl ?_)
 exact ⟨rfl,HW2.out,HF.out⟩
set_option maxRecDepth 100000 in
set_option maxHeartbeats 8000000 in
theorem bod2 (m : Mv) (hd : Hd) (w0 w : World) (lo g gm : Nat) (h : At w0 w lo g gm (cells m hd)) (hr : Reads w0 m hd) (hm : MB m) (hk : m.f0 = 2) :
  Calls Try.prog 44 #[.pointer (some ⟨g,0,none⟩),.pointer (some ⟨gm,0,none⟩)] w fun ex w' => ex = .returned (.tuple #[]) ∧ WS lo w' g (shP W0 m) ∧ Fr lo g w w' := by
 have HW := Aq.mk (show WS lo w g W0 from h.wt)
 have hsz_ := Aq.mk h.wt.size
 have HL := Aq.mk h.le
 have HB0 := Aq.mk h.below
 have HY := Aq.mk h.box
 have HYN := Aq.mk (show gm ≠ g from by have := h.wt.lt; have := h.lt; omega)
 have HR := Aq.mk hr
 have HMB := Aq.mk hm
 have KK := Aq.mk hk
 have hz0 := W0_size
 have HNW := Aq.mk (show W0.s.size ≤ 16777216 from by omega)
 clear h hr hm hk hz0
 go_enter Try.func44,Try.ntmps44
 go_wp2_with (first
  | ((with_reducible refine gate_dst (N := 3) rfl ?_); refine boxT (v := .pointer (some ⟨gm,0,none⟩)) (cs := #[.pointer (some ⟨gm,0,none⟩)]) rfl rfl rfl rfl ?_; intro gb eb w1 h1 b1; have HX := Aq.mk h1; have HXN := Aq.mk (show gb ≠ g from by have := HW.out.lt; omega); have n_ := Aq.mk ((b1.block gm (blk_lt HY.out)).trans HY.out); clear HY; have HY := n_; clear n_; have n_ := Aq.mk (HW.out.below b1); clear HW; have HW := n_; clear n_; have HF := Aq.mk (Fr.of_below (g := g) (n_lo HW.out b1 hsz_.out) b1); clear h1 b1 eb)
  | ((with_reducible refine gate_load rfl ?_); first
   | ((with_reducible refine gate_dst (N := 4) rfl ?_); refine ld (v := .pointer (some ⟨gm,0,none⟩)) rfl rfl rfl HX.out Try.underlying85 rfl rfl ?_)
   | ((with_reducible refine gate_dst (N := 7) rfl ?_); refine ld (v := .int .i64 2) rfl rfl rfl HY.out Try.underlying3 rfl (by rw [← KK.out]; rfl) ?_)
   | ((with_reducible refine gate_dst (N := 37) rfl ?_); refine ld (v := .pointer (some ⟨gm,0,none⟩)) rfl rfl rfl HX.out Try.underlying85 rfl rfl ?_))
  | (go_at_call 56; (with_reducible refine (sh_w lo g gm m hd W0 w0 _ HW.out HL.out (hb_ HB0.out HF.out HL.out) HY.out HYN.out HR.out HMB.out HNW.out).mono ?_); rintro e2 w2 ⟨rfl,i2,f2⟩; have HW2 := Aq.mk i2; have n_ := Aq.mk (HF.out.trans f2); clear HF; have HF := n_; clear n_; have n_ := Aq.mk (f2.blk HX.out HXN.out (by decide)); clear HX; have HX := n_; clear n_; have n_ := Aq.mk (f2.blk HY.out HYN.out (by decide)); clear HY; have HY := n_; clear n_; clear i2 f2))
 first | go_end0 | ((try simp only [Exit.inBlock,Exit.then]); refine bodyPost_ret (results_none rfl _ _ _) rfl ?_)
 exact ⟨rfl,HW2.out,HF.out⟩
set_option maxRecDepth 100000 in
set_option maxHeartbeats 8000000 in
theorem bod20 (m : Mv) (hd : Hd) (w0 w : World) (lo g gm : Nat) (h : At w0 w lo g gm (cells m hd)) (hr : Reads w0 m hd) (hm : MB m) (hk : m.f0 = 20) :
  Calls Try.prog 44 #[.pointer (some ⟨g,0,none⟩),.pointer (some ⟨gm,0,none⟩)] w fun ex w' => ex = .returned (.tuple #[]) ∧ WS lo w' g ((W0.need (fin32 (m.f16.size : Int))).add m.f16) ∧ Fr lo g w w' := by
 have HW := Aq.mk (show WS lo w g W0 from h.wt)
 have hsz_ := Aq.mk h.wt.size
 have HL := Aq.mk h.le
 have HB0 := Aq.mk h.below
 have HY := Aq.mk h.box
 have HYN := Aq.mk (show gm ≠ g from by have := h.wt.lt; have := h.lt; omega)
 have HR := Aq.mk hr
 have HMB := Aq.mk hm
 have KK := Aq.mk hk
 have hz0 := W0_size
 have z2 := hm.b16
 have HN := Aq.mk (show (W0.need (fin32 (m.f16.size : Int))).s.size + m.f16.size ≤ 140737488355328 from by show W0.s.size + m.f16.size ≤ _; omega)
 clear h hr hm hk hz0 z2
 go_enter Try.func44,Try.ntmps44
 go_wp2_with (first
  | ((with_reducible refine gate_dst (N := 3) rfl ?_); refine boxT (v := .pointer (some ⟨gm,0,none⟩)) (cs := #[.pointer (some ⟨gm,0,none⟩)]) rfl rfl rfl rfl ?_; intro gb eb w1 h1 b1; have HX := Aq.mk h1; have HXN := Aq.mk (show gb ≠ g from by have := HW.out.lt; omega); have n_ := Aq.mk ((b1.block gm (blk_lt HY.out)).trans HY.out); clear HY; have HY := n_; clear n_; have n_ := Aq.mk (HW.out.below b1); clear HW; have HW := n_; clear n_; have HF := Aq.mk (Fr.of_below (g := g) (n_lo HW.out b1 hsz_.out) b1); clear h1 b1 eb)
  | ((with_reducible refine gate_load rfl ?_); first
   | ((with_reducible refine gate_dst (N := 4) rfl ?_); refine ld (v := .pointer (some ⟨gm,0,none⟩)) rfl rfl rfl HX.out Try.underlying85 rfl rfl ?_)
   | ((with_reducible refine gate_dst (N := 7) rfl ?_); refine ld (v := .int .i64 20) rfl rfl rfl HY.out Try.underlying3 rfl (by rw [← KK.out]; rfl) ?_)))
 refine start_ (n := 9) (S := fun w' => Below w1.heap.size w1 w') (ds := [8]) #[false,false,false,false,false,false,false,false,false] (by kernel_rfl) rfl rfl (Below.refl w1.heap.size w1).drew (fun hHeld => ?_)
 have HS := Aq.mk (Below.refl w1.heap.size w1).drew
 generalize w1.drew = w7 at HS hHeld ⊢
 refine pure_ (i := 0) (N := (some 94)) (v := ?_) (a' := ?_) #[true,false,false,false,false,false,false,false,false] rfl rfl (by kernel_rfl) (fun _ _ _ h => h) (Or.inl ⟨by rfl,?_⟩) ?_ ?_
 rotate_left
 ·intro w'
  go_simp
  with_reducible rfl
 rotate_left
 ·simp only [Act.put,LS_]
  rfl
 refine take_ (i := 2) (N := (some 96)) (v := ?_) (a' := ?_) #[true,false,true,false,false,false,false,false,false] rfl rfl (by kernel_rfl) (fun _ _ _ h => h) (Or.inl ⟨by rfl,?_⟩) hHeld ?_ ?_
 rotate_left
 ·rintro w' hS
  have hc := (blk_cell ((hS.block gb (blk_lt HX.out)).trans HX.out) 0).trans rfl
  go_simp
  with_reducible rfl
 rotate_left
 ·simp only [Act.put,LS_]
  rfl
 refine pure_ (i := 3) (N := (some 97)) (v := ?_) (a' := ?_) #[true,false,true,true,false,false,false,false,false] rfl rfl (by kernel_rfl) (fun _ _ _ h => h) (Or.inl ⟨by rfl,?_⟩) ?_ ?_
 rotate_left
 ·intro w'
  go_simp
  with_reducible rfl
 rotate_left
 ·simp only [Act.put,LS_]
  rfl
 refine pure_ (i := 4) (N := (some 98)) (v := ?_) (a' := ?_) #[true,false,true,true,true,false,false,false,false] rfl rfl (by kernel_rfl) (fun _ _ _ h => h) (Or.inl ⟨by rfl,?_⟩) ?_ ?_
 rotate_left
 ·intro w'
  go_simp
  with_reducible rfl
 rotate_left
 ·simp only [Act.put,LS_]
  rfl
 refine take_ (i := 5) (N := (some 99)) (v := ?_) (a' := ?_) #[true,false,true,true,true,true,false,false,false] rfl rfl (by kernel_rfl) (fun _ _ _ h => h) (Or.inl ⟨by rfl,?_⟩) hHeld ?_ ?_
 rotate_left
 ·rintro w' hS
  have hc := ((blk_cell ((hS.block gm (blk_lt HY.out)).trans HY.out) 16).trans (show (cells m hd)[16]? = some (.string m.f16) from rfl))
  go_simp
  with_reducible rfl
 rotate_left
 ·simp only [Act.put,LS_]
  rfl
 refine pure_ (i := 6) (N := (some 100)) (v := ?_) (a' := ?_) #[true,false,true,true,true,true,true,false,false] rfl rfl (by kernel_rfl) (fun _ _ _ h => h) (Or.inl ⟨by rfl,?_⟩) ?_ ?_
 rotate_left
 ·intro w'
  go_simp
  with_reducible rfl
 rotate_left
 ·simp only [Act.put,LS_]
  rfl
 refine one_ (i := 1) (N := (some 95)) #[true,true,true,true,true,true,true,false,false] rfl rfl (by kernel_rfl) (by decide) (fun K hK => ?_)
 refine goes_ (f := 63) Try.func63 (by kernel_rfl) rfl #[] (by rfl) rfl rfl (by (try simp only [List.map_toArray,List.map_cons,List.map_nil]); first | done | rfl) ?_
 refine (msg_finished.calls [32,48] _ rfl).mono ?_
 rintro e w8 ⟨v63,rfl,r63,b63⟩
 obtain ⟨A63,c63,e63,l63,C63⟩ := Kd.R_reads r63
 subst e63
 refine ⟨_,rfl,?_⟩
 have HS8 := Aq.mk (below_step HS.out b63)
 have R63 := Aq.mk (show Kd.C (Kd.int .i64) w8 A63 2 [32,48] from C63)
 clear r63 b63 C63
 refine hK.out _ _ (HS8.out) (fun hHeld => ?_)
 clear hK K
 refine norm_ (a' := ?_) ?_ ?_
 rotate_left
 ·show Act.put _ (some 95) _ = _
  simp only [Act.put,LS_]
  rfl
 refine one_ (i := 7) (N := (some 101)) #[true,true,true,true,true,true,true,true,false] rfl rfl (by kernel_rfl) (by decide) (fun K hK => ?_)
 refine goes_ (f := 62) Try.func62 (by kernel_rfl) rfl #[.slice A63 2 c63,.int .i64 (m.f16.size : Int)] (by rfl) rfl rfl (by (try simp only [List.map_toArray,List.map_cons,List.map_nil]); first | done | rfl) ?_
 refine (slices_Contains_int_int.calls 9 A63 c63 [32,48] (m.f16.size : Int) (fin32 (m.f16.size : Int)) _ R63.out l63 (fin_f _)).mono ?_
 rintro e w9 ⟨rfl,d9⟩
 refine ⟨_,rfl,?_⟩
 have HS9 := Aq.mk (below_step HS8.out d9.below)
 clear d9
 refine hK.out _ _ (HS9.out) (fun hHeld => ?_)
 clear hK K
 refine norm_ (a' := ?_) ?_ ?_
 rotate_left
 ·show Act.put _ (some 101) _ = _
  simp only [Act.put,LS_]
  rfl
 refine last_ (i := 8) (N := (some 102)) #[true,true,true,true,true,true,true,true,true] rfl rfl (by kernel_rfl) (by decide) (fun K hK => ?_)
 refine goes_ (f := 61) Try.func61 (by kernel_rfl) rfl #[.pointer (some ⟨g,0,none⟩),.bool (fin32 (m.f16.size : Int))] (by rfl) rfl rfl (by (try simp only [List.map_toArray,List.map_cons,List.map_nil]); first | done | rfl) ?_
 refine (need_w lo g W0 (fin32 (m.f16.size : Int)) _ (HW.out.below HS9.out)).mono ?_
 rintro e w10 ⟨rfl,i10,f10⟩
 refine ⟨_,rfl,?_⟩
 have HW2 := Aq.mk i10
 have fq := (Fr.of_below (g := g) HW.out.size HS9.out).trans f10
 have n_ := Aq.mk (HF.out.trans fq)
 clear HF
 have HF := n_
 clear n_
 have n_ := Aq.mk (fq.blk HX.out HXN.out (by decide))
 clear HX
 have HX := n_
 clear n_
 have n_ := Aq.mk (fq.blk HY.out HYN.out (by decide))
 clear HY
 have HY := n_
 clear n_
 clear i10 f10 fq
 refine hK.out _ _ ?_
 clear hK K
 refine norm_ (a' := ?_) ?_ ?_
 rotate_left
 ·show Act.put _ (some 102) _ = _
  simp only [Act.put,LS_]
  rfl
 refine done_ (by kernel_rfl) ?_
 go_wp2
 obtain ⟨v,h1,h2,h3⟩ := HW2.out.drew
 obtain ⟨A,c,rfl⟩ := own_slice h3
 have HO := Aq.mk h3
 have HLO := Aq.mk h2
 have HF3 := Aq.mk (HF.out.trans (Fr.of_below (g := g) HW2.out.size (below_drew (Below.refl _ _))))
 have hBd := (below_drew (Below.refl w10.heap.size w10)).block gm (blk_lt HY.out) |>.trans HY.out
 have hXd := (below_drew (Below.refl w10.heap.size w10)).block gb (blk_lt HX.out) |>.trans HX.out
 have HSd := Aq.mk (And.intro h1 (And.intro hBd hXd))
 clear h3 h2
 refine start_ (n := 13) (S := fun w' => w'.heap[g]? = some (.cells #[.slice A (W0.need (fin32 (m.f16.size : Int))).s.size c,.bool (W0.need (fin32 (m.f16.size : Int))).b] 83 (0,0)) ∧ w'.heap[gm]? = some (.cells (cells m hd) 49 (0,0)) ∧ w'.heap[gb]? = some (.cells #[.pointer (some ⟨gm,0,none⟩)] 85 (0,0))) (ds := [12]) T51 (by kernel_rfl) rfl rfl ⟨h1,hBd,hXd⟩ (fun hHeld => ?_)
 clear h1 hBd hXd
 generalize w10.drew = w3 at HO HF3 HSd hHeld ⊢
 refine pure_ (i := 0) (N := (some 103)) (v := ?_) (a' := ?_) T55 rfl rfl (by kernel_rfl) (fun _ _ _ h => h) (Or.inl ⟨by rfl,?_⟩) ?_ ?_
 rotate_left
 ·intro w'
  go_simp
  with_reducible rfl
 rotate_left
 ·simp only [Act.put,LS_]
  rfl
 refine pure_ (i := 1) (N := (some 104)) (v := ?_) (a' := ?_) T514 rfl rfl (by kernel_rfl) (fun _ _ _ h => h) (Or.inl ⟨by rfl,?_⟩) ?_ ?_
 rotate_left
 ·intro w'
  go_simp
  with_reducible rfl
 rotate_left
 ·simp only [Act.put,LS_]
  rfl
 refine pure_ (i := 2) (N := (some 105)) (v := ?_) (a' := ?_) T517 rfl rfl (by kernel_rfl) (fun _ _ _ h => h) (Or.inl ⟨by rfl,?_⟩) ?_ ?_
 rotate_left
 ·intro w'
  go_simp
  with_reducible rfl
 rotate_left
 ·simp only [Act.put,LS_]
  rfl
 refine pure_ (i := 3) (N := (some 106)) (v := ?_) (a' := ?_) T520 rfl rfl (by kernel_rfl) (fun _ _ _ h => h) (Or.inl ⟨by rfl,?_⟩) ?_ ?_
 rotate_left
 ·intro w'
  go_simp
  with_reducible rfl
 rotate_left
 ·simp only [Act.put,LS_]
  rfl
 refine take_ (i := 4) (N := (some 107)) (v := ?_) (a' := ?_) T523 rfl rfl (by kernel_rfl) (fun _ _ _ h => h) (Or.inl ⟨by rfl,?_⟩) hHeld ?_ ?_
 rotate_left
 ·rintro w' hS
  have hc := cell0 hS.1
  go_simp
  with_reducible rfl
 rotate_left
 ·simp only [Act.put,LS_]
  rfl
 refine take_ (i := 5) (N := (some 108)) (v := ?_) (a' := ?_) T526 rfl rfl (by kernel_rfl) (fun _ _ _ h => h) (Or.inl ⟨by rfl,?_⟩) hHeld ?_ ?_
 rotate_left
 ·rintro w' hS
  have hc := (blk_cell (hS.2.2) 0).trans rfl
  go_simp
  with_reducible rfl
 rotate_left
 ·simp only [Act.put,LS_]
  rfl
 refine pure_ (i := 6) (N := (some 109)) (v := ?_) (a' := ?_) T529 rfl rfl (by kernel_rfl) (fun _ _ _ h => h) (Or.inl ⟨by rfl,?_⟩) ?_ ?_
 rotate_left
 ·intro w'
  go_simp
  with_reducible rfl
 rotate_left
 ·simp only [Act.put,LS_]
  rfl
 refine pure_ (i := 7) (N := (some 110)) (v := ?_) (a' := ?_) T533 rfl rfl (by kernel_rfl) (fun _ _ _ h => h) (Or.inl ⟨by rfl,?_⟩) ?_ ?_
 rotate_left
 ·intro w'
  go_simp
  with_reducible rfl
 rotate_left
 ·simp only [Act.put,LS_]
  rfl
 refine take_ (i := 8) (N := (some 111)) (v := ?_) (a' := ?_) T537 rfl rfl (by kernel_rfl) (fun _ _ _ h => h) (Or.inl ⟨by rfl,?_⟩) hHeld ?_ ?_
 rotate_left
 ·rintro w' hS
  have hc := ((blk_cell (hS.2.1) 16).trans (show (cells m hd)[16]? = some (.string m.f16) from rfl))
  go_simp
  with_reducible rfl
 rotate_left
 ·simp only [Act.put,LS_]
  rfl
 refine one_ (i := 9) (N := (some 112)) T540 rfl rfl (by kernel_rfl) (by decide) (fun K hK => ?_)
 refine app_step (by rfl) rfl (.tmp 107) (.tmp 111) rfl lo g (W0.need (fin32 (m.f16.size : Int))).s m.f16 _ _ rfl rfl HSd.out.1 HLO.out HO.out HN.out ?_
 intro v4 w4 m4 f4 g4
 obtain ⟨A4,c4,rfl⟩ := own_slice m4.own
 have HM4 := Aq.mk m4
 have HF4 := Aq.mk (HF3.out.trans f4)
 have HH4 := Aq.mk (And.intro g4 (And.intro (f4.blk HSd.out.2.1 HYN.out (by decide)) (f4.blk HSd.out.2.2 HXN.out (by decide))))
 clear m4 f4 g4
 refine hK.out _ _ (HH4.out) (fun hHeld => ?_)
 clear hK K
 refine norm_ (a' := ?_) ?_ ?_
 rotate_left
 ·show Act.put _ (some 112) _ = _
  simp only [Act.put,LS_]
  rfl
 refine pure_ (i := 10) (N := (some 113)) (v := ?_) (a' := ?_) T542 rfl rfl (by kernel_rfl) (fun _ _ _ h => h) (Or.inl ⟨by rfl,?_⟩) ?_ ?_
 rotate_left
 ·intro w'
  go_simp
  with_reducible rfl
 rotate_left
 ·simp only [Act.put,LS_]
  rfl
 refine pure_ (i := 11) (N := (some 114)) (v := ?_) (a' := ?_) T544 rfl rfl (by kernel_rfl) (fun _ _ _ h => h) (Or.inl ⟨by rfl,?_⟩) ?_ ?_
 rotate_left
 ·intro w'
  go_simp
  with_reducible rfl
 rotate_left
 ·simp only [Act.put,LS_]
  rfl
 refine last_ (i := 12) (N := none) T554 rfl rfl (by kernel_rfl) (by decide) (fun K hK => ?_)
 refine stM (g := g) (i := 0) (by rfl) rfl rfl rfl HH4.out.1 sz39w rfl rfl rfl (by simp) ?_
 intro w5 h5 b5 k5
 have HW5 := Aq.mk (show WS lo w5 g ((W0.need (fin32 (m.f16.size : Int))).add m.f16) from ⟨_,h5,HLO.out,own_keep HM4.out k5 (b5 _ HLO.out)⟩)
 have HF5 := Aq.mk (HF4.out.trans (Fr.of_keep (b5 _ HLO.out) k5))
 clear h5 b5 k5
 refine hK.out _ _ ?_
 clear hK K
 refine done_ (by kernel_rfl) ?_
 first | go_end0 | ((try simp only [Exit.inBlock,Exit.then]); refine bodyPost_ret (results_none rfl _ _ _) rfl ?_)
 exact ⟨rfl,HW5.out,HF5.out⟩
end Go.Proofs.Ytlkebjkpmiehcaa.Ms
end
section
namespace Go.Proofs.Ytlkebjkpmiehcaa.Ms
open Go.RowKit Go.Proofs.YtlkebjkpmiehcaaW.PrintWords Go.Proofs.YtlkebjkpmiehcaaW.PrintLast Go.Proofs.YtlkebjkpmiehcaaW.PrintMore Go.Proofs.Ytlkebjkpmiehcaa.X
set_option linter.unusedVariables false
def bodyW (m : Mv) : Wp :=
 if m.f0 = 1 then chP W0 m
 else if m.f0 = 2 then shP W0 m
 else if m.f0 = 8 then W0.vec ⟨#[]⟩ 2 0 0
 else if m.f0 = 11 then (W0.vec ⟨#[]⟩ 1 0 0).within ⟨(certW m.f14).1,(certW m.f14).2⟩ 3
 else if m.f0 = 15 then (W0.num m.f15 2).vec m.f16 2 0 65536
 else if m.f0 = 20 then (W0.need (fin32 (m.f16.size : Int))).add m.f16
 else if m.f0 = 4 then ((((W0.num m.f17 4).num m.f18 4).vec m.f19 1 0 255).vec m.f16 2 1 65536).vec ⟨#[]⟩ 2 0 0
 else (W0.need (m.f20 == 1 || m.f20 == 2)).num (wrap64 (m.f20 - 1)) 1
def putM (m : Mv) : ByteArray × Int :=
 if knownB m.f0 = false then (⟨#[]⟩,1701)
 else if (bodyW m).b = true ∨ m.unused.zero = false ∨ 65532 < (bodyW m).s.size then (⟨#[]⟩,1700)
 else (framed m.f0 (bodyW m).s,0)
theorem csz_bound (l : List ByteArray) (h : ∀ a,a ∈ l → a.size ≤ 2097152) : csz l ≤ l.length * 2097158 := by
 induction l with
 | nil => exact Nat.zero_le _
 | cons a r ih =>
  have h1 := h a List.mem_cons_self
  have h2 := ih (fun b hb => h b (List.mem_cons_of_mem _ hb))
  unfold csz at h2 ⊢
  simp only [List.map_cons,List.sum_cons,List.length_cons]
  omega
theorem knownB_of {k : Int} (h : knownB k = true) : k = 1 ∨ k = 2 ∨ k = 4 ∨ k = 8 ∨ k = 11 ∨ k = 15 ∨ k = 20 ∨ k = 24 := by
 unfold knownB msg_known.f at h
 repeat' split at h
 all_goals first | omega | (simp at h)
theorem bodies_c (m : Mv) (hd : Hd) (w : World) (hr : Reads w m hd) (hm : MB m) (hk : knownB m.f0 = true) : Bodies m hd w (bodyW m).s (bodyW m).b := by
 intro w1 lo g gm ha
 unfold bodyW
 rcases knownB_of hk with e | e | e | e | e | e | e | e
 ·rw [if_pos e]
  exact bod1 m hd w w1 lo g gm ha hr hm e
 ·rw [if_neg (by omega),if_pos e]
  exact bod2 m hd w w1 lo g gm ha hr hm e
 ·rw [if_neg (by omega),if_neg (by omega),if_neg (by omega),if_neg (by omega),if_neg (by omega),if_neg (by omega),if_pos e]
  exact bod4 m hd w w1 lo g gm ha hr hm e
 ·rw [if_neg (by omega),if_neg (by omega),if_pos e]
  exact bod8 m hd w w1 lo g gm ha hr hm e
 ·rw [if_neg (by omega),if_neg (by omega),if_neg (by omega),if_pos e]
  have h1 := csz_bound m.f14 hm.c14
  have h2 := hm.b14
  exact body11 lo g gm _ w w1 ha (show (cells m hd)[0]? = _ by rw [← e]; rfl) hd.A14 hd.c14 m.f14 rfl hr.r14 hr.l14 (by omega)
 ·rw [if_neg (by omega),if_neg (by omega),if_neg (by omega),if_neg (by omega),if_pos e]
  exact bod15 m hd w w1 lo g gm ha hr hm e
 ·rw [if_neg (by omega),if_neg (by omega),if_neg (by omega),if_neg (by omega),if_neg (by omega),if_pos e]
  exact bod20 m hd w w1 lo g gm ha hr hm e
 ·rw [if_neg (by omega),if_neg (by omega),if_neg (by omega),if_neg (by omega),if_neg (by omega),if_neg (by omega),if_neg (by omega)]
  exact body24 lo g gm _ w w1 ha (show (cells m hd)[0]? = _ by rw [← e]; rfl) m.f20 rfl
theorem put_of (m : Mv) (hd : Hd) (w : World) (hr : Reads w m hd) (hk : knownB m.f0 = true) (ht : m.unused.texts ≤ 9223372036854775807) (hl : m.unused.lists ≤ 9223372036854775807) (hy : Bodies m hd w (bodyW m).s (bodyW m).b) :
  Calls Try.prog 23 #[.agg (cells m hd)] w fun ex w' => ex = .returned (.tuple #[.string (putM m).1,.int .i64 (putM m).2]) ∧ Below w.heap.size w w' := by
 have hkf : msg_known.f m.f0 = some true := by rw [known_f,hk]
 unfold putM
 rw [if_neg (by rw [hk]; decide)]
 by_cases c : (bodyW m).b = true ∨ m.unused.zero = false ∨ 65532 < (bodyW m).s.size
 ·rw [if_pos c]
  by_cases c1 : (bodyW m).b = true
  ·rw [c1] at hy
   exact put_bad m hd _ w hkf hr ht hl hy
  ·have c1' : (bodyW m).b = false := by simpa using c1
   rw [c1'] at hy
   by_cases c2 : m.unused.zero = false
   ·exact put_unused m hd _ w hkf hr ht hl hy c2
   ·have c2' : m.unused.zero = true := by simpa using c2
    refine put_long m hd _ w hkf hr ht hl hy c2' ?_
    rcases c with c | c | c
    ·exact absurd c c1
    ·exact absurd c c2
    ·exact c
 ·rw [if_neg c]
  rw [not_or,not_or] at c
  obtain ⟨c1,c2,c3⟩ := c
  have c1' : (bodyW m).b = false := by simpa using c1
  have c2' : m.unused.zero = true := by simpa using c2
  rw [c1'] at hy
  exact put_ok m hd _ w hkf hr ht hl hy c2' (by omega)
theorem put_c (m : Mv) (hd : Hd) (w : World) (hr : Reads w m hd) (hm : MB m) (hk : knownB m.f0 = true) (ht : m.unused.texts ≤ 9223372036854775807) (hl : m.unused.lists ≤ 9223372036854775807) :
  Calls Try.prog 23 #[.agg (cells m hd)] w fun ex w' => ex = .returned (.tuple #[.string (putM m).1,.int .i64 (putM m).2]) ∧ Below w.heap.size w w' :=
 put_of m hd w hr hk ht hl (bodies_c m hd w hr hm hk)
end Go.Proofs.Ytlkebjkpmiehcaa.Ms
end
section
namespace Go.Proofs.Ytlkebjkpmiehcaa.X
open Go.RowKit Go.Proofs.YtlkebjkpmiehcaaW.PrintWords Go.Proofs.YtlkebjkpmiehcaaW.PrintLast Go.Proofs.YtlkebjkpmiehcaaW.PrintMore
attribute [local go_sem] max2_int min2_int max_two min_two max_three min_three max_four min_four   
set_option linter.unusedVariables false
set_option linter.unusedSimpArgs false
theorem eqA66 (d : Nat) (w : World) (x0 y0 : Int) (x1 y1 : ByteArray) :
  (Op.equalIn (d + 2) 66 (.agg #[.int .i64 x0,.string x1]) (.agg #[.int .i64 y0,.string y1])).run Try.prog w = .ok (x0 == y0 && (x1.toList == y1.toList)) w := by
 refine eqA_of Try.underlying66 (by kernel_rfl) ?_
 refine eqf_cons (by rfl) (by go_simp; rfl) (by go_simp; rfl) (by go_simp) ?_
 exact eqf_last (by rfl) (by go_simp; rfl) (by go_simp; rfl) (by go_simp)
theorem eqA111 (d : Nat) (w : World) (x0 y0 : ByteArray) (x1 y1 : Int) :
  (Op.equalIn (d + 2) 111 (.agg #[.string x0,.int .i64 x1]) (.agg #[.string y0,.int .i64 y1])).run Try.prog w = .ok (x0.toList == y0.toList && (x1 == y1)) w := by
 refine eqA_of Try.underlying111 (by kernel_rfl) ?_
 refine eqf_cons (by rfl) (by go_simp; rfl) (by go_simp; rfl) (by go_simp) ?_
 exact eqf_last (by rfl) (by go_simp; rfl) (by go_simp; rfl) (by go_simp)
end Go.Proofs.Ytlkebjkpmiehcaa.X
end
section
namespace Go.Proofs.Ytlkebjkpmiehcaa.X
open Go.RowKit Go.Proofs.YtlkebjkpmiehcaaW.PrintWords Go.Proofs.YtlkebjkpmiehcaaW.PrintLast Go.Proofs.YtlkebjkpmiehcaaW.PrintMore
attribute [local go_sem] max2_int min2_int max_two min_two max_three min_three max_four min_four   
set_option linter.unusedVariables false
set_option linter.unusedSimpArgs false
attribute [local go_sem high] eqA66 eqA111
def halberdlaw0_SameShares.l0 : Nat → List (S66) → List (S66) → Int → Option (Bool)
 | 0,_,_,_ => none
 | k + 1,x0,x1,x5 => if x5 < (x0.length : Int) then (if 0 ≤ x5 then (if x5 < (x1.length : Int) then (if (!(((rd_T66 x0 x5).f0) == ((rd_T66 x1 x5).f0)) || (!((((rd_T66 x0 x5).f1).toList) == (((rd_T66 x1 x5).f1).toList)))) = true then (some false) else (halberdlaw0_SameShares.l0 k x0 x1 (wrap64 (x5 + 1)))) else (none)) else (none)) else (some true)
def halberdlaw0_SameShares.f (k : Nat) (l0 : List (S66)) (l1 : List (S66)) : Option (Bool) := if (l0.length : Int) = (l1.length : Int) then (halberdlaw0_SameShares.l0 k l0 l1 0) else (some false)
theorem halberdlaw0_SameShares.mono_l : ∀ k,(∀ y0 y1 y2,LeO (halberdlaw0_SameShares.l0 k y0 y1 y2) (halberdlaw0_SameShares.l0 (k + 1) y0 y1 y2))
 | 0 => fun _ _ _ r h => by simp [halberdlaw0_SameShares.l0] at h
 | k + 1 => by
  have ih0 := halberdlaw0_SameShares.mono_l k
  ·intro y0 y1 y2
   unfold halberdlaw0_SameShares.l0
   repeat' first
   | (with_reducible exact ih0 _ _ _)
   | (with_reducible exact LeO.refl _)
   | (with_reducible exact LeO.none _)
   | (with_reducible refine LeO.ite ?_ ?_)
   | (with_reducible refine LeO.bind ?_ (fun _ => ?_))
   | exact ih0 _ _ _
   | exact LeO.none _
   | refine LeO.ite ?_ ?_
   | refine LeO.bind ?_ (fun _ => ?_)
theorem halberdlaw0_SameShares.mono : ∀ a0 a1 k,LeO (halberdlaw0_SameShares.f k a0 a1) (halberdlaw0_SameShares.f (k + 1) a0 a1) := by
 intro a0 a1 k
 have ih0 := halberdlaw0_SameShares.mono_l k
 unfold halberdlaw0_SameShares.f
 repeat' first
   | (with_reducible exact ih0 _ _ _)
   | (with_reducible exact LeO.refl _)
   | (with_reducible exact LeO.none _)
   | (with_reducible refine LeO.ite ?_ ?_)
   | (with_reducible refine LeO.bind ?_ (fun _ => ?_))
   | exact ih0 _ _ _
   | exact LeO.none _
   | refine LeO.ite ?_ ?_
   | refine LeO.bind ?_ (fun _ => ?_)
set_option maxHeartbeats 8000000 in
set_option maxRecDepth 100000 in
theorem halberdlaw0_SameShares.calls (k : Nat) (A0 : Option Addr) (c0 : Nat) (l0 : List (S66)) (A1 : Option Addr) (c1 : Nat) (l1 : List (S66)) (r : Bool) (w : World) (hr0 : Kd.C k66 w A0 l0.length l0) (hc0 : l0.length ≤ c0) (hr1 : Kd.C k66 w A1 l1.length l1) (hc1 : l1.length ≤ c1) (h : halberdlaw0_SameShares.f k l0 l1 = some r) :
  Calls Try.prog 32 #[.slice A0 l0.length c0,.slice A1 l1.length c1] w fun e w' => e = .returned (.bool r) ∧ Drawn0 w w' := by
 have hu66 := Try.underlying66
 have HR0 := Aq.mk hr0
 have HC0 := Aq.mk hc0
 clear hr0 hc0
 have HR1 := Aq.mk hr1
 have HC1 := Aq.mk hc1
 clear hr1 hc1
 have H : (if (l0.length : Int) = (l1.length : Int) then (halberdlaw0_SameShares.l0 k l0 l1 0) else (some false)) = some r := h
 clear h
 by_cases c3 : (l0.length : Int) = (l1.length : Int)
 ·rw [if_pos c3] at H
  have c3b0 : ((l0.length : Int) == (l1.length : Int)) = true := beq_iff_eq.mpr c3
  have c3b1 : ((l0.length : Int) != (l1.length : Int)) = false := bne_eq_false_iff_eq.mpr c3
  have c3b2 : (l0.length == l1.length) = true := by first | simpa using c3 | (simp at c3 ⊢; omega)
  clear c3
  have H' := Aq.mk H
  clear H
  go_enter Try.func32,Try.ntmps32
  go_wp2
  repeat (go_quiet (fail); try go_wp2)
  go_loopg [5] k (fun kq v5 w' => ∃ (x5_1 : Int),v5 = .int .i64 x5_1 ∧ Aq (halberdlaw0_SameShares.l0 kq l0 l1 x5_1 = some r) ∧ Aq (kq ≤ k) ∧ Drawn0 w w')
  case atStart => exact ⟨(0),(by first | rfl | (simp; done) | (simp [*]; done)),H',⟨Nat.le_refl _⟩,by repeat (first | exact Drawn0.refl _ | apply Drawn0.step)⟩
  case round =>
   clear H'
   try clear c1
   try clear p2
   try clear c3
   try clear c3b0
   try clear c3b1
   try clear c3b2
   obtain ⟨x5_1,rfl,HA,HK1,⟨m1,rfl⟩⟩ := hrel
   cases gk with
   | zero => exact absurd HA.out (by simp [halberdlaw0_SameShares.l0])
   | succ k1 =>
    have H := HA.out
    clear HA
    simp only [halberdlaw0_SameShares.l0] at H
    by_cases c4 : x5_1 < (l0.length : Int)
    ·rw [if_pos c4] at H
     have c4b0 : decide (x5_1 < (l0.length : Int)) = true := decide_eq_true c4
     clear c4
     by_cases c5 : 0 ≤ x5_1
     ·rw [if_pos c5] at H
      have c5b0 : decide (0 ≤ x5_1) = true := decide_eq_true c5
      clear c5
      by_cases c6 : x5_1 < (l1.length : Int)
      ·rw [if_pos c6] at H
       have c6b0 : decide (x5_1 < (l1.length : Int)) = true := decide_eq_true c6
       clear c6
       by_cases c7 : (!(((rd_T66 l0 x5_1).f0) == ((rd_T66 l1 x5_1).f0)) || (!((((rd_T66 l0 x5_1).f1).toList) == (((rd_T66 l1 x5_1).f1).toList)))) = true
       ·rw [if_pos c7] at H
        have c7b0 : (!(((rd_T66 l0 x5_1).f0) == ((rd_T66 l1 x5_1).f0)) || (!((((rd_T66 l0 x5_1).f1).toList) == (((rd_T66 l1 x5_1).f1).toList)))) = true := c7
        clear c7
        obtain rfl := Option.some.inj H
        have p243 : 0 ≤ (x5_1 : Int) := of_decide_eq_true (by first | (with_reducible assumption) | assumption)
        have q243 : x5_1 < (l0.length : Int) := of_decide_eq_true (by first | (with_reducible assumption) | assumption)
        obtain ⟨ad243,e243,hx243_0,hx243_1⟩ := at_T66 HR0.out x5_1 p243 q243
        cases e243
        replace p243 := eq_true p243
        replace q243 := eq_true q243
        have p244 : 0 ≤ (x5_1 : Int) := of_decide_eq_true (by first | (with_reducible assumption) | assumption)
        have q244 : x5_1 < (l1.length : Int) := of_decide_eq_true (by first | (with_reducible assumption) | assumption)
        obtain ⟨ad244,e244,hx244_0,hx244_1⟩ := at_T66 HR1.out x5_1 p244 q244
        cases e244
        replace p244 := eq_true p244
        replace q244 := eq_true q244
        go_wp2
        repeat (go_quiet (fail); try go_wp2)
        go_ret
        exact ⟨by first | rfl | (simp; done) | (simp [*]; done),by repeat (first | exact Drawn0.refl _ | apply Drawn0.step)⟩
       ·rw [if_neg c7] at H
        have c7b0 : (!(((rd_T66 l0 x5_1).f0) == ((rd_T66 l1 x5_1).f0)) || (!((((rd_T66 l0 x5_1).f1).toList) == (((rd_T66 l1 x5_1).f1).toList)))) = false := by simpa using c7
        clear c7
        have H' := Aq.mk H
        clear H
        have p243 : 0 ≤ (x5_1 : Int) := of_decide_eq_true (by first | (with_reducible assumption) | assumption)
        have q243 : x5_1 < (l0.length : Int) := of_decide_eq_true (by first | (with_reducible assumption) | assumption)
        obtain ⟨ad243,e243,hx243_0,hx243_1⟩ := at_T66 HR0.out x5_1 p243 q243
        cases e243
        replace p243 := eq_true p243
        replace q243 := eq_true q243
        have p244 : 0 ≤ (x5_1 : Int) := of_decide_eq_true (by first | (with_reducible assumption) | assumption)
        have q244 : x5_1 < (l1.length : Int) := of_decide_eq_true (by first | (with_reducible assumption) | assumption)
        obtain ⟨ad244,e244,hx244_0,hx244_1⟩ := at_T66 HR1.out x5_1 p244 q244
        cases e244
        replace p244 := eq_true p244
        replace q244 := eq_true q244
        go_wp2
        repeat (go_quiet (fail); try go_wp2)
        go_roundg k1
        case measure => have := HK1.out; omega
        case rel => exact ⟨(wrap64 (x5_1 + 1)),(by first | rfl | (simp; done) | (simp [*]; done)),H',⟨by have := HK1.out; omega⟩,by repeat (first | exact Drawn0.refl _ | apply Drawn0.step)⟩
      ·rw [if_neg c6] at H
       exact absurd H (by simp)
     ·rw [if_neg c5] at H
      exact absurd H (by simp)
    ·rw [if_neg c4] at H
     have c4b0 : decide (x5_1 < (l0.length : Int)) = false := decide_eq_false c4
     clear c4
     obtain rfl := Option.some.inj H
     go_wp2
     repeat (go_quiet (fail); try go_wp2)
     go_ret
     exact ⟨by first | rfl | (simp; done) | (simp [*]; done),by repeat (first | exact Drawn0.refl _ | apply Drawn0.step)⟩
 ·rw [if_neg c3] at H
  have c3b0 : ((l0.length : Int) == (l1.length : Int)) = false := beq_eq_false_iff_ne.mpr c3
  have c3b1 : ((l0.length : Int) != (l1.length : Int)) = true := bne_iff_ne.mpr c3
  have c3b2 : (l0.length == l1.length) = false := by first | simpa using c3 | (simp at c3 ⊢; omega)
  obtain rfl := Option.some.inj H
  go_enter Try.func32,Try.ntmps32
  go_wp2
  repeat (go_quiet (fail); try go_wp2)
  go_ret
  exact ⟨by first | rfl | (simp; done) | (simp [*]; done),by repeat (first | exact Drawn0.refl _ | apply Drawn0.step)⟩
def halberdlaw0_SameIdentitys.l0 : Nat → List (S111) → List (S111) → Int → Option (Bool)
 | 0,_,_,_ => none
 | k + 1,x0,x1,x5 => if x5 < (x0.length : Int) then (if 0 ≤ x5 then (if x5 < (x1.length : Int) then (if (!((((rd_T111 x0 x5).f0).toList) == (((rd_T111 x1 x5).f0).toList)) || (!(((rd_T111 x0 x5).f1) == ((rd_T111 x1 x5).f1)))) = true then (some false) else (halberdlaw0_SameIdentitys.l0 k x0 x1 (wrap64 (x5 + 1)))) else (none)) else (none)) else (some true)
def halberdlaw0_SameIdentitys.f (k : Nat) (l0 : List (S111)) (l1 : List (S111)) : Option (Bool) := if (l0.length : Int) = (l1.length : Int) then (halberdlaw0_SameIdentitys.l0 k l0 l1 0) else (some false)
theorem halberdlaw0_SameIdentitys.mono_l : ∀ k,(∀ y0 y1 y2,LeO (halberdlaw0_SameIdentitys.l0 k y0 y1 y2) (halberdlaw0_SameIdentitys.l0 (k + 1) y0 y1 y2))
 | 0 => fun _ _ _ r h => by simp [halberdlaw0_SameIdentitys.l0] at h
 | k + 1 => by
  have ih0 := halberdlaw0_SameIdentitys.mono_l k
  ·intro y0 y1 y2
   unfold halberdlaw0_SameIdentitys.l0
   repeat' first
   | (with_reducible exact ih0 _ _ _)
   | (with_reducible exact LeO.refl _)
   | (with_reducible exact LeO.none _)
   | (with_reducible refine LeO.ite ?_ ?_)
   | (with_reducible refine LeO.bind ?_ (fun _ => ?_))
   | exact ih0 _ _ _
   | exact LeO.none _
   | refine LeO.ite ?_ ?_
   | refine LeO.bind ?_ (fun _ => ?_)
theorem halberdlaw0_SameIdentitys.mono : ∀ a0 a1 k,LeO (halberdlaw0_SameIdentitys.f k a0 a1) (halberdlaw0_SameIdentitys.f (k + 1) a0 a1) := by
 intro a0 a1 k
 have ih0 := halberdlaw0_SameIdentitys.mono_l k
 unfold halberdlaw0_SameIdentitys.f
 repeat' first
   | (with_reducible exact ih0 _ _ _)
   | (with_reducible exact LeO.refl _)
   | (with_reducible exact LeO.none _)
   | (with_reducible refine LeO.ite ?_ ?_)
   | (with_reducible refine LeO.bind ?_ (fun _ => ?_))
   | exact ih0 _ _ _
   | exact LeO.none _
   | refine LeO.ite ?_ ?_
   | refine LeO.bind ?_ (fun _ => ?_)
set_option maxHeartbeats 8000000 in
set_option maxRecDepth 100000 in
theorem halberdlaw0_SameIdentitys.calls (k : Nat) (A0 : Option Addr) (c0 : Nat) (l0 : List (S111)) (A1 : Option Addr) (c1 : Nat) (l1 : List (S111)) (r : Bool) (w : World) (hr0 : Kd.C k111 w A0 l0.length l0) (hc0 : l0.length ≤ c0) (hr1 : Kd.C k111 w A1 l1.length l1) (hc1 : l1.length ≤ c1) (h : halberdlaw0_SameIdentitys.f k l0 l1 = some r) :
  Calls Try.prog 52 #[.slice A0 l0.length c0,.slice A1 l1.length c1] w fun e w' => e = .returned (.bool r) ∧ Drawn0 w w' := by
 have hu111 := Try.underlying111
 have HR0 := Aq.mk hr0
 have HC0 := Aq.mk hc0
 clear hr0 hc0
 have HR1 := Aq.mk hr1
 have HC1 := Aq.mk hc1
 clear hr1 hc1
 have H : (if (l0.length : Int) = (l1.length : Int) then (halberdlaw0_SameIdentitys.l0 k l0 l1 0) else (some false)) = some r := h
 clear h
 by_cases c3 : (l0.length : Int) = (l1.length : Int)
 ·rw [if_pos c3] at H
  have c3b0 : ((l0.length : Int) == (l1.length : Int)) = true := beq_iff_eq.mpr c3
  have c3b1 : ((l0.length : Int) != (l1.length : Int)) = false := bne_eq_false_iff_eq.mpr c3
  have c3b2 : (l0.length == l1.length) = true := by first | simpa using c3 | (simp at c3 ⊢; omega)
  clear c3
  have H' := Aq.mk H
  clear H
  go_enter Try.func52,Try.ntmps52
  go_wp2
  repeat (go_quiet (fail); try go_wp2)
  go_loopg [5] k (fun kq v5 w' => ∃ (x5_1 : Int),v5 = .int .i64 x5_1 ∧ Aq (halberdlaw0_SameIdentitys.l0 kq l0 l1 x5_1 = some r) ∧ Aq (kq ≤ k) ∧ Drawn0 w w')
  case atStart => exact ⟨(0),(by first | rfl | (simp; done) | (simp [*]; done)),H',⟨Nat.le_refl _⟩,by repeat (first | exact Drawn0.refl _ | apply Drawn0.step)⟩
  case round =>
   clear H'
   try clear c1
   try clear p2
   try clear c3
   try clear c3b0
   try clear c3b1
   try clear c3b2
   obtain ⟨x5_1,rfl,HA,HK1,⟨m1,rfl⟩⟩ := hrel
   cases gk with
   | zero => exact absurd HA.out (by simp [halberdlaw0_SameIdentitys.l0])
   | succ k1 =>
    have H := HA.out
    clear HA
    simp only [halberdlaw0_SameIdentitys.l0] at H
    by_cases c4 : x5_1 < (l0.length : Int)
    ·rw [if_pos c4] at H
     have c4b0 : decide (x5_1 < (l0.length : Int)) = true := decide_eq_true c4
     clear c4
     by_cases c5 : 0 ≤ x5_1
     ·rw [if_pos c5] at H
      have c5b0 : decide (0 ≤ x5_1) = true := decide_eq_true c5
      clear c5
      by_cases c6 : x5_1 < (l1.length : Int)
      ·rw [if_pos c6] at H
       have c6b0 : decide (x5_1 < (l1.length : Int)) = true := decide_eq_true c6
       clear c6
       by_cases c7 : (!((((rd_T111 l0 x5_1).f0).toList) == (((rd_T111 l1 x5_1).f0).toList)) || (!(((rd_T111 l0 x5_1).f1) == ((rd_T111 l1 x5_1).f1)))) = true
       ·rw [if_pos c7] at H
        have c7b0 : (!((((rd_T111 l0 x5_1).f0).toList) == (((rd_T111 l1 x5_1).f0).toList)) || (!(((rd_T111 l0 x5_1).f1) == ((rd_T111 l1 x5_1).f1)))) = true := c7
        clear c7
        obtain rfl := Option.some.inj H
        have p245 : 0 ≤ (x5_1 : Int) := of_decide_eq_true (by first | (with_reducible assumption) | assumption)
        have q245 : x5_1 < (l0.length : Int) := of_decide_eq_true (by first | (with_reducible assumption) | assumption)
        obtain ⟨ad245,e245,hx245_0,hx245_1⟩ := at_T111 HR0.out x5_1 p245 q245
        cases e245
        replace p245 := eq_true p245
        replace q245 := eq_true q245
        have p246 : 0 ≤ (x5_1 : Int) := of_decide_eq_true (by first | (with_reducible assumption) | assumption)
        have q246 : x5_1 < (l1.length : Int) := of_decide_eq_true (by first | (with_reducible assumption) | assumption)
        obtain ⟨ad246,e246,hx246_0,hx246_1⟩ := at_T111 HR1.out x5_1 p246 q246
        cases e246
        replace p246 := eq_true p246
        replace q246 := eq_true q246
        go_wp2
        repeat (go_quiet (fail); try go_wp2)
        go_ret
        exact ⟨by first | rfl | (simp; done) | (simp [*]; done),by repeat (first | exact Drawn0.refl _ | apply Drawn0.step)⟩
       ·rw [if_neg c7] at H
        have c7b0 : (!((((rd_T111 l0 x5_1).f0).toList) == (((rd_T111 l1 x5_1).f0).toList)) || (!(((rd_T111 l0 x5_1).f1) == ((rd_T111 l1 x5_1).f1)))) = false := by simpa using c7
        clear c7
        have H' := Aq.mk H
        clear H
        have p245 : 0 ≤ (x5_1 : Int) := of_decide_eq_true (by first | (with_reducible assumption) | assumption)
        have q245 : x5_1 < (l0.length : Int) := of_decide_eq_true (by first | (with_reducible assumption) | assumption)
        obtain ⟨ad245,e245,hx245_0,hx245_1⟩ := at_T111 HR0.out x5_1 p245 q245
        cases e245
        replace p245 := eq_true p245
        replace q245 := eq_true q245
        have p246 : 0 ≤ (x5_1 : Int) := of_decide_eq_true (by first | (with_reducible assumption) | assumption)
        have q246 : x5_1 < (l1.length : Int) := of_decide_eq_true (by first | (with_reducible assumption) | assumption)
        obtain ⟨ad246,e246,hx246_0,hx246_1⟩ := at_T111 HR1.out x5_1 p246 q246
        cases e246
        replace p246 := eq_true p246
        replace q246 := eq_true q246
        go_wp2
        repeat (go_quiet (fail); try go_wp2)
        go_roundg k1
        case measure => have := HK1.out; omega
        case rel => exact ⟨(wrap64 (x5_1 + 1)),(by first | rfl | (simp; done) | (simp [*]; done)),H',⟨by have := HK1.out; omega⟩,by repeat (first | exact Drawn0.refl _ | apply Drawn0.step)⟩
      ·rw [if_neg c6] at H
       exact absurd H (by simp)
     ·rw [if_neg c5] at H
      exact absurd H (by simp)
    ·rw [if_neg c4] at H
     have c4b0 : decide (x5_1 < (l0.length : Int)) = false := decide_eq_false c4
     clear c4
     obtain rfl := Option.some.inj H
     go_wp2
     repeat (go_quiet (fail); try go_wp2)
     go_ret
     exact ⟨by first | rfl | (simp; done) | (simp [*]; done),by repeat (first | exact Drawn0.refl _ | apply Drawn0.step)⟩
 ·rw [if_neg c3] at H
  have c3b0 : ((l0.length : Int) == (l1.length : Int)) = false := beq_eq_false_iff_ne.mpr c3
  have c3b1 : ((l0.length : Int) != (l1.length : Int)) = true := bne_iff_ne.mpr c3
  have c3b2 : (l0.length == l1.length) = false := by first | simpa using c3 | (simp at c3 ⊢; omega)
  obtain rfl := Option.some.inj H
  go_enter Try.func52,Try.ntmps52
  go_wp2
  repeat (go_quiet (fail); try go_wp2)
  go_ret
  exact ⟨by first | rfl | (simp; done) | (simp [*]; done),by repeat (first | exact Drawn0.refl _ | apply Drawn0.step)⟩
def halberdlaw0_SameTexts.l0 : Nat → List ByteArray → List ByteArray → Int → Option (Bool)
 | 0,_,_,_ => none
 | k + 1,x0,x1,x5 => if x5 < (x0.length : Int) then (if 0 ≤ x5 then (if x5 < (x1.length : Int) then (if (rdOf ByteArray.empty x0 x5).toList = (rdOf ByteArray.empty x1 x5).toList then (halberdlaw0_SameTexts.l0 k x0 x1 (wrap64 (x5 + 1))) else (some false)) else (none)) else (none)) else (some true)
def halberdlaw0_SameTexts.f (k : Nat) (l0 : List ByteArray) (l1 : List ByteArray) : Option (Bool) := if (l0.length : Int) = (l1.length : Int) then (halberdlaw0_SameTexts.l0 k l0 l1 0) else (some false)
theorem halberdlaw0_SameTexts.mono_l : ∀ k,(∀ y0 y1 y2,LeO (halberdlaw0_SameTexts.l0 k y0 y1 y2) (halberdlaw0_SameTexts.l0 (k + 1) y0 y1 y2))
 | 0 => fun _ _ _ r h => by simp [halberdlaw0_SameTexts.l0] at h
 | k + 1 => by
  have ih0 := halberdlaw0_SameTexts.mono_l k
  ·intro y0 y1 y2
   unfold halberdlaw0_SameTexts.l0
   repeat' first
   | (with_reducible exact ih0 _ _ _)
   | (with_reducible exact LeO.refl _)
   | (with_reducible exact LeO.none _)
   | (with_reducible refine LeO.ite ?_ ?_)
   | (with_reducible refine LeO.bind ?_ (fun _ => ?_))
   | exact ih0 _ _ _
   | exact LeO.none _
   | refine LeO.ite ?_ ?_
   | refine LeO.bind ?_ (fun _ => ?_)
theorem halberdlaw0_SameTexts.mono : ∀ a0 a1 k,LeO (halberdlaw0_SameTexts.f k a0 a1) (halberdlaw0_SameTexts.f (k + 1) a0 a1) := by
 intro a0 a1 k
 have ih0 := halberdlaw0_SameTexts.mono_l k
 unfold halberdlaw0_SameTexts.f
 repeat' first
   | (with_reducible exact ih0 _ _ _)
   | (with_reducible exact LeO.refl _)
   | (with_reducible exact LeO.none _)
   | (with_reducible refine LeO.ite ?_ ?_)
   | (with_reducible refine LeO.bind ?_ (fun _ => ?_))
   | exact ih0 _ _ _
   | exact LeO.none _
   | refine LeO.ite ?_ ?_
   | refine LeO.bind ?_ (fun _ => ?_)
set_option maxHeartbeats 8000000 in
set_option maxRecDepth 100000 in
theorem halberdlaw0_SameTexts.calls (k : Nat) (A0 : Option Addr) (c0 : Nat) (l0 : List ByteArray) (A1 : Option Addr) (c1 : Nat) (l1 : List ByteArray) (r : Bool) (w : World) (hr0 : Kd.C Kd.string w A0 l0.length l0) (hc0 : l0.length ≤ c0) (hr1 : Kd.C Kd.string w A1 l1.length l1) (hc1 : l1.length ≤ c1) (h : halberdlaw0_SameTexts.f k l0 l1 = some r) :
  Calls Try.prog 53 #[.slice A0 l0.length c0,.slice A1 l1.length c1] w fun e w' => e = .returned (.bool r) ∧ Drawn0 w w' := by
 have HR0 := Aq.mk hr0
 have HC0 := Aq.mk hc0
 clear hr0 hc0
 have HR1 := Aq.mk hr1
 have HC1 := Aq.mk hc1
 clear hr1 hc1
 have H : (if (l0.length : Int) = (l1.length : Int) then (halberdlaw0_SameTexts.l0 k l0 l1 0) else (some false)) = some r := h
 clear h
 by_cases c3 : (l0.length : Int) = (l1.length : Int)
 ·rw [if_pos c3] at H
  have c3b0 : ((l0.length : Int) == (l1.length : Int)) = true := beq_iff_eq.mpr c3
  have c3b1 : ((l0.length : Int) != (l1.length : Int)) = false := bne_eq_false_iff_eq.mpr c3
  have c3b2 : (l0.length == l1.length) = true := by first | simpa using c3 | (simp at c3 ⊢; omega)
  clear c3
  have H' := Aq.mk H
  clear H
  go_enter Try.func53,Try.ntmps53
  go_wp2
  repeat (go_quiet (fail); try go_wp2)
  go_loopg [5] k (fun kq v5 w' => ∃ (x5_1 : Int),v5 = .int .i64 x5_1 ∧ Aq (halberdlaw0_SameTexts.l0 kq l0 l1 x5_1 = some r) ∧ Aq (kq ≤ k) ∧ Drawn0 w w')
  case atStart => exact ⟨(0),(by first | rfl | (simp; done) | (simp [*]; done)),H',⟨Nat.le_refl _⟩,by repeat (first | exact Drawn0.refl _ | apply Drawn0.step)⟩
  case round =>
   clear H'
   try clear c1
   try clear p2
   try clear c3
   try clear c3b0
   try clear c3b1
   try clear c3b2
   obtain ⟨x5_1,rfl,HA,HK1,⟨m1,rfl⟩⟩ := hrel
   cases gk with
   | zero => exact absurd HA.out (by simp [halberdlaw0_SameTexts.l0])
   | succ k1 =>
    have H := HA.out
    clear HA
    simp only [halberdlaw0_SameTexts.l0] at H
    by_cases c4 : x5_1 < (l0.length : Int)
    ·rw [if_pos c4] at H
     have c4b0 : decide (x5_1 < (l0.length : Int)) = true := decide_eq_true c4
     clear c4
     by_cases c5 : 0 ≤ x5_1
     ·rw [if_pos c5] at H
      have c5b0 : decide (0 ≤ x5_1) = true := decide_eq_true c5
      clear c5
      by_cases c6 : x5_1 < (l1.length : Int)
      ·rw [if_pos c6] at H
       have c6b0 : decide (x5_1 < (l1.length : Int)) = true := decide_eq_true c6
       clear c6
       by_cases c7 : (rdOf ByteArray.empty l0 x5_1).toList = (rdOf ByteArray.empty l1 x5_1).toList
       ·rw [if_pos c7] at H
        have c7b0 : ((rdOf ByteArray.empty l0 x5_1).toList == (rdOf ByteArray.empty l1 x5_1).toList) = true := beq_iff_eq.mpr c7
        have c7b1 : ((rdOf ByteArray.empty l0 x5_1).toList != (rdOf ByteArray.empty l1 x5_1).toList) = false := bne_eq_false_iff_eq.mpr c7
        clear c7
        have H' := Aq.mk H
        clear H
        have p247 : 0 ≤ (x5_1 : Int) := of_decide_eq_true (by first | (with_reducible assumption) | assumption)
        have q247 : x5_1 < (l0.length : Int) := of_decide_eq_true (by first | (with_reducible assumption) | assumption)
        obtain ⟨ad247,e247,hx247_0⟩ := Kd.at_string HR0.out x5_1 p247 q247
        cases e247
        replace p247 := eq_true p247
        replace q247 := eq_true q247
        have p248 : 0 ≤ (x5_1 : Int) := of_decide_eq_true (by first | (with_reducible assumption) | assumption)
        have q248 : x5_1 < (l1.length : Int) := of_decide_eq_true (by first | (with_reducible assumption) | assumption)
        obtain ⟨ad248,e248,hx248_0⟩ := Kd.at_string HR1.out x5_1 p248 q248
        cases e248
        replace p248 := eq_true p248
        replace q248 := eq_true q248
        go_wp2
        repeat (go_quiet (fail); try go_wp2)
        go_roundg k1
        case measure => have := HK1.out; omega
        case rel => exact ⟨(wrap64 (x5_1 + 1)),(by first | rfl | (simp; done) | (simp [*]; done)),H',⟨by have := HK1.out; omega⟩,by repeat (first | exact Drawn0.refl _ | apply Drawn0.step)⟩
       ·rw [if_neg c7] at H
        have c7b0 : ((rdOf ByteArray.empty l0 x5_1).toList == (rdOf ByteArray.empty l1 x5_1).toList) = false := beq_eq_false_iff_ne.mpr c7
        have c7b1 : ((rdOf ByteArray.empty l0 x5_1).toList != (rdOf ByteArray.empty l1 x5_1).toList) = true := bne_iff_ne.mpr c7
        obtain rfl := Option.some.inj H
        have p247 : 0 ≤ (x5_1 : Int) := of_decide_eq_true (by first | (with_reducible assumption) | assumption)
        have q247 : x5_1 < (l0.length : Int) := of_decide_eq_true (by first | (with_reducible assumption) | assumption)
        obtain ⟨ad247,e247,hx247_0⟩ := Kd.at_string HR0.out x5_1 p247 q247
        cases e247
        replace p247 := eq_true p247
        replace q247 := eq_true q247
        have p248 : 0 ≤ (x5_1 : Int) := of_decide_eq_true (by first | (with_reducible assumption) | assumption)
        have q248 : x5_1 < (l1.length : Int) := of_decide_eq_true (by first | (with_reducible assumption) | assumption)
        obtain ⟨ad248,e248,hx248_0⟩ := Kd.at_string HR1.out x5_1 p248 q248
        cases e248
        replace p248 := eq_true p248
        replace q248 := eq_true q248
        go_wp2
        repeat (go_quiet (fail); try go_wp2)
        go_ret
        exact ⟨by first | rfl | (simp; done) | (simp [*]; done),by repeat (first | exact Drawn0.refl _ | apply Drawn0.step)⟩
      ·rw [if_neg c6] at H
       exact absurd H (by simp)
     ·rw [if_neg c5] at H
      exact absurd H (by simp)
    ·rw [if_neg c4] at H
     have c4b0 : decide (x5_1 < (l0.length : Int)) = false := decide_eq_false c4
     clear c4
     obtain rfl := Option.some.inj H
     go_wp2
     repeat (go_quiet (fail); try go_wp2)
     go_ret
     exact ⟨by first | rfl | (simp; done) | (simp [*]; done),by repeat (first | exact Drawn0.refl _ | apply Drawn0.step)⟩
 ·rw [if_neg c3] at H
  have c3b0 : ((l0.length : Int) == (l1.length : Int)) = false := beq_eq_false_iff_ne.mpr c3
  have c3b1 : ((l0.length : Int) != (l1.length : Int)) = true := bne_iff_ne.mpr c3
  have c3b2 : (l0.length == l1.length) = false := by first | simpa using c3 | (simp at c3 ⊢; omega)
  obtain rfl := Option.some.inj H
  go_enter Try.func53,Try.ntmps53
  go_wp2
  repeat (go_quiet (fail); try go_wp2)
  go_ret
  exact ⟨by first | rfl | (simp; done) | (simp [*]; done),by repeat (first | exact Drawn0.refl _ | apply Drawn0.step)⟩
end Go.Proofs.Ytlkebjkpmiehcaa.X
end
section
namespace Go.Proofs.Ytlkebjkpmiehcaa.Ms
open Go.RowKit Go.Proofs.YtlkebjkpmiehcaaW.PrintWords Go.Proofs.YtlkebjkpmiehcaaW.PrintLast Go.Proofs.YtlkebjkpmiehcaaW.PrintMore Go.Proofs.Ytlkebjkpmiehcaa.X
open Go.Proofs.Ytlkebjkpmiehcaa.Pure (beL beL_length strOf_size bytesOf_app bytesOf_strOf)
set_option linter.unusedVariables false
set_option linter.unusedSimpArgs false
theorem si_go (l : List Int) (hl : l.length < 9223372036854775807) : ∀ (n i : Nat),i + n = l.length → halberdlaw0_SameInts.l0 (n + 1) l l (i : Int) = some true
 | 0,i,h => by
  unfold halberdlaw0_SameInts.l0
  rw [if_neg (by omega)]
 | n + 1,i,h => by
  unfold halberdlaw0_SameInts.l0
  rw [if_pos (by omega),if_pos (by omega),if_pos (by omega),if_pos rfl]
  have e : wrap64 ((i : Int) + 1) = ((i + 1 : Nat) : Int) := by unfold wrap64; omega
  rw [e]
  exact si_go l hl n (i + 1) (by omega)
theorem si_self (l : List Int) (hl : l.length < 9223372036854775807) : halberdlaw0_SameInts.f (l.length + 1) l l = some true := by
 unfold halberdlaw0_SameInts.f
 rw [if_pos rfl]
 exact si_go l hl l.length 0 (by omega)
theorem ss_go (l : List S66) (hl : l.length < 9223372036854775807) : ∀ (n i : Nat),i + n = l.length → halberdlaw0_SameShares.l0 (n + 1) l l (i : Int) = some true
 | 0,i,h => by
  unfold halberdlaw0_SameShares.l0
  rw [if_neg (by omega)]
 | n + 1,i,h => by
  unfold halberdlaw0_SameShares.l0
  rw [if_pos (by omega),if_pos (by omega),if_pos (by omega),if_neg (by simp)]
  have e : wrap64 ((i : Int) + 1) = ((i + 1 : Nat) : Int) := by unfold wrap64; omega
  rw [e]
  exact ss_go l hl n (i + 1) (by omega)
theorem ss_self (l : List S66) (hl : l.length < 9223372036854775807) : halberdlaw0_SameShares.f (l.length + 1) l l = some true := by
 unfold halberdlaw0_SameShares.f
 rw [if_pos rfl]
 exact ss_go l hl l.length 0 (by omega)
end Go.Proofs.Ytlkebjkpmiehcaa.Ms
end
section
namespace Go.Proofs.Ytlkebjkpmiehcaa.Iv
open Go Go.RowKit Go.Proofs.YtlkebjkpmiehcaaW.PrintWords
set_option linter.unusedVariables false
section
variable {P : Program} {ops : Array Oper} {Q : Exit → Act → World → Prop}
def dstOf (ops : Array Oper) (i : Nat) : Option Tmp := (ops[i]?).bind (·.dst)
def distinctB (ops : Array Oper) : Bool := (List.range ops.size).all fun i => (List.range ops.size).all fun j => i == j || (dstOf ops i).isNone || dstOf ops i != dstOf ops j
def backB (ops : Array Oper) : Bool := (List.range ops.size).all fun i => match ops[i]? with
 | some o => o.guard.isNone && o.after.all fun e => !Region.binds .any e || decide (e.on < i)
 | none => true
def fitsB (ops : Array Oper) (n : Nat) : Bool := (List.range ops.size).all fun i => match dstOf ops i with
 | some d => decide (d < n)
 | none => true
def needs (ops : Array Oper) (i j : Nat) : Bool := match ops[i]? with
 | some o => o.after.any fun e => Region.binds .any e && e.on == j
 | none => false
structure RInv (ops : Array Oper) (p : Nat → Value → World → Prop) (a0 : Act) (w0 : World) (listed : Array Bool) (a : Act) (w : World) : Prop where
 sz : listed.size = ops.size
 df : a.defers = a0.defers
 ts : a.tmps.size = a0.tmps.size
 below : Below w0.heap.size w0 w
 vals : ∃ vals : Nat → Value,∀ j,j < ops.size → listed.getD j false = true → p j (vals j) w ∧ ∀ d,dstOf ops j = some d → a.tmps[d]? = some (vals j)
 free : ∀ t,(∀ j,j < ops.size → dstOf ops j ≠ some t) → a.tmps[t]? = a0.tmps[t]?
def Ob (P : Program) (ops : Array Oper) (Q : Exit → Act → World → Prop) (p : Nat → Value → World → Prop) (a0 : Act) (w0 : World) (i : Nat) : Prop :=
 ∀ oi,ops[i]? = some oi → ∀ (a : Act) (w : World) (vals : Nat → Value),Below w0.heap.size w0 w →
  (∀ j,needs ops i j = true → p j (vals j) w ∧ ∀ d,dstOf ops j = some d → a.tmps[d]? = some (vals j)) →
  (∀ t,(∀ j,j < ops.size → dstOf ops j ≠ some t) → a.tmps[t]? = a0.tmps[t]?) →
  ∀ K : Act → World → Prop,(∀ v w',p i v w' → Below w.heap.size w w' → K (a.put oi.dst v) w') → oi.wp P a w K Q
theorem put_get {a : Act} {d t : Nat} {v : Value} : (a.put (some d) v).tmps[t]? = if d = t then (if d < a.tmps.size then some v else none) else a.tmps[t]? := by
 show (a.tmps.setIfInBounds d v)[t]? = _
 by_cases h : d = t
 ·subst h
  rw [if_pos rfl,Array.getElem?_setIfInBounds_self]
 ·rw [if_neg h,Array.getElem?_setIfInBounds_ne h]
theorem RInv.step {p : Nat → Value → World → Prop} {a0 : Act} {w0 : World} {listed : Array Bool} {a : Act} {w : World} {i : Nat}
  (hd : distinctB ops = true) (hb : backB ops = true) (hf : fitsB ops a0.tmps.size = true)
  (hs : ∀ i v w w',p i v w → Below w.heap.size w w' → p i v w') (ob : Ob P ops Q p a0 w0 i)
  (h : RInv ops p a0 w0 listed a w) (hi : i ∈ Region.ready .any ops listed) : wpOp P ops Q i (fun a' w' => RInv ops p a0 w0 (listed.setIfInBounds i true) a' w') a w := by
 obtain ⟨hun,oi,hoi,hall⟩ := mem_ready.1 hi
 have hlt : i < ops.size := (Array.getElem?_eq_some_iff.1 hoi).1
 obtain ⟨vals,hv⟩ := h.vals
 have hg : oi.guard = none := by
  have := List.all_eq_true.1 hb i (List.mem_range.2 hlt)
  simp only [hoi,Bool.and_eq_true,Option.isNone_iff_eq_none] at this
  exact this.1
 unfold wpOp
 rw [hoi]
 show if Region.wanted oi (yielded ops a.tmps) = true then _ else _
 rw [if_pos (by unfold Region.wanted; rw [hg])]
 refine .inl (ob oi hoi a w vals h.below ?_ h.free _ ?_)
 ·intro j hj
  unfold needs at hj
  rw [hoi] at hj
  obtain ⟨e,he,h1⟩ := Array.any_eq_true'.1 hj
  simp only [Bool.and_eq_true,beq_iff_eq] at h1
  have hl := hall e he h1.1
  rw [h1.2] at hl
  have hjl : j < ops.size := by
   rcases Nat.lt_or_ge j listed.size with h' | h'
   ·rw [← h.sz]; exact h'
   ·simp [Array.getElem?_eq_none h'] at hl
  exact hv j hjl hl
 ·intro v w' hp hbl
  have hds : dstOf ops i = oi.dst := by unfold dstOf; rw [hoi]; rfl
  have hne : ∀ j d,j < ops.size → j ≠ i → oi.dst = some d → dstOf ops j ≠ some d := by
   intro j d hj hji hdd e
   have h1 := List.all_eq_true.1 (List.all_eq_true.1 hd i (List.mem_range.2 hlt)) j (List.mem_range.2 hj)
   rw [hds,hdd,e] at h1
   simp only [Bool.or_eq_true,beq_iff_eq,Option.isNone_some,bne_self_eq_false,or_false,Bool.false_eq_true] at h1
   exact hji h1.symm
  have hfit : ∀ d,oi.dst = some d → d < a.tmps.size := by
   intro d hdd
   have h1 := List.all_eq_true.1 hf i (List.mem_range.2 hlt)
   rw [hds,hdd] at h1
   rw [h.ts]
   exact of_decide_eq_true h1
  refine ⟨by rw [Array.size_setIfInBounds]; exact h.sz,?_,?_,h.below.trans (hbl.mono h.below.size),⟨fun j => if j = i then v else vals j,?_⟩,?_⟩
  ·cases hdd : oi.dst with
   | none => exact h.df
   | some d => exact h.df
  ·cases hdd : oi.dst with
   | none => exact h.ts
   | some d => show (a.tmps.setIfInBounds d v).size = _; rw [Array.size_setIfInBounds]; exact h.ts
  ·intro j hj hl
   by_cases hji : j = i
   ·subst hji
    dsimp only
    rw [if_pos rfl]
    refine ⟨hp,fun d hdd => ?_⟩
    rw [hds] at hdd
    rw [hdd,put_get,if_pos rfl,if_pos (hfit d hdd)]
   ·dsimp only
    rw [if_neg hji]
    rw [getD_set_ne false (fun e => hji e.symm)] at hl
    obtain ⟨h1,h2⟩ := hv j hj hl
    refine ⟨hs _ _ _ _ h1 hbl,fun d hdd => ?_⟩
    cases hdi : oi.dst with
    | none => exact h2 d hdd
    | some d' =>
     rw [put_get,if_neg (fun e => hne j d' hj hji hdi (by rw [e]; exact hdd))]
     exact h2 d hdd
  ·intro t ht
   cases hdi : oi.dst with
   | none => exact h.free t ht
   | some d' =>
    rw [put_get,if_neg (fun e => ht i hlt (by rw [hds,hdi,e]))]
    exact h.free t ht
def setT (ops : Array Oper) (vals : Nat → Value) (t : Array Value) (i : Nat) : Array Value := match dstOf ops i with
 | some d => t.setIfInBounds d (vals i)
 | none => t
end
end Go.Proofs.Ytlkebjkpmiehcaa.Iv
end
section
namespace Go.Proofs.Ytlkebjkpmiehcaa.Ms
open Go.RowKit Go.Proofs.YtlkebjkpmiehcaaW.PrintWords Go.Proofs.YtlkebjkpmiehcaaW.PrintLast Go.Proofs.YtlkebjkpmiehcaaW.PrintMore Go.Proofs.Ytlkebjkpmiehcaa.X Go.Proofs.Ytlkebjkpmiehcaa.Iv
set_option linter.unusedVariables false
set_option linter.unusedSimpArgs false
theorem ob_cat {oi : Oper} {a : Act} {w : World} {x y : Operand} {s t : ByteArray} (ho : oi.op = .binOp .add 9 x y 9) (hx : a.eval x = .string s) (hy : a.eval y = .string t) (hz : s.size + t.size ≤ 9223372036854775807) : (execOp a.eval oi).run Try.prog w = .ok (.value (.string (s ++ t))) w := by
 have c1 := eq_true hz
 have c2 : (9223372036854775807 < s.size + t.size) = False := eq_false (Nat.not_lt.2 hz)
 unfold execOp
 simp only [ho,hx,hy]
 first | (go_simp; done) | (go_simp; rfl)
section
variable {ops : Array Oper} {rest : List Oper} {o : Oper} {a : Act} {Q : Exit → Act → World → Prop} {w : World}
theorem catV (s t u : ByteArray) (hu : s ++ t = u) (hz : s.size + t.size ≤ 9223372036854775807) {x y : Operand} (hgd : o.guard = none) (ho : o.op = .binOp .add 9 x y 9) (hx : a.eval x = .string s) (hy : a.eval y = .string t)
  (H : wpList Try.prog ops Q rest (a.put o.dst (.string u)) w) : wpList Try.prog ops Q (o :: rest) a w := by
 rw [← hu] at H
 exact Kd.event_run hgd (ob_cat ho hx hy hz) H
theorem eqS {oi : Oper} {a : Act} {w : World} {x y : Operand} {s : ByteArray} (ho : oi.op = .binOp .eql 9 x y 9) (hx : a.eval x = .string s) (hy : a.eval y = .string s) : (execOp a.eval oi).run Try.prog w = .ok (.value (.bool true)) w := by
 unfold execOp
 simp only [ho,hx,hy]
 go_simp
end
end Go.Proofs.Ytlkebjkpmiehcaa.Ms
end
section
namespace Go.Proofs.YtlkebjkpmiehcaaW.PrintWords
open Go.RowKit
set_option linter.unusedVariables false
def strip (o : Oper) : Oper := { o with after := #[],pos := "" }
section
variable {P : Program} {ops : Array Oper} {rest : List Oper} {o : Oper} {a : Act} {Q : Exit → Act → World → Prop} {w : World}
theorem yielded_strip (ops : Array Oper) (tmps : Array Value) : yielded (ops.map strip) tmps = yielded ops tmps := by
 funext j
 unfold yielded
 rw [Array.getElem?_map]
 cases ops[j]? <;> rfl
theorem wpList_strip_eq : ∀ rest : List Oper,wpList P (ops.map strip) Q (rest.map strip) = wpList P ops Q rest
 | [] => rfl
 | o :: rest => by
  funext a w
  rw [List.map_cons,wpList,wpList,yielded_strip,wpList_strip_eq rest]
  rfl
theorem wpList_strip (rest : List Oper) (a : Act) (w : World) (h : wpList P (ops.map strip) Q (rest.map strip) a w) : wpList P ops Q rest a w := by
 rw [wpList_strip_eq] at h
 exact h
end
end Go.Proofs.YtlkebjkpmiehcaaW.PrintWords
end
section
namespace Go.Proofs.Ytlkebjkpmiehcaa.Ms
open Go.RowKit Go.Proofs.YtlkebjkpmiehcaaW.PrintWords Go.Proofs.YtlkebjkpmiehcaaW.PrintLast Go.Proofs.YtlkebjkpmiehcaaW.PrintMore Go.Proofs.Ytlkebjkpmiehcaa.X Go.Proofs.Ytlkebjkpmiehcaa.Iv
set_option linter.unusedVariables false
set_option linter.unusedSimpArgs false
theorem stopHere {q : Prop} (h : q ∧ True) : q := h.1
theorem sd_go (l : List S111) (hl : l.length < 9223372036854775807) : ∀ (n i : Nat),i + n = l.length → halberdlaw0_SameIdentitys.l0 (n + 1) l l (i : Int) = some true
 | 0,i,h => by
  unfold halberdlaw0_SameIdentitys.l0
  rw [if_neg (by omega)]
 | n + 1,i,h => by
  unfold halberdlaw0_SameIdentitys.l0
  rw [if_pos (by omega),if_pos (by omega),if_pos (by omega),if_neg (by simp)]
  have e : wrap64 ((i : Int) + 1) = ((i + 1 : Nat) : Int) := by unfold wrap64; omega
  rw [e]
  exact sd_go l hl n (i + 1) (by omega)
theorem sd_self (l : List S111) (hl : l.length < 9223372036854775807) : halberdlaw0_SameIdentitys.f (l.length + 1) l l = some true := by
 unfold halberdlaw0_SameIdentitys.f
 rw [if_pos rfl]
 exact sd_go l hl l.length 0 (by omega)
theorem st_go (l : List ByteArray) (hl : l.length < 9223372036854775807) : ∀ (n i : Nat),i + n = l.length → halberdlaw0_SameTexts.l0 (n + 1) l l (i : Int) = some true
 | 0,i,h => by
  unfold halberdlaw0_SameTexts.l0
  rw [if_neg (by omega)]
 | n + 1,i,h => by
  unfold halberdlaw0_SameTexts.l0
  have e : wrap64 ((i : Int) + 1) = ((i + 1 : Nat) : Int) := by unfold wrap64; omega
  rw [if_pos (by omega),if_pos (by omega),if_pos (by omega)]
  simp
  rw [e]
  exact st_go l hl n (i + 1) (by omega)
theorem st_self (l : List ByteArray) (hl : l.length < 9223372036854775807) : halberdlaw0_SameTexts.f (l.length + 1) l l = some true := by
 unfold halberdlaw0_SameTexts.f
 rw [if_pos rfl]
 exact st_go l hl l.length 0 (by omega)
structure ML (m : Mv) : Prop where
 b3 : m.f3.length < 9223372036854775807
 b5 : m.f5.length < 9223372036854775807
 b6 : m.f6.length < 9223372036854775807
 b7 : m.f7.length < 9223372036854775807
 b8 : m.f8.length < 9223372036854775807
 b9 : m.f9.length < 9223372036854775807
 b10 : m.f10.length < 9223372036854775807
 b11 : m.f11.length < 9223372036854775807
 b13 : m.f13.length < 9223372036854775807
 b14 : m.f14.length < 9223372036854775807
set_option maxRecDepth 100000 in
set_option maxHeartbeats 8000000 in
theorem same_c (m : Mv) (ha hc : Hd) (w : World) (ra : Reads w m ha) (rc : Reads w m hc) (hl : ML m) : Calls Try.prog 25 #[.agg (cells m ha),.agg (cells m hc)] w fun ex w' => ex = .returned (.bool true) ∧ Below w.heap.size w w' := by
 have HB := Aq.mk (Below.refl w.heap.size w)
 have HA := Aq.mk ra
 have HC := Aq.mk rc
 have HL := Aq.mk hl
 clear ra rc hl
 go_enter Try.func25,Try.ntmps25
 simp only [List.append_eq,List.cons_append,List.nil_append]
 go_wp2_with (first
  | ((with_reducible refine gate_dst (N := 2) rfl ?_); refine box49 rfl rfl rfl ?_; intro g2 e1 w1 h1 b1; have HX := Aq.mk h1; have n1_ := Aq.mk (Reads.below HA.out b1); clear HA; have HA := n1_; clear n1_; have n1_ := Aq.mk (Reads.below HC.out b1); clear HC; have HC := n1_; clear n1_; have n0_ := Aq.mk (below_step HB.out b1); clear HB; have HB := n0_; clear n0_ h1 b1 e1)
  | ((with_reducible refine gate_dst (N := 3) rfl ?_); refine box49 rfl rfl rfl ?_; intro g3 e1 w1 h1 b1; have HY := Aq.mk h1; have n0_ := Aq.mk (below_step HB.out b1); clear HB; have HB := n0_; clear n0_; have n1_ := Aq.mk ((b1.block g2 (blk_lt HX.out)).trans HX.out); clear HX; have HX := n1_; clear n1_; have n1_ := Aq.mk (Reads.below HA.out b1); clear HA; have HA := n1_; clear n1_; have n1_ := Aq.mk (Reads.below HC.out b1); clear HC; have HC := n1_; clear n1_; clear h1 b1 e1)
  | ((with_reducible refine gate_dst (N := 6) rfl ?_); refine stopHere ?_))
 refine ⟨?_,trivial⟩
 refine wpList_strip _ _ _ ?_
 simp only [strip,List.append_eq,List.cons_append,List.nil_append,List.map_toArray,List.map_cons,List.map_nil,List.append]
 go_wp2_with (first
  | ((with_reducible refine gate_dst (N := 6) rfl ?_); (try (refine gate_guard (by rfl) ?_; dsimp only)); refine ld (v := .int .i64 m.f0) rfl rfl rfl HX.out Try.underlying3 rfl rfl ?_)
  | ((with_reducible refine gate_dst (N := 8) rfl ?_); (try (refine gate_guard (by rfl) ?_; dsimp only)); refine ld (v := .int .i64 m.f0) rfl rfl rfl HY.out Try.underlying3 rfl rfl ?_)
  | ((with_reducible refine gate_dst (N := 12) rfl ?_); (try (refine gate_guard (by rfl) ?_; dsimp only)); refine ld (v := .string m.f1) rfl rfl rfl HX.out Try.underlying9 rfl rfl ?_)
  | ((with_reducible refine gate_dst (N := 14) rfl ?_); (try (refine gate_guard (by rfl) ?_; dsimp only)); refine ld (v := .string m.f1) rfl rfl rfl HY.out Try.underlying9 rfl rfl ?_)
  | ((with_reducible refine gate_dst (N := 15) rfl ?_); (try (refine gate_guard (by rfl) ?_; dsimp only)); refine Kd.event_run rfl (eqS rfl rfl rfl) ?_)
  | ((with_reducible refine gate_dst (N := 19) rfl ?_); (try (refine gate_guard (by rfl) ?_; dsimp only)); refine ld (v := .string m.f2) rfl rfl rfl HX.out Try.underlying9 rfl rfl ?_)
  | ((with_reducible refine gate_dst (N := 21) rfl ?_); (try (refine gate_guard (by rfl) ?_; dsimp only)); refine ld (v := .string m.f2) rfl rfl rfl HY.out Try.underlying9 rfl rfl ?_)
  | ((with_reducible refine gate_dst (N := 22) rfl ?_); (try (refine gate_guard (by rfl) ?_; dsimp only)); refine Kd.event_run rfl (eqS rfl rfl rfl) ?_)
  | ((with_reducible refine gate_dst (N := 26) rfl ?_); refine stopHere ?_))
 refine ⟨?_,trivial⟩
 go_wp2_with (first
  | ((with_reducible refine gate_dst (N := 26) rfl ?_); (try (refine gate_guard (by rfl) ?_; dsimp only)); refine ld (v := .slice ha.A3 m.f3.length ha.c3) rfl rfl rfl HX.out Try.underlying44 rfl rfl ?_)
  | ((with_reducible refine gate_dst (N := 28) rfl ?_); (try (refine gate_guard (by rfl) ?_; dsimp only)); refine ld (v := .slice hc.A3 m.f3.length hc.c3) rfl rfl rfl HY.out Try.underlying44 rfl rfl ?_)
  | ((with_reducible refine gate_callee (f := 31) rfl ?_); (try (refine gate_guard (by rfl) ?_; dsimp only)); refine goesL_ (some 29) rfl rfl Try.func31 (by kernel_rfl) rfl #[.slice ha.A3 m.f3.length ha.c3,.slice hc.A3 m.f3.length hc.c3] rfl (by (try simp only [List.map_toArray,List.map_cons,List.map_nil]); first | done | rfl) ?_; (with_reducible refine (halberdlaw0_SameInts.calls (m.f3.length + 1) ha.A3 ha.c3 m.f3 hc.A3 hc.c3 m.f3 true _ HA.out.r3 HA.out.l3 HC.out.r3 HC.out.l3 (si_self m.f3 HL.out.b3)).mono ?_); rintro e_ w_ ⟨rfl,d_⟩; refine ⟨_,rfl,?_⟩; have n0_ := Aq.mk (below_step HB.out d_.below); clear HB; have HB := n0_; clear n0_; have n1_ := Aq.mk ((d_.below.block g2 (blk_lt HX.out)).trans HX.out); clear HX; have HX := n1_; clear n1_; have n1_ := Aq.mk ((d_.below.block g3 (blk_lt HY.out)).trans HY.out); clear HY; have HY := n1_; clear n1_; have n1_ := Aq.mk (Reads.below HA.out d_.below); clear HA; have HA := n1_; clear n1_; have n1_ := Aq.mk (Reads.below HC.out d_.below); clear HC; have HC := n1_; clear n1_; clear d_)
  | ((with_reducible refine gate_dst (N := 33) rfl ?_); (try (refine gate_guard (by rfl) ?_; dsimp only)); refine ld (v := .string m.f4) rfl rfl rfl HX.out Try.underlying9 rfl rfl ?_)
  | ((with_reducible refine gate_dst (N := 35) rfl ?_); (try (refine gate_guard (by rfl) ?_; dsimp only)); refine ld (v := .string m.f4) rfl rfl rfl HY.out Try.underlying9 rfl rfl ?_)
  | ((with_reducible refine gate_dst (N := 36) rfl ?_); (try (refine gate_guard (by rfl) ?_; dsimp only)); refine Kd.event_run rfl (eqS rfl rfl rfl) ?_)
  | ((with_reducible refine gate_dst (N := 40) rfl ?_); (try (refine gate_guard (by rfl) ?_; dsimp only)); refine ld (v := .slice ha.A5 m.f5.length ha.c5) rfl rfl rfl HX.out Try.underlying44 rfl rfl ?_)
  | ((with_reducible refine gate_dst (N := 42) rfl ?_); (try (refine gate_guard (by rfl) ?_; dsimp only)); refine ld (v := .slice hc.A5 m.f5.length hc.c5) rfl rfl rfl HY.out Try.underlying44 rfl rfl ?_)
  | ((with_reducible refine gate_callee (f := 31) rfl ?_); (try (refine gate_guard (by rfl) ?_; dsimp only)); refine goesL_ (some 43) rfl rfl Try.func31 (by kernel_rfl) rfl #[.slice ha.A5 m.f5.length ha.c5,.slice hc.A5 m.f5.length hc.c5] rfl (by (try simp only [List.map_toArray,List.map_cons,List.map_nil]); first | done | rfl) ?_; (with_reducible refine (halberdlaw0_SameInts.calls (m.f5.length + 1) ha.A5 ha.c5 m.f5 hc.A5 hc.c5 m.f5 true _ HA.out.r5 HA.out.l5 HC.out.r5 HC.out.l5 (si_self m.f5 HL.out.b5)).mono ?_); rintro e_ w_ ⟨rfl,d_⟩; refine ⟨_,rfl,?_⟩; have n0_ := Aq.mk (below_step HB.out d_.below); clear HB; have HB := n0_; clear n0_; have n1_ := Aq.mk ((d_.below.block g2 (blk_lt HX.out)).trans HX.out); clear HX; have HX := n1_; clear n1_; have n1_ := Aq.mk ((d_.below.block g3 (blk_lt HY.out)).trans HY.out); clear HY; have HY := n1_; clear n1_; have n1_ := Aq.mk (Reads.below HA.out d_.below); clear HA; have HA := n1_; clear n1_; have n1_ := Aq.mk (Reads.below HC.out d_.below); clear HC; have HC := n1_; clear n1_; clear d_)
  | ((with_reducible refine gate_dst (N := 47) rfl ?_); refine stopHere ?_))
 refine ⟨?_,trivial⟩
 go_wp2_with (first
  | ((with_reducible refine gate_dst (N := 47) rfl ?_); (try (refine gate_guard (by rfl) ?_; dsimp only)); refine ld (v := .slice ha.A6 m.f6.length ha.c6) rfl rfl rfl HX.out Try.underlying44 rfl rfl ?_)
  | ((with_reducible refine gate_dst (N := 49) rfl ?_); (try (refine gate_guard (by rfl) ?_; dsimp only)); refine ld (v := .slice hc.A6 m.f6.length hc.c6) rfl rfl rfl HY.out Try.underlying44 rfl rfl ?_)
  | ((with_reducible refine gate_callee (f := 31) rfl ?_); (try (refine gate_guard (by rfl) ?_; dsimp only)); refine goesL_ (some 50) rfl rfl Try.func31 (by kernel_rfl) rfl #[.slice ha.A6 m.f6.length ha.c6,.slice hc.A6 m.f6.length hc.c6] rfl (by (try simp only [List.map_toArray,List.map_cons,List.map_nil]); first | done | rfl) ?_; (with_reducible refine (halberdlaw0_SameInts.calls (m.f6.length + 1) ha.A6 ha.c6 m.f6 hc.A6 hc.c6 m.f6 true _ HA.out.r6 HA.out.l6 HC.out.r6 HC.out.l6 (si_self m.f6 HL.out.b6)).mono ?_); rintro e_ w_ ⟨rfl,d_⟩; refine ⟨_,rfl,?_⟩; have n0_ := Aq.mk (below_step HB.out d_.below); clear HB; have HB := n0_; clear n0_; have n1_ := Aq.mk ((d_.below.block g2 (blk_lt HX.out)).trans HX.out); clear HX; have HX := n1_; clear n1_; have n1_ := Aq.mk ((d_.below.block g3 (blk_lt HY.out)).trans HY.out); clear HY; have HY := n1_; clear n1_; have n1_ := Aq.mk (Reads.below HA.out d_.below); clear HA; have HA := n1_; clear n1_; have n1_ := Aq.mk (Reads.below HC.out d_.below); clear HC; have HC := n1_; clear n1_; clear d_)
  | ((with_reducible refine gate_dst (N := 54) rfl ?_); (try (refine gate_guard (by rfl) ?_; dsimp only)); refine ld (v := .slice ha.A7 m.f7.length ha.c7) rfl rfl rfl HX.out Try.underlying44 rfl rfl ?_)
  | ((with_reducible refine gate_dst (N := 56) rfl ?_); (try (refine gate_guard (by rfl) ?_; dsimp only)); refine ld (v := .slice hc.A7 m.f7.length hc.c7) rfl rfl rfl HY.out Try.underlying44 rfl rfl ?_)
  | ((with_reducible refine gate_callee (f := 31) rfl ?_); (try (refine gate_guard (by rfl) ?_; dsimp only)); refine goesL_ (some 57) rfl rfl Try.func31 (by kernel_rfl) rfl #[.slice ha.A7 m.f7.length ha.c7,.slice hc.A7 m.f7.length hc.c7] rfl (by (try simp only [List.map_toArray,List.map_cons,List.map_nil]); first | done | rfl) ?_; (with_reducible refine (halberdlaw0_SameInts.calls (m.f7.length + 1) ha.A7 ha.c7 m.f7 hc.A7 hc.c7 m.f7 true _ HA.out.r7 HA.out.l7 HC.out.r7 HC.out.l7 (si_self m.f7 HL.out.b7)).mono ?_); rintro e_ w_ ⟨rfl,d_⟩; refine ⟨_,rfl,?_⟩; have n0_ := Aq.mk (below_step HB.out d_.below); clear HB; have HB := n0_; clear n0_; have n1_ := Aq.mk ((d_.below.block g2 (blk_lt HX.out)).trans HX.out); clear HX; have HX := n1_; clear n1_; have n1_ := Aq.mk ((d_.below.block g3 (blk_lt HY.out)).trans HY.out); clear HY; have HY := n1_; clear n1_; have n1_ := Aq.mk (Reads.below HA.out d_.below); clear HA; have HA := n1_; clear n1_; have n1_ := Aq.mk (Reads.below HC.out d_.below); clear HC; have HC := n1_; clear n1_; clear d_)
  | ((with_reducible refine gate_dst (N := 61) rfl ?_); (try (refine gate_guard (by rfl) ?_; dsimp only)); refine ld (v := .slice ha.A8 m.f8.length ha.c8) rfl rfl rfl HX.out Try.underlying44 rfl rfl ?_)
  | ((with_reducible refine gate_dst (N := 63) rfl ?_); (try (refine gate_guard (by rfl) ?_; dsimp only)); refine ld (v := .slice hc.A8 m.f8.length hc.c8) rfl rfl rfl HY.out Try.underlying44 rfl rfl ?_)
  | ((with_reducible refine gate_callee (f := 31) rfl ?_); (try (refine gate_guard (by rfl) ?_; dsimp only)); refine goesL_ (some 64) rfl rfl Try.func31 (by kernel_rfl) rfl #[.slice ha.A8 m.f8.length ha.c8,.slice hc.A8 m.f8.length hc.c8] rfl (by (try simp only [List.map_toArray,List.map_cons,List.map_nil]); first | done | rfl) ?_; (with_reducible refine (halberdlaw0_SameInts.calls (m.f8.length + 1) ha.A8 ha.c8 m.f8 hc.A8 hc.c8 m.f8 true _ HA.out.r8 HA.out.l8 HC.out.r8 HC.out.l8 (si_self m.f8 HL.out.b8)).mono ?_); rintro e_ w_ ⟨rfl,d_⟩; refine ⟨_,rfl,?_⟩; have n0_ := Aq.mk (below_step HB.out d_.below); clear HB; have HB := n0_; clear n0_; have n1_ := Aq.mk ((d_.below.block g2 (blk_lt HX.out)).trans HX.out); clear HX; have HX := n1_; clear n1_; have n1_ := Aq.mk ((d_.below.block g3 (blk_lt HY.out)).trans HY.out); clear HY; have HY := n1_; clear n1_; have n1_ := Aq.mk (Reads.below HA.out d_.below); clear HA; have HA := n1_; clear n1_; have n1_ := Aq.mk (Reads.below HC.out d_.below); clear HC; have HC := n1_; clear n1_; clear d_)
  | ((with_reducible refine gate_dst (N := 68) rfl ?_); refine stopHere ?_))
 refine ⟨?_,trivial⟩
 go_wp2_with (first
  | ((with_reducible refine gate_dst (N := 68) rfl ?_); (try (refine gate_guard (by rfl) ?_; dsimp only)); refine ld (v := .slice ha.A9 m.f9.length ha.c9) rfl rfl rfl HX.out Try.underlying45 rfl rfl ?_)
  | ((with_reducible refine gate_dst (N := 70) rfl ?_); (try (refine gate_guard (by rfl) ?_; dsimp only)); refine ld (v := .slice hc.A9 m.f9.length hc.c9) rfl rfl rfl HY.out Try.underlying45 rfl rfl ?_)
  | ((with_reducible refine gate_callee (f := 32) rfl ?_); (try (refine gate_guard (by rfl) ?_; dsimp only)); refine goesL_ (some 71) rfl rfl Try.func32 (by kernel_rfl) rfl #[.slice ha.A9 m.f9.length ha.c9,.slice hc.A9 m.f9.length hc.c9] rfl (by (try simp only [List.map_toArray,List.map_cons,List.map_nil]); first | done | rfl) ?_; (with_reducible refine (halberdlaw0_SameShares.calls (m.f9.length + 1) ha.A9 ha.c9 m.f9 hc.A9 hc.c9 m.f9 true _ HA.out.r9 HA.out.l9 HC.out.r9 HC.out.l9 (ss_self m.f9 HL.out.b9)).mono ?_); rintro e_ w_ ⟨rfl,d_⟩; refine ⟨_,rfl,?_⟩; have n0_ := Aq.mk (below_step HB.out d_.below); clear HB; have HB := n0_; clear n0_; have n1_ := Aq.mk ((d_.below.block g2 (blk_lt HX.out)).trans HX.out); clear HX; have HX := n1_; clear n1_; have n1_ := Aq.mk ((d_.below.block g3 (blk_lt HY.out)).trans HY.out); clear HY; have HY := n1_; clear n1_; have n1_ := Aq.mk (Reads.below HA.out d_.below); clear HA; have HA := n1_; clear n1_; have n1_ := Aq.mk (Reads.below HC.out d_.below); clear HC; have HC := n1_; clear n1_; clear d_)
  | ((with_reducible refine gate_dst (N := 75) rfl ?_); (try (refine gate_guard (by rfl) ?_; dsimp only)); refine ld (v := .slice ha.A10 m.f10.length ha.c10) rfl rfl rfl HX.out Try.underlying46 rfl rfl ?_)
  | ((with_reducible refine gate_dst (N := 77) rfl ?_); (try (refine gate_guard (by rfl) ?_; dsimp only)); refine ld (v := .slice hc.A10 m.f10.length hc.c10) rfl rfl rfl HY.out Try.underlying46 rfl rfl ?_)
  | ((with_reducible refine gate_callee (f := 52) rfl ?_); (try (refine gate_guard (by rfl) ?_; dsimp only)); refine goesL_ (some 78) rfl rfl Try.func52 (by kernel_rfl) rfl #[.slice ha.A10 m.f10.length ha.c10,.slice hc.A10 m.f10.length hc.c10] rfl (by (try simp only [List.map_toArray,List.map_cons,List.map_nil]); first | done | rfl) ?_; (with_reducible refine (halberdlaw0_SameIdentitys.calls (m.f10.length + 1) ha.A10 ha.c10 m.f10 hc.A10 hc.c10 m.f10 true _ HA.out.r10 HA.out.l10 HC.out.r10 HC.out.l10 (sd_self m.f10 HL.out.b10)).mono ?_); rintro e_ w_ ⟨rfl,d_⟩; refine ⟨_,rfl,?_⟩; have n0_ := Aq.mk (below_step HB.out d_.below); clear HB; have HB := n0_; clear n0_; have n1_ := Aq.mk ((d_.below.block g2 (blk_lt HX.out)).trans HX.out); clear HX; have HX := n1_; clear n1_; have n1_ := Aq.mk ((d_.below.block g3 (blk_lt HY.out)).trans HY.out); clear HY; have HY := n1_; clear n1_; have n1_ := Aq.mk (Reads.below HA.out d_.below); clear HA; have HA := n1_; clear n1_; have n1_ := Aq.mk (Reads.below HC.out d_.below); clear HC; have HC := n1_; clear n1_; clear d_)
  | ((with_reducible refine gate_dst (N := 82) rfl ?_); (try (refine gate_guard (by rfl) ?_; dsimp only)); refine ld (v := .slice ha.A11 m.f11.length ha.c11) rfl rfl rfl HX.out Try.underlying47 rfl rfl ?_)
  | ((with_reducible refine gate_dst (N := 84) rfl ?_); (try (refine gate_guard (by rfl) ?_; dsimp only)); refine ld (v := .slice hc.A11 m.f11.length hc.c11) rfl rfl rfl HY.out Try.underlying47 rfl rfl ?_)
  | ((with_reducible refine gate_callee (f := 53) rfl ?_); (try (refine gate_guard (by rfl) ?_; dsimp only)); refine goesL_ (some 85) rfl rfl Try.func53 (by kernel_rfl) rfl #[.slice ha.A11 m.f11.length ha.c11,.slice hc.A11 m.f11.length hc.c11] rfl (by (try simp only [List.map_toArray,List.map_cons,List.map_nil]); first | done | rfl) ?_; (with_reducible refine (halberdlaw0_SameTexts.calls (m.f11.length + 1) ha.A11 ha.c11 m.f11 hc.A11 hc.c11 m.f11 true _ HA.out.r11 HA.out.l11 HC.out.r11 HC.out.l11 (st_self m.f11 HL.out.b11)).mono ?_); rintro e_ w_ ⟨rfl,d_⟩; refine ⟨_,rfl,?_⟩; have n0_ := Aq.mk (below_step HB.out d_.below); clear HB; have HB := n0_; clear n0_; have n1_ := Aq.mk ((d_.below.block g2 (blk_lt HX.out)).trans HX.out); clear HX; have HX := n1_; clear n1_; have n1_ := Aq.mk ((d_.below.block g3 (blk_lt HY.out)).trans HY.out); clear HY; have HY := n1_; clear n1_; have n1_ := Aq.mk (Reads.below HA.out d_.below); clear HA; have HA := n1_; clear n1_; have n1_ := Aq.mk (Reads.below HC.out d_.below); clear HC; have HC := n1_; clear n1_; clear d_)
  | ((with_reducible refine gate_dst (N := 89) rfl ?_); refine stopHere ?_))
 refine ⟨?_,trivial⟩
 go_wp2_with (first
  | ((with_reducible refine gate_dst (N := 89) rfl ?_); (try (refine gate_guard (by rfl) ?_; dsimp only)); refine ld (v := .int .i64 m.f12) rfl rfl rfl HX.out Try.underlying3 rfl rfl ?_)
  | ((with_reducible refine gate_dst (N := 91) rfl ?_); (try (refine gate_guard (by rfl) ?_; dsimp only)); refine ld (v := .int .i64 m.f12) rfl rfl rfl HY.out Try.underlying3 rfl rfl ?_)
  | ((with_reducible refine gate_dst (N := 96) rfl ?_); (try (refine gate_guard (by rfl) ?_; dsimp only)); refine ld (v := .slice ha.A13 m.f13.length ha.c13) rfl rfl rfl HX.out Try.underlying44 rfl rfl ?_)
  | ((with_reducible refine gate_dst (N := 98) rfl ?_); (try (refine gate_guard (by rfl) ?_; dsimp only)); refine ld (v := .slice hc.A13 m.f13.length hc.c13) rfl rfl rfl HY.out Try.underlying44 rfl rfl ?_)
  | ((with_reducible refine gate_callee (f := 31) rfl ?_); (try (refine gate_guard (by rfl) ?_; dsimp only)); refine goesL_ (some 99) rfl rfl Try.func31 (by kernel_rfl) rfl #[.slice ha.A13 m.f13.length ha.c13,.slice hc.A13 m.f13.length hc.c13] rfl (by (try simp only [List.map_toArray,List.map_cons,List.map_nil]); first | done | rfl) ?_; (with_reducible refine (halberdlaw0_SameInts.calls (m.f13.length + 1) ha.A13 ha.c13 m.f13 hc.A13 hc.c13 m.f13 true _ HA.out.r13 HA.out.l13 HC.out.r13 HC.out.l13 (si_self m.f13 HL.out.b13)).mono ?_); rintro e_ w_ ⟨rfl,d_⟩; refine ⟨_,rfl,?_⟩; have n0_ := Aq.mk (below_step HB.out d_.below); clear HB; have HB := n0_; clear n0_; have n1_ := Aq.mk ((d_.below.block g2 (blk_lt HX.out)).trans HX.out); clear HX; have HX := n1_; clear n1_; have n1_ := Aq.mk ((d_.below.block g3 (blk_lt HY.out)).trans HY.out); clear HY; have HY := n1_; clear n1_; have n1_ := Aq.mk (Reads.below HA.out d_.below); clear HA; have HA := n1_; clear n1_; have n1_ := Aq.mk (Reads.below HC.out d_.below); clear HC; have HC := n1_; clear n1_; clear d_)
  | ((with_reducible refine gate_dst (N := 103) rfl ?_); (try (refine gate_guard (by rfl) ?_; dsimp only)); refine ld (v := .slice ha.A14 m.f14.length ha.c14) rfl rfl rfl HX.out Try.underlying47 rfl rfl ?_)
  | ((with_reducible refine gate_dst (N := 105) rfl ?_); (try (refine gate_guard (by rfl) ?_; dsimp only)); refine ld (v := .slice hc.A14 m.f14.length hc.c14) rfl rfl rfl HY.out Try.underlying47 rfl rfl ?_)
  | ((with_reducible refine gate_callee (f := 53) rfl ?_); (try (refine gate_guard (by rfl) ?_; dsimp only)); refine goesL_ (some 106) rfl rfl Try.func53 (by kernel_rfl) rfl #[.slice ha.A14 m.f14.length ha.c14,.slice hc.A14 m.f14.length hc.c14] rfl (by (try simp only [List.map_toArray,List.map_cons,List.map_nil]); first | done | rfl) ?_; (with_reducible refine (halberdlaw0_SameTexts.calls (m.f14.length + 1) ha.A14 ha.c14 m.f14 hc.A14 hc.c14 m.f14 true _ HA.out.r14 HA.out.l14 HC.out.r14 HC.out.l14 (st_self m.f14 HL.out.b14)).mono ?_); rintro e_ w_ ⟨rfl,d_⟩; refine ⟨_,rfl,?_⟩; have n0_ := Aq.mk (below_step HB.out d_.below); clear HB; have HB := n0_; clear n0_; have n1_ := Aq.mk ((d_.below.block g2 (blk_lt HX.out)).trans HX.out); clear HX; have HX := n1_; clear n1_; have n1_ := Aq.mk ((d_.below.block g3 (blk_lt HY.out)).trans HY.out); clear HY; have HY := n1_; clear n1_; have n1_ := Aq.mk (Reads.below HA.out d_.below); clear HA; have HA := n1_; clear n1_; have n1_ := Aq.mk (Reads.below HC.out d_.below); clear HC; have HC := n1_; clear n1_; clear d_)
  | ((with_reducible refine gate_dst (N := 110) rfl ?_); refine stopHere ?_))
 refine ⟨?_,trivial⟩
 go_wp2_with (first
  | ((with_reducible refine gate_dst (N := 110) rfl ?_); (try (refine gate_guard (by rfl) ?_; dsimp only)); refine ld (v := .int .i64 m.f15) rfl rfl rfl HX.out Try.underlying3 rfl rfl ?_)
  | ((with_reducible refine gate_dst (N := 112) rfl ?_); (try (refine gate_guard (by rfl) ?_; dsimp only)); refine ld (v := .int .i64 m.f15) rfl rfl rfl HY.out Try.underlying3 rfl rfl ?_)
  | ((with_reducible refine gate_dst (N := 117) rfl ?_); (try (refine gate_guard (by rfl) ?_; dsimp only)); refine ld (v := .string m.f16) rfl rfl rfl HX.out Try.underlying9 rfl rfl ?_)
  | ((with_reducible refine gate_dst (N := 119) rfl ?_); (try (refine gate_guard (by rfl) ?_; dsimp only)); refine ld (v := .string m.f16) rfl rfl rfl HY.out Try.underlying9 rfl rfl ?_)
  | ((with_reducible refine gate_dst (N := 120) rfl ?_); (try (refine gate_guard (by rfl) ?_; dsimp only)); refine Kd.event_run rfl (eqS rfl rfl rfl) ?_)
  | ((with_reducible refine gate_dst (N := 124) rfl ?_); (try (refine gate_guard (by rfl) ?_; dsimp only)); refine ld (v := .int .i64 m.f17) rfl rfl rfl HX.out Try.underlying3 rfl rfl ?_)
  | ((with_reducible refine gate_dst (N := 126) rfl ?_); (try (refine gate_guard (by rfl) ?_; dsimp only)); refine ld (v := .int .i64 m.f17) rfl rfl rfl HY.out Try.underlying3 rfl rfl ?_)
  | ((with_reducible refine gate_dst (N := 131) rfl ?_); refine stopHere ?_))
 refine ⟨?_,trivial⟩
 go_wp2_with (first
  | ((with_reducible refine gate_dst (N := 131) rfl ?_); (try (refine gate_guard (by rfl) ?_; dsimp only)); refine ld (v := .int .i64 m.f18) rfl rfl rfl HX.out Try.underlying3 rfl rfl ?_)
  | ((with_reducible refine gate_dst (N := 133) rfl ?_); (try (refine gate_guard (by rfl) ?_; dsimp only)); refine ld (v := .int .i64 m.f18) rfl rfl rfl HY.out Try.underlying3 rfl rfl ?_)
  | ((with_reducible refine gate_dst (N := 138) rfl ?_); (try (refine gate_guard (by rfl) ?_; dsimp only)); refine ld (v := .string m.f19) rfl rfl rfl HX.out Try.underlying9 rfl rfl ?_)
  | ((with_reducible refine gate_dst (N := 140) rfl ?_); (try (refine gate_guard (by rfl) ?_; dsimp only)); refine ld (v := .string m.f19) rfl rfl rfl HY.out Try.underlying9 rfl rfl ?_)
  | ((with_reducible refine gate_dst (N := 141) rfl ?_); (try (refine gate_guard (by rfl) ?_; dsimp only)); refine Kd.event_run rfl (eqS rfl rfl rfl) ?_)
  | ((with_reducible refine gate_dst (N := 145) rfl ?_); (try (refine gate_guard (by rfl) ?_; dsimp only)); refine ld (v := .int .i64 m.f20) rfl rfl rfl HX.out Try.underlying3 rfl rfl ?_)
  | ((with_reducible refine gate_dst (N := 147) rfl ?_); (try (refine gate_guard (by rfl) ?_; dsimp only)); refine ld (v := .int .i64 m.f20) rfl rfl rfl HY.out Try.underlying3 rfl rfl ?_))
 go_ret
 exact ⟨by first | rfl | simp,HB.out⟩
end Go.Proofs.Ytlkebjkpmiehcaa.Ms
end
section
namespace Go.Proofs.Ytlkebjkpmiehcaa.Ms
open Go.RowKit Go.Proofs.YtlkebjkpmiehcaaW.PrintWords Go.Proofs.YtlkebjkpmiehcaaW.PrintLast Go.Proofs.YtlkebjkpmiehcaaW.PrintMore Go.Proofs.Ytlkebjkpmiehcaa.X
open Go.Proofs.Ytlkebjkpmiehcaa.Pure (nv numOf vecOf nv_bd From beL beL_length bytesOf_app bytesOf_strOf beL_byte bytesOf_inj strOf_size putOf putVecOf putVec_ok put_no bytes_ok bt_get okE encE encs putL kindsOf dupB)
set_option linter.unusedVariables false
set_option linter.unusedSimpArgs false
theorem xe_put' : wire_Put.f = E.wire_Put.f := by kernel_rfl
theorem nm_iff (x : Int) (n : Nat) (h0 : 1 ≤ n) (h1 : n ≤ 4) : (nm x n).2 = 0 ↔ 0 ≤ x ∧ x < 256 ^ n := by
 unfold nm
 rw [xe_put']
 by_cases hx : 0 ≤ x
 ·rw [show E.wire_Put.f x n = some (putOf x n) from Go.Proofs.Ytlkebjkpmiehcaa.Pure.put_ok x n h0 h1 hx]
  unfold putOf
  by_cases hb : x < 256 ^ n
  ·rw [if_pos hb]; exact ⟨fun _ => ⟨hx,hb⟩,fun _ => rfl⟩
  ·rw [if_neg hb]; exact ⟨fun h => absurd h (by decide),fun h => absurd h.2 hb⟩
 ·rw [show E.wire_Put.f x n = _ from put_no x n (by omega)]
  exact ⟨fun h => absurd h (by decide),fun h => absurd h.1 hx⟩
theorem nm_eq (x : Int) (n : Nat) (h0 : 1 ≤ n) (h1 : n ≤ 4) (hx : 0 ≤ x) (hb : x < 256 ^ n) : nm x n = (strOfNums (beL n x),0) := by
 unfold nm
 rw [xe_put',show E.wire_Put.f x n = some (putOf x n) from Go.Proofs.Ytlkebjkpmiehcaa.Pure.put_ok x n h0 h1 hx]
 unfold putOf
 rw [if_pos hb]
 rfl
def Wk (W : Wp) (l : List Int) : Prop := W.b = false ∧ bytesOf W.s = l
theorem Wk.size {W : Wp} {l : List Int} (h : Wk W l) : W.s.size = l.length := by rw [← h.2,bytesOf_length]
theorem Wk.w0 : Wk W0 [] := ⟨rfl,rfl⟩
theorem or_f {a b : Bool} : (a || b) = false ↔ a = false ∧ b = false := by cases a <;> cases b <;> decide
theorem not_f {a : Bool} : (!a) = false ↔ a = true := by cases a <;> decide
theorem num_f_iff {W : Wp} {x : Int} {n : Nat} (h0 : 1 ≤ n) (h1 : n ≤ 4) : (W.num x n).b = false ↔ W.b = false ∧ 0 ≤ x ∧ x < 256 ^ n := by
 unfold Wp.num
 show (W.b || !((nm x n).2 == 0)) = false ↔ _
 rw [or_f,not_f,beq_iff_eq,nm_iff x n h0 h1]
theorem Wk.num {W : Wp} {l : List Int} (h : Wk W l) {x : Int} {n : Nat} (h0 : 1 ≤ n) (h1 : n ≤ 4) (hx : 0 ≤ x) (hb : x < 256 ^ n) : Wk (W.num x n) (l ++ beL n x) := by
 refine ⟨(num_f_iff h0 h1).2 ⟨h.1,hx,hb⟩,?_⟩
 unfold Wp.num
 show bytesOf (W.s ++ (nm x n).1) = _
 rw [nm_eq x n h0 h1 hx hb,bytesOf_app,h.2,bytesOf_strOf (beL_byte _ _)]
theorem need_f_iff {W : Wp} {b : Bool} : (W.need b).b = false ↔ W.b = false ∧ b = true := by
 unfold Wp.need
 show (W.b || !b) = false ↔ _
 rw [or_f,not_f]
theorem Wk.need {W : Wp} {l : List Int} (h : Wk W l) {b : Bool} (hb : b = true) : Wk (W.need b) l := ⟨need_f_iff.2 ⟨h.1,hb⟩,h.2⟩
theorem Wk.add {W : Wp} {l : List Int} (h : Wk W l) (v : ByteArray) : Wk (W.add v) (l ++ bytesOf v) := by
 refine ⟨h.1,?_⟩
 show bytesOf (W.s ++ v) = _
 rw [bytesOf_app,h.2]
theorem pv_big (v : ByteArray) (n : Nat) (h0 : 1 ≤ n) (h1 : n ≤ 3) (hb : ¬ (v.size : Int) < 256 ^ n) : pv v n = (⟨#[]⟩,101) := by
 unfold pv wire_PutVec.f
 rw [if_neg (by omega),if_neg (by omega)]
 have : n = 1 ∨ n = 2 ∨ n = 3 := by omega
 rcases this with rfl | rfl | rfl <;> simp only [shr,wrap64,IntKind.bits] <;> simp at hb ⊢ <;> rw [if_neg (by omega)] <;> rfl
theorem pv_iff (v : ByteArray) (n : Nat) (lo hi : Int) (h0 : 1 ≤ n) (h1 : n ≤ 3) : vecOk v (pv v n).2 lo hi = true ↔ (v.size : Int) < 256 ^ n ∧ lo ≤ v.size ∧ (v.size : Int) ≤ hi := by
 unfold vecOk
 rw [Bool.and_eq_true,Bool.and_eq_true,beq_iff_eq,decide_eq_true_iff,decide_eq_true_iff]
 by_cases hb : (v.size : Int) < 256 ^ n
 ·rw [pv_ok v n h0 h1 hb]
  exact ⟨fun h => ⟨hb,h.1.2,h.2⟩,fun h => ⟨⟨rfl,h.2.1⟩,h.2.2⟩⟩
 ·rw [pv_big v n h0 h1 hb]
  exact ⟨fun h => absurd h.1.1 (by decide),fun h => absurd h.1 hb⟩
theorem vec_f_iff {W : Wp} {v : ByteArray} {n : Nat} {lo hi : Int} (h0 : 1 ≤ n) (h1 : n ≤ 3) : (W.vec v n lo hi).b = false ↔ W.b = false ∧ (v.size : Int) < 256 ^ n ∧ lo ≤ v.size ∧ (v.size : Int) ≤ hi := by
 unfold Wp.vec
 show (W.b || !(vecOk v (pv v n).2 lo hi)) = false ↔ _
 rw [or_f,not_f,pv_iff v n lo hi h0 h1]
theorem Wk.vec {W : Wp} {l : List Int} (h : Wk W l) {v : ByteArray} {n : Nat} {lo hi : Int} (h0 : 1 ≤ n) (h1 : n ≤ 3) (hb : (v.size : Int) < 256 ^ n) (hl : lo ≤ v.size) (hh : (v.size : Int) ≤ hi) : Wk (W.vec v n lo hi) (l ++ (beL n v.size ++ bytesOf v)) := by
 have := pw h1 _ hb
 refine ⟨(vec_f_iff h0 h1).2 ⟨h.1,hb,hl,hh⟩,?_⟩
 unfold Wp.vec
 show bytesOf (W.s ++ (pv v n).1) = _
 rw [pv_ok v n h0 h1 hb,bytesOf_app,h.2,V_bytes]
theorem within_f_iff {W U : Wp} {n : Nat} (h0 : 1 ≤ n) (h1 : n ≤ 3) : (W.within U n).b = false ↔ W.b = false ∧ U.b = false ∧ (U.s.size : Int) < 256 ^ n := by
 unfold Wp.within
 show ((W.b || !(!U.b)) || !(vecOk U.s (pv U.s n).2 0 16777216)) = false ↔ _
 rw [or_f,or_f,not_f,not_f,Bool.not_eq_true',pv_iff U.s n 0 16777216 h0 h1]
 refine ⟨fun h => ⟨h.1.1,h.1.2,h.2.1⟩,fun h => ⟨⟨h.1,h.2.1⟩,h.2.2,by omega,?_⟩⟩
 have := pw h1 _ h.2.2
 omega
theorem Wk.within {W U : Wp} {l u : List Int} (h : Wk W l) (hu : Wk U u) {n : Nat} (h0 : 1 ≤ n) (h1 : n ≤ 3) (hb : (u.length : Int) < 256 ^ n) : Wk (W.within U n) (l ++ (beL n u.length ++ u)) := by
 have hs := hu.size
 rw [← hs] at hb
 have := pw h1 _ hb
 refine ⟨(within_f_iff h0 h1).2 ⟨h.1,hu.1,hb⟩,?_⟩
 unfold Wp.within
 show bytesOf (W.s ++ (pv U.s n).1) = _
 rw [pv_ok U.s n h0 h1 hb,bytesOf_app,h.2,V_bytes,hu.2,hs]
structure WF {α : Type} (f : Wp → α → Wp) (ok : α → Prop) (enc : α → List Int) : Prop where
 iff : ∀ W x,(f W x).b = false ↔ W.b = false ∧ ok x
 put : ∀ W l x,Wk W l → ok x → Wk (f W x) (l ++ enc x)
theorem WF.fold {α : Type} {f : Wp → α → Wp} {ok : α → Prop} {enc : α → List Int} (h : WF f ok enc) : ∀ (xs : List α) (W : Wp),((xs.foldl f W).b = false ↔ W.b = false ∧ ∀ x ∈ xs,ok x) ∧ (∀ l,Wk W l → (∀ x ∈ xs,ok x) → Wk (xs.foldl f W) (l ++ xs.flatMap enc))
 | [],W => by
  refine ⟨⟨fun h => ⟨h,fun x hx => by cases hx⟩,fun h => h.1⟩,fun l hl _ => ?_⟩
  rw [List.flatMap_nil,List.append_nil]
  exact hl
 | x :: xs,W => by
  obtain ⟨a,b⟩ := h.fold xs (f W x)
  rw [List.foldl_cons]
  refine ⟨?_,fun l hl hx => ?_⟩
  ·rw [a,h.iff]
   refine ⟨fun h => ⟨h.1.1,fun y hy => ?_⟩,fun h => ⟨⟨h.1,h.2 x List.mem_cons_self⟩,fun y hy => h.2 y (List.mem_cons_of_mem _ hy)⟩⟩
   rcases List.mem_cons.1 hy with rfl | hy
   ·exact h.1.2
   ·exact h.2 y hy
  ·have := b _ (h.put W l x hl (hx x List.mem_cons_self)) (fun y hy => hx y (List.mem_cons_of_mem _ hy))
   rw [List.flatMap_cons,← List.append_assoc]
   exact this
theorem WF.fw_iff {α : Type} {f : Wp → α → Wp} {ok : α → Prop} {enc : α → List Int} (h : WF f ok enc) (xs : List α) : (fw f xs).b = false ↔ ∀ x ∈ xs,ok x := by
 unfold fw
 rw [(h.fold xs W0).1]
 exact ⟨fun h => h.2,fun h => ⟨rfl,h⟩⟩
theorem WF.fw {α : Type} {f : Wp → α → Wp} {ok : α → Prop} {enc : α → List Int} (h : WF f ok enc) {xs : List α} (hx : ∀ x ∈ xs,ok x) : Wk (fw f xs) (xs.flatMap enc) := by
 have := (h.fold xs W0).2 [] Wk.w0 hx
 rwa [List.nil_append] at this
def okN (n : Nat) (x : Int) : Prop := 0 ≤ x ∧ x < 256 ^ n
def okS (s : S66) : Prop := okN 2 s.f0 ∧ 1 ≤ s.f1.size ∧ s.f1.size ≤ 65535
def okI (s : S111) : Prop := (1 ≤ s.f0.size ∧ s.f0.size ≤ 65535) ∧ okN 4 s.f1
def okB (s : ByteArray) : Prop := 32 ≤ s.size ∧ s.size ≤ 255
def enS (s : S66) : List Int := beL 2 s.f0 ++ (beL 2 s.f1.size ++ bytesOf s.f1)
def enI (s : S111) : List Int := (beL 2 s.f0.size ++ bytesOf s.f0) ++ beL 4 s.f1
def enB (s : ByteArray) : List Int := beL 1 s.size ++ bytesOf s
theorem wfN (n : Nat) (h0 : 1 ≤ n) (h1 : n ≤ 4) : WF (wN n) (okN n) (beL n) := ⟨fun W x => num_f_iff h0 h1,fun W l x hl hx => hl.num h0 h1 hx.1 hx.2⟩
theorem wfS : WF wS okS enS := by
 constructor
 ·intro W x
  have e : (W.num x.f0 2).b = false ↔ W.b = false ∧ 0 ≤ x.f0 ∧ x.f0 < 256 ^ 2 := num_f_iff (n := 2) (by decide) (by decide)
  refine Iff.trans (vec_f_iff (n := 2) (by decide) (by decide)) ?_
  rw [e]
  unfold okS okN
  exact ⟨fun h => ⟨h.1.1,h.1.2,by omega,by omega⟩,fun h => ⟨⟨h.1,h.2.1⟩,by omega,by omega,by omega⟩⟩
 ·intro W l x h ho
  have := (h.num (n := 2) (by decide) (by decide) ho.1.1 ho.1.2).vec (n := 2) (lo := 1) (hi := 65536) (v := x.f1) (by decide) (by decide) (by have := ho.2.2; omega) (by have := ho.2.1; omega) (by have := ho.2.2; omega)
  unfold enS
  rw [← List.append_assoc]
  exact this
theorem wfI : WF wI okI enI := by
 constructor
 ·intro W x
  have e : (W.vec x.f0 2 1 65536).b = false ↔ W.b = false ∧ (x.f0.size : Int) < 256 ^ 2 ∧ 1 ≤ (x.f0.size : Int) ∧ (x.f0.size : Int) ≤ 65536 := vec_f_iff (n := 2) (by decide) (by decide)
  refine Iff.trans (num_f_iff (n := 4) (by decide) (by decide)) ?_
  rw [e]
  unfold okI okN
  exact ⟨fun h => ⟨h.1.1,⟨by omega,by omega⟩,h.2⟩,fun h => ⟨⟨h.1,by omega,by omega,by omega⟩,h.2.2⟩⟩
 ·intro W l x h ho
  have := (h.vec (n := 2) (lo := 1) (hi := 65536) (v := x.f0) (by decide) (by decide) (by have := ho.1.2; omega) (by have := ho.1.1; omega) (by have := ho.1.2; omega)).num (n := 4) (by decide) (by decide) ho.2.1 ho.2.2
  unfold enI
  rw [← List.append_assoc]
  exact this
theorem wfB : WF wB okB enB := by
 constructor
 ·intro W x
  refine Iff.trans (vec_f_iff (n := 1) (by decide) (by decide)) ?_
  unfold okB
  exact ⟨fun h => ⟨h.1,by omega,by omega⟩,fun h => ⟨h.1,by omega,by omega,by omega⟩⟩
 ·intro W l x h ho
  exact h.vec (n := 1) (lo := 32) (hi := 255) (v := x) (by decide) (by decide) (by have := ho.2; omega) (by have := ho.1; omega) (by have := ho.2; omega)
end Go.Proofs.Ytlkebjkpmiehcaa.Ms
end
section
namespace Go.Proofs.Ytlkebjkpmiehcaa.Ms
open Go.RowKit Go.Proofs.YtlkebjkpmiehcaaW.PrintWords Go.Proofs.YtlkebjkpmiehcaaW.PrintLast Go.Proofs.YtlkebjkpmiehcaaW.PrintMore Go.Proofs.Ytlkebjkpmiehcaa.X
open Go.Proofs.Ytlkebjkpmiehcaa.Pure (nv numOf vecOf nv_bd From beL beL_length bytesOf_app bytesOf_strOf beL_byte bytesOf_inj strOf_size bytes_ok bt_get)
set_option linter.unusedVariables false
set_option linter.unusedSimpArgs false
theorem num_back {R : Rp} {n : Nat} (h : (R.numR n).c = 0) : R.c = 0 ∧ okN n (R.numV n) ∧ R.numR n = { R with p := R.p + n } ∧ R.p + n ≤ R.s.size := by
 have hc : R.numC n = 0 := h
 obtain ⟨c0,c1⟩ := needed_zero hc
 have e1 : (numOf R.s R.p n).2.2 = 0 := by simpa using c1
 by_cases hb : R.p < 0 ∨ R.p > R.s.size ∨ R.s.size - R.p < n
 ·exfalso
  unfold numOf at e1
  rw [if_pos hb] at e1
  cases e1
 ·have e2 : numOf R.s R.p n = (nv R.s R.p n,R.p + n,0) := by
   unfold numOf
   rw [if_neg hb]
  refine ⟨c0,R.numV_bd n,?_,by omega⟩
  unfold Rp.numR
  rw [hc,sel_pos rfl,e2,← c0]
theorem vec_back {R : Rp} {n : Nat} {lo hi : Int} (h : (R.vecR n lo hi).c = 0) : R.c = 0 ∧ (lo ≤ (R.vecV n lo hi).size ∧ ((R.vecV n lo hi).size : Int) ≤ hi ∧ ((R.vecV n lo hi).size : Int) < 256 ^ n) ∧ R.vecR n lo hi = { R with p := R.p + n + (R.vecV n lo hi).size } ∧ R.p + n + (R.vecV n lo hi).size ≤ R.s.size := by
 have hc : R.vecC n lo hi = 0 := h
 obtain ⟨c0,c1⟩ := needed_zero hc
 unfold vecOk at c1
 rw [Bool.and_eq_true,Bool.and_eq_true,beq_iff_eq,decide_eq_true_iff,decide_eq_true_iff] at c1
 have hv : R.vecV n lo hi = (vecOf R.s R.p n).1 := by
  unfold Rp.vecV
  rw [hc,sel_pos rfl]
 have hr : R.vecR n lo hi = { R with p := (vecOf R.s R.p n).2.1 } := by
  unfold Rp.vecR
  rw [hc,sel_pos rfl,← c0]
 rw [hv,hr]
 have hb0 := nv_bd R.s R.p n
 by_cases hb : R.p < 0 ∨ R.p > R.s.size ∨ R.s.size - R.p < n
 ·exfalso
  have := c1.1.1
  unfold vecOf at this
  rw [if_pos hb] at this
  cases this
 ·by_cases hb2 : nv R.s R.p n > R.s.size - (R.p + n)
  ·exfalso
   have := c1.1.1
   unfold vecOf at this
   rw [if_neg hb,if_pos hb2] at this
   cases this
  ·have e2 : vecOf R.s R.p n = (R.s.extract (R.p + n).toNat (R.p + n + nv R.s R.p n).toNat,R.p + n + nv R.s R.p n,0) := by
    unfold vecOf
    rw [if_neg hb,if_neg hb2]
   have hs : ((R.s.extract (R.p + n).toNat (R.p + n + nv R.s R.p n).toNat).size : Int) = nv R.s R.p n := by
    rw [ByteArray.size_extract]
    omega
   rw [e2] at c1 ⊢
   dsimp only at c1 ⊢
   rw [hs] at c1 ⊢
   exact ⟨c0,⟨c1.1.2,c1.2,hb0.2⟩,rfl,by omega⟩
theorem in_back {R : Rp} {n : Nat} (h : (R.inR n).c = 0) : R.c = 0 ∧ R.inR n = ⟨(R.inR n).s,0,0,R.t,false⟩ ∧ R.outR n = { R with p := R.p + n + (R.inR n).s.size } ∧ R.p + n + (R.inR n).s.size ≤ R.s.size := by
 have h' : (R.vecR n 0 16777216).c = 0 := h
 obtain ⟨a,b,c,d⟩ := vec_back h'
 refine ⟨a,?_,c,d⟩
 have : (R.inR n).c = 0 := h
 unfold Rp.inR at this ⊢
 rw [show R.vecC n 0 16777216 = 0 from this]
structure RdL {α : Type} (one : Rp → α × Rp) (ok : α → Prop) (enc : α → List Int) : Prop where
 fwd : ∀ (s : ByteArray) (p : Nat) (x : α) (m : List Int) (t la : Bool),From s p (enc x ++ m) → ok x → one ⟨s,p,0,t,la⟩ = (x,⟨s,((p + (enc x).length : Nat) : Int),0,t,la⟩)
 pos : ∀ x,ok x → 0 < (enc x).length
 bwd : ∀ R : Rp,(one R).2.c = 0 → R.c = 0 ∧ ok (one R).1 ∧ R.p + ((enc (one R).1).length : Int) ≤ (one R).2.p ∧ (one R).2.p ≤ R.s.size ∧ (one R).2.s = R.s
theorem more_iff {R : Rp} : R.more = true ↔ R.c = 0 ∧ R.p < R.s.size := by
 unfold Rp.more
 rw [Bool.and_eq_true,beq_iff_eq,decide_eq_true_iff]
theorem rAll_end {α : Type} (one : Rp → α × Rp) (k : Nat) {R : Rp} (h : ¬ R.more = true) : rAll one k R = ([],R) := by
 cases k with
 | zero => rfl
 | succ k =>
  unfold rAll
  rw [if_neg h]
theorem RdL.all {α : Type} {one : Rp → α × Rp} {ok : α → Prop} {enc : α → List Int} (h : RdL one ok enc) (s : ByteArray) (t la : Bool) : ∀ (xs : List α) (p k : Nat),From s p (xs.flatMap enc) → (∀ x ∈ xs,ok x) → xs.length ≤ k → rAll one k ⟨s,p,0,t,la⟩ = (xs,⟨s,(s.size : Int),0,t,la⟩)
 | [],p,k,hf,_,_ => by
  have := hf.len
  simp only [List.flatMap_nil,List.length_nil] at this
  rw [rAll_end one k (by rw [more_iff]; dsimp only; omega)]
  congr 2
  omega
 | x :: xs,p,0,_,_,hk => by simp at hk
 | x :: xs,p,k + 1,hf,ho,hk => by
  rw [List.flatMap_cons] at hf
  have hp := h.pos x (ho x List.mem_cons_self)
  have hl := hf.len
  rw [List.length_append] at hl
  have e := h.fwd s p x _ t la hf (ho x List.mem_cons_self)
  have r := RdL.all h s t la xs (p + (enc x).length) k hf.skip (fun y hy => ho y (List.mem_cons_of_mem _ hy)) (by simpa using hk)
  unfold rAll
  rw [if_pos (by rw [more_iff]; dsimp only; omega),e]
  dsimp only
  rw [r]
theorem RdL.lens {α : Type} {one : Rp → α × Rp} {ok : α → Prop} {enc : α → List Int} (h : RdL one ok enc) : ∀ (xs : List α),(∀ x ∈ xs,ok x) → xs.length ≤ (xs.flatMap enc).length
 | [],_ => Nat.zero_le _
 | x :: xs,ho => by
  have := h.pos x (ho x List.mem_cons_self)
  have := RdL.lens h xs (fun y hy => ho y (List.mem_cons_of_mem _ hy))
  rw [List.flatMap_cons,List.length_append,List.length_cons]
  omega
theorem RdL.whole {α : Type} {one : Rp → α × Rp} {ok : α → Prop} {enc : α → List Int} (h : RdL one ok enc) {v : ByteArray} {xs : List α} (hv : bytesOf v = xs.flatMap enc) (ho : ∀ x ∈ xs,ok x) (t la : Bool) : rAll one v.size ⟨v,0,0,t,la⟩ = (xs,⟨v,(v.size : Int),0,t,la⟩) := by
 have f0 := From.start v
 rw [hv] at f0
 have hl := h.lens xs ho
 rw [← hv,bytesOf_length] at hl
 exact h.all v t la xs 0 v.size f0 ho hl
theorem RdL.back {α : Type} {one : Rp → α × Rp} {ok : α → Prop} {enc : α → List Int} (h : RdL one ok enc) : ∀ (k : Nat) (R : Rp),R.p ≤ R.s.size → (rAll one k R).2.c = 0 → R.c = 0 ∧ (∀ x ∈ (rAll one k R).1,ok x) ∧ R.p + (((rAll one k R).1.flatMap enc).length : Int) ≤ (rAll one k R).2.p ∧ (rAll one k R).2.p ≤ R.s.size ∧ (rAll one k R).2.s = R.s
 | 0,R,hp,hc => ⟨hc,(fun x hx => by cases hx),by show R.p + ((0 : Nat) : Int) ≤ R.p; omega,hp,rfl⟩
 | k + 1,R,hp,hc => by
  by_cases hm : R.more = true
  ·have e : rAll one (k + 1) R = ((one R).1 :: (rAll one k (one R).2).1,(rAll one k (one R).2).2) := by
    conv => lhs; unfold rAll
    rw [if_pos hm]
   rw [e] at hc ⊢
   dsimp only at hc ⊢
   have hmi := more_iff.1 hm
   by_cases h1 : (one R).2.c = 0
   ·obtain ⟨a,b,c,d,f⟩ := h.bwd R h1
    obtain ⟨a2,b2,c2,d2,f2⟩ := RdL.back h k (one R).2 (by rw [f]; exact d) hc
    rw [f] at d2 f2
    refine ⟨a,fun x hx => ?_,?_,d2,f2⟩
    ·rcases List.mem_cons.1 hx with rfl | hx
     ·exact b
     ·exact b2 x hx
    ·rw [List.flatMap_cons,List.length_append]
     omega
   ·exfalso
    rw [rAll_end one k (by rw [more_iff]; exact fun h => h1 h.1)] at hc
    exact h1 hc
  ·rw [rAll_end one (k + 1) hm] at hc ⊢
   exact ⟨hc,(fun x hx => by cases hx),by show R.p + ((0 : Nat) : Int) ≤ R.p; omega,hp,rfl⟩
theorem RdL.lst {α : Type} {one : Rp → α × Rp} {ok : α → Prop} {enc : α → List Int} (h : RdL one ok enc) {s v : ByteArray} {p n : Nat} {m : List Int} {xs : List α} {t la : Bool} (hf : From s p (beL n v.size ++ (bytesOf v ++ m))) (hn : (v.size : Int) < 256 ^ n) (h3 : n ≤ 3) (hv : bytesOf v = xs.flatMap enc) (ho : ∀ x ∈ xs,ok x) (he : xs ≠ []) :
  lstV one ⟨s,p,0,t,la⟩ n = xs ∧ lstR one ⟨s,p,0,t,la⟩ n = ⟨s,((p + n + v.size : Nat) : Int),0,t,la⟩ ∧ From s (p + n + v.size) m := by
 obtain ⟨e1,e2,f⟩ := rin (tw := t) (la := la) hf hn h3
 have hp : 0 < v.size := by
  have hl := h.lens xs ho
  rw [← hv,bytesOf_length] at hl
  cases xs with
  | nil => exact absurd rfl he
  | cons a r => rw [List.length_cons] at hl; omega
 have hl : (Rp.mk s p 0 t la).lst n = ⟨v,0,0,t,false⟩ := by
  unfold Rp.lst
  rw [e1]
  unfold Rp.need
  dsimp only
  rw [decide_eq_true hp]
  rfl
 have w := h.whole hv ho t false
 refine ⟨?_,?_,f⟩
 ·unfold lstV allV
  rw [hl]
  dsimp only
  rw [w]
 ·unfold lstR allR
  rw [hl,e2]
  dsimp only
  rw [w]
  rfl
theorem rAll_size {α : Type} (one : Rp → α × Rp) {R : Rp} (h : 0 < R.s.size) (hp : R.p = 0) (hc : R.c = 0) : (rAll one R.s.size R).1 ≠ [] := by
 obtain ⟨k,hk⟩ : ∃ k,R.s.size = k + 1 := ⟨R.s.size - 1,by omega⟩
 rw [hk]
 unfold rAll
 rw [if_pos (by rw [more_iff]; omega)]
 exact fun h => by cases h
theorem RdL.lst_back {α : Type} {one : Rp → α × Rp} {ok : α → Prop} {enc : α → List Int} (h : RdL one ok enc) {R : Rp} {n : Nat} (hc : (lstR one R n).c = 0) :
  R.c = 0 ∧ lstV one R n ≠ [] ∧ (∀ x ∈ lstV one R n,ok x) ∧ R.p + n + (((lstV one R n).flatMap enc).length : Int) ≤ (lstR one R n).p ∧ (lstR one R n).p ≤ R.s.size ∧ (lstR one R n).s = R.s ∧ (((lstV one R n).flatMap enc).length : Int) < 256 ^ n := by
 have hc' : (allR one (R.lst n)).c = 0 := hc
 unfold allR at hc'
 have hl0 : (R.lst n).p ≤ (R.lst n).s.size := by show (0 : Int) ≤ _; omega
 obtain ⟨a,b,c,d,f⟩ := h.back _ (R.lst n) hl0 hc'
 have a' : needed (R.inR n).c (decide (0 < (R.inR n).s.size)) = 0 := a
 obtain ⟨c0,c1⟩ := needed_zero a'
 have c1' : 0 < (R.inR n).s.size := of_decide_eq_true c1
 obtain ⟨g1,g2,g3,g4⟩ := in_back c0
 have hv := vec_back (R := R) (n := n) (lo := 0) (hi := 16777216) c0
 have hs : (R.inR n).s.size = (R.vecV n 0 16777216).size := rfl
 have hp : (lstR one R n).p = R.p + n + (R.inR n).s.size := by
  show (R.outR n).p = _
  rw [g3]
 have c' : (0 : Int) + (((lstV one R n).flatMap enc).length : Int) ≤ (rAll one (R.lst n).s.size (R.lst n)).2.p := c
 have d' : (rAll one (R.lst n).s.size (R.lst n)).2.p ≤ (R.inR n).s.size := d
 refine ⟨g1,rAll_size one c1' rfl a,b,by omega,by omega,?_,by omega⟩
 show (R.outR n).s = R.s
 rw [g3]
theorem rfN (n : Nat) (h0 : 1 ≤ n) : RdL (oneNum n) (okN n) (beL n) := by
 constructor
 ·intro s p x m t la hf ho
  obtain ⟨e1,e2,_⟩ := rnum (tw := t) (la := la) hf ho.1 ho.2
  unfold oneNum
  rw [e1,e2,beL_length]
 ·intro x _
  rw [beL_length]
  omega
 ·intro R hc
  obtain ⟨a,b,c,d⟩ := num_back (R := R) (n := n) hc
  unfold oneNum
  dsimp only
  rw [c,beL_length]
  exact ⟨a,b,Int.le_refl _,d,rfl⟩
theorem enS_length (x : S66) : (enS x).length = 4 + x.f1.size := by
 unfold enS
 rw [List.length_append,List.length_append,beL_length,beL_length,bytesOf_length]
 omega
theorem enI_length (x : S111) : (enI x).length = 6 + x.f0.size := by
 unfold enI
 rw [List.length_append,List.length_append,beL_length,beL_length,bytesOf_length]
 omega
theorem enB_length (x : ByteArray) : (enB x).length = 1 + x.size := by
 unfold enB
 rw [List.length_append,beL_length,bytesOf_length]
theorem sha_fwd {s : ByteArray} {p : Nat} {x : S66} {m : List Int} {t la : Bool} (hf : From s p (enS x ++ m)) (ho : okS x) : (Rp.mk s p 0 t la).shaV = x ∧ (Rp.mk s p 0 t la).shaR = ⟨s,((p + (enS x).length : Nat) : Int),0,t,la⟩ := by
 unfold enS at hf
 rw [List.append_assoc,List.append_assoc] at hf
 obtain ⟨e1,e2,f1⟩ := rnum (tw := t) (la := la) hf ho.1.1 ho.1.2
 obtain ⟨e3,e4,_⟩ := rvec (tw := t) (la := la) 1 65536 f1 (by have := ho.2.2; omega) (by have := ho.2.1; omega) (by have := ho.2.2; omega)
 have e3' : (Rp.mk s ((p + 2 : Nat) : Int) 0 t la).vecV 2 1 65536 = x.f1 := e3
 have e4' : (Rp.mk s ((p + 2 : Nat) : Int) 0 t la).vecR 2 1 65536 = _ := e4
 have e1' : (Rp.mk s p 0 t la).numV 2 = x.f0 := e1
 have e2' : (Rp.mk s p 0 t la).numR 2 = _ := e2
 unfold Rp.shaV Rp.shaR
 rw [e1',e2',e3',e4',enS_length]
 refine ⟨rfl,?_⟩
 congr 1
 omega
theorem sha_back {R : Rp} (hc : R.shaR.c = 0) : R.c = 0 ∧ okS R.shaV ∧ R.shaR = { R with p := R.p + ((enS R.shaV).length : Int) } ∧ R.shaR.p ≤ R.s.size := by
 unfold Rp.shaR at hc
 obtain ⟨a,b,c,d⟩ := vec_back hc
 obtain ⟨a2,b2,c2,d2⟩ := num_back a
 have hV : (R.shaV).f1 = (R.numR 2).vecV 2 1 65536 := rfl
 have hN : (R.shaV).f0 = R.numV 2 := rfl
 have e : R.shaR = { R with p := R.p + ((enS R.shaV).length : Int) } := by
  unfold Rp.shaR
  rw [c,c2,enS_length,hV,c2]
  congr 1
  dsimp only
  omega
 refine ⟨a2,⟨b2,by rw [hV]; omega,by rw [hV]; omega⟩,e,?_⟩
 have hp : R.shaR.p = (R.numR 2).p + 2 + ((R.numR 2).vecV 2 1 65536).size := by
  show ((R.numR 2).vecR 2 1 65536).p = _
  rw [c]
  rfl
 have hs : (R.numR 2).s = R.s := by rw [c2]
 rw [hp,← hs]
 exact d
theorem rfS : RdL oneSha okS enS := by
 constructor
 ·intro s p x m t la hf ho
  obtain ⟨e1,e2⟩ := sha_fwd (t := t) (la := la) hf ho
  unfold oneSha
  rw [e1,e2]
 ·intro x _
  rw [enS_length]
  omega
 ·intro R hc
  obtain ⟨a,b,c,d⟩ := sha_back (R := R) hc
  unfold oneSha
  dsimp only
  refine ⟨a,b,by rw [c]; exact Int.le_refl _,d,by rw [c]⟩
theorem rfI : RdL oneIde okI enI := by
 constructor
 ·intro s p x m t la hf ho
  unfold enI at hf
  rw [List.append_assoc,List.append_assoc] at hf
  obtain ⟨e1,e2,f1⟩ := rvec (tw := t) (la := la) 1 65536 hf (by have := ho.1.2; omega) (by have := ho.1.1; omega) (by have := ho.1.2; omega)
  obtain ⟨e3,e4,_⟩ := rnum (tw := t) (la := la) f1 ho.2.1 ho.2.2
  have e1' : (Rp.mk s p 0 t la).vecV 2 1 65536 = x.f0 := e1
  have e2' : (Rp.mk s p 0 t la).vecR 2 1 65536 = _ := e2
  have e3' : (Rp.mk s ((p + 2 + x.f0.size : Nat) : Int) 0 t la).numV 4 = x.f1 := e3
  have e4' : (Rp.mk s ((p + 2 + x.f0.size : Nat) : Int) 0 t la).numR 4 = _ := e4
  unfold oneIde Rp.ideV Rp.ideR
  rw [e1',e2',e3',e4',enI_length]
  congr 2
  omega
 ·intro x _
  rw [enI_length]
  omega
 ·intro R hc
  have hc' : ((R.vecR 2 1 65536).numR 4).c = 0 := hc
  obtain ⟨a,b,c,d⟩ := num_back hc'
  obtain ⟨a2,b2,c2,d2⟩ := vec_back a
  have hV : (oneIde R).1.f0 = R.vecV 2 1 65536 := rfl
  have hN : (oneIde R).1.f1 = (R.vecR 2 1 65536).numV 4 := rfl
  have e : (oneIde R).2 = { R with p := R.p + ((enI (oneIde R).1).length : Int) } := by
   show (R.vecR 2 1 65536).numR 4 = _
   rw [c,c2,enI_length,hV]
   congr 1
   dsimp only
   omega
  have hd : (oneIde R).2.p ≤ R.s.size := by
   show ((R.vecR 2 1 65536).numR 4).p ≤ _
   rw [c,c2]
   rw [c2] at d
   exact d
  refine ⟨a2,⟨⟨by rw [hV]; omega,by rw [hV]; omega⟩,b⟩,by rw [e]; exact Int.le_refl _,hd,by rw [e]⟩
theorem rfB : RdL oneBin okB enB := by
 constructor
 ·intro s p x m t la hf ho
  unfold enB at hf
  rw [List.append_assoc] at hf
  obtain ⟨e1,e2,_⟩ := rvec (tw := t) (la := la) 32 255 hf (by have := ho.2; omega) (by have := ho.1; omega) (by have := ho.2; omega)
  have e1' : (Rp.mk s p 0 t la).vecV 1 32 255 = x := e1
  have e2' : (Rp.mk s p 0 t la).vecR 1 32 255 = _ := e2
  unfold oneBin Rp.binV Rp.binR
  rw [e1',e2',enB_length]
  congr 2
  omega
 ·intro x _
  rw [enB_length]
  omega
 ·intro R hc
  have hc' : (R.vecR 1 32 255).c = 0 := hc
  obtain ⟨a,b,c,d⟩ := vec_back hc'
  have hV : (oneBin R).1 = R.vecV 1 32 255 := rfl
  have e : (oneBin R).2 = { R with p := R.p + ((enB (oneBin R).1).length : Int) } := by
   show R.vecR 1 32 255 = _
   rw [c,enB_length,hV]
   congr 1
   omega
  have hd : (oneBin R).2.p ≤ R.s.size := by
   show (R.vecR 1 32 255).p ≤ _
   rw [c]
   exact d
  exact ⟨a,⟨by rw [hV]; omega,by rw [hV]; omega⟩,by rw [e]; exact Int.le_refl _,hd,by rw [e]⟩
theorem size_nil {s : ByteArray} (h : s.size = 0) : s = ⟨#[]⟩ := by
 apply ByteArray.ext
 exact Array.eq_empty_of_size_eq_zero h
theorem zero_eq {m : Mv} (h : m.zero = true) : m = { zeroM with f0 := m.f0 } := by
 unfold Mv.zero at h
 simp only [Bool.and_eq_true,beq_iff_eq] at h
 obtain ⟨⟨⟨⟨⟨⟨ht,hl⟩,h12⟩,h15⟩,h17⟩,h18⟩,h20⟩ := h
 unfold Mv.texts at ht
 unfold Mv.lists at hl
 obtain ⟨f0,f1,f2,f3,f4,f5,f6,f7,f8,f9,f10,f11,f12,f13,f14,f15,f16,f17,f18,f19,f20⟩ := m
 dsimp only at *
 obtain rfl := size_nil (s := f1) (by omega)
 obtain rfl := size_nil (s := f2) (by omega)
 obtain rfl := size_nil (s := f4) (by omega)
 obtain rfl := size_nil (s := f16) (by omega)
 obtain rfl := size_nil (s := f19) (by omega)
 obtain rfl := List.eq_nil_of_length_eq_zero (l := f3) (by omega)
 obtain rfl := List.eq_nil_of_length_eq_zero (l := f5) (by omega)
 obtain rfl := List.eq_nil_of_length_eq_zero (l := f6) (by omega)
 obtain rfl := List.eq_nil_of_length_eq_zero (l := f7) (by omega)
 obtain rfl := List.eq_nil_of_length_eq_zero (l := f8) (by omega)
 obtain rfl := List.eq_nil_of_length_eq_zero (l := f9) (by omega)
 obtain rfl := List.eq_nil_of_length_eq_zero (l := f10) (by omega)
 obtain rfl := List.eq_nil_of_length_eq_zero (l := f11) (by omega)
 obtain rfl := List.eq_nil_of_length_eq_zero (l := f13) (by omega)
 obtain rfl := List.eq_nil_of_length_eq_zero (l := f14) (by omega)
 subst h12 h15 h17 h18 h20
 rfl
def wC (W : Wp) (c : ByteArray) : Wp := (W.vec c 3 1 16777216).vec ⟨#[]⟩ 2 0 0
def okC (c : ByteArray) : Prop := 1 ≤ c.size ∧ c.size ≤ 16777215
def enC (c : ByteArray) : List Int := (beL 3 c.size ++ bytesOf c) ++ (beL 2 (⟨#[]⟩ : ByteArray).size ++ bytesOf (⟨#[]⟩ : ByteArray))
theorem certW_eq (l : List ByteArray) : certW l = ((fw wC l).s,(fw wC l).b) := by
 have : ∀ (l : List ByteArray) (W : Wp),l.foldl certStep (W.s,W.b) = ((l.foldl wC W).s,(l.foldl wC W).b) := by
  intro l
  induction l with
  | nil => intro W; rfl
  | cons a r ih => intro W; exact ih (wC W a)
 exact this l W0
theorem enC_length (c : ByteArray) : (enC c).length = 5 + c.size := by
 unfold enC
 rw [List.length_append,List.length_append,List.length_append,beL_length,beL_length,bytesOf_length,bytesOf_length]
 show 3 + c.size + (2 + 0) = _
 omega
theorem wfC : WF wC okC enC := by
 constructor
 ·intro W x
  have e : (W.vec x 3 1 16777216).b = false ↔ W.b = false ∧ (x.size : Int) < 256 ^ 3 ∧ 1 ≤ (x.size : Int) ∧ (x.size : Int) ≤ 16777216 := vec_f_iff (n := 3) (by decide) (by decide)
  refine Iff.trans (vec_f_iff (n := 2) (by decide) (by decide)) ?_
  rw [e]
  unfold okC
  exact ⟨fun h => ⟨h.1.1,by omega,by omega⟩,fun h => ⟨⟨h.1,by omega,by omega,by omega⟩,by decide,by decide,by decide⟩⟩
 ·intro W l x h ho
  have := (h.vec (n := 3) (lo := 1) (hi := 16777216) (v := x) (by decide) (by decide) (by have := ho.2; omega) (by have := ho.1; omega) (by have := ho.2; omega)).vec (n := 2) (lo := 0) (hi := 0) (v := ⟨#[]⟩) (by decide) (by decide) (by decide) (by decide) (by decide)
  unfold enC
  rw [← List.append_assoc]
  exact this
theorem bar_fwd {s : ByteArray} {p : Nat} {m : List Int} {t la : Bool} (hf : From s p (beL 2 (⟨#[]⟩ : ByteArray).size ++ (bytesOf (⟨#[]⟩ : ByteArray) ++ m))) : (Rp.mk s p 0 t la).barR = ⟨s,((p + 2 : Nat) : Int),0,t,la⟩ ∧ From s (p + 2) m := by
 obtain ⟨e1,e2,f1⟩ := rvec (tw := t) (la := la) 0 65536 hf (by decide) (by decide) (by decide)
 have e1' : (Rp.mk s p 0 t la).vecV 2 0 65536 = ⟨#[]⟩ := e1
 have e2' : (Rp.mk s p 0 t la).vecR 2 0 65536 = _ := e2
 have hE : (Rp.mk s p 0 t la).barE = 0 := by
  unfold Rp.barE
  rw [e1']
  decide +kernel
 refine ⟨?_,f1⟩
 unfold Rp.barR
 rw [hE,if_neg (by decide),if_neg (by decide),e2']
 rfl
theorem bar_back {R : Rp} (hc : R.barR.c = 0) : R.c = 0 ∧ R.p + 2 ≤ R.barR.p ∧ R.barR.p ≤ R.s.size ∧ R.barR.s = R.s := by
 have h : (R.vecR 2 0 65536).c = 0 ∧ R.barR.p = (R.vecR 2 0 65536).p ∧ R.barR.s = R.s := by
  unfold Rp.barR at hc ⊢
  by_cases c1 : R.barE = 1601
  ·rw [if_pos c1] at hc ⊢
   exact ⟨hc,rfl,rfl⟩
  ·rw [if_neg c1] at hc ⊢
   by_cases c2 : R.barE = 1600
   ·rw [if_pos c2] at hc ⊢
    refine ⟨?_,rfl,rfl⟩
    have hb : bad (R.vecR 2 0 65536).c 1700 = 0 := hc
    unfold bad at hb
    split at hb
    ·cases hb
    ·exact absurd hb ‹_›
   ·rw [if_neg c2] at hc ⊢
    exact ⟨hc,rfl,rfl⟩
 obtain ⟨h1,h2,h3⟩ := h
 obtain ⟨a,b,c,d⟩ := vec_back h1
 have hp : R.barR.p = R.p + 2 + (R.vecV 2 0 65536).size := by
  rw [h2,c]
  rfl
 refine ⟨a,by omega,by rw [hp]; exact d,h3⟩
theorem rfC : RdL oneCer okC enC := by
 constructor
 ·intro s p x m t la hf ho
  unfold enC at hf
  rw [List.append_assoc,List.append_assoc,List.append_assoc] at hf
  obtain ⟨e1,e2,f1⟩ := rvec (tw := t) (la := la) 1 16777216 hf (by have := ho.2; omega) (by have := ho.1; omega) (by have := ho.2; omega)
  obtain ⟨e3,_⟩ := bar_fwd (t := t) (la := la) f1
  have e1' : (Rp.mk s p 0 t la).vecV 3 1 16777216 = x := e1
  have e2' : (Rp.mk s p 0 t la).vecR 3 1 16777216 = _ := e2
  unfold oneCer Rp.cerV Rp.cerR
  rw [e1',e2',e3,enC_length]
  congr 2
  omega
 ·intro x _
  rw [enC_length]
  omega
 ·intro R hc
  have hc' : ((R.vecR 3 1 16777216).barR).c = 0 := hc
  obtain ⟨a,b,c,d⟩ := bar_back hc'
  obtain ⟨a2,b2,c2,d2⟩ := vec_back a
  have hV : (oneCer R).1 = R.vecV 3 1 16777216 := rfl
  have hR : (oneCer R).2 = (R.vecR 3 1 16777216).barR := rfl
  have hp : (R.vecR 3 1 16777216).p = R.p + 3 + (R.vecV 3 1 16777216).size := by rw [c2]; rfl
  have hs : (R.vecR 3 1 16777216).s = R.s := by rw [c2]
  rw [hs] at c d
  refine ⟨a2,⟨by rw [hV]; omega,by rw [hV]; omega⟩,?_,c,d⟩
  rw [enC_length,hV,hR]
  omega
theorem bodyP_8 (R : Rp) : bodyP R { zeroM with f0 := 8 } = ({ (R.nX { zeroM with f0 := 8 }).2.1 with f13 := (R.nX { zeroM with f0 := 8 }).1 },(R.outR 2).back (R.nX { zeroM with f0 := 8 }).2.2) := rfl
theorem bodyP_11 (R : Rp) : bodyP R { zeroM with f0 := 11 } = ({ zeroM with f0 := 11,f14 := R.ceV },R.ceN) := rfl
theorem bodyP_15 (R : Rp) : bodyP R { zeroM with f0 := 15 } = ({ zeroM with f0 := 15,f15 := R.numV 2,f16 := (R.numR 2).vecV 2 0 65536 },(R.numR 2).vecR 2 0 65536) := rfl
theorem bodyP_20 (R : Rp) : bodyP R { zeroM with f0 := 20 } = ({ zeroM with f0 := 20,f16 := R.f1.bytV (R.s.size : Int) },R.f1.bytR (R.s.size : Int)) := rfl
theorem bodyP_4 (R : Rp) : bodyP R { zeroM with f0 := 4 } = (R.tiM { zeroM with f0 := 4 },R.ti4.barR) := rfl
theorem bodyP_24 (R : Rp) : bodyP R { zeroM with f0 := 24 } = ({ zeroM with f0 := 24,f20 := R.numV 1 + 1 },R.u1) := rfl
def Rt (m : Mv) : Prop := bodyP ⟨(bodyW m).s,0,0,false,false⟩ { zeroM with f0 := m.f0 } = (m,⟨(bodyW m).s,((bodyW m).s.size : Int),0,false,false⟩)
theorem bodyW_8 {m : Mv} (h : m.f0 = 8) : bodyW m = W0.vec ⟨#[]⟩ 2 0 0 := by
 unfold bodyW
 rw [if_neg (by omega),if_neg (by omega),if_pos h]
theorem bodyW_11 {m : Mv} (h : m.f0 = 11) : bodyW m = (W0.vec ⟨#[]⟩ 1 0 0).within (fw wC m.f14) 3 := by
 unfold bodyW
 rw [if_neg (by omega),if_neg (by omega),if_neg (by omega),if_pos h,certW_eq]
theorem bodyW_15 {m : Mv} (h : m.f0 = 15) : bodyW m = (W0.num m.f15 2).vec m.f16 2 0 65536 := by
 unfold bodyW
 rw [if_neg (by omega),if_neg (by omega),if_neg (by omega),if_neg (by omega),if_pos h]
theorem bodyW_20 {m : Mv} (h : m.f0 = 20) : bodyW m = (W0.need (fin32 (m.f16.size : Int))).add m.f16 := by
 unfold bodyW
 rw [if_neg (by omega),if_neg (by omega),if_neg (by omega),if_neg (by omega),if_neg (by omega),if_pos h]
theorem bodyW_4 {m : Mv} (h : m.f0 = 4) : bodyW m = ((((W0.num m.f17 4).num m.f18 4).vec m.f19 1 0 255).vec m.f16 2 1 65536).vec ⟨#[]⟩ 2 0 0 := by
 unfold bodyW
 rw [if_neg (by omega),if_neg (by omega),if_neg (by omega),if_neg (by omega),if_neg (by omega),if_neg (by omega),if_pos h]
theorem bodyW_24 {m : Mv} (h : m.f0 = 24) : bodyW m = (W0.need (m.f20 == 1 || m.f20 == 2)).num (wrap64 (m.f20 - 1)) 1 := by
 unfold bodyW
 rw [if_neg (by omega),if_neg (by omega),if_neg (by omega),if_neg (by omega),if_neg (by omega),if_neg (by omega),if_neg (by omega)]
theorem wk8 : Wk (W0.vec ⟨#[]⟩ 2 0 0) ([] ++ (beL 2 (⟨#[]⟩ : ByteArray).size ++ bytesOf (⟨#[]⟩ : ByteArray))) := Wk.w0.vec (n := 2) (lo := 0) (hi := 0) (by decide) (by decide) (by decide) (by decide) (by decide)
theorem rt8 {m : Mv} (hk : m.f0 = 8) (hz : m.unused.zero = true) (hb : (bodyW m).b = false) : Rt m := by
 have hm : m.unused = m := by
  unfold Mv.unused
  rw [if_neg (by omega),if_neg (by omega),if_neg (by omega),if_neg (by omega),if_neg (by omega),if_neg (by omega),if_neg (by omega)]
 rw [hm] at hz
 have hme := zero_eq hz
 rw [hk] at hme
 unfold Rt
 rw [hk,bodyW_8 hk,hme]
 have w := wk8
 obtain ⟨u,hu⟩ : ∃ u,(W0.vec ⟨#[]⟩ 2 0 0).s = u := ⟨_,rfl⟩
 have hbt := w.2
 have f0 := From.start u
 rw [hu] at hbt ⊢
 rw [hbt] at f0
 have f0' : From u 0 (beL 2 (⟨#[]⟩ : ByteArray).size ++ (bytesOf (⟨#[]⟩ : ByteArray) ++ [])) := f0
 obtain ⟨e1,e2,f1⟩ := rin (tw := false) (la := false) f0' (by decide) (by decide)
 have hl := f1.len
 have e1' : (Rp.mk u 0 0 false false).inR 2 = _ := e1
 have e2' : (Rp.mk u 0 0 false false).outR 2 = _ := e2
 have hn : (Rp.mk u 0 0 false false).nX { zeroM with f0 := 8 } = ([],{ zeroM with f0 := 8 },⟨⟨#[]⟩,0,0,false,false⟩) := by
  unfold Rp.nX
  rw [e1']
  rfl
 rw [bodyP_8,hn,e2']
 simp only [List.length_nil,Nat.add_zero] at hl
 unfold Rp.back
 dsimp only
 congr 2
 omega
theorem rt15 {m : Mv} (hk : m.f0 = 15) (hz : m.unused.zero = true) (hb : (bodyW m).b = false) : Rt m := by
 have hm : m.unused = { m with f15 := 0,f16 := ByteArray.empty } := by
  unfold Mv.unused
  rw [if_neg (by omega),if_neg (by omega),if_neg (by omega),if_neg (by omega),if_neg (by omega),if_pos hk]
 rw [hm] at hz
 have hme := congrArg (fun x : Mv => { x with f15 := m.f15,f16 := m.f16 }) (zero_eq hz)
 dsimp only at hme
 rw [hk] at hme
 have hme' : m = { zeroM with f0 := 15,f15 := m.f15,f16 := m.f16 } := by
  obtain ⟨⟩ := m
  dsimp only at hk hme ⊢
  subst hk
  exact hme
 unfold Rt
 rw [bodyW_15 hk] at hb ⊢
 have i2 : ((W0.num m.f15 2).vec m.f16 2 0 65536).b = false ↔ _ := vec_f_iff (n := 2) (by decide) (by decide)
 have i1 : (W0.num m.f15 2).b = false ↔ _ := num_f_iff (n := 2) (by decide) (by decide)
 rw [i2,i1] at hb
 obtain ⟨⟨_,a1,a2⟩,b1,b2,b3⟩ := hb
 have w := (Wk.w0.num (n := 2) (by decide) (by decide) a1 a2).vec (n := 2) (by decide) (by decide) b1 b2 b3
 obtain ⟨u,hu⟩ : ∃ u,((W0.num m.f15 2).vec m.f16 2 0 65536).s = u := ⟨_,rfl⟩
 have hbt : bytesOf u = ([] ++ beL 2 m.f15) ++ (beL 2 m.f16.size ++ bytesOf m.f16) := by rw [← hu]; exact w.2
 rw [hu]
 have f0 := From.start u
 rw [hbt,List.nil_append] at f0
 obtain ⟨e1,e2,f1⟩ := rnum (tw := false) (la := false) f0 a1 a2
 have f1' : From u (0 + 2) (beL 2 m.f16.size ++ (bytesOf m.f16 ++ [])) := by rw [List.append_nil]; exact f1
 obtain ⟨e3,e4,f2⟩ := rvec (tw := false) (la := false) 0 65536 f1' b1 b2 b3
 have e1' : (Rp.mk u 0 0 false false).numV 2 = m.f15 := e1
 have e2' : (Rp.mk u 0 0 false false).numR 2 = _ := e2
 have e3' : (Rp.mk u ((0 + 2 : Nat) : Int) 0 false false).vecV 2 0 65536 = m.f16 := e3
 have e4' : (Rp.mk u ((0 + 2 : Nat) : Int) 0 false false).vecR 2 0 65536 = _ := e4
 have hl := f2.len
 simp only [List.length_nil,Nat.add_zero] at hl
 rw [hk,bodyP_15,e1',e2',e3',e4',← hme']
 congr 2
 omega
theorem rt24 {m : Mv} (hk : m.f0 = 24) (hz : m.unused.zero = true) (hb : (bodyW m).b = false) : Rt m := by
 have hm : m.unused = { m with f20 := 0 } := by
  unfold Mv.unused
  rw [if_neg (by omega),if_neg (by omega),if_neg (by omega),if_neg (by omega),if_neg (by omega),if_neg (by omega),if_pos hk]
 rw [hm] at hz
 have hme := congrArg (fun x : Mv => { x with f20 := m.f20 }) (zero_eq hz)
 dsimp only at hme
 rw [hk] at hme
 have hme' : m = { zeroM with f0 := 24,f20 := m.f20 } := by
  obtain ⟨⟩ := m
  dsimp only at hk hme ⊢
  subst hk
  exact hme
 unfold Rt
 rw [bodyW_24 hk] at hb ⊢
 have i2 : ((W0.need (m.f20 == 1 || m.f20 == 2)).num (wrap64 (m.f20 - 1)) 1).b = false ↔ _ := num_f_iff (n := 1) (by decide) (by decide)
 rw [i2,need_f_iff] at hb
 obtain ⟨⟨_,a0⟩,a1,a2⟩ := hb
 have hv : m.f20 = 1 ∨ m.f20 = 2 := by simpa using a0
 have hw : wrap64 (m.f20 - 1) = m.f20 - 1 := by unfold wrap64; omega
 have w := (Wk.w0.need a0).num (n := 1) (by decide) (by decide) a1 a2
 obtain ⟨u,hu⟩ : ∃ u,((W0.need (m.f20 == 1 || m.f20 == 2)).num (wrap64 (m.f20 - 1)) 1).s = u := ⟨_,rfl⟩
 have hbt : bytesOf u = [] ++ beL 1 (wrap64 (m.f20 - 1)) := by rw [← hu]; exact w.2
 rw [hu]
 have f0 := From.start u
 rw [hbt,List.nil_append] at f0
 have f0' : From u 0 (beL 1 (wrap64 (m.f20 - 1)) ++ []) := by rw [List.append_nil]; exact f0
 obtain ⟨e1,e2,f1⟩ := rnum (tw := false) (la := false) f0' a1 a2
 have e1' : (Rp.mk u 0 0 false false).numV 1 = _ := e1
 have e2' : (Rp.mk u 0 0 false false).numR 1 = _ := e2
 have hl := f1.len
 simp only [List.length_nil,Nat.add_zero] at hl
 have hu1 : (Rp.mk u 0 0 false false).u1 = ⟨u,(u.size : Int),0,false,false⟩ := by
  unfold Rp.u1 Rp.allow
  rw [e1',e2',hw,decide_eq_true (by omega)]
  show Rp.mk u ((0 + 1 : Nat) : Int) 0 false false = _
  congr 1
  omega
 rw [hk,bodyP_24,hu1,e1',hw]
 have : m.f20 - 1 + 1 = m.f20 := by omega
 rw [this,← hme']
theorem rt20 {m : Mv} (hk : m.f0 = 20) (hz : m.unused.zero = true) (hb : (bodyW m).b = false) : Rt m := by
 have hm : m.unused = { m with f16 := ByteArray.empty } := by
  unfold Mv.unused
  rw [if_neg (by omega),if_neg (by omega),if_neg (by omega),if_neg (by omega),if_pos hk]
 rw [hm] at hz
 have hme := congrArg (fun x : Mv => { x with f16 := m.f16 }) (zero_eq hz)
 dsimp only at hme
 rw [hk] at hme
 have hme' : m = { zeroM with f0 := 20,f16 := m.f16 } := by
  obtain ⟨⟩ := m
  dsimp only at hk hme ⊢
  subst hk
  exact hme
 unfold Rt
 rw [bodyW_20 hk] at hb ⊢
 have hb' : (W0.need (fin32 (m.f16.size : Int))).b = false := hb
 rw [need_f_iff] at hb'
 have w := (Wk.w0.need hb'.2).add m.f16
 obtain ⟨u,hu⟩ : ∃ u,((W0.need (fin32 (m.f16.size : Int))).add m.f16).s = u := ⟨_,rfl⟩
 have hue : u = m.f16 := by
  rw [← hu]
  exact bytesOf_inj (by rw [w.2,List.nil_append])
 rw [hu]
 have f0 := From.start u
 have f0' : From u 0 (bytesOf u ++ []) := by rw [List.append_nil]; exact f0
 have hf1 : (Rp.mk u 0 0 false false).f1 = ⟨u,0,0,false,false⟩ := by
  unfold Rp.f1 Rp.need
  show Rp.mk u 0 (needed 0 (fin32 (u.size : Int))) false false = _
  rw [hue,hb'.2]
  rfl
 obtain ⟨e1,e2,f1⟩ := rbyt (tw := false) (la := false) (n := u.size) f0' rfl
 have e1' : (Rp.mk u 0 0 false false).bytV (u.size : Int) = u := e1
 have e2' : (Rp.mk u 0 0 false false).bytR (u.size : Int) = _ := e2
 rw [hk,bodyP_20,hf1]
 dsimp only
 rw [e1',e2',hue,← hme']
 congr 2
 omega
theorem rt11 {m : Mv} (hk : m.f0 = 11) (hz : m.unused.zero = true) (hb : (bodyW m).b = false) : Rt m := by
 have hm : m.unused = { m with f14 := [] } := by
  unfold Mv.unused
  rw [if_neg (by omega),if_neg (by omega),if_pos hk]
 rw [hm] at hz
 have hme := congrArg (fun x : Mv => { x with f14 := m.f14 }) (zero_eq hz)
 dsimp only at hme
 rw [hk] at hme
 have hme' : m = { zeroM with f0 := 11,f14 := m.f14 } := by
  obtain ⟨⟩ := m
  dsimp only at hk hme ⊢
  subst hk
  exact hme
 unfold Rt
 rw [bodyW_11 hk] at hb ⊢
 have i2 : ((W0.vec ⟨#[]⟩ 1 0 0).within (fw wC m.f14) 3).b = false ↔ _ := within_f_iff (n := 3) (by decide) (by decide)
 rw [i2,wfC.fw_iff] at hb
 obtain ⟨_,a1,a2⟩ := hb
 have wc := wfC.fw a1
 obtain ⟨v,hv⟩ : ∃ v,(fw wC m.f14).s = v := ⟨_,rfl⟩
 have hvb : bytesOf v = m.f14.flatMap enC := by rw [← hv]; exact wc.2
 rw [hv] at a2
 have w := (Wk.w0.vec (n := 1) (v := ⟨#[]⟩) (lo := 0) (hi := 0) (by decide) (by decide) (by decide) (by decide) (by decide)).within (n := 3) (u := m.f14.flatMap enC) wc (by decide) (by decide) (by rw [← hvb,bytesOf_length]; exact a2)
 obtain ⟨u,hu⟩ : ∃ u,((W0.vec ⟨#[]⟩ 1 0 0).within (fw wC m.f14) 3).s = u := ⟨_,rfl⟩
 have hbt : bytesOf u = ([] ++ (beL 1 (⟨#[]⟩ : ByteArray).size ++ bytesOf (⟨#[]⟩ : ByteArray))) ++ (beL 3 v.size ++ bytesOf v) := by
  rw [← hu]
  refine w.2.trans ?_
  rw [← hvb,bytesOf_length]
 rw [hu]
 have f0 := From.start u
 rw [hbt,List.nil_append,List.append_assoc] at f0
 obtain ⟨e1,e2,f1⟩ := rvec (tw := false) (la := false) 0 255 f0 (by decide) (by decide) (by decide)
 have hce : (Rp.mk u 0 0 false false).ceR = ⟨u,((1 : Nat) : Int),0,false,false⟩ := by
  unfold Rp.ceR
  have e1' : (Rp.mk u 0 0 false false).vecV 1 0 255 = ⟨#[]⟩ := e1
  have e2' : (Rp.mk u 0 0 false false).vecR 1 0 255 = _ := e2
  rw [e1',e2',nil_empty]
  rfl
 have f1' : From u 1 (beL 3 v.size ++ (bytesOf v ++ [])) := by rw [List.append_nil]; exact f1
 obtain ⟨e3,e4,f2⟩ := rin (tw := false) (la := false) f1' a2 (by decide)
 have e3' : (Rp.mk u ((1 : Nat) : Int) 0 false false).inR 3 = _ := e3
 have e4' : (Rp.mk u ((1 : Nat) : Int) 0 false false).outR 3 = _ := e4
 have hw := rfC.whole hvb a1 false false
 have hl := f2.len
 simp only [List.length_nil,Nat.add_zero] at hl
 have hV : (Rp.mk u 0 0 false false).ceV = m.f14 := by
  unfold Rp.ceV allV
  rw [hce,e3']
  dsimp only
  rw [hw]
 have hN : (Rp.mk u 0 0 false false).ceN = ⟨u,(u.size : Int),0,false,false⟩ := by
  unfold Rp.ceN allR
  rw [hce,e3',e4']
  dsimp only
  rw [hw]
  unfold Rp.back
  dsimp only
  congr 1
  omega
 rw [hk,bodyP_11,hV,hN,← hme']
theorem rt4 {m : Mv} (hk : m.f0 = 4) (hz : m.unused.zero = true) (hb : (bodyW m).b = false) : Rt m := by
 have hm : m.unused = { m with f17 := 0,f18 := 0,f19 := ByteArray.empty,f16 := ByteArray.empty } := by
  unfold Mv.unused
  rw [if_neg (by omega),if_neg (by omega),if_neg (by omega),if_pos hk]
 rw [hm] at hz
 have hme := congrArg (fun x : Mv => { x with f17 := m.f17,f18 := m.f18,f19 := m.f19,f16 := m.f16 }) (zero_eq hz)
 dsimp only at hme
 rw [hk] at hme
 have hme' : m = { zeroM with f0 := 4,f17 := m.f17,f18 := m.f18,f19 := m.f19,f16 := m.f16 } := by
  obtain ⟨⟩ := m
  dsimp only at hk hme ⊢
  subst hk
  exact hme
 unfold Rt
 rw [bodyW_4 hk] at hb ⊢
 have i5 : (((((W0.num m.f17 4).num m.f18 4).vec m.f19 1 0 255).vec m.f16 2 1 65536).vec ⟨#[]⟩ 2 0 0).b = false ↔ _ := vec_f_iff (n := 2) (by decide) (by decide)
 have i4 : ((((W0.num m.f17 4).num m.f18 4).vec m.f19 1 0 255).vec m.f16 2 1 65536).b = false ↔ _ := vec_f_iff (n := 2) (by decide) (by decide)
 have i3 : (((W0.num m.f17 4).num m.f18 4).vec m.f19 1 0 255).b = false ↔ _ := vec_f_iff (n := 1) (by decide) (by decide)
 have i2 : ((W0.num m.f17 4).num m.f18 4).b = false ↔ _ := num_f_iff (n := 4) (by decide) (by decide)
 have i1 : (W0.num m.f17 4).b = false ↔ _ := num_f_iff (n := 4) (by decide) (by decide)
 rw [i5,i4,i3,i2,i1] at hb
 obtain ⟨⟨⟨⟨⟨_,a1,a2⟩,b1,b2⟩,c1,c2,c3⟩,d1,d2,d3⟩,_⟩ := hb
 have w := ((((Wk.w0.num (n := 4) (by decide) (by decide) a1 a2).num (n := 4) (by decide) (by decide) b1 b2).vec (n := 1) (by decide) (by decide) c1 c2 c3).vec (n := 2) (by decide) (by decide) d1 d2 d3).vec (n := 2) (v := ⟨#[]⟩) (lo := 0) (hi := 0) (by decide) (by decide) (by decide) (by decide) (by decide)
 obtain ⟨u,hu⟩ : ∃ u,(((((W0.num m.f17 4).num m.f18 4).vec m.f19 1 0 255).vec m.f16 2 1 65536).vec ⟨#[]⟩ 2 0 0).s = u := ⟨_,rfl⟩
 have hbt : bytesOf u = (((([] ++ beL 4 m.f17) ++ beL 4 m.f18) ++ (beL 1 m.f19.size ++ bytesOf m.f19)) ++ (beL 2 m.f16.size ++ bytesOf m.f16)) ++ (beL 2 (⟨#[]⟩ : ByteArray).size ++ bytesOf (⟨#[]⟩ : ByteArray)) := by rw [← hu]; exact w.2
 rw [hu]
 have f0 := From.start u
 rw [hbt] at f0
 simp only [List.nil_append,List.append_assoc] at f0
 obtain ⟨e1,e2,f1⟩ := rnum (tw := false) (la := false) f0 a1 a2
 obtain ⟨e3,e4,f2⟩ := rnum (tw := false) (la := false) f1 b1 b2
 obtain ⟨e5,e6,f3⟩ := rvec (tw := false) (la := false) 0 255 f2 c1 c2 c3
 obtain ⟨e7,e8,f4⟩ := rvec (tw := false) (la := false) 1 65536 f3 d1 d2 d3
 have f4' : From u (0 + 4 + 4 + 1 + m.f19.size + 2 + m.f16.size) (beL 2 (⟨#[]⟩ : ByteArray).size ++ (bytesOf (⟨#[]⟩ : ByteArray) ++ [])) := by rw [List.append_nil]; exact f4
 obtain ⟨e9,f5⟩ := bar_fwd (t := false) (la := false) f4'
 have hl := f5.len
 simp only [List.length_nil,Nat.add_zero] at hl
 have g0 : (Rp.mk u 0 0 false false).numV 4 = m.f17 := e1
 have g1 : (Rp.mk u 0 0 false false).ti1 = ⟨u,((0 + 4 : Nat) : Int),0,false,false⟩ := e2
 have g2 : (Rp.mk u 0 0 false false).ti2 = ⟨u,((0 + 4 + 4 : Nat) : Int),0,false,false⟩ := by
  unfold Rp.ti2
  rw [g1]
  exact e4
 have g3 : (Rp.mk u 0 0 false false).ti3 = ⟨u,((0 + 4 + 4 + 1 + m.f19.size : Nat) : Int),0,false,false⟩ := by
  unfold Rp.ti3
  rw [g2]
  exact e6
 have g4 : (Rp.mk u 0 0 false false).ti4 = ⟨u,((0 + 4 + 4 + 1 + m.f19.size + 2 + m.f16.size : Nat) : Int),0,false,false⟩ := by
  unfold Rp.ti4
  rw [g3]
  exact e8
 have e3' : (Rp.mk u ((0 + 4 : Nat) : Int) 0 false false).numV 4 = m.f18 := e3
 have e5' : (Rp.mk u ((0 + 4 + 4 : Nat) : Int) 0 false false).vecV 1 0 255 = m.f19 := e5
 have e7' : (Rp.mk u ((0 + 4 + 4 + 1 + m.f19.size : Nat) : Int) 0 false false).vecV 2 1 65536 = m.f16 := e7
 have hM : (Rp.mk u 0 0 false false).tiM { zeroM with f0 := 4 } = m := by
  unfold Rp.tiM
  rw [g0,g1,g2,g3,e3',e5',e7']
  exact hme'.symm
 rw [hk,bodyP_4,hM,g4,e9]
 congr 2
 omega
end Go.Proofs.Ytlkebjkpmiehcaa.Ms
end
