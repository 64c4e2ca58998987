/- Words, contracts and lemmas that the claim needs, in the order in which they build. Conditions: each lemma's own. -/
import Derived.Test.YtlkebjkpmiehcaaHz2
section
namespace Go.Proofs.Ytlkebjkpmiehcaa.Ms
open Go.RowKit Go.Proofs.YtlkebjkpmiehcaaW.PrintWords Go.Proofs.YtlkebjkpmiehcaaW.PrintLast Go.Proofs.YtlkebjkpmiehcaaW.PrintMore Go.Proofs.Ytlkebjkpmiehcaa.X
set_option linter.unusedVariables false
set_option linter.unusedSimpArgs false
structure Wp where
  s : ByteArray
  b : Bool
abbrev WS (lo : Nat) (w : World) (g : Nat) (W : Wp) : Prop := Wt lo w g W.s W.b
def Wp.need (W : Wp) (is : Bool) : Wp := ⟨W.s, W.b || !is⟩
def Wp.num (W : Wp) (x : Int) (n : Int) : Wp := ⟨W.s ++ (nm x n).1, W.b || !((nm x n).2 == 0)⟩
def Wp.vec (W : Wp) (v : ByteArray) (n lo hi : Int) : Wp := ⟨W.s ++ (pv v n).1, W.b || !(vecOk v (pv v n).2 lo hi)⟩
def Wp.add (W : Wp) (v : ByteArray) : Wp := ⟨W.s ++ v, W.b⟩
def Wp.within (W U : Wp) (n : Int) : Wp := ⟨W.s ++ (pv U.s n).1, (W.b || !(!U.b)) || !(vecOk U.s (pv U.s n).2 0 16777216)⟩
def W0 : Wp := ⟨ByteArray.empty, false⟩
theorem need_w (lo g : Nat) (W : Wp) (is : Bool) (w : World) (h : WS lo w g W) :
    Calls Try.prog 61 #[.pointer (some ⟨g, 0, none⟩), .bool is] w fun e w' => e = .returned (.tuple #[]) ∧ WS lo w' g (W.need is) ∧ Fr lo g w w' :=
  (need_calls lo g W.s W.b is w h).mono fun e w' ⟨h1, h2, h3, h4⟩ => ⟨h1, h2, Fr.of_keep h3 h4⟩
theorem num_w (lo g : Nat) (W : Wp) (x size : Int) (w : World) (h : WS lo w g W) (h1 : 1 ≤ size) (h4 : size ≤ 4) (hn : W.s.size + 4 ≤ 140737488355328) :
    Calls Try.prog 60 #[.pointer (some ⟨g, 0, none⟩), .int .i64 x, .int .i64 size] w fun ex w' => ex = .returned (.tuple #[]) ∧ WS lo w' g (W.num x size) ∧ Fr lo g w w' :=
  num_calls' lo g W.s W.b x size w h h1 h4 hn
theorem vec_w (lo g : Nat) (W : Wp) (v : ByteArray) (size least most : Int) (w : World) (h : WS lo w g W) (h1 : 1 ≤ size) (h3 : size ≤ 3) (hn : W.s.size + 3 + v.size ≤ 140737488355328) :
    Calls Try.prog 57 #[.pointer (some ⟨g, 0, none⟩), .string v, .int .i64 size, .int .i64 least, .int .i64 most] w fun ex w' => ex = .returned (.tuple #[]) ∧ WS lo w' g (W.vec v size least most) ∧ Fr lo g w w' :=
  vec_calls' lo g W.s v W.b size least most w h h1 h3 hn
theorem within_w (lo g k : Nat) (cap : Array Value) (W U : Wp) (size : Int) (w : World) (h : WS lo w g W)
    (eg : ∀ args w, (callFunc k args).run Try.prog w = .ok (.enter k args) w) (hw : Writes k cap w U.s U.b) (h1 : 1 ≤ size) (h3 : size ≤ 3) (hn : W.s.size + 3 + U.s.size ≤ 140737488355328) :
    Calls Try.prog 58 #[.pointer (some ⟨g, 0, none⟩), .int .i64 size, .func (.func k) #[] cap] w fun ex w' => ex = .returned (.tuple #[]) ∧ WS lo w' g (W.within U size) ∧ Fr lo g w w' :=
  within_calls' lo g k cap W.s U.s W.b U.b size w h eg hw h1 h3 hn
theorem Wp.num_size (W : Wp) (x n : Int) (h1 : 1 ≤ n) (h4 : n ≤ 4) : (W.num x n).s.size ≤ W.s.size + 4 := by
  have := nm_size x n h1 h4
  show (W.s ++ (nm x n).1).size ≤ _
  rw [ByteArray.size_append]
  omega
theorem Wp.vec_size (W : Wp) (v : ByteArray) (n lo hi : Int) (h1 : 1 ≤ n) (h3 : n ≤ 3) (hv : v.size ≤ 140737488355328) : (W.vec v n lo hi).s.size ≤ W.s.size + 3 + v.size := by
  have := pv_size v n h1 h3 hv
  show (W.s ++ (pv v n).1).size ≤ _
  rw [ByteArray.size_append]
  omega
theorem Wp.add_size (W : Wp) (v : ByteArray) : (W.add v).s.size = W.s.size + v.size := ByteArray.size_append
section
variable {ops : Array Oper} {oi : Oper} {a : Act} {Q : Exit → Act → World → Prop} {K : Act → World → Prop} {w : World} {N : Option Tmp}
theorem run_step {v : Value} {w' : World} (hw : Region.wanted oi (yielded ops a.tmps) = true) (hN : oi.dst = N) (hrun : (execOp a.eval oi).run Try.prog w = .ok (.value v) w') (h : K (a.put N v) w') :
    if Region.wanted oi (yielded ops a.tmps) = true then Oper.wp Try.prog oi a w K Q else K (a.put N undef) w := by
  rw [if_pos hw]
  unfold Oper.wp
  rw [hrun]
  subst hN
  exact h
theorem app_step (hw : Region.wanted oi (yielded ops a.tmps) = true) (hN : oi.dst = N) (sl x : Operand)
    (ho : oi.op = .call { callee := .builtin .append, args := #[sl, x], argTypes := #[39, 9] }) (lo g : Nat) (s t : ByteArray) (b : Bool) (v : Value)
    (hs : a.eval sl = v) (hx : a.eval x = .string t) (h1 : w.heap[g]? = some (.cells #[v, .bool b] 83 (0, 0))) (h2 : lo ≤ g) (h3 : w.ownsRow lo 5 1 v s.size (Lib.strCells s)) (hn : s.size + t.size ≤ 140737488355328)
    (H : ∀ v' w', Mid lo g w' (s ++ t) b v' → Fr lo g w w' → w'.heap[g]? = some (.cells #[v, .bool b] 83 (0, 0)) → K (a.put N v') w') : if Region.wanted oi (yielded ops a.tmps) = true then Oper.wp Try.prog oi a w K Q else K (a.put N undef) w := by
  rw [if_pos hw]
  have hinfo := info5
  obtain ⟨i0, hi, hzz⟩ := Option.map_eq_some_iff.1 hinfo
  simp only [Prod.mk.injEq] at hzz
  obtain ⟨hz0, hz1, hz2⟩ := hzz
  obtain ⟨v1, w1, hr, hown, hg, _⟩ := Lib.run_append_own_string (P := Try.prog) w lo 39 9 oi.type 5 i0 Try.underlying39 (by kernel_rfl) hi hz0 hz1 hz2 v s.size (Lib.strCells s) h3 t (by simp only [maxLen]; omega) hn (by have := blk_lt h1; omega)
  have hz : s.size + t.size = (s ++ t).size := by rw [ByteArray.size_append]
  unfold Oper.wp execOp
  simp only [ho, resolve, invoke, builtin, Sem.run_bind, Sem.run_pure, Result.andThen_ok, List.map_toArray, List.map_cons, List.map_nil, hs, hx, hr]
  subst hN
  show K (a.put oi.dst v1) w1
  refine H v1 w1 ⟨⟨v, blk_grown h1 hg (Wt.row h1 h3)⟩, h2, by rw [strCells_append, ← hz]; exact hown⟩ ⟨(Below.refl lo w).grown hg (by have := blk_lt h1; omega) (fun k hk => (h3.lt k hk).1), fun k cs ty hk hgk hty => blk_grown hk hg ?_⟩ (blk_grown h1 hg (Wt.row h1 h3))
  exact row_ne hty hk h3
end
theorem sz39w : (Try.prog.info? 39).map (·.size) = some 1 := by kernel_rfl
theorem own_keep {lo g : Nat} {w w1 : World} {s : ByteArray} {b : Bool} {v : Value} (m : Mid lo g w s b v) (k : KeepBut w w1 g none) (bl : Below lo w w1) : w1.ownsRow lo 5 1 v s.size (Lib.strCells s) := by
  obtain ⟨v0, h0⟩ := m.row
  have hne := row_ne (by decide) h0 m.own
  exact m.own.kept (row := some g) ⟨bl.os, bl.tape, bl.output, k.1, fun i hi hg => k.2 i hi (by simpa using hg) (by simp)⟩ (by
    cases hv : v.ownBlock with
    | none => exact .inl rfl
    | some q => exact .inr (fun e => hne (by first | exact e.symm | rw [hv]; exact e | rw [hv]; exact e.symm)))
theorem Wt.drew {lo g : Nat} {W : World} {s : ByteArray} {b : Bool} (h : Wt lo W g s b) : Wt lo W.drew g s b := h.below (below_drew (Below.refl _ _))
def Wp.hello (W : Wp) (r s : ByteArray) : Wp := (((W.num 771 2).need ((r.size : Int) == 32)).add r).vec s 1 0 32
set_option maxRecDepth 100000 in
set_option maxHeartbeats 8000000 in
theorem hello_w (lo g gm : Nat) (cs : Array Value) (W : Wp) (w : World) (h : WS lo w g W) (hb : w.heap[gm]? = some (.cells cs 49 (0, 0))) (hne : gm ≠ g) (r s : ByteArray) (hr : cs[1]? = some (.string r)) (hs : cs[2]? = some (.string s)) (hn : W.s.size + 16 + r.size + s.size ≤ 140737488355328) :
    Calls Try.prog 78 #[.pointer (some ⟨g, 0, none⟩), .pointer (some ⟨gm, 0, none⟩)] w fun ex w' => ex = .returned (.tuple #[]) ∧ WS lo w' g (W.hello r s) ∧ Fr lo g w w' := by
  have HW := Aside0.mk h
  have HB := Aside0.mk hb
  have HNE := Aside0.mk hne
  have HR := Aside0.mk hr
  have HS := Aside0.mk hs
  have z1 := W.num_size 771 2 (by omega) (by omega)
  have HN1 := Aside0.mk (show W.s.size + 4 ≤ 140737488355328 from by omega)
  have HN2 := Aside0.mk (show (W.num 771 2).s.size + r.size ≤ 140737488355328 from by omega)
  have HN3 := Aside0.mk (show (((W.num 771 2).need ((r.size : Int) == 32)).add r).s.size + 3 + s.size ≤ 140737488355328 from by rw [Wp.add_size]; show (W.num 771 2).s.size + r.size + 3 + s.size ≤ _; omega)
  clear h hb hne hr hs hn z1
  go_enter Try.func78, Try.ntmps78
  go_wp2_with (first
    | (go_at_call 60; (with_reducible refine (num_w lo g W 771 2 _ HW.out (by omega) (by omega) HN1.out).mono ?_); rintro e1 w1 ⟨rfl, i1, f1⟩; have HB1 := Aside0.mk (f1.blk HB.out HNE.out (by decide)); have HW1 := Aside0.mk i1; have HF1 := Aside0.mk f1; clear i1 f1)
    | ((with_reducible refine gate_dst (N := 10) rfl ?_); refine ld (v := .string r) rfl rfl rfl HB1.out Try.underlying9 rfl HR.out ?_)
    | (go_at_call 61; (with_reducible refine (need_w lo g (W.num 771 2) ((r.size : Int) == 32) _ HW1.out).mono ?_); rintro e2 w2 ⟨rfl, i2, f2⟩; have HB2 := Aside0.mk (f2.blk HB1.out HNE.out (by decide)); have HW2 := Aside0.mk i2; have HF2 := Aside0.mk (HF1.out.trans f2); clear i2 f2))
  obtain ⟨v, h1, h2, h3⟩ := HW2.out.drew
  obtain ⟨A, c, rfl⟩ := own_slice h3
  have HO := Aside0.mk h3
  have HL := Aside0.mk h2
  have HF3 := Aside0.mk (HF2.out.trans (Fr.of_below (g := g) HW2.out.size (below_drew (Below.refl _ _))))
  have hBd := (below_drew (Below.refl w2.heap.size w2)).block gm (blk_lt HB2.out) |>.trans HB2.out
  have HSd := Aside0.mk (And.intro h1 hBd)
  clear h3 h2
  refine start_ (n := 13) (S := fun w' => w'.heap[g]? = some (.cells #[.slice A ((W.num 771 2).need ((r.size : Int) == 32)).s.size c, .bool ((W.num 771 2).need ((r.size : Int) == 32)).b] 83 (0, 0)) ∧ w'.heap[gm]? = some (.cells cs 49 (0, 0))) (ds := [12]) #[false, false, false, false, false, false, false, false, false, false, false, false, false] (by kernel_rfl) rfl rfl ⟨h1, hBd⟩ (fun hHeld => ?_)
  clear h1 hBd
  generalize w2.drew = w3 at HO HF3 HSd hHeld ⊢
  refine pure_ (i := 0) (N := (some 14)) (v := ?_) (a' := ?_) #[true, false, false, false, false, false, false, false, false, false, false, false, false] rfl rfl (by kernel_rfl) (fun _ _ _ h => h) (Or.inl ⟨by rfl, ?_⟩) ?_ ?_
  rotate_left
  · intro w'
    go_simp
    with_reducible rfl
  rotate_left
  · simp only [Act.put, List.setIfInBounds_toArray, List.set_cons_zero, List.set_cons_succ]
    rfl
  refine pure_ (i := 1) (N := (some 15)) (v := ?_) (a' := ?_) #[true, true, false, false, false, false, false, false, false, false, false, false, false] rfl rfl (by kernel_rfl) (fun _ _ _ h => h) (Or.inl ⟨by rfl, ?_⟩) ?_ ?_
  rotate_left
  · intro w'
    go_simp
    with_reducible rfl
  rotate_left
  · simp only [Act.put, List.setIfInBounds_toArray, List.set_cons_zero, List.set_cons_succ]
    rfl
  refine pure_ (i := 2) (N := (some 16)) (v := ?_) (a' := ?_) #[true, true, true, false, false, false, false, false, false, false, false, false, false] rfl rfl (by kernel_rfl) (fun _ _ _ h => h) (Or.inl ⟨by rfl, ?_⟩) ?_ ?_
  rotate_left
  · intro w'
    go_simp
    with_reducible rfl
  rotate_left
  · simp only [Act.put, List.setIfInBounds_toArray, List.set_cons_zero, List.set_cons_succ]
    rfl
  refine pure_ (i := 3) (N := (some 17)) (v := ?_) (a' := ?_) #[true, true, true, true, false, false, false, false, false, false, false, false, false] rfl rfl (by kernel_rfl) (fun _ _ _ h => h) (Or.inl ⟨by rfl, ?_⟩) ?_ ?_
  rotate_left
  · intro w'
    go_simp
    with_reducible rfl
  rotate_left
  · simp only [Act.put, List.setIfInBounds_toArray, List.set_cons_zero, List.set_cons_succ]
    rfl
  refine take_ (i := 4) (N := (some 18)) (v := ?_) (a' := ?_) #[true, true, true, true, true, false, false, false, false, false, false, false, false] rfl rfl (by kernel_rfl) (fun _ _ _ h => h) (Or.inl ⟨by rfl, ?_⟩) hHeld ?_ ?_
  rotate_left
  · rintro w' hS
    have hc := cell0 hS.1
    go_simp
    with_reducible rfl
  rotate_left
  · simp only [Act.put, List.setIfInBounds_toArray, List.set_cons_zero, List.set_cons_succ]
    rfl
  refine pure_ (i := 5) (N := (some 19)) (v := ?_) (a' := ?_) #[true, true, true, true, true, true, false, false, false, false, false, false, false] rfl rfl (by kernel_rfl) (fun _ _ _ h => h) (Or.inl ⟨by rfl, ?_⟩) ?_ ?_
  rotate_left
  · intro w'
    go_simp
    with_reducible rfl
  rotate_left
  · simp only [Act.put, List.setIfInBounds_toArray, List.set_cons_zero, List.set_cons_succ]
    rfl
  refine pure_ (i := 6) (N := (some 20)) (v := ?_) (a' := ?_) #[true, true, true, true, true, true, true, false, false, false, false, false, false] rfl rfl (by kernel_rfl) (fun _ _ _ h => h) (Or.inl ⟨by rfl, ?_⟩) ?_ ?_
  rotate_left
  · intro w'
    go_simp
    with_reducible rfl
  rotate_left
  · simp only [Act.put, List.setIfInBounds_toArray, List.set_cons_zero, List.set_cons_succ]
    rfl
  refine pure_ (i := 7) (N := (some 21)) (v := ?_) (a' := ?_) #[true, true, true, true, true, true, true, true, false, false, false, false, false] rfl rfl (by kernel_rfl) (fun _ _ _ h => h) (Or.inl ⟨by rfl, ?_⟩) ?_ ?_
  rotate_left
  · intro w'
    go_simp
    with_reducible rfl
  rotate_left
  · simp only [Act.put, List.setIfInBounds_toArray, List.set_cons_zero, List.set_cons_succ]
    rfl
  refine take_ (i := 8) (N := (some 22)) (v := ?_) (a' := ?_) #[true, true, true, true, true, true, true, true, true, false, false, false, false] rfl rfl (by kernel_rfl) (fun _ _ _ h => h) (Or.inl ⟨by rfl, ?_⟩) hHeld ?_ ?_
  rotate_left
  · rintro w' hS
    have hc := (blk_cell hS.2 1).trans HR.out
    go_simp
    with_reducible rfl
  rotate_left
  · simp only [Act.put, List.setIfInBounds_toArray, List.set_cons_zero, List.set_cons_succ]
    rfl
  refine one_ (i := 9) (N := (some 23)) #[true, true, true, true, true, true, true, true, true, true, false, false, false] rfl rfl (by kernel_rfl) (by decide) (fun K hK => ?_)
  refine app_step (by rfl) rfl (.tmp 18) (.tmp 22) rfl lo g ((W.num 771 2).need ((r.size : Int) == 32)).s r _ _ rfl rfl HSd.out.1 HL.out HO.out HN2.out ?_
  intro v4 w4 m4 f4 g4
  obtain ⟨A4, c4, rfl⟩ := own_slice m4.own
  have HM4 := Aside0.mk m4
  have HF4 := Aside0.mk (HF3.out.trans f4)
  have HB4 := Aside0.mk (f4.blk HSd.out.2 HNE.out (by decide))
  have HH4 := Aside0.mk (And.intro g4 HB4.out)
  clear m4 f4 g4
  refine hK.out _ _ (HH4.out) (fun hHeld => ?_)
  clear hK K
  refine norm_ (a' := ?_) ?_ ?_
  rotate_left
  · show Act.put _ (some 23) _ = _
    simp only [Act.put, List.setIfInBounds_toArray, List.set_cons_zero, List.set_cons_succ]
    rfl
  refine pure_ (i := 10) (N := (some 24)) (v := ?_) (a' := ?_) #[true, true, true, true, true, true, true, true, true, true, true, false, false] rfl rfl (by kernel_rfl) (fun _ _ _ h => h) (Or.inl ⟨by rfl, ?_⟩) ?_ ?_
  rotate_left
  · intro w'
    go_simp
    with_reducible rfl
  rotate_left
  · simp only [Act.put, List.setIfInBounds_toArray, List.set_cons_zero, List.set_cons_succ]
    rfl
  refine pure_ (i := 11) (N := (some 25)) (v := ?_) (a' := ?_) #[true, true, true, true, true, true, true, true, true, true, true, true, false] rfl rfl (by kernel_rfl) (fun _ _ _ h => h) (Or.inl ⟨by rfl, ?_⟩) ?_ ?_
  rotate_left
  · intro w'
    go_simp
    with_reducible rfl
  rotate_left
  · simp only [Act.put, List.setIfInBounds_toArray, List.set_cons_zero, List.set_cons_succ]
    rfl
  refine last_ (i := 12) (N := none) #[true, true, true, true, true, true, true, true, true, true, true, true, true] rfl rfl (by kernel_rfl) (by decide) (fun K hK => ?_)
  refine stM (g := g) (i := 0) (by rfl) rfl rfl rfl HH4.out.1 sz39w rfl rfl rfl (by simp) ?_
  intro w5 h5 b5 k5
  have HB5 := Aside0.mk ((k5.2 gm (blk_lt HB4.out) HNE.out (by simp)).trans HB4.out)
  have HW5 := Aside0.mk (show WS lo w5 g (((W.num 771 2).need ((r.size : Int) == 32)).add r) from ⟨_, h5, HL.out, own_keep HM4.out k5 (b5 _ HL.out)⟩)
  have HF5 := Aside0.mk (HF4.out.trans (Fr.of_keep (b5 _ HL.out) k5))
  clear h5 b5 k5
  refine hK.out _ _ ?_
  clear hK K
  refine done_ (by kernel_rfl) ?_
  go_wp2_with (first
    | ((with_reducible refine gate_dst (N := 30) rfl ?_); refine ld (v := .string s) rfl rfl rfl HB5.out Try.underlying9 rfl HS.out ?_)
    | (go_at_call 57; (with_reducible refine (vec_w lo g (((W.num 771 2).need ((r.size : Int) == 32)).add r) s 1 0 32 _ HW5.out (by omega) (by omega) HN3.out).mono ?_); rintro e6 w6 ⟨rfl, i6, f6⟩; have HW6 := Aside0.mk i6; have HF6 := Aside0.mk (HF5.out.trans f6); clear i6 f6))
  first | go_end0 | ((try simp only [Exit.inBlock, Exit.then]); refine bodyPost_ret (results_none rfl _ _ _) rfl ?_)
  exact ⟨rfl, HW6.out, HF6.out⟩
end Go.Proofs.Ytlkebjkpmiehcaa.Ms
end
section
namespace Go.Proofs.Ytlkebjkpmiehcaa.Ms
open Go.RowKit Go.Proofs.YtlkebjkpmiehcaaW.PrintWords Go.Proofs.YtlkebjkpmiehcaaW.PrintLast Go.Proofs.YtlkebjkpmiehcaaW.PrintMore Go.Proofs.Ytlkebjkpmiehcaa.X
set_option linter.unusedVariables false
set_option linter.unusedSimpArgs false
def XS (x g : Nat) (w : World) (l : List E.S41) : Prop :=
  ∃ v, w.heap[x]? = some (.cells #[.pointer (some ⟨g, 0, none⟩), v] 115 (0, 0)) ∧ Kd.R E.k41 41 w x (fun _ => True) v l
structure Fx (lo g x : Nat) (w w' : World) : Prop where
  below : Below lo w w'
  keep : ∀ k cs t, w.heap[k]? = some (.cells cs t (0, 0)) → k ≠ g → k < x → t ≠ 5 → w'.heap[k]? = some (.cells cs t (0, 0))
theorem Fx.refl (lo g x : Nat) (w : World) : Fx lo g x w w := ⟨Below.refl _ _, fun _ _ _ h _ _ _ => h⟩
theorem Fx.trans {lo g x : Nat} {a b c : World} (h : Fx lo g x a b) (k : Fx lo g x b c) : Fx lo g x a c := ⟨h.below.trans k.below, fun i cs t hi hg hx ht => k.keep i cs t (h.keep i cs t hi hg hx ht) hg hx ht⟩
theorem Fx.of_fr {lo g x : Nat} {w w' : World} (h : Fr lo g w w') : Fx lo g x w w' := ⟨h.below, fun i cs t hi hg _ ht => h.keep i cs t hi hg ht⟩
theorem k41_E : (E.k41).E = [] := rfl
theorem k41_ty {t : TypeId} (ht : t ≠ 41) : ∀ q, q ∈ 41 :: (E.k41).E → q ≠ t := by
  intro q hq
  rw [k41_E] at hq
  simp only [List.mem_cons, List.not_mem_nil, or_false] at hq
  rw [hq]
  exact fun e => ht e.symm
theorem XS.below {x g : Nat} {w w' : World} {l : List E.S41} (h : XS x g w l) (b : Below w.heap.size w w') : XS x g w' l := by
  obtain ⟨v, h1, h3⟩ := h
  exact ⟨v, (b.block x (blk_lt h1)).trans h1, Kd.R_below h3 b⟩
theorem ty_ne {w : World} {x g : Nat} {cs ds : Array Value} {s t : TypeId} (h : w.heap[x]? = some (.cells cs s (0, 0))) (k : w.heap[g]? = some (.cells ds t (0, 0))) (hne : s ≠ t) : x ≠ g := by
  intro e
  subst e
  rw [h] at k
  injection k with k
  injection k with _ k
  exact hne k
theorem XS.keep {x g : Nat} {w w' : World} {l : List E.S41} (h : XS x g w l) {cs : Array Value} {k : Nat} {t : TypeId} (hk : w.heap[k]? = some (.cells cs t (0, 0))) (ht : t ≠ 41) (ht2 : t ≠ 115) (kb : KeepBut w w' k none) : XS x g w' l := by
  obtain ⟨v, h1, h3⟩ := h
  refine ⟨v, (kb.2 x (blk_lt h1) (ty_ne h1 hk (fun e => ht2 e.symm)) (by simp)).trans h1, ?_⟩
  exact Kd.R_mono (Kd.R_keep (Kd.R_types h3 hk (k41_ty ht)) kb (fun _ hk => hk.2)) (fun _ _ => trivial)
theorem XS.fr {lo x g : Nat} {w w' : World} {l : List E.S41} {W : Wp} (h : XS x g w l) (hw : WS lo w g W) (f : Fr lo g w w') : XS x g w' l := by
  obtain ⟨v, h1, h3⟩ := h
  obtain ⟨u, k1, _, _⟩ := hw
  refine ⟨v, f.blk h1 (ty_ne h1 k1 (by decide)) (by decide), ?_⟩
  refine Kd.R_mono (Kd.R_step (Kd.R_bound h3) (fun k hk _ => ?_)) (fun _ _ => trivial)
  obtain ⟨_, _, _, q, hq, cells, hc⟩ := hk
  have hq1 : q = 41 := by
    rw [k41_E] at hq
    simpa using hq
  subst hq1
  rw [f.blk hc (ty_ne hc k1 (by decide)) (by decide), hc]
theorem own5_ne {w : World} {lo lo2 n : Nat} {u v : Value} {xs : List Value} {l : List E.S41} (h3 : w.ownsRow lo2 5 1 u n xs) (r : Kd.R E.k41 41 w lo (fun _ => True) v l) : u.ownBlock = none ∨ v.ownBlock ≠ u.ownBlock := by
  rcases h3.2 with ⟨rfl, _⟩ | ⟨k, cap, cur, rfl, _, hh, _⟩
  · exact .inl rfl
  · exact .inr (fun e => Kd.R_ne r hh (by decide) (by rw [e]; rfl))
theorem Wt.grown41 {lo lo2 g : Nat} {w w1 : World} {s : ByteArray} {b : Bool} {v : Value} {l : List E.S41} (h : Wt lo2 w g s b) (r : Kd.R E.k41 41 w lo (fun _ => True) v l) (hg : w.grownBy w1 v.ownBlock) : Wt lo2 w1 g s b := by
  obtain ⟨u, h1, h2, h3⟩ := h
  exact ⟨u, blk_grown h1 hg (Kd.R_ne r h1 (by decide)), h2, h3.kept hg (by first | exact own5_ne h3 r | (rcases own5_ne h3 r with e | e; exact .inl e; exact .inr (fun e2 => e e2.symm)))⟩
theorem Wt.keep1 {lo g k : Nat} {w w1 : World} {s : ByteArray} {b : Bool} {cs : Array Value} {t : TypeId} (h : Wt lo w g s b) (hk : w.heap[k]? = some (.cells cs t (0, 0))) (ht : t ≠ 5) (ht2 : t ≠ 83) (bl : Below lo w w1) (kb : KeepBut w w1 k none) : Wt lo w1 g s b := by
  obtain ⟨u, h1, h2, h3⟩ := h
  refine ⟨u, (kb.2 g (blk_lt h1) (ty_ne h1 hk (fun e => ht2 e.symm)) (by simp)).trans h1, h2, ?_⟩
  exact h3.kept (row := some k) ⟨bl.os, bl.tape, bl.output, kb.1, fun i hi hg => kb.2 i hi (by simpa using hg) (by simp)⟩ (by
    cases hv : u.ownBlock with
    | none => exact .inl rfl
    | some q => exact .inr (fun e => row_ne ht hk h3 (by first | exact e.symm | rw [hv]; exact e | rw [hv]; exact e.symm)))
theorem built41 (k : Int) (s : ByteArray) : Try.prog.built 41 [(0, .int .i64 k), (1, .string s)] = some #[.int .i64 k, .string s] := by kernel_rfl
theorem run41 {oi : Oper} {a : Act} {w : World} {x y : Operand} {k : Int} {s : ByteArray} (ho : oi.op = .build 41 #[(0, x), (1, y)]) (hx : a.eval x = .int .i64 k) (hy : a.eval y = .string s) : (execOp a.eval oi).run Try.prog w = .ok (.value (.agg #[.int .i64 k, .string s])) w := by
  have hr := run_build (P := Try.prog) w 41 #[(0, .int .i64 k), (1, .string s)] _ (built41 k s)
  have he : (#[(0, x), (1, y)] : Array (Nat × Operand)).map (fun x => (x.fst, a.eval x.snd)) = #[(0, .int .i64 k), (1, .string s)] := by simp [hx, hy]
  unfold execOp
  simp only [ho, Sem.run_bind]
  rw [he, hr]
  rfl
theorem runCv {oi : Oper} {a : Act} {w : World} {x : Operand} {v : Value} {s : ByteArray} (ho : oi.op = .convert 39 9 x) (hx : a.eval x = v) (hc : (convert 39 9 v).run Try.prog w = .ok (.string s) w) : (execOp a.eval oi).run Try.prog w = .ok (.value (.string s)) w := by
  unfold execOp
  simp only [ho, hx]
  rw [Sem.run_bind, hc]
  rfl
theorem sz22 : (Try.prog.info? 22).map (·.size) = some 1 := by kernel_rfl
def xPut (is : Bool) (W U : Wp) : Wp := if is then W.need (!U.b) else W
def xPutL (is : Bool) (kind : Int) (U : Wp) (l : List E.S41) : List E.S41 := if is then l ++ [⟨kind, U.s⟩] else l
set_option maxRecDepth 100000 in
set_option maxHeartbeats 8000000 in
theorem xput_w (lo x g k : Nat) (cap : Array Value) (W U : Wp) (l : List E.S41) (is : Bool) (kind : Int) (w : World) (h : WS lo w g W) (hlx : lo ≤ x) (hx : XS x g w l) (hu : is = true → Writes k cap w U.s U.b)
    (eg : ∀ args w, (callFunc k args).run Try.prog w = .ok (.enter k args) w) (hl : l.length ≤ 1000000000) :
    Calls Try.prog 80 #[.pointer (some ⟨x, 0, none⟩), .bool is, .int .i64 kind, .func (.func k) #[] cap] w fun ex w' => ex = .returned (.tuple #[]) ∧ WS lo w' g (xPut is W U) ∧ XS x g w' (xPutL is kind U l) ∧ Fx lo g x w w' := by
  have HW := Aside0.mk h
  have HX := Aside0.mk hx
  have HXL := Aside0.mk hlx
  have HLE := Aside0.mk hl
  have hu41 := Try.underlying41
  cases is with
  | false =>
    clear h hx hu hl hlx
    go_enter Try.func80, Try.ntmps80
    go_wp2
    first | go_end0 | ((try simp only [Exit.inBlock, Exit.then]); refine bodyPost_ret (results_none rfl _ _ _) rfl ?_)
    exact ⟨rfl, HW.out, HX.out, Fx.refl _ _ _ _⟩
  | true =>
  have HC := Aside0.mk (hu rfl)
  clear h hx hu hl hlx
  go_enter Try.func80, Try.ntmps80
  go_wp2_with (first
    | ((with_reducible refine gate_dst (N := 10) rfl ?_); refine build83 rfl rfl ?_)
    | ((with_reducible refine gate_dst (N := 11) rfl ?_); refine box83 rfl _ rfl rfl ?_; intro g1 eg1 w1 i1 b1; have HE1 := Aside0.mk eg1; have HI1 := Aside0.mk i1; have HB1 := Aside0.mk b1; clear i1 b1 eg1)
    | ((refine (HC.out _ _ HB1.out HI1.out).mono ?_); rintro e2 w2 ⟨rfl, i2, f2⟩; have HB2 := Aside0.mk (HB1.out.trans f2.below); have HI2 := Aside0.mk i2; clear i2 f2))
  have HW2 := Aside0.mk (HW.out.below HB2.out)
  have HX2 := Aside0.mk (HX.out.below HB2.out)
  have HW3 := Aside0.mk (HW2.out.drew)
  have HB3 := Aside0.mk (below_step HB2.out (below_drew (Below.refl _ _)))
  have HX3 := Aside0.mk (HX2.out.below (below_drew (Below.refl _ _)))
  have HI3 := Aside0.mk (HI2.out.drew)
  obtain ⟨v, hx1, hx3⟩ := HX3.out
  obtain ⟨u, hi1, hi2, hi3⟩ := HI3.out
  have HSd := Aside0.mk (And.intro hx1 hi1)
  clear hx3 hi2 hi3
  refine start_ (n := 10) (S := fun w' => w'.heap[x]? = some (.cells #[.pointer (some ⟨g, 0, none⟩), v] 115 (0, 0)) ∧ w'.heap[g1]? = some (.cells #[u, .bool U.b] 83 (0, 0))) (ds := [9]) #[false, false, false, false, false, false, false, false, false, false] (by kernel_rfl) rfl rfl ⟨hx1, hi1⟩ (fun hHeld => ?_)
  clear hx1 hi1
  generalize w2.drew = w3 at HW3 HB3 HX3 HI3 HSd hHeld ⊢
  refine pure_ (i := 0) (N := (some 15)) (v := ?_) (a' := ?_) #[true, false, false, false, false, false, false, false, false, false] rfl rfl (by kernel_rfl) (fun _ _ _ h => h) (Or.inl ⟨by rfl, ?_⟩) ?_ ?_
  rotate_left
  · intro w'
    go_simp
    with_reducible rfl
  rotate_left
  · simp only [Act.put, List.setIfInBounds_toArray, List.set_cons_zero, List.set_cons_succ]
    rfl
  refine pure_ (i := 1) (N := (some 16)) (v := ?_) (a' := ?_) #[true, true, false, false, false, false, false, false, false, false] rfl rfl (by kernel_rfl) (fun _ _ _ h => h) (Or.inl ⟨by rfl, ?_⟩) ?_ ?_
  rotate_left
  · intro w'
    go_simp
    with_reducible rfl
  rotate_left
  · simp only [Act.put, List.setIfInBounds_toArray, List.set_cons_zero, List.set_cons_succ]
    rfl
  refine pure_ (i := 2) (N := (some 17)) (v := ?_) (a' := ?_) #[true, true, true, false, false, false, false, false, false, false] rfl rfl (by kernel_rfl) (fun _ _ _ h => h) (Or.inl ⟨by rfl, ?_⟩) ?_ ?_
  rotate_left
  · intro w'
    go_simp
    with_reducible rfl
  rotate_left
  · simp only [Act.put, List.setIfInBounds_toArray, List.set_cons_zero, List.set_cons_succ]
    rfl
  refine take_ (i := 3) (N := (some 18)) (v := ?_) (a' := ?_) #[true, true, true, true, false, false, false, false, false, false] rfl rfl (by kernel_rfl) (fun _ _ _ h => h) (Or.inl ⟨by rfl, ?_⟩) hHeld ?_ ?_
  rotate_left
  · rintro w' hS
    have hc := (blk_cell hS.1 0).trans rfl
    go_simp
    with_reducible rfl
  rotate_left
  · simp only [Act.put, List.setIfInBounds_toArray, List.set_cons_zero, List.set_cons_succ]
    rfl
  refine pure_ (i := 4) (N := (some 19)) (v := ?_) (a' := ?_) #[true, true, true, true, true, false, false, false, false, false] rfl rfl (by kernel_rfl) (fun _ _ _ h => h) (Or.inl ⟨by rfl, ?_⟩) ?_ ?_
  rotate_left
  · intro w'
    go_simp
    with_reducible rfl
  rotate_left
  · simp only [Act.put, List.setIfInBounds_toArray, List.set_cons_zero, List.set_cons_succ]
    rfl
  refine pure_ (i := 5) (N := (some 20)) (v := ?_) (a' := ?_) #[true, true, true, true, true, true, false, false, false, false] rfl rfl (by kernel_rfl) (fun _ _ _ h => h) (Or.inl ⟨by rfl, ?_⟩) ?_ ?_
  rotate_left
  · intro w'
    go_simp
    with_reducible rfl
  rotate_left
  · simp only [Act.put, List.setIfInBounds_toArray, List.set_cons_zero, List.set_cons_succ]
    rfl
  refine pure_ (i := 6) (N := (some 21)) (v := ?_) (a' := ?_) #[true, true, true, true, true, true, true, false, false, false] rfl rfl (by kernel_rfl) (fun _ _ _ h => h) (Or.inl ⟨by rfl, ?_⟩) ?_ ?_
  rotate_left
  · intro w'
    go_simp
    with_reducible rfl
  rotate_left
  · simp only [Act.put, List.setIfInBounds_toArray, List.set_cons_zero, List.set_cons_succ]
    rfl
  refine take_ (i := 7) (N := (some 22)) (v := ?_) (a' := ?_) #[true, true, true, true, true, true, true, true, false, false] rfl rfl (by kernel_rfl) (fun _ _ _ h => h) (Or.inl ⟨by rfl, ?_⟩) hHeld ?_ ?_
  rotate_left
  · rintro w' hS
    have hc := cell1 hS.2
    go_simp
    with_reducible rfl
  rotate_left
  · simp only [Act.put, List.setIfInBounds_toArray, List.set_cons_zero, List.set_cons_succ]
    rfl
  refine pure_ (i := 8) (N := (some 23)) (v := ?_) (a' := ?_) #[true, true, true, true, true, true, true, true, true, false] rfl rfl (by kernel_rfl) (fun _ _ _ h => h) (Or.inl ⟨by rfl, ?_⟩) ?_ ?_
  rotate_left
  · intro w'
    go_simp
    with_reducible rfl
  rotate_left
  · simp only [Act.put, List.setIfInBounds_toArray, List.set_cons_zero, List.set_cons_succ]
    rfl
  refine last_ (i := 9) (N := (some 24)) #[true, true, true, true, true, true, true, true, true, true] rfl rfl (by kernel_rfl) (by decide) (fun K hK => ?_)
  refine goes_ (f := 61) Try.func61 (by kernel_rfl) rfl #[.pointer (some ⟨g, 0, none⟩), .bool (!U.b)] (by rfl) rfl rfl (by (try simp only [List.map_toArray, List.map_cons, List.map_nil]); first | done | rfl) ?_
  refine (need_calls lo g W.s W.b (!U.b) _ HW3.out).mono ?_
  rintro e w4 ⟨rfl, i4, b4, k4⟩
  refine ⟨_, rfl, ?_⟩
  have HW4 := Aside0.mk (show WS lo w4 g (W.need (!U.b)) from i4)
  have hgg : ∃ cs, w3.heap[g]? = some (.cells cs 83 (0, 0)) := by obtain ⟨q, q1, _⟩ := HW3.out; exact ⟨_, q1⟩
  obtain ⟨csg, hgg⟩ := hgg
  have HX4 := Aside0.mk (HX3.out.keep hgg (by decide) (by decide) k4)
  have HG1 := Aside0.mk (show g1 ≠ g from by
    obtain ⟨q, q1, q2, q3⟩ := HI3.out
    have h1 := HW.out.lt
    omega)
  have HI4 := Aside0.mk (show Wt w.heap.size w4 g1 U.s U.b from by
    obtain ⟨q, q1, q2, q3⟩ := HI3.out
    refine ⟨q, (k4.2 g1 (blk_lt q1) HG1.out (by simp)).trans q1, q2, ?_⟩
    refine q3.kept (row := some g) ⟨b4.os, b4.tape, b4.output, k4.1, fun i hi hg => k4.2 i hi (by simpa using hg) (by simp)⟩ (by
      rcases q3.lt with hl
      cases hv : q.ownBlock with
      | none => exact .inl rfl
      | some z => exact .inr (by intro e; injection e with e; have := (hl z hv).1; have := HW.out.lt; omega)))
  have HF4 := Aside0.mk (Fr.trans (Fr.of_below (g := g) HW.out.size HB3.out) (Fr.of_keep b4 k4))
  clear i4 b4 k4 hgg
  refine hK.out _ _ ?_
  clear hK K
  refine norm_ (a' := ?_) ?_ ?_
  rotate_left
  · show Act.put _ (some 24) _ = _
    simp only [Act.put, List.setIfInBounds_toArray, List.set_cons_zero, List.set_cons_succ]
    rfl
  refine done_ (by kernel_rfl) ?_
  go_wp2
  have HW5 := Aside0.mk (HW4.out.drew)
  have HX5 := Aside0.mk (HX4.out.below (below_drew (Below.refl _ _)))
  have HI5 := Aside0.mk (HI4.out.drew)
  have HF5 := Aside0.mk (HF4.out.trans (Fr.of_below (g := g) HW4.out.size (below_drew (Below.refl _ _))))
  obtain ⟨v5, hx1, hx3⟩ := HX5.out
  obtain ⟨A5, c5, rfl⟩ := Kd.R_slice hx3
  obtain ⟨u5, hi1, hi2, hi3⟩ := HI5.out
  obtain ⟨B5, d5, rfl⟩ := own_slice hi3
  have HSd := Aside0.mk (And.intro hx1 hi1)
  have HO5 := Aside0.mk hi3
  have HR5 := Aside0.mk hx3
  clear hx3 hi2 hi3
  refine start_ (n := 17) (S := fun w' => w'.heap[x]? = some (.cells #[.pointer (some ⟨g, 0, none⟩), .slice A5 l.length c5] 115 (0, 0)) ∧ w'.heap[g1]? = some (.cells #[.slice B5 U.s.size d5, .bool U.b] 83 (0, 0))) (ds := [16]) #[false, false, false, false, false, false, false, false, false, false, false, false, false, false, false, false, false] (by kernel_rfl) rfl rfl ⟨hx1, hi1⟩ (fun hHeld => ?_)
  clear hx1 hi1
  generalize w4.drew = w5 at HW5 HX5 HI5 HF5 HO5 HR5 HSd hHeld ⊢
  refine pure_ (i := 0) (N := (some 25)) (v := ?_) (a' := ?_) #[true, false, false, false, false, false, false, false, false, false, false, false, false, false, false, false, false] rfl rfl (by kernel_rfl) (fun _ _ _ h => h) (Or.inl ⟨by rfl, ?_⟩) ?_ ?_
  rotate_left
  · intro w'
    go_simp
    with_reducible rfl
  rotate_left
  · simp only [Act.put, List.setIfInBounds_toArray, List.set_cons_zero, List.set_cons_succ]
    rfl
  refine pure_ (i := 1) (N := (some 26)) (v := ?_) (a' := ?_) #[true, true, false, false, false, false, false, false, false, false, false, false, false, false, false, false, false] rfl rfl (by kernel_rfl) (fun _ _ _ h => h) (Or.inl ⟨by rfl, ?_⟩) ?_ ?_
  rotate_left
  · intro w'
    go_simp
    with_reducible rfl
  rotate_left
  · simp only [Act.put, List.setIfInBounds_toArray, List.set_cons_zero, List.set_cons_succ]
    rfl
  refine pure_ (i := 2) (N := (some 27)) (v := ?_) (a' := ?_) #[true, true, true, false, false, false, false, false, false, false, false, false, false, false, false, false, false] rfl rfl (by kernel_rfl) (fun _ _ _ h => h) (Or.inl ⟨by rfl, ?_⟩) ?_ ?_
  rotate_left
  · intro w'
    go_simp
    with_reducible rfl
  rotate_left
  · simp only [Act.put, List.setIfInBounds_toArray, List.set_cons_zero, List.set_cons_succ]
    rfl
  refine pure_ (i := 3) (N := (some 28)) (v := ?_) (a' := ?_) #[true, true, true, true, false, false, false, false, false, false, false, false, false, false, false, false, false] rfl rfl (by kernel_rfl) (fun _ _ _ h => h) (Or.inl ⟨by rfl, ?_⟩) ?_ ?_
  rotate_left
  · intro w'
    go_simp
    with_reducible rfl
  rotate_left
  · simp only [Act.put, List.setIfInBounds_toArray, List.set_cons_zero, List.set_cons_succ]
    rfl
  refine take_ (i := 4) (N := (some 29)) (v := ?_) (a' := ?_) #[true, true, true, true, true, false, false, false, false, false, false, false, false, false, false, false, false] rfl rfl (by kernel_rfl) (fun _ _ _ h => h) (Or.inl ⟨by rfl, ?_⟩) hHeld ?_ ?_
  rotate_left
  · rintro w' hS
    have hc := (blk_cell hS.1 1).trans rfl
    go_simp
    with_reducible rfl
  rotate_left
  · simp only [Act.put, List.setIfInBounds_toArray, List.set_cons_zero, List.set_cons_succ]
    rfl
  refine pure_ (i := 5) (N := (some 30)) (v := ?_) (a' := ?_) #[true, true, true, true, true, true, false, false, false, false, false, false, false, false, false, false, false] rfl rfl (by kernel_rfl) (fun _ _ _ h => h) (Or.inl ⟨by rfl, ?_⟩) ?_ ?_
  rotate_left
  · intro w'
    go_simp
    with_reducible rfl
  rotate_left
  · simp only [Act.put, List.setIfInBounds_toArray, List.set_cons_zero, List.set_cons_succ]
    rfl
  refine pure_ (i := 6) (N := (some 31)) (v := ?_) (a' := ?_) #[true, true, true, true, true, true, true, false, false, false, false, false, false, false, false, false, false] rfl rfl (by kernel_rfl) (fun _ _ _ h => h) (Or.inl ⟨by rfl, ?_⟩) ?_ ?_
  rotate_left
  · intro w'
    go_simp
    with_reducible rfl
  rotate_left
  · simp only [Act.put, List.setIfInBounds_toArray, List.set_cons_zero, List.set_cons_succ]
    rfl
  refine pure_ (i := 7) (N := (some 32)) (v := ?_) (a' := ?_) #[true, true, true, true, true, true, true, true, false, false, false, false, false, false, false, false, false] rfl rfl (by kernel_rfl) (fun _ _ _ h => h) (Or.inl ⟨by rfl, ?_⟩) ?_ ?_
  rotate_left
  · intro w'
    go_simp
    with_reducible rfl
  rotate_left
  · simp only [Act.put, List.setIfInBounds_toArray, List.set_cons_zero, List.set_cons_succ]
    rfl
  refine pure_ (i := 8) (N := (some 33)) (v := ?_) (a' := ?_) #[true, true, true, true, true, true, true, true, true, false, false, false, false, false, false, false, false] rfl rfl (by kernel_rfl) (fun _ _ _ h => h) (Or.inl ⟨by rfl, ?_⟩) ?_ ?_
  rotate_left
  · intro w'
    go_simp
    with_reducible rfl
  rotate_left
  · simp only [Act.put, List.setIfInBounds_toArray, List.set_cons_zero, List.set_cons_succ]
    rfl
  refine take_ (i := 9) (N := (some 34)) (v := ?_) (a' := ?_) #[true, true, true, true, true, true, true, true, true, true, false, false, false, false, false, false, false] rfl rfl (by kernel_rfl) (fun _ _ _ h => h) (Or.inl ⟨by rfl, ?_⟩) hHeld ?_ ?_
  rotate_left
  · rintro w' hS
    have hc := cell0 hS.2
    go_simp
    with_reducible rfl
  rotate_left
  · simp only [Act.put, List.setIfInBounds_toArray, List.set_cons_zero, List.set_cons_succ]
    rfl
  refine one_ (i := 10) (N := (some 35)) #[true, true, true, true, true, true, true, true, true, true, true, false, false, false, false, false, false] rfl rfl (by kernel_rfl) (by decide) (fun K hK => ?_)
  refine run_step (by rfl) rfl (runCv rfl rfl (own_bytes HO5.out)) ?_
  refine hK.out _ _ (HSd.out) (fun hHeld => ?_)
  clear hK K
  refine norm_ (a' := ?_) ?_ ?_
  rotate_left
  · show Act.put _ (some 35) _ = _
    simp only [Act.put, List.setIfInBounds_toArray, List.set_cons_zero, List.set_cons_succ]
    rfl
  refine one_ (i := 11) (N := (some 36)) #[true, true, true, true, true, true, true, true, true, true, true, true, false, false, false, false, false] rfl rfl (by kernel_rfl) (by decide) (fun K hK => ?_)
  refine run_step (by rfl) rfl (run41 rfl rfl rfl) ?_
  refine hK.out _ _ (HSd.out) (fun hHeld => ?_)
  clear hK K
  refine norm_ (a' := ?_) ?_ ?_
  rotate_left
  · show Act.put _ (some 36) _ = _
    simp only [Act.put, List.setIfInBounds_toArray, List.set_cons_zero, List.set_cons_succ]
    rfl
  refine one_ (i := 12) (N := (some 37)) #[true, true, true, true, true, true, true, true, true, true, true, true, true, false, false, false, false] rfl rfl (by kernel_rfl) (by decide) (fun K hK => ?_)
  refine run_step (v := .slice (some ⟨w5.heap.size, 0, none⟩) 1 1) (w' := w5.alloc (.cells #[.int .i64 kind, .string U.s] 41)) (by rfl) rfl (by first | (go_simp; done) | (go_simp; rfl)) ?_
  have HA := Aside0.mk (below_alloc (Below.refl w5.heap.size w5) (.cells #[.int .i64 kind, .string U.s] 41))
  have HSa := Aside0.mk (And.intro ((HA.out.block x (blk_lt HSd.out.1)).trans HSd.out.1) ((HA.out.block g1 (blk_lt HSd.out.2)).trans HSd.out.2))
  refine hK.out _ _ (HSa.out) (fun hHeld => ?_)
  clear hK K
  refine norm_ (a' := ?_) ?_ ?_
  rotate_left
  · show Act.put _ (some 37) _ = _
    simp only [Act.put, List.setIfInBounds_toArray, List.set_cons_zero, List.set_cons_succ]
    rfl
  refine one_ (i := 13) (N := (some 38)) #[true, true, true, true, true, true, true, true, true, true, true, true, true, true, false, false, false] rfl rfl (by kernel_rfl) (by decide) (fun K hK => ?_)
  refine Kd.R_append_step E.k41 (w0 := w5) x (by rfl) (.tmp 29) (.tmp 37) 22 41 (.agg #[(.int .i64 0), (.string ⟨#[]⟩)]) 24 rfl Try.underlying22 E.info41 rfl (by decide) (by omega) (.slice A5 l.length c5) l ⟨kind, U.s⟩ [.int .i64 kind, .string U.s] (fun _ => True) (fun _ => False) rfl rfl (E.k41_mkM _ _ _ ⟨kind, U.s⟩) (fun _ hk => hk.elim) (fun _ _ => trivial) HR5.out (Below.refl _ _) (Nat.le_of_lt (blk_lt HSd.out.1)) (by have := HLE.out; omega) ?_
  intro v6 w6 r6 b6 g6 a6
  have HR6 := Aside0.mk r6
  have HS6 := Aside0.mk (And.intro (blk_grown HSd.out.1 g6 (Kd.R_ne HR5.out HSd.out.1 (by decide))) (blk_grown HSd.out.2 g6 (Kd.R_ne HR5.out HSd.out.2 (by decide))))
  have HW6 := Aside0.mk (HW5.out.grown41 HR5.out g6)
  have HF6 := Aside0.mk (show Fx lo g x w w6 from (Fx.of_fr HF5.out).trans ⟨b6.mono HXL.out, fun i cs t hi hg hx ht => (b6.block i hx).trans hi⟩)
  clear r6 b6 g6 a6
  refine hK.out _ _ (HS6.out) (fun hHeld => ?_)
  clear hK K
  refine norm_ (a' := ?_) ?_ ?_
  rotate_left
  · show Act.put _ (some 38) _ = _
    simp only [Act.put, List.setIfInBounds_toArray, List.set_cons_zero, List.set_cons_succ]
    rfl
  refine pure_ (i := 14) (N := (some 39)) (v := ?_) (a' := ?_) #[true, true, true, true, true, true, true, true, true, true, true, true, true, true, true, false, false] rfl rfl (by kernel_rfl) (fun _ _ _ h => h) (Or.inl ⟨by rfl, ?_⟩) ?_ ?_
  rotate_left
  · intro w'
    go_simp
    with_reducible rfl
  rotate_left
  · simp only [Act.put, List.setIfInBounds_toArray, List.set_cons_zero, List.set_cons_succ]
    rfl
  refine pure_ (i := 15) (N := (some 40)) (v := ?_) (a' := ?_) #[true, true, true, true, true, true, true, true, true, true, true, true, true, true, true, true, false] rfl rfl (by kernel_rfl) (fun _ _ _ h => h) (Or.inl ⟨by rfl, ?_⟩) ?_ ?_
  rotate_left
  · intro w'
    go_simp
    with_reducible rfl
  rotate_left
  · simp only [Act.put, List.setIfInBounds_toArray, List.set_cons_zero, List.set_cons_succ]
    rfl
  refine last_ (i := 16) (N := none) #[true, true, true, true, true, true, true, true, true, true, true, true, true, true, true, true, true] rfl rfl (by kernel_rfl) (by decide) (fun K hK => ?_)
  refine stM (g := x) (i := 1) (v := v6) (by rfl) rfl rfl rfl HS6.out.1 sz22 rfl (by obtain ⟨A_, c_, rfl⟩ := Kd.R_slice HR6.out; rfl) (by obtain ⟨A_, c_, rfl⟩ := Kd.R_slice HR6.out; rfl) (by simp) ?_
  intro w7 h7 b7 k7
  have HW7 := Aside0.mk (HW6.out.keep1 HS6.out.1 (by decide) (by decide) (b7 _ HXL.out) k7)
  have HX7 := Aside0.mk (show XS x g w7 (l ++ [⟨kind, U.s⟩]) from ⟨v6, h7, Kd.R_mono (Kd.R_keep (Kd.R_types HR6.out HS6.out.1 (k41_ty (by decide))) k7 (fun _ hk => hk.2)) (fun _ _ => trivial)⟩)
  have HF7 := Aside0.mk (HF6.out.trans ⟨b7 _ HXL.out, fun i cs t hi hg hx ht => (k7.2 i (blk_lt hi) (Nat.ne_of_lt hx) (by simp)).trans hi⟩)
  clear h7 b7 k7
  refine hK.out _ _ ?_
  clear hK K
  refine done_ (by kernel_rfl) ?_
  first | go_end0 | ((try simp only [Exit.inBlock, Exit.then]); refine bodyPost_ret (results_none rfl _ _ _) rfl ?_)
  exact ⟨rfl, HW7.out, HX7.out, HF7.out⟩
def Wp.ends (W : Wp) (l : List E.S41) : Wp := (W.need ((Go.Proofs.Ytlkebjkpmiehcaa.Pure.putL [] l).2 == 0)).vec (Go.Proofs.Ytlkebjkpmiehcaa.Pure.putL [] l).1 2 0 65536
set_option maxRecDepth 100000 in
set_option maxHeartbeats 8000000 in
theorem xend_w (lo x g : Nat) (W : Wp) (l : List E.S41) (w : World) (h : WS lo w g W) (hx : XS x g w l) (hl : l.length ≤ 16777216) (hb : ∀ y ∈ l, y.f1.size ≤ 140737488351232) (hn : W.s.size + 3 + (Go.Proofs.Ytlkebjkpmiehcaa.Pure.putL [] l).1.size ≤ 140737488355328) :
    Calls Try.prog 87 #[.pointer (some ⟨x, 0, none⟩)] w fun ex w' => ex = .returned (.tuple #[]) ∧ WS lo w' g (W.ends l) ∧ Fr lo g w w' := by
  obtain ⟨kp, hk⟩ := ev_at (Go.Proofs.Ytlkebjkpmiehcaa.Pure.put_any l hl hb)
  obtain ⟨v, h1, h3⟩ := hx
  obtain ⟨A, c, rfl, hlc, hC⟩ := Kd.R_reads h3
  have HW := Aside0.mk h
  have HC := Aside0.mk hC
  have HL := Aside0.mk hlc
  have HB := Aside0.mk h1
  have HK := Aside0.mk hk
  have HN := Aside0.mk (show (W.need ((Go.Proofs.Ytlkebjkpmiehcaa.Pure.putL [] l).2 == 0)).s.size + 3 + (Go.Proofs.Ytlkebjkpmiehcaa.Pure.putL [] l).1.size ≤ 140737488355328 from hn)
  have HNE := Aside0.mk (show x ≠ g from by obtain ⟨q, q1, _⟩ := h; exact ty_ne h1 q1 (by decide))
  clear h h1 h3 hC hlc hk hn hl hb
  go_enter Try.func87, Try.ntmps87
  go_wp2_with (first
    | ((with_reducible refine gate_dst (N := 8) rfl ?_); refine ld (v := .slice A l.length c) rfl rfl rfl HB.out Try.underlying22 rfl rfl ?_)
    | (go_at_call 15; (with_reducible refine (E.ext_Put.calls kp A c l _ _ _ HC.out HL.out HK.out).mono ?_); rintro e1 w1 ⟨rfl, b1⟩; have HW1 := Aside0.mk (HW.out.below b1); have HF1 := Aside0.mk (Fr.of_below (g := g) HW.out.size b1); have HB1 := Aside0.mk ((b1.block x (blk_lt HB.out)).trans HB.out); clear b1)
    | ((with_reducible refine gate_dst (N := 15) rfl ?_); refine ld (v := .pointer (some ⟨g, 0, none⟩)) rfl rfl rfl HB1.out Try.underlying81 rfl rfl ?_)
    | (go_at_call 61; (with_reducible refine (need_w lo g W ((Go.Proofs.Ytlkebjkpmiehcaa.Pure.putL [] l).2 == 0) _ HW1.out).mono ?_); rintro e2 w2 ⟨rfl, i2, f2⟩; have HW2 := Aside0.mk i2; have HB2 := Aside0.mk (f2.blk HB1.out HNE.out (by decide)); have HF2 := Aside0.mk (HF1.out.trans f2); clear i2 f2)
    | ((with_reducible refine gate_dst (N := 22) rfl ?_); refine ld (v := .pointer (some ⟨g, 0, none⟩)) rfl rfl rfl HB2.out Try.underlying81 rfl rfl ?_)
    | (go_at_call 57; (with_reducible refine (vec_w lo g (W.need ((Go.Proofs.Ytlkebjkpmiehcaa.Pure.putL [] l).2 == 0)) (Go.Proofs.Ytlkebjkpmiehcaa.Pure.putL [] l).1 2 0 65536 _ HW2.out (by omega) (by omega) HN.out).mono ?_); rintro e3 w3 ⟨rfl, i3, f3⟩; have HW3 := Aside0.mk i3; have HF3 := Aside0.mk (HF2.out.trans f3); clear i3 f3))
  first | go_end0 | ((try simp only [Exit.inBlock, Exit.then]); refine bodyPost_ret (results_none rfl _ _ _) rfl ?_)
  exact ⟨rfl, HW3.out, HF3.out⟩
end Go.Proofs.Ytlkebjkpmiehcaa.Ms
end
section
namespace Go.Proofs.Ytlkebjkpmiehcaa.Ms
open Go.RowKit Go.Proofs.YtlkebjkpmiehcaaW.PrintWords Go.Proofs.YtlkebjkpmiehcaaW.PrintLast Go.Proofs.YtlkebjkpmiehcaaW.PrintMore Go.Proofs.Ytlkebjkpmiehcaa.X
set_option linter.unusedVariables false
set_option linter.unusedSimpArgs false
theorem pv_small (v : ByteArray) (n : Int) (h1 : 1 ≤ n) (h3 : n ≤ 3) (hv : v.size ≤ 140737488351232) : (pv v n).1.size ≤ 16777218 := by
  obtain ⟨k, rfl⟩ := Int.eq_ofNat_of_zero_le (show 0 ≤ n by omega)
  have e : wire_PutVec.f = E.wire_PutVec.f := by kernel_rfl
  unfold pv
  rw [e, Go.Proofs.Ytlkebjkpmiehcaa.Pure.putVec_ok v k (by omega) (by omega) hv]
  unfold Go.Proofs.Ytlkebjkpmiehcaa.Pure.putVecOf
  have hk : k = 1 ∨ k = 2 ∨ k = 3 := by omega
  split
  · next h =>
    show (strOfNums (Go.Proofs.Ytlkebjkpmiehcaa.Pure.beL k v.size) ++ v).size ≤ _
    rw [ByteArray.size_append, Go.Proofs.Ytlkebjkpmiehcaa.Pure.strOf_size, Go.Proofs.Ytlkebjkpmiehcaa.Pure.beL_length]
    rcases hk with rfl | rfl | rfl <;> simp at h <;> omega
  · show (0 : Nat) ≤ _
    omega
theorem Wp.vec_small (W : Wp) (v : ByteArray) (n lo hi : Int) (h1 : 1 ≤ n) (h3 : n ≤ 3) (hv : v.size ≤ 140737488351232) : (W.vec v n lo hi).s.size ≤ W.s.size + 16777218 := by
  have := pv_small v n h1 h3 hv
  show (W.s ++ (pv v n).1).size ≤ _
  rw [ByteArray.size_append]
  omega
theorem Wp.within_small (W U : Wp) (n : Int) (h1 : 1 ≤ n) (h3 : n ≤ 3) (hv : U.s.size ≤ 140737488351232) : (W.within U n).s.size ≤ W.s.size + 16777218 := by
  have := pv_small U.s n h1 h3 hv
  show (W.s ++ (pv U.s n).1).size ≤ _
  rw [ByteArray.size_append]
  omega
def fw {α : Type} (f : Wp → α → Wp) (l : List α) : Wp := l.foldl f W0
theorem fw_step {α : Type} (f : Wp → α → Wp) (d : α) (l : List α) (i : Nat) (h : i < l.length) : fw f (l.take (i + 1)) = f (fw f (l.take i)) (l.getD i d) := by
  unfold fw
  rw [List.take_add_one, List.foldl_append, List.getD_eq_getElem?_getD, List.getElem?_eq_getElem h]
  simp
theorem fw_size {α : Type} (f : Wp → α → Wp) (l : List α) (hf : ∀ W a, a ∈ l → (f W a).s.size ≤ W.s.size + 4194304) : (fw f l).s.size ≤ l.length * 4194304 := by
  have key : ∀ (r : List α) (W : Wp), (∀ a, a ∈ r → a ∈ l) → (r.foldl f W).s.size ≤ W.s.size + r.length * 4194304 := by
    intro r
    induction r with
    | nil => intro W _; simp
    | cons a r ih =>
      intro W hr
      have h1 := hf W a (hr a List.mem_cons_self)
      have h2 := ih (f W a) (fun b hb => hr b (List.mem_cons_of_mem _ hb))
      rw [List.foldl_cons, List.length_cons]
      omega
  have := key l W0 (fun a h => h)
  have h0 : W0.s.size = 0 := rfl
  unfold fw
  omega
theorem fw_take {α : Type} (f : Wp → α → Wp) (l : List α) (hl : l.length ≤ 16777216) (hf : ∀ W a, a ∈ l → (f W a).s.size ≤ W.s.size + 4194304) (i : Nat) : (fw f (l.take i)).s.size ≤ 70368744177664 := by
  have h1 := fw_size f (l.take i) (fun W a h => hf W a (List.mem_of_mem_take h))
  have h2 : (l.take i).length ≤ l.length := by rw [List.length_take]; omega
  omega
theorem fw_all {α : Type} (f : Wp → α → Wp) (l : List α) (hl : l.length ≤ 16777216) (hf : ∀ W a, a ∈ l → (f W a).s.size ≤ W.s.size + 4194304) : (fw f l).s.size ≤ 70368744177664 := by
  have := fw_take f l hl hf l.length
  rwa [List.take_length] at this
def wN (n : Int) (W : Wp) (x : Int) : Wp := W.num x n
def wS (W : Wp) (s : S66) : Wp := (W.num s.f0 2).vec s.f1 2 1 65536
def wI (W : Wp) (s : S111) : Wp := (W.vec s.f0 2 1 65536).num s.f1 4
def wB (W : Wp) (s : ByteArray) : Wp := W.vec s 1 32 255
theorem wN_size (n : Int) (h1 : 1 ≤ n) (h4 : n ≤ 4) (W : Wp) (x : Int) : (wN n W x).s.size ≤ W.s.size + 4194304 := by
  have := W.num_size x n h1 h4
  unfold wN
  omega
theorem wS_size (W : Wp) (s : S66) (hs : s.f1.size ≤ 2097152) : (wS W s).s.size ≤ W.s.size + 4194304 := by
  have h1 := W.num_size s.f0 2 (by omega) (by omega)
  have h2 := (W.num s.f0 2).vec_size s.f1 2 1 65536 (by omega) (by omega) (by omega)
  unfold wS
  omega
theorem wI_size (W : Wp) (s : S111) (hs : s.f0.size ≤ 2097152) : (wI W s).s.size ≤ W.s.size + 4194304 := by
  have h1 := (W.vec s.f0 2 1 65536).num_size s.f1 4 (by omega) (by omega)
  have h2 := W.vec_size s.f0 2 1 65536 (by omega) (by omega) (by omega)
  unfold wI
  omega
theorem wB_size (W : Wp) (s : ByteArray) (hs : s.size ≤ 2097152) : (wB W s).s.size ≤ W.s.size + 4194304 := by
  have h2 := W.vec_size s 1 32 255 (by omega) (by omega) (by omega)
  unfold wB
  omega
theorem boxT {ops : Array Oper} {rest : List Oper} {o : Oper} {a : Act} {Q : Exit → Act → World → Prop} {w : World} {t : TypeId} {x : Operand} (hgd : o.guard = none) (ho : o.op = .box t x) {v : Value} {cs : Array Value} (hx : a.eval x = v) (hv : v.cells = cs)
    (H : ∀ g, g = w.heap.size → ∀ w1, w1.heap[g]? = some (.cells cs t (0, 0)) → Below w.heap.size w w1 → wpList Try.prog ops Q rest (a.put o.dst (.pointer (some ⟨g, 0, none⟩))) w1) : wpList Try.prog ops Q (o :: rest) a w := by
  subst hv
  refine Kd.event_run hgd ?_ (H _ rfl _ (blk_new w _) (below_alloc (Below.refl _ _) _))
  unfold execOp
  simp only [ho, hx]
  rfl
theorem zero66w : (Try.prog.info? 66).map (·.zero) = some (some (.agg #[.int .i64 0, .string ⟨#[]⟩])) := by kernel_rfl
theorem zero111w : (Try.prog.info? 111).map (·.zero) = some (some (.agg #[.string ⟨#[]⟩, .int .i64 0])) := by kernel_rfl
set_option maxRecDepth 100000 in
set_option maxHeartbeats 8000000 in
theorem share_w (lo g : Nat) (W : Wp) (s : S66) (w : World) (h : WS lo w g W) (hn : W.s.size + 8 + s.f1.size ≤ 140737488355328) :
    Calls Try.prog 85 #[.pointer (some ⟨g, 0, none⟩), .agg #[.int .i64 s.f0, .string s.f1]] w fun ex w' => ex = .returned (.tuple #[]) ∧ WS lo w' g (wS W s) ∧ Fr lo g w w' := by
  have HW := Aside0.mk h
  have z1 := W.num_size s.f0 2 (by omega) (by omega)
  have HN1 := Aside0.mk (show W.s.size + 4 ≤ 140737488355328 from by omega)
  have HN2 := Aside0.mk (show (W.num s.f0 2).s.size + 3 + s.f1.size ≤ 140737488355328 from by omega)
  clear h hn z1
  go_enter Try.func85, Try.ntmps85
  go_wp2_with (first
    | ((with_reducible refine gate_dst (N := 3) rfl ?_); refine boxT rfl rfl rfl rfl ?_; intro gb eb w1 h1 b1; have HB := Aside0.mk h1; have HNE := Aside0.mk (show gb ≠ g from by have := HW.out.lt; omega); have HW1 := Aside0.mk (HW.out.below b1); have HF1 := Aside0.mk (Fr.of_below (g := g) HW.out.size b1); clear h1 b1 eb)
    | ((with_reducible refine gate_dst (N := 6) rfl ?_); refine ld (v := .int .i64 s.f0) rfl rfl rfl HB.out Try.underlying3 rfl rfl ?_)
    | (go_at_call 60; (with_reducible refine (num_w lo g W s.f0 2 _ HW1.out (by omega) (by omega) HN1.out).mono ?_); rintro e2 w2 ⟨rfl, i2, f2⟩; have HW2 := Aside0.mk i2; have HB2 := Aside0.mk (f2.blk HB.out HNE.out (by decide)); have HF2 := Aside0.mk (HF1.out.trans f2); clear i2 f2)
    | ((with_reducible refine gate_dst (N := 10) rfl ?_); refine ld (v := .string s.f1) rfl rfl rfl HB2.out Try.underlying9 rfl rfl ?_)
    | (go_at_call 57; (with_reducible refine (vec_w lo g (W.num s.f0 2) s.f1 2 1 65536 _ HW2.out (by omega) (by omega) HN2.out).mono ?_); rintro e3 w3 ⟨rfl, i3, f3⟩; have HW3 := Aside0.mk (show WS lo w3 g (wS W s) from i3); have HF3 := Aside0.mk (HF2.out.trans f3); clear i3 f3))
  first | go_end0 | ((try simp only [Exit.inBlock, Exit.then]); refine bodyPost_ret (results_none rfl _ _ _) rfl ?_)
  exact ⟨rfl, HW3.out, HF3.out⟩
set_option maxRecDepth 100000 in
set_option maxHeartbeats 8000000 in
theorem nums2_w (bx bw : Nat) (n : Int) (hn1 : 1 ≤ n) (hn4 : n ≤ 4) (A : Option Addr) (c : Nat) (l : List Int) (w : World) (hx : w.heap[bx]? = some (.cells #[.slice A l.length c] 44 (0, 0))) (hw : w.heap[bw]? = some (.cells #[.int .i64 n] 3 (0, 0))) (hr : Kd.C (Kd.int .i64) w A l.length l) (hlc : l.length ≤ c) (hl : l.length ≤ 16777216) :
    Writes 107 #[.pointer (some ⟨bx, 0, none⟩), .pointer (some ⟨bw, 0, none⟩)] w (fw (wN n) l).s (fw (wN n) l).b := by
  intro w0 g hb0 h
  have HW := Aside0.mk h
  have HSZ := Aside0.mk (show ∀ W a, a ∈ l → ((wN n) W a).s.size ≤ W.s.size + 4194304 from (fun W a _ => wN_size n hn1 hn4 W a))
  have HLM := Aside0.mk hl
  have HR := Aside0.mk hr
  have HB0 := Aside0.mk hb0
  have HGE := Aside0.mk h.lt
  have HX := Aside0.mk ((hb0.block bx (blk_lt hx)).trans hx)
  have HX1 := Aside0.mk (show bx ≠ g from by have := blk_lt hx; have := h.lt; omega)
  have HY := Aside0.mk ((hb0.block bw (blk_lt hw)).trans hw)
  have HY1 := Aside0.mk (show bw ≠ g from by have := blk_lt hw; have := h.lt; omega)
  clear hx hw
  clear h hr hl hb0
  show Calls Try.prog 107 _ w0 _
  go_enter Try.func107, Try.ntmps107
  go_wp2_with (first
    | ((with_reducible refine gate_dst (N := 6) rfl ?_); refine ld (v := .slice A l.length c) rfl rfl rfl HX.out Try.underlying44 rfl rfl ?_))
  go_loopw [8] (fun v wr => ∃ i : Nat, i ≤ l.length ∧ v = .int .i64 i ∧ Aside0 (WS w.heap.size wr g (fw (wN n) (l.take i))) ∧ Aside0 (Fr w.heap.size g w0 wr)) (fun v _ => l.length - (intOf v).toNat)
  case atStart => exact ⟨0, by omega, rfl, HW, ⟨Fr.refl _ _ _⟩⟩
  case round =>
  obtain ⟨i, hi, rfl, HWi, HFi⟩ := hrel
  by_cases hlt : i < l.length
  · have t1 : decide ((i : Int) < (l.length : Int)) = true := decide_eq_true (by omega)
    have p : (0 : Int) ≤ (i : Int) := by omega
    have q : (i : Int) < (l.length : Int) := by omega
    have HCi := Aside0.mk (Kd.C_below HR.out (HB0.out.trans HFi.out.below))
    obtain ⟨ad, e0, hx⟩ := Kd.at_int HCi.out (i : Int) p q
    cases e0
    have hsi := fw_take (wN n) l HLM.out HSZ.out i
    obtain ⟨s, hs⟩ : ∃ s, s = rd l (i : Int) := ⟨_, rfl⟩
    have hmem : s ∈ l := by
      rw [hs]
      unfold rd
      rw [Int.toNat_natCast, List.getD_eq_getElem?_getD, List.getElem?_eq_getElem hlt]
      exact List.getElem_mem hlt
    rw [← hs, Int.toNat_natCast] at hx
    have HSE := Aside0.mk (show s = l.getD i (0 : Int) from by rw [hs]; unfold rd; rw [Int.toNat_natCast])
    have HNS := Aside0.mk (show (fw (wN n) (l.take i)).s.size + 4 ≤ 140737488355328 from by omega)
    have HYi := Aside0.mk (HFi.out.blk HY.out HY1.out (by decide))
    have HN1 := Aside0.mk hn1
    have HN4 := Aside0.mk hn4
    have p' := eq_true p
    have q' := eq_true q
    have z1 : IntKind.i64.wrap ((i : Int) + 1) = (i : Int) + 1 := IntWalk.i64_in _ (by have := HLM.out; omega)
    clear hs hsi p q hmem
    go_wp2_with (first
      | ((with_reducible refine gate_dst (N := 14) rfl ?_); refine ld (v := .int .i64 n) rfl rfl rfl HYi.out Try.underlying3 rfl rfl ?_)
      | (go_at_call 60; (with_reducible refine (num_w w.heap.size g _ s n _ HWi.out HN1.out HN4.out HNS.out).mono ?_); rintro e1 w1 ⟨rfl, i1, f1⟩; have HWz := Aside0.mk i1; have HFz := Aside0.mk (HFi.out.trans f1); clear i1 f1 hx))
    go_roundw
    case rel => first | exact ⟨i + 1, by omega, by go_num, ⟨by rw [fw_step (wN n) (0 : Int) l i hlt, ← HSE.out]; exact HWz.out⟩, HFz⟩ | ((repeat apply Exists.intro); exact ⟨⟨i + 1, by omega, by go_num, ⟨by rw [fw_step (wN n) (0 : Int) l i hlt, ← HSE.out]; exact HWz.out⟩, HFz⟩, rfl⟩)
    case measure => simp [intOf]; omega
  · have t1 : decide ((i : Int) < (l.length : Int)) = false := decide_eq_false (by omega)
    have hie : l.take i = l := List.take_of_length_le (by omega)
    rw [hie] at HWi
    clear hie
    go_wp2
    first | go_end0 | ((try simp only [Exit.inBlock, Exit.then]); refine bodyPost_ret (results_none rfl _ _ _) rfl ?_)
    exact ⟨rfl, HWi.out, HFi.out⟩
set_option maxRecDepth 100000 in
set_option maxHeartbeats 8000000 in
theorem binders_w (gb gm : Nat) (cs : Array Value) (A : Option Addr) (c : Nat) (l : List ByteArray) (w : World) (hcb : w.heap[gb]? = some (.cells #[.pointer (some ⟨gm, 0, none⟩)] 85 (0, 0))) (hcm : w.heap[gm]? = some (.cells cs 49 (0, 0))) (hcv : cs[11]? = some (.slice A l.length c)) (hr : Kd.C Kd.string w A l.length l) (hlc : l.length ≤ c) (hl : l.length ≤ 16777216) (hs_ : ∀ a, a ∈ l → a.size ≤ 2097152) :
    Writes 110 #[.pointer (some ⟨gb, 0, none⟩)] w (fw wB l).s (fw wB l).b := by
  intro w0 g hb0 h
  have HW := Aside0.mk h
  have HSZ := Aside0.mk (show ∀ W a, a ∈ l → (wB W a).s.size ≤ W.s.size + 4194304 from (fun W a ha => wB_size W a (hs_ a ha)))
  have HLM := Aside0.mk hl
  have HR := Aside0.mk hr
  have HB0 := Aside0.mk hb0
  have HGE := Aside0.mk h.lt
  have HX := Aside0.mk ((hb0.block gb (blk_lt hcb)).trans hcb)
  have HX1 := Aside0.mk (show gb ≠ g from by have := blk_lt hcb; have := h.lt; omega)
  have HY := Aside0.mk ((hb0.block gm (blk_lt hcm)).trans hcm)
  have HY1 := Aside0.mk (show gm ≠ g from by have := blk_lt hcm; have := h.lt; omega)
  have HV := Aside0.mk hcv
  clear hcb hcm hcv
  clear h hr hl hb0
  show Calls Try.prog 110 _ w0 _
  go_enter Try.func110, Try.ntmps110
  go_wp2_with (first
    | ((with_reducible refine gate_dst (N := 5) rfl ?_); refine ld (v := .pointer (some ⟨gm, 0, none⟩)) rfl rfl rfl HX.out Try.underlying85 rfl rfl ?_)
    | ((with_reducible refine gate_dst (N := 8) rfl ?_); refine ld (v := .slice A l.length c) rfl rfl rfl HY.out Try.underlying47 rfl HV.out ?_))
  go_loopw [10] (fun v wr => ∃ i : Nat, i ≤ l.length ∧ v = .int .i64 i ∧ Aside0 (WS w.heap.size wr g (fw wB (l.take i))) ∧ Aside0 (Fr w.heap.size g w0 wr)) (fun v _ => l.length - (intOf v).toNat)
  case atStart => exact ⟨0, by omega, rfl, HW, ⟨Fr.refl _ _ _⟩⟩
  case round =>
  obtain ⟨i, hi, rfl, HWi, HFi⟩ := hrel
  by_cases hlt : i < l.length
  · have t1 : decide ((i : Int) < (l.length : Int)) = true := decide_eq_true (by omega)
    have p : (0 : Int) ≤ (i : Int) := by omega
    have q : (i : Int) < (l.length : Int) := by omega
    have HCi := Aside0.mk (Kd.C_below HR.out (HB0.out.trans HFi.out.below))
    obtain ⟨ad, e0, hx⟩ := Kd.at_string HCi.out (i : Int) p q
    cases e0
    have hsi := fw_take wB l HLM.out HSZ.out i
    obtain ⟨s, hs⟩ : ∃ s, s = rdOf ByteArray.empty l (i : Int) := ⟨_, rfl⟩
    have hmem : s ∈ l := by
      rw [hs]
      unfold rdOf
      rw [Int.toNat_natCast, List.getD_eq_getElem?_getD, List.getElem?_eq_getElem hlt]
      exact List.getElem_mem hlt
    have hmz := hs_ s hmem
    rw [← hs, Int.toNat_natCast] at hx
    have HSE := Aside0.mk (show s = l.getD i ByteArray.empty from by rw [hs]; unfold rdOf; rw [Int.toNat_natCast])
    have HNS := Aside0.mk (show (fw wB (l.take i)).s.size + 3 + s.size ≤ 140737488355328 from by omega)
    clear hmz
    have p' := eq_true p
    have q' := eq_true q
    have z1 : IntKind.i64.wrap ((i : Int) + 1) = (i : Int) + 1 := IntWalk.i64_in _ (by have := HLM.out; omega)
    clear hs hsi p q hmem
    go_wp2_with (first
      | (go_at_call 57; (with_reducible refine (vec_w w.heap.size g _ s 1 32 255 _ HWi.out (by omega) (by omega) HNS.out).mono ?_); rintro e1 w1 ⟨rfl, i1, f1⟩; have HWz := Aside0.mk i1; have HFz := Aside0.mk (HFi.out.trans f1); clear i1 f1 hx))
    go_roundw
    case rel => first | exact ⟨i + 1, by omega, by go_num, ⟨by rw [fw_step wB ByteArray.empty l i hlt, ← HSE.out]; exact HWz.out⟩, HFz⟩ | ((repeat apply Exists.intro); exact ⟨⟨i + 1, by omega, by go_num, ⟨by rw [fw_step wB ByteArray.empty l i hlt, ← HSE.out]; exact HWz.out⟩, HFz⟩, rfl⟩)
    case measure => simp [intOf]; omega
  · have t1 : decide ((i : Int) < (l.length : Int)) = false := decide_eq_false (by omega)
    have hie : l.take i = l := List.take_of_length_le (by omega)
    rw [hie] at HWi
    clear hie
    go_wp2
    first | go_end0 | ((try simp only [Exit.inBlock, Exit.then]); refine bodyPost_ret (results_none rfl _ _ _) rfl ?_)
    exact ⟨rfl, HWi.out, HFi.out⟩
set_option maxRecDepth 100000 in
set_option maxHeartbeats 8000000 in
theorem shares_w (gb gm : Nat) (cs : Array Value) (A : Option Addr) (c : Nat) (l : List S66) (w : World) (hcb : w.heap[gb]? = some (.cells #[.pointer (some ⟨gm, 0, none⟩)] 85 (0, 0))) (hcm : w.heap[gm]? = some (.cells cs 49 (0, 0))) (hcv : cs[9]? = some (.slice A l.length c)) (hr : Kd.C k66 w A l.length l) (hlc : l.length ≤ c) (hl : l.length ≤ 16777216) (hs_ : ∀ a, a ∈ l → a.f1.size ≤ 2097152) :
    Writes 84 #[.pointer (some ⟨gb, 0, none⟩)] w (fw wS l).s (fw wS l).b := by
  intro w0 g hb0 h
  have HW := Aside0.mk h
  have HSZ := Aside0.mk (show ∀ W a, a ∈ l → (wS W a).s.size ≤ W.s.size + 4194304 from (fun W a ha => wS_size W a (hs_ a ha)))
  have HLM := Aside0.mk hl
  have HR := Aside0.mk hr
  have HB0 := Aside0.mk hb0
  have HGE := Aside0.mk h.lt
  have HX := Aside0.mk ((hb0.block gb (blk_lt hcb)).trans hcb)
  have HX1 := Aside0.mk (show gb ≠ g from by have := blk_lt hcb; have := h.lt; omega)
  have HY := Aside0.mk ((hb0.block gm (blk_lt hcm)).trans hcm)
  have HY1 := Aside0.mk (show gm ≠ g from by have := blk_lt hcm; have := h.lt; omega)
  have HV := Aside0.mk hcv
  clear hcb hcm hcv
  have hu66 := Try.underlying66
  have hu111 := Try.underlying111
  clear h hr hl hb0
  show Calls Try.prog 84 _ w0 _
  go_enter Try.func84, Try.ntmps84
  go_wp2_with (first
    | ((with_reducible refine gate_dst (N := 5) rfl ?_); refine ld (v := .pointer (some ⟨gm, 0, none⟩)) rfl rfl rfl HX.out Try.underlying85 rfl rfl ?_)
    | ((with_reducible refine gate_dst (N := 8) rfl ?_); refine ld (v := .slice A l.length c) rfl rfl rfl HY.out Try.underlying45 rfl HV.out ?_))
  go_loopw [10] (fun v wr => ∃ i : Nat, i ≤ l.length ∧ v = .int .i64 i ∧ Aside0 (WS w.heap.size wr g (fw wS (l.take i))) ∧ Aside0 (Fr w.heap.size g w0 wr)) (fun v _ => l.length - (intOf v).toNat)
  case atStart => exact ⟨0, by omega, rfl, HW, ⟨Fr.refl _ _ _⟩⟩
  case round =>
  obtain ⟨i, hi, rfl, HWi, HFi⟩ := hrel
  by_cases hlt : i < l.length
  · have t1 : decide ((i : Int) < (l.length : Int)) = true := decide_eq_true (by omega)
    have p : (0 : Int) ≤ (i : Int) := by omega
    have q : (i : Int) < (l.length : Int) := by omega
    have HCi := Aside0.mk (Kd.C_below HR.out (HB0.out.trans HFi.out.below))
    obtain ⟨ad, e0, hx, hx2⟩ := at_T66 HCi.out (i : Int) p q
    cases e0
    have hsi := fw_take wS l HLM.out HSZ.out i
    obtain ⟨s, hs⟩ : ∃ s, s = rd_T66 l (i : Int) := ⟨_, rfl⟩
    have hmem : s ∈ l := by
      rw [hs]
      unfold rd_T66
      rw [Int.toNat_natCast, List.getD_eq_getElem?_getD, List.getElem?_eq_getElem hlt]
      exact List.getElem_mem hlt
    have hmz := hs_ s hmem
    rw [← hs, Int.toNat_natCast] at hx hx2
    have HSE := Aside0.mk (show s = l.getD i z66 from by rw [hs]; unfold rd_T66; rw [Int.toNat_natCast])
    have HNS := Aside0.mk (show (fw wS (l.take i)).s.size + 8 + s.f1.size ≤ 140737488355328 from by omega)
    clear hmz
    have p' := eq_true p
    have q' := eq_true q
    have z1 : IntKind.i64.wrap ((i : Int) + 1) = (i : Int) + 1 := IntWalk.i64_in _ (by have := HLM.out; omega)
    clear hs hsi p q hmem
    go_wp2_with (first
      | ((with_reducible refine gate_dst (N := 4) rfl ?_); refine allocT zero66w rfl rfl ?_; intro g2 eg w1 h1 b1; have HG1 := Aside0.mk h1; have HGN := Aside0.mk (show g2 ≠ g from by have := HWi.out.lt; omega); have HGL := Aside0.mk (show w.heap.size ≤ g2 from by have := HWi.out.size; omega); have HW1 := Aside0.mk (HWi.out.below b1); have HB1 := Aside0.mk b1; have HEG := Aside0.mk eg; clear h1 b1 eg hx hx2)
      | ((with_reducible refine gate_store (p := 4) rfl ?_); refine stRow2 (cs := #[.int .i64 s.f0, .string s.f1]) wsz66 rfl rfl rfl rfl HG1.out rfl rfl rfl ?_; intro w2 h2 b2 k2; have HG2 := Aside0.mk h2; have HW2 := Aside0.mk (HW1.out.keep1 HG1.out (by decide) (by decide) (b2 _ HGL.out) k2); have HF2 := Aside0.mk (HFi.out.trans ⟨(HB1.out.mono HWi.out.size).trans (b2 _ HGL.out), fun k cs t hk hkg ht => (k2.2 k (Nat.lt_of_lt_of_le (blk_lt hk) HB1.out.size) (by have := blk_lt hk; have := HEG.out; omega) (by simp)).trans ((HB1.out.block k (blk_lt hk)).trans hk)⟩); clear h2 b2 k2)
      | ((with_reducible refine gate_dst (N := 15) rfl ?_); refine wpList_load_row rfl 66 _ rfl g2 rfl 66 _ (0, 0) _ HG2.out Try.underlying66 rfl wsz66 ?_)
      | (go_at_call 85; (with_reducible refine (share_w w.heap.size g _ s _ HW2.out HNS.out).mono ?_); rintro e3 w3 ⟨rfl, i3, f3⟩; have HWz := Aside0.mk i3; have HFz := Aside0.mk (HF2.out.trans f3); clear i3 f3))
    go_roundw
    case rel => first | exact ⟨i + 1, by omega, by go_num, ⟨by rw [fw_step wS z66 l i hlt, ← HSE.out]; exact HWz.out⟩, HFz⟩ | ((repeat apply Exists.intro); exact ⟨⟨i + 1, by omega, by go_num, ⟨by rw [fw_step wS z66 l i hlt, ← HSE.out]; exact HWz.out⟩, HFz⟩, rfl⟩)
    case measure => simp [intOf]; omega
  · have t1 : decide ((i : Int) < (l.length : Int)) = false := decide_eq_false (by omega)
    have hie : l.take i = l := List.take_of_length_le (by omega)
    rw [hie] at HWi
    clear hie
    go_wp2
    first | go_end0 | ((try simp only [Exit.inBlock, Exit.then]); refine bodyPost_ret (results_none rfl _ _ _) rfl ?_)
    exact ⟨rfl, HWi.out, HFi.out⟩
set_option maxRecDepth 100000 in
set_option maxHeartbeats 8000000 in
theorem idents_w (gb gm : Nat) (cs : Array Value) (A : Option Addr) (c : Nat) (l : List S111) (w : World) (hcb : w.heap[gb]? = some (.cells #[.pointer (some ⟨gm, 0, none⟩)] 85 (0, 0))) (hcm : w.heap[gm]? = some (.cells cs 49 (0, 0))) (hcv : cs[10]? = some (.slice A l.length c)) (hr : Kd.C k111 w A l.length l) (hlc : l.length ≤ c) (hl : l.length ≤ 16777216) (hs_ : ∀ a, a ∈ l → a.f0.size ≤ 2097152) :
    Writes 109 #[.pointer (some ⟨gb, 0, none⟩)] w (fw wI l).s (fw wI l).b := by
  intro w0 g hb0 h
  have HW := Aside0.mk h
  have HSZ := Aside0.mk (show ∀ W a, a ∈ l → (wI W a).s.size ≤ W.s.size + 4194304 from (fun W a ha => wI_size W a (hs_ a ha)))
  have HLM := Aside0.mk hl
  have HR := Aside0.mk hr
  have HB0 := Aside0.mk hb0
  have HGE := Aside0.mk h.lt
  have HX := Aside0.mk ((hb0.block gb (blk_lt hcb)).trans hcb)
  have HX1 := Aside0.mk (show gb ≠ g from by have := blk_lt hcb; have := h.lt; omega)
  have HY := Aside0.mk ((hb0.block gm (blk_lt hcm)).trans hcm)
  have HY1 := Aside0.mk (show gm ≠ g from by have := blk_lt hcm; have := h.lt; omega)
  have HV := Aside0.mk hcv
  clear hcb hcm hcv
  have hu66 := Try.underlying66
  have hu111 := Try.underlying111
  clear h hr hl hb0
  show Calls Try.prog 109 _ w0 _
  go_enter Try.func109, Try.ntmps109
  go_wp2_with (first
    | ((with_reducible refine gate_dst (N := 5) rfl ?_); refine ld (v := .pointer (some ⟨gm, 0, none⟩)) rfl rfl rfl HX.out Try.underlying85 rfl rfl ?_)
    | ((with_reducible refine gate_dst (N := 8) rfl ?_); refine ld (v := .slice A l.length c) rfl rfl rfl HY.out Try.underlying46 rfl HV.out ?_))
  go_loopw [10] (fun v wr => ∃ i : Nat, i ≤ l.length ∧ v = .int .i64 i ∧ Aside0 (WS w.heap.size wr g (fw wI (l.take i))) ∧ Aside0 (Fr w.heap.size g w0 wr)) (fun v _ => l.length - (intOf v).toNat)
  case atStart => exact ⟨0, by omega, rfl, HW, ⟨Fr.refl _ _ _⟩⟩
  case round =>
  obtain ⟨i, hi, rfl, HWi, HFi⟩ := hrel
  by_cases hlt : i < l.length
  · have t1 : decide ((i : Int) < (l.length : Int)) = true := decide_eq_true (by omega)
    have p : (0 : Int) ≤ (i : Int) := by omega
    have q : (i : Int) < (l.length : Int) := by omega
    have HCi := Aside0.mk (Kd.C_below HR.out (HB0.out.trans HFi.out.below))
    obtain ⟨ad, e0, hx, hx2⟩ := at_T111 HCi.out (i : Int) p q
    cases e0
    have hsi := fw_take wI l HLM.out HSZ.out i
    obtain ⟨s, hs⟩ : ∃ s, s = rd_T111 l (i : Int) := ⟨_, rfl⟩
    have hmem : s ∈ l := by
      rw [hs]
      unfold rd_T111
      rw [Int.toNat_natCast, List.getD_eq_getElem?_getD, List.getElem?_eq_getElem hlt]
      exact List.getElem_mem hlt
    have hmz := hs_ s hmem
    rw [← hs, Int.toNat_natCast] at hx hx2
    have HSE := Aside0.mk (show s = l.getD i z111 from by rw [hs]; unfold rd_T111; rw [Int.toNat_natCast])
    have HNS := Aside0.mk (show (fw wI (l.take i)).s.size + 3 + s.f0.size ≤ 140737488355328 from by omega)
    have HNT := Aside0.mk (show ((fw wI (l.take i)).vec s.f0 2 1 65536).s.size + 4 ≤ 140737488355328 from by
      have := (fw wI (l.take i)).vec_size s.f0 2 1 65536 (by omega) (by omega) (by omega)
      omega)
    clear hmz
    have p' := eq_true p
    have q' := eq_true q
    have z1 : IntKind.i64.wrap ((i : Int) + 1) = (i : Int) + 1 := IntWalk.i64_in _ (by have := HLM.out; omega)
    clear hs hsi p q hmem
    go_wp2_with (first
      | ((with_reducible refine gate_dst (N := 4) rfl ?_); refine allocT zero111w rfl rfl ?_; intro g2 eg w1 h1 b1; have HG1 := Aside0.mk h1; have HGN := Aside0.mk (show g2 ≠ g from by have := HWi.out.lt; omega); have HGL := Aside0.mk (show w.heap.size ≤ g2 from by have := HWi.out.size; omega); have HW1 := Aside0.mk (HWi.out.below b1); have HB1 := Aside0.mk b1; have HEG := Aside0.mk eg; clear h1 b1 eg hx hx2)
      | ((with_reducible refine gate_store (p := 4) rfl ?_); refine stRow2 (cs := #[.string s.f0, .int .i64 s.f1]) wsz111 rfl rfl rfl rfl HG1.out rfl rfl rfl ?_; intro w2 h2 b2 k2; have HG2 := Aside0.mk h2; have HW2 := Aside0.mk (HW1.out.keep1 HG1.out (by decide) (by decide) (b2 _ HGL.out) k2); have HF2 := Aside0.mk (HFi.out.trans ⟨(HB1.out.mono HWi.out.size).trans (b2 _ HGL.out), fun k cs t hk hkg ht => (k2.2 k (Nat.lt_of_lt_of_le (blk_lt hk) HB1.out.size) (by have := blk_lt hk; have := HEG.out; omega) (by simp)).trans ((HB1.out.block k (blk_lt hk)).trans hk)⟩); clear h2 b2 k2)
      | ((with_reducible refine gate_dst (N := 16) rfl ?_); refine ld (v := .string s.f0) rfl rfl rfl HG2.out Try.underlying9 rfl rfl ?_)
      | (go_at_call 57; (with_reducible refine (vec_w w.heap.size g _ s.f0 2 1 65536 _ HW2.out (by omega) (by omega) HNS.out).mono ?_); rintro e3 w3 ⟨rfl, i3, f3⟩; have HW3 := Aside0.mk i3; have HG3 := Aside0.mk (f3.blk HG2.out HGN.out (by decide)); have HF3 := Aside0.mk (HF2.out.trans f3); clear i3 f3)
      | ((with_reducible refine gate_dst (N := 20) rfl ?_); refine ld (v := .int .i64 s.f1) rfl rfl rfl HG3.out Try.underlying3 rfl rfl ?_)
      | (go_at_call 60; (with_reducible refine (num_w w.heap.size g _ s.f1 4 _ HW3.out (by omega) (by omega) HNT.out).mono ?_); rintro e4 w4 ⟨rfl, i4, f4⟩; have HWz := Aside0.mk i4; have HFz := Aside0.mk (HF3.out.trans f4); clear i4 f4))
    go_roundw
    case rel => first | exact ⟨i + 1, by omega, by go_num, ⟨by rw [fw_step wI z111 l i hlt, ← HSE.out]; exact HWz.out⟩, HFz⟩ | ((repeat apply Exists.intro); exact ⟨⟨i + 1, by omega, by go_num, ⟨by rw [fw_step wI z111 l i hlt, ← HSE.out]; exact HWz.out⟩, HFz⟩, rfl⟩)
    case measure => simp [intOf]; omega
  · have t1 : decide ((i : Int) < (l.length : Int)) = false := decide_eq_false (by omega)
    have hie : l.take i = l := List.take_of_length_le (by omega)
    rw [hie] at HWi
    clear hie
    go_wp2
    first | go_end0 | ((try simp only [Exit.inBlock, Exit.then]); refine bodyPost_ret (results_none rfl _ _ _) rfl ?_)
    exact ⟨rfl, HWi.out, HFi.out⟩
end Go.Proofs.Ytlkebjkpmiehcaa.Ms
end
section
namespace Go.Proofs.Ytlkebjkpmiehcaa.Ms
open Go.RowKit Go.Proofs.YtlkebjkpmiehcaaW.PrintWords Go.Proofs.YtlkebjkpmiehcaaW.PrintLast Go.Proofs.YtlkebjkpmiehcaaW.PrintMore Go.Proofs.Ytlkebjkpmiehcaa.X
set_option linter.unusedVariables false
set_option linter.unusedSimpArgs false
theorem enters81 : ∀ args w, (callFunc 81 args).run Try.prog w = .ok (.enter 81 args) w := fun args w => enters_ Try.func81 (by kernel_rfl) rfl args w
theorem enters82 : ∀ args w, (callFunc 82 args).run Try.prog w = .ok (.enter 82 args) w := fun args w => enters_ Try.func82 (by kernel_rfl) rfl args w
theorem enters83 : ∀ args w, (callFunc 83 args).run Try.prog w = .ok (.enter 83 args) w := fun args w => enters_ Try.func83 (by kernel_rfl) rfl args w
theorem enters84 : ∀ args w, (callFunc 84 args).run Try.prog w = .ok (.enter 84 args) w := fun args w => enters_ Try.func84 (by kernel_rfl) rfl args w
theorem enters88 : ∀ args w, (callFunc 88 args).run Try.prog w = .ok (.enter 88 args) w := fun args w => enters_ Try.func88 (by kernel_rfl) rfl args w
theorem enters89 : ∀ args w, (callFunc 89 args).run Try.prog w = .ok (.enter 89 args) w := fun args w => enters_ Try.func89 (by kernel_rfl) rfl args w
theorem enters90 : ∀ args w, (callFunc 90 args).run Try.prog w = .ok (.enter 90 args) w := fun args w => enters_ Try.func90 (by kernel_rfl) rfl args w
theorem enters91 : ∀ args w, (callFunc 91 args).run Try.prog w = .ok (.enter 91 args) w := fun args w => enters_ Try.func91 (by kernel_rfl) rfl args w
theorem enters106 : ∀ args w, (callFunc 106 args).run Try.prog w = .ok (.enter 106 args) w := fun args w => enters_ Try.func106 (by kernel_rfl) rfl args w
theorem enters107 : ∀ args w, (callFunc 107 args).run Try.prog w = .ok (.enter 107 args) w := fun args w => enters_ Try.func107 (by kernel_rfl) rfl args w
theorem enters108 : ∀ args w, (callFunc 108 args).run Try.prog w = .ok (.enter 108 args) w := fun args w => enters_ Try.func108 (by kernel_rfl) rfl args w
theorem enters109 : ∀ args w, (callFunc 109 args).run Try.prog w = .ok (.enter 109 args) w := fun args w => enters_ Try.func109 (by kernel_rfl) rfl args w
theorem enters110 : ∀ args w, (callFunc 110 args).run Try.prog w = .ok (.enter 110 args) w := fun args w => enters_ Try.func110 (by kernel_rfl) rfl args w
theorem mkf : ∀ fn first cap w, (Instr.makeFunc fn first cap).run Try.prog w = .ok (.func fn first cap) w := fun _ _ _ _ => rfl
section
variable {ops : Array Oper} {rest : List Oper} {o : Oper} {a : Act} {Q : Exit → Act → World → Prop} {w : World}
theorem ldQ {ty : TypeId} {x : Operand} (hgd : o.guard = none) (ho : o.op = .load ty x) {p : Addr} (hx : a.eval x = .pointer (some p))
    {d : TypeDesc} (hu : Try.prog.underlying ty = some d) (hd : (match d with | .struct _ | .array _ _ => true | _ => false) = false) {v : Value} (hc : w.cell? p = some v) (H : wpList Try.prog ops Q rest (a.put o.dst v) w) : wpList Try.prog ops Q (o :: rest) a w := by
  refine Kd.event_run hgd ?_ H
  unfold execOp
  simp [ho, hx, Instr.loadAt, Instr.sureAddr, Sem.run_bind, loadVar, isAgg_no hu hd, load, Sem.run, hc]
end
theorem W0_size : W0.s.size = 0 := rfl
set_option maxRecDepth 100000 in
set_option maxHeartbeats 8000000 in
theorem nums1_w (bs bx bw : Nat) (z n : Int) (hz1 : 1 ≤ z) (hz3 : z ≤ 3) (hn1 : 1 ≤ n) (hn4 : n ≤ 4) (A : Option Addr) (c : Nat) (l : List Int) (w : World) (hs : w.heap[bs]? = some (.cells #[.int .i64 z] 3 (0, 0))) (hx : w.heap[bx]? = some (.cells #[.slice A l.length c] 44 (0, 0))) (hw : w.heap[bw]? = some (.cells #[.int .i64 n] 3 (0, 0))) (hr : Kd.C (Kd.int .i64) w A l.length l) (hlc : l.length ≤ c) (hl : l.length ≤ 16777216) :
    Writes 106 #[.pointer (some ⟨bs, 0, none⟩), .pointer (some ⟨bx, 0, none⟩), .pointer (some ⟨bw, 0, none⟩)] w (W0.within (fw (wN n) l) z).s (W0.within (fw (wN n) l) z).b := by
  intro w0 g hb0 h
  have HW := Aside0.mk (show WS w.heap.size w0 g W0 from h)
  have HB0 := Aside0.mk hb0
  have HGE := Aside0.mk h.lt
  have hmf := mkf
  have hz0 := W0_size
  have HS := Aside0.mk ((hb0.block bs (blk_lt hs)).trans hs)
  have HS1 := Aside0.mk (show bs ≠ g from by have := blk_lt hs; have := h.lt; omega)
  have HX := Aside0.mk ((hb0.block bx (blk_lt hx)).trans hx)
  have HX1 := Aside0.mk (show bx ≠ g from by have := blk_lt hx; have := h.lt; omega)
  have HY := Aside0.mk ((hb0.block bw (blk_lt hw)).trans hw)
  have HY1 := Aside0.mk (show bw ≠ g from by have := blk_lt hw; have := h.lt; omega)
  have HR := Aside0.mk (Kd.C_below hr hb0)
  have HLC := Aside0.mk hlc
  have HLL := Aside0.mk hl
  have hfa := fw_all (wN n) l hl (fun W a _ => wN_size n hn1 hn4 W a)
  have HN := Aside0.mk (show W0.s.size + 3 + (fw (wN n) l).s.size ≤ 140737488355328 from by omega)
  have HZ1 := Aside0.mk hz1
  have HZ3 := Aside0.mk hz3
  have HN1 := Aside0.mk hn1
  have HN4 := Aside0.mk hn4
  clear hs hx hw hr hfa
  clear h hb0 hz0
  show Calls Try.prog 106 _ w0 _
  go_enter Try.func106, Try.ntmps106
  go_wp2_with (first
    | ((with_reducible refine gate_dst (N := 6) rfl ?_); refine ld (v := .int .i64 z) rfl rfl rfl HS.out Try.underlying3 rfl rfl ?_)
    | (go_at_call 58; (refine (within_w w.heap.size g 107 _ W0 (fw (wN n) l) z _ HW.out enters107 (nums2_w bx bw n HN1.out HN4.out A c l _ HX.out HY.out HR.out HLC.out HLL.out) HZ1.out HZ3.out HN.out).mono ?_); rintro e1 w1 ⟨rfl, i1, f1⟩; have HWz := Aside0.mk i1; have HFz := Aside0.mk (f1); clear i1 f1))
  first | go_end0 | ((try simp only [Exit.inBlock, Exit.then]); refine bodyPost_ret (results_none rfl _ _ _) rfl ?_)
  exact ⟨rfl, HWz.out, HFz.out⟩
set_option maxRecDepth 100000 in
set_option maxHeartbeats 8000000 in
theorem nums_w (A : Option Addr) (c : Nat) (l : List Int) (z n : Int) (w : World) :
    Calls Try.prog 79 #[.slice A l.length c, .int .i64 z, .int .i64 n] w fun ex w' => ∃ bs bx bw, ex = .returned (.func (.func 106) #[] #[.pointer (some ⟨bs, 0, none⟩), .pointer (some ⟨bx, 0, none⟩), .pointer (some ⟨bw, 0, none⟩)]) ∧ w'.heap[bs]? = some (.cells #[.int .i64 z] 3 (0, 0)) ∧ w'.heap[bx]? = some (.cells #[.slice A l.length c] 44 (0, 0)) ∧ w'.heap[bw]? = some (.cells #[.int .i64 n] 3 (0, 0)) ∧ Below w.heap.size w w' := by
  have hmf := mkf
  go_enter Try.func79, Try.ntmps79
  go_wp2_with (first
    | ((with_reducible refine gate_dst (N := 3) rfl ?_); refine boxT rfl rfl rfl rfl ?_; intro bx eb w1 h1 b1; have H1 := Aside0.mk h1; have B1 := Aside0.mk b1; clear h1 b1 eb)
    | ((with_reducible refine gate_dst (N := 4) rfl ?_); refine boxT rfl rfl rfl rfl ?_; intro bs eb w2 h2 b2; have H2 := Aside0.mk h2; have H12 := Aside0.mk ((b2.block bx (blk_lt H1.out)).trans H1.out); have B2 := Aside0.mk (below_step B1.out b2); clear h2 b2 eb)
    | ((with_reducible refine gate_dst (N := 5) rfl ?_); refine boxT rfl rfl rfl rfl ?_; intro bw eb w3 h3 b3; have H3 := Aside0.mk h3; have H13 := Aside0.mk ((b3.block bx (blk_lt H12.out)).trans H12.out); have H23 := Aside0.mk ((b3.block bs (blk_lt H2.out)).trans H2.out); have B3 := Aside0.mk (below_step B2.out b3); clear h3 b3 eb))
  go_ret
  exact ⟨bs, bx, bw, rfl, H23.out, H13.out, H3.out, B3.out⟩
set_option maxRecDepth 100000 in
set_option maxHeartbeats 8000000 in
theorem name2_w (gb gm : Nat) (cs : Array Value) (s : ByteArray) (w : World) (hcb : w.heap[gb]? = some (.cells #[.pointer (some ⟨gm, 0, none⟩)] 85 (0, 0))) (hcm : w.heap[gm]? = some (.cells cs 49 (0, 0))) (hv : cs[4]? = some (.string s)) (hsz : s.size ≤ 2097152) :
    Writes 82 #[.pointer (some ⟨gb, 0, none⟩)] w ((W0.num 0 1).vec s 2 1 64).s ((W0.num 0 1).vec s 2 1 64).b := by
  intro w0 g hb0 h
  have HW := Aside0.mk (show WS w.heap.size w0 g W0 from h)
  have HB0 := Aside0.mk hb0
  have HGE := Aside0.mk h.lt
  have hmf := mkf
  have hz0 := W0_size
  have HX := Aside0.mk ((hb0.block gb (blk_lt hcb)).trans hcb)
  have HX1 := Aside0.mk (show gb ≠ g from by have := blk_lt hcb; have := h.lt; omega)
  have HY := Aside0.mk ((hb0.block gm (blk_lt hcm)).trans hcm)
  have HY1 := Aside0.mk (show gm ≠ g from by have := blk_lt hcm; have := h.lt; omega)
  have HV := Aside0.mk hv
  have z1 := W0.num_size 0 1 (by omega) (by omega)
  have HN1 := Aside0.mk (show W0.s.size + 4 ≤ 140737488355328 from by omega)
  have HN2 := Aside0.mk (show (W0.num 0 1).s.size + 3 + s.size ≤ 140737488355328 from by omega)
  clear hcb hcm hv z1
  clear h hb0 hz0
  show Calls Try.prog 82 _ w0 _
  go_enter Try.func82, Try.ntmps82
  go_wp2_with (first
    | (go_at_call 60; (with_reducible refine (num_w w.heap.size g W0 0 1 _ HW.out (by omega) (by omega) HN1.out).mono ?_); rintro e1 w1 ⟨rfl, i1, f1⟩; have HW1 := Aside0.mk i1; have HF1 := Aside0.mk f1; have n_ := Aside0.mk (f1.blk HX.out HX1.out (by decide)); clear HX; have HX := n_; clear n_; have n_ := Aside0.mk (f1.blk HY.out HY1.out (by decide)); clear HY; have HY := n_; clear n_; clear i1 f1)
    | ((with_reducible refine gate_dst (N := 6) rfl ?_); refine ld (v := .pointer (some ⟨gm, 0, none⟩)) rfl rfl rfl HX.out Try.underlying85 rfl rfl ?_)
    | ((with_reducible refine gate_dst (N := 9) rfl ?_); refine ld (v := .string s) rfl rfl rfl HY.out Try.underlying9 rfl HV.out ?_)
    | (go_at_call 57; (with_reducible refine (vec_w w.heap.size g (W0.num 0 1) s 2 1 64 _ HW1.out (by omega) (by omega) HN2.out).mono ?_); rintro e2 w2 ⟨rfl, i2, f2⟩; have HWz := Aside0.mk i2; have HFz := Aside0.mk (HF1.out.trans f2); clear i2 f2))
  first | go_end0 | ((try simp only [Exit.inBlock, Exit.then]); refine bodyPost_ret (results_none rfl _ _ _) rfl ?_)
  exact ⟨rfl, HWz.out, HFz.out⟩
set_option maxRecDepth 100000 in
set_option maxHeartbeats 8000000 in
theorem name1_w (gb gm : Nat) (cs : Array Value) (s : ByteArray) (w : World) (hcb : w.heap[gb]? = some (.cells #[.pointer (some ⟨gm, 0, none⟩)] 85 (0, 0))) (hcm : w.heap[gm]? = some (.cells cs 49 (0, 0))) (hv : cs[4]? = some (.string s)) (hsz : s.size ≤ 2097152) :
    Writes 81 #[.pointer (some ⟨gb, 0, none⟩)] w (W0.within ((W0.num 0 1).vec s 2 1 64) 2).s (W0.within ((W0.num 0 1).vec s 2 1 64) 2).b := by
  intro w0 g hb0 h
  have HW := Aside0.mk (show WS w.heap.size w0 g W0 from h)
  have HB0 := Aside0.mk hb0
  have HGE := Aside0.mk h.lt
  have hmf := mkf
  have hz0 := W0_size
  have HX := Aside0.mk ((hb0.block gb (blk_lt hcb)).trans hcb)
  have HX1 := Aside0.mk (show gb ≠ g from by have := blk_lt hcb; have := h.lt; omega)
  have HY := Aside0.mk ((hb0.block gm (blk_lt hcm)).trans hcm)
  have HY1 := Aside0.mk (show gm ≠ g from by have := blk_lt hcm; have := h.lt; omega)
  have HV := Aside0.mk hv
  have HSZ := Aside0.mk hsz
  have z1 := W0.num_size 0 1 (by omega) (by omega)
  have z2 := (W0.num 0 1).vec_size s 2 1 64 (by omega) (by omega) (by omega)
  have HN := Aside0.mk (show W0.s.size + 3 + ((W0.num 0 1).vec s 2 1 64).s.size ≤ 140737488355328 from by omega)
  clear hcb hcm hv z1 z2
  clear h hb0 hz0
  show Calls Try.prog 81 _ w0 _
  go_enter Try.func81, Try.ntmps81
  go_wp2_with (first
    | (go_at_call 58; (refine (within_w w.heap.size g 82 _ W0 ((W0.num 0 1).vec s 2 1 64) 2 _ HW.out enters82 (name2_w gb gm cs s _ HX.out HY.out HV.out HSZ.out) (by omega) (by omega) HN.out).mono ?_); rintro e1 w1 ⟨rfl, i1, f1⟩; have HWz := Aside0.mk i1; have HFz := Aside0.mk (f1); clear i1 f1))
  first | go_end0 | ((try simp only [Exit.inBlock, Exit.then]); refine bodyPost_ret (results_none rfl _ _ _) rfl ?_)
  exact ⟨rfl, HWz.out, HFz.out⟩
set_option maxRecDepth 100000 in
set_option maxHeartbeats 8000000 in
theorem shares1_w (gb gm : Nat) (cs : Array Value) (A : Option Addr) (c : Nat) (l : List S66) (w : World) (hcb : w.heap[gb]? = some (.cells #[.pointer (some ⟨gm, 0, none⟩)] 85 (0, 0))) (hcm : w.heap[gm]? = some (.cells cs 49 (0, 0))) (hv : cs[9]? = some (.slice A l.length c)) (hr : Kd.C k66 w A l.length l) (hlc : l.length ≤ c) (hl : l.length ≤ 16777216) (hs : ∀ a, a ∈ l → a.f1.size ≤ 2097152) :
    Writes 83 #[.pointer (some ⟨gb, 0, none⟩)] w (W0.within (fw wS l) 2).s (W0.within (fw wS l) 2).b := by
  intro w0 g hb0 h
  have HW := Aside0.mk (show WS w.heap.size w0 g W0 from h)
  have HB0 := Aside0.mk hb0
  have HGE := Aside0.mk h.lt
  have hmf := mkf
  have hz0 := W0_size
  have HX := Aside0.mk ((hb0.block gb (blk_lt hcb)).trans hcb)
  have HX1 := Aside0.mk (show gb ≠ g from by have := blk_lt hcb; have := h.lt; omega)
  have HY := Aside0.mk ((hb0.block gm (blk_lt hcm)).trans hcm)
  have HY1 := Aside0.mk (show gm ≠ g from by have := blk_lt hcm; have := h.lt; omega)
  have HV := Aside0.mk hv
  have HR := Aside0.mk (Kd.C_below hr hb0)
  have HLC := Aside0.mk hlc
  have HLL := Aside0.mk hl
  have HBD := Aside0.mk hs
  have hfa := fw_all wS l hl (fun W a ha => wS_size W a (hs a ha))
  have HN := Aside0.mk (show W0.s.size + 3 + (fw wS l).s.size ≤ 140737488355328 from by omega)
  clear hcb hcm hv hr hfa
  clear h hb0 hz0
  show Calls Try.prog 83 _ w0 _
  go_enter Try.func83, Try.ntmps83
  go_wp2_with (first
    | (go_at_call 58; (refine (within_w w.heap.size g 84 _ W0 (fw wS l) 2 _ HW.out enters84 (shares_w gb gm cs A c l _ HX.out HY.out HV.out HR.out HLC.out HLL.out HBD.out) (by omega) (by omega) HN.out).mono ?_); rintro e1 w1 ⟨rfl, i1, f1⟩; have HWz := Aside0.mk i1; have HFz := Aside0.mk (f1); clear i1 f1))
  first | go_end0 | ((try simp only [Exit.inBlock, Exit.then]); refine bodyPost_ret (results_none rfl _ _ _) rfl ?_)
  exact ⟨rfl, HWz.out, HFz.out⟩
set_option maxRecDepth 100000 in
set_option maxHeartbeats 8000000 in
theorem psk1_w (gb gm : Nat) (cs : Array Value) (A1 : Option Addr) (c1 : Nat) (l1 : List S111) (A2 : Option Addr) (c2 : Nat) (l2 : List ByteArray) (w : World) (hcb : w.heap[gb]? = some (.cells #[.pointer (some ⟨gm, 0, none⟩)] 85 (0, 0))) (hcm : w.heap[gm]? = some (.cells cs 49 (0, 0))) (hv1 : cs[10]? = some (.slice A1 l1.length c1)) (hr1 : Kd.C k111 w A1 l1.length l1) (hlc1 : l1.length ≤ c1) (hl1 : l1.length ≤ 16777216) (hs1 : ∀ a, a ∈ l1 → a.f0.size ≤ 2097152) (hv2 : cs[11]? = some (.slice A2 l2.length c2)) (hr2 : Kd.C Kd.string w A2 l2.length l2) (hlc2 : l2.length ≤ c2) (hl2 : l2.length ≤ 16777216) (hs2 : ∀ a, a ∈ l2 → a.size ≤ 2097152) :
    Writes 108 #[.pointer (some ⟨gb, 0, none⟩)] w ((W0.within (fw wI l1) 2).within (fw wB l2) 2).s ((W0.within (fw wI l1) 2).within (fw wB l2) 2).b := by
  intro w0 g hb0 h
  have HW := Aside0.mk (show WS w.heap.size w0 g W0 from h)
  have HB0 := Aside0.mk hb0
  have HGE := Aside0.mk h.lt
  have hmf := mkf
  have hz0 := W0_size
  have HX := Aside0.mk ((hb0.block gb (blk_lt hcb)).trans hcb)
  have HX1 := Aside0.mk (show gb ≠ g from by have := blk_lt hcb; have := h.lt; omega)
  have HY := Aside0.mk ((hb0.block gm (blk_lt hcm)).trans hcm)
  have HY1 := Aside0.mk (show gm ≠ g from by have := blk_lt hcm; have := h.lt; omega)
  have HV1 := Aside0.mk hv1
  have HR1 := Aside0.mk (Kd.C_below hr1 hb0)
  have HLC1 := Aside0.mk hlc1
  have HLL1 := Aside0.mk hl1
  have HBD1 := Aside0.mk hs1
  have HRr := Aside0.mk hr2
  have HV2 := Aside0.mk hv2
  have HR2 := Aside0.mk (Kd.C_below hr2 hb0)
  have HLC2 := Aside0.mk hlc2
  have HLL2 := Aside0.mk hl2
  have HBD2 := Aside0.mk hs2
  have hf1 := fw_all wI l1 hl1 (fun W a ha => wI_size W a (hs1 a ha))
  have hf2 := fw_all wB l2 hl2 (fun W a ha => wB_size W a (hs2 a ha))
  have hf3 := W0.within_small (fw wI l1) 2 (by omega) (by omega) (by omega)
  have HN := Aside0.mk (show W0.s.size + 3 + (fw wI l1).s.size ≤ 140737488355328 from by omega)
  have HN2 := Aside0.mk (show (W0.within (fw wI l1) 2).s.size + 3 + (fw wB l2).s.size ≤ 140737488355328 from by omega)
  clear hcb hcm hv1 hr1 hv2 hr2 hf1 hf2 hf3
  clear h hb0 hz0
  show Calls Try.prog 108 _ w0 _
  go_enter Try.func108, Try.ntmps108
  go_wp2_with (first
    | ((with_reducible refine gate_callee (f := 58) rfl ?_); refine goesL_ (some 5) rfl rfl Try.func58 (by kernel_rfl) rfl #[.pointer (some ⟨g, 0, none⟩), .int .i64 2, .func (.func 109) #[] #[.pointer (some ⟨gb, 0, none⟩)]] rfl (by (try simp only [List.map_toArray, List.map_cons, List.map_nil]); first | done | rfl) ?_; (refine (within_w w.heap.size g 109 _ W0 (fw wI l1) 2 _ HW.out enters109 (idents_w gb gm cs A1 c1 l1 _ HX.out HY.out HV1.out HR1.out HLC1.out HLL1.out HBD1.out) (by omega) (by omega) HN.out).mono ?_); rintro e1 w1 ⟨rfl, i1, f1⟩; refine ⟨_, rfl, ?_⟩; have HW1 := Aside0.mk i1; have HF1 := Aside0.mk (f1); have HX2 := Aside0.mk (f1.blk HX.out HX1.out (by decide)); have HY2 := Aside0.mk (f1.blk HY.out HY1.out (by decide)); have HR3 := Aside0.mk (Kd.C_below HRr.out (HB0.out.trans f1.below)); clear i1 f1)
    | ((with_reducible refine gate_callee (f := 58) rfl ?_); refine goesL_ (some 8) rfl rfl Try.func58 (by kernel_rfl) rfl #[.pointer (some ⟨g, 0, none⟩), .int .i64 2, .func (.func 110) #[] #[.pointer (some ⟨gb, 0, none⟩)]] rfl (by (try simp only [List.map_toArray, List.map_cons, List.map_nil]); first | done | rfl) ?_; (refine (within_w w.heap.size g 110 _ (W0.within (fw wI l1) 2) (fw wB l2) 2 _ HW1.out enters110 (binders_w gb gm cs A2 c2 l2 _ HX2.out HY2.out HV2.out HR3.out HLC2.out HLL2.out HBD2.out) (by omega) (by omega) HN2.out).mono ?_); rintro e2 w2 ⟨rfl, i2, f2⟩; refine ⟨_, rfl, ?_⟩; have HWz := Aside0.mk i2; have HFz := Aside0.mk (HF1.out.trans f2); clear i2 f2))
  first | go_end0 | ((try simp only [Exit.inBlock, Exit.then]); refine bodyPost_ret (results_none rfl _ _ _) rfl ?_)
  exact ⟨rfl, HWz.out, HFz.out⟩
set_option maxRecDepth 100000 in
set_option maxHeartbeats 8000000 in
theorem psk_w (gm : Nat) (w : World) :
    Calls Try.prog 86 #[.pointer (some ⟨gm, 0, none⟩)] w fun ex w' => ∃ gb, ex = .returned (.func (.func 108) #[] #[.pointer (some ⟨gb, 0, none⟩)]) ∧ w'.heap[gb]? = some (.cells #[.pointer (some ⟨gm, 0, none⟩)] 85 (0, 0)) ∧ Below w.heap.size w w' := by
  have hmf := mkf
  go_enter Try.func86, Try.ntmps86
  go_wp2_with (first
    | ((with_reducible refine gate_dst (N := 1) rfl ?_); refine boxT rfl rfl rfl rfl ?_; intro gb eb w1 h1 b1; have H1 := Aside0.mk h1; have B1 := Aside0.mk b1; clear h1 b1 eb))
  go_ret
  exact ⟨gb, rfl, H1.out, B1.out⟩
set_option maxRecDepth 100000 in
set_option maxHeartbeats 8000000 in
theorem sv1_w (gb gm : Nat) (cs : Array Value) (A : Option Addr) (c : Nat) (l : List Int) (w : World) (hcb : w.heap[gb]? = some (.cells #[.pointer (some ⟨gm, 0, none⟩)] 85 (0, 0))) (hcm : w.heap[gm]? = some (.cells cs 49 (0, 0))) (hv : cs[5]? = some (.slice A l.length c)) (hr : Kd.C (Kd.int .i64) w A l.length l) (hp : 0 < l.length) :
    Writes 88 #[.pointer (some ⟨gb, 0, none⟩)] w (W0.num (rd l 0) 2).s (W0.num (rd l 0) 2).b := by
  intro w0 g hb0 h
  have HW := Aside0.mk (show WS w.heap.size w0 g W0 from h)
  have HB0 := Aside0.mk hb0
  have HGE := Aside0.mk h.lt
  have hmf := mkf
  have hz0 := W0_size
  have HX := Aside0.mk ((hb0.block gb (blk_lt hcb)).trans hcb)
  have HX1 := Aside0.mk (show gb ≠ g from by have := blk_lt hcb; have := h.lt; omega)
  have HY := Aside0.mk ((hb0.block gm (blk_lt hcm)).trans hcm)
  have HY1 := Aside0.mk (show gm ≠ g from by have := blk_lt hcm; have := h.lt; omega)
  have HN1 := Aside0.mk (show W0.s.size + 4 ≤ 140737488355328 from by omega)
  have q : (0 : Int) < (l.length : Int) := by omega
  obtain ⟨ad, e0, hx⟩ := Kd.at_int (Kd.C_below hr hb0) 0 (by omega) q
  subst e0
  have e3 : ad.add (Int.toNat 0) = ad := by simp [Addr.add]
  rw [e3] at hx
  have HC := Aside0.mk hx
  have HV := Aside0.mk hv
  have q1 := eq_true q
  have q2 := eq_true hp
  clear hcb hcm hv hr e3 hx q
  clear h hb0 hz0
  show Calls Try.prog 88 _ w0 _
  go_enter Try.func88, Try.ntmps88
  go_wp2_with (first
    | ((with_reducible refine gate_dst (N := 4) rfl ?_); refine ld (v := .pointer (some ⟨gm, 0, none⟩)) rfl rfl rfl HX.out Try.underlying85 rfl rfl ?_)
    | ((with_reducible refine gate_dst (N := 7) rfl ?_); refine ld (v := .slice (some ad) l.length c) rfl rfl rfl HY.out Try.underlying44 rfl HV.out ?_)
    | ((with_reducible refine gate_dst (N := 9) rfl ?_); refine ldQ (v := .int .i64 (rd l 0)) rfl rfl rfl Try.underlying3 rfl HC.out ?_)
    | (go_at_call 60; (with_reducible refine (num_w w.heap.size g W0 (rd l 0) 2 _ HW.out (by omega) (by omega) HN1.out).mono ?_); rintro e1 w1 ⟨rfl, i1, f1⟩; have HWz := Aside0.mk i1; have HFz := Aside0.mk f1; clear i1 f1))
  first | go_end0 | ((try simp only [Exit.inBlock, Exit.then]); refine bodyPost_ret (results_none rfl _ _ _) rfl ?_)
  exact ⟨rfl, HWz.out, HFz.out⟩
set_option maxRecDepth 100000 in
set_option maxHeartbeats 8000000 in
theorem sv2_w (gb gm : Nat) (cs : Array Value) (A : Option Addr) (c : Nat) (l : List Int) (w : World) (hcb : w.heap[gb]? = some (.cells #[.pointer (some ⟨gm, 0, none⟩)] 85 (0, 0))) (hcm : w.heap[gm]? = some (.cells cs 49 (0, 0))) (hv : cs[6]? = some (.slice A l.length c)) (hr : Kd.C (Kd.int .i64) w A l.length l) (hp : 0 < l.length) :
    Writes 89 #[.pointer (some ⟨gb, 0, none⟩)] w (W0.num (rd l 0) 2).s (W0.num (rd l 0) 2).b := by
  intro w0 g hb0 h
  have HW := Aside0.mk (show WS w.heap.size w0 g W0 from h)
  have HB0 := Aside0.mk hb0
  have HGE := Aside0.mk h.lt
  have hmf := mkf
  have hz0 := W0_size
  have HX := Aside0.mk ((hb0.block gb (blk_lt hcb)).trans hcb)
  have HX1 := Aside0.mk (show gb ≠ g from by have := blk_lt hcb; have := h.lt; omega)
  have HY := Aside0.mk ((hb0.block gm (blk_lt hcm)).trans hcm)
  have HY1 := Aside0.mk (show gm ≠ g from by have := blk_lt hcm; have := h.lt; omega)
  have HN1 := Aside0.mk (show W0.s.size + 4 ≤ 140737488355328 from by omega)
  have q : (0 : Int) < (l.length : Int) := by omega
  obtain ⟨ad, e0, hx⟩ := Kd.at_int (Kd.C_below hr hb0) 0 (by omega) q
  subst e0
  have e3 : ad.add (Int.toNat 0) = ad := by simp [Addr.add]
  rw [e3] at hx
  have HC := Aside0.mk hx
  have HV := Aside0.mk hv
  have q1 := eq_true q
  have q2 := eq_true hp
  clear hcb hcm hv hr e3 hx q
  clear h hb0 hz0
  show Calls Try.prog 89 _ w0 _
  go_enter Try.func89, Try.ntmps89
  go_wp2_with (first
    | ((with_reducible refine gate_dst (N := 4) rfl ?_); refine ld (v := .pointer (some ⟨gm, 0, none⟩)) rfl rfl rfl HX.out Try.underlying85 rfl rfl ?_)
    | ((with_reducible refine gate_dst (N := 7) rfl ?_); refine ld (v := .slice (some ad) l.length c) rfl rfl rfl HY.out Try.underlying44 rfl HV.out ?_)
    | ((with_reducible refine gate_dst (N := 9) rfl ?_); refine ldQ (v := .int .i64 (rd l 0)) rfl rfl rfl Try.underlying3 rfl HC.out ?_)
    | (go_at_call 60; (with_reducible refine (num_w w.heap.size g W0 (rd l 0) 2 _ HW.out (by omega) (by omega) HN1.out).mono ?_); rintro e1 w1 ⟨rfl, i1, f1⟩; have HWz := Aside0.mk i1; have HFz := Aside0.mk f1; clear i1 f1))
  first | go_end0 | ((try simp only [Exit.inBlock, Exit.then]); refine bodyPost_ret (results_none rfl _ _ _) rfl ?_)
  exact ⟨rfl, HWz.out, HFz.out⟩
set_option maxRecDepth 100000 in
set_option maxHeartbeats 8000000 in
theorem sv3_w (gb gm : Nat) (cs : Array Value) (A : Option Addr) (c : Nat) (l : List S66) (w : World) (hcb : w.heap[gb]? = some (.cells #[.pointer (some ⟨gm, 0, none⟩)] 85 (0, 0))) (hcm : w.heap[gm]? = some (.cells cs 49 (0, 0))) (hv : cs[9]? = some (.slice A l.length c)) (hr : Kd.C k66 w A l.length l) (hp : 0 < l.length) (hsz : (rd_T66 l 0).f1.size ≤ 2097152) :
    Writes 90 #[.pointer (some ⟨gb, 0, none⟩)] w (wS W0 (rd_T66 l 0)).s (wS W0 (rd_T66 l 0)).b := by
  intro w0 g hb0 h
  have HW := Aside0.mk (show WS w.heap.size w0 g W0 from h)
  have HB0 := Aside0.mk hb0
  have HGE := Aside0.mk h.lt
  have hmf := mkf
  have hz0 := W0_size
  have HX := Aside0.mk ((hb0.block gb (blk_lt hcb)).trans hcb)
  have HX1 := Aside0.mk (show gb ≠ g from by have := blk_lt hcb; have := h.lt; omega)
  have HY := Aside0.mk ((hb0.block gm (blk_lt hcm)).trans hcm)
  have HY1 := Aside0.mk (show gm ≠ g from by have := blk_lt hcm; have := h.lt; omega)
  have hu66 := Try.underlying66
  have HN1 := Aside0.mk (show W0.s.size + 8 + (rd_T66 l 0).f1.size ≤ 140737488355328 from by omega)
  have q : (0 : Int) < (l.length : Int) := by omega
  obtain ⟨ad, e0, hx, hx2⟩ := at_T66 (Kd.C_below hr hb0) 0 (by omega) q
  subst e0
  have e3 : ad.add (Int.toNat 0 * 2) = ad := by simp [Addr.add]
  rw [e3] at hx hx2
  have HV := Aside0.mk hv
  have q1 := eq_true q
  have q2 := eq_true hp
  generalize rd_T66 l 0 = s at *
  clear hcb hcm hv hr e3 q hsz
  clear h hb0 hz0
  show Calls Try.prog 90 _ w0 _
  go_enter Try.func90, Try.ntmps90
  go_wp2_with (first
    | ((with_reducible refine gate_dst (N := 4) rfl ?_); refine ld (v := .pointer (some ⟨gm, 0, none⟩)) rfl rfl rfl HX.out Try.underlying85 rfl rfl ?_)
    | ((with_reducible refine gate_dst (N := 7) rfl ?_); refine ld (v := .slice (some ad) l.length c) rfl rfl rfl HY.out Try.underlying45 rfl HV.out ?_)
    | (go_at_call 85; (with_reducible refine (share_w w.heap.size g W0 s _ HW.out HN1.out).mono ?_); rintro e1 w1 ⟨rfl, i1, f1⟩; have HWz := Aside0.mk i1; have HFz := Aside0.mk f1; clear i1 f1))
  first | go_end0 | ((try simp only [Exit.inBlock, Exit.then]); refine bodyPost_ret (results_none rfl _ _ _) rfl ?_)
  exact ⟨rfl, HWz.out, HFz.out⟩
set_option maxRecDepth 100000 in
set_option maxHeartbeats 8000000 in
theorem sv4_w (gb gm : Nat) (cs : Array Value) (k : Int) (w : World) (hcb : w.heap[gb]? = some (.cells #[.pointer (some ⟨gm, 0, none⟩)] 85 (0, 0))) (hcm : w.heap[gm]? = some (.cells cs 49 (0, 0))) (hv : cs[12]? = some (.int .i64 k)) :
    Writes 91 #[.pointer (some ⟨gb, 0, none⟩)] w (W0.num (wrap64 (k - 1)) 2).s (W0.num (wrap64 (k - 1)) 2).b := by
  intro w0 g hb0 h
  have HW := Aside0.mk (show WS w.heap.size w0 g W0 from h)
  have HB0 := Aside0.mk hb0
  have HGE := Aside0.mk h.lt
  have hmf := mkf
  have hz0 := W0_size
  have HX := Aside0.mk ((hb0.block gb (blk_lt hcb)).trans hcb)
  have HX1 := Aside0.mk (show gb ≠ g from by have := blk_lt hcb; have := h.lt; omega)
  have HY := Aside0.mk ((hb0.block gm (blk_lt hcm)).trans hcm)
  have HY1 := Aside0.mk (show gm ≠ g from by have := blk_lt hcm; have := h.lt; omega)
  have HN1 := Aside0.mk (show W0.s.size + 4 ≤ 140737488355328 from by omega)
  have HV := Aside0.mk hv
  clear hcb hcm hv
  clear h hb0 hz0
  show Calls Try.prog 91 _ w0 _
  go_enter Try.func91, Try.ntmps91
  go_wp2_with (first
    | ((with_reducible refine gate_dst (N := 4) rfl ?_); refine ld (v := .pointer (some ⟨gm, 0, none⟩)) rfl rfl rfl HX.out Try.underlying85 rfl rfl ?_)
    | ((with_reducible refine gate_dst (N := 7) rfl ?_); refine ld (v := .int .i64 k) rfl rfl rfl HY.out Try.underlying3 rfl HV.out ?_)
    | (go_at_call 60; (with_reducible refine (num_w w.heap.size g W0 (wrap64 (k - 1)) 2 _ HW.out (by omega) (by omega) HN1.out).mono ?_); rintro e1 w1 ⟨rfl, i1, f1⟩; have HWz := Aside0.mk i1; have HFz := Aside0.mk f1; clear i1 f1))
  first | go_end0 | ((try simp only [Exit.inBlock, Exit.then]); refine bodyPost_ret (results_none rfl _ _ _) rfl ?_)
  exact ⟨rfl, HWz.out, HFz.out⟩
end Go.Proofs.Ytlkebjkpmiehcaa.Ms
end
section
namespace Go.Proofs.Ytlkebjkpmiehcaa.Ms
open Go.RowKit Go.Proofs.YtlkebjkpmiehcaaW.PrintWords Go.Proofs.YtlkebjkpmiehcaaW.PrintLast Go.Proofs.YtlkebjkpmiehcaaW.PrintMore Go.Proofs.Ytlkebjkpmiehcaa.X
set_option linter.unusedVariables false
set_option linter.unusedSimpArgs false
theorem putL_size (l : List E.S41) : (Go.Proofs.Ytlkebjkpmiehcaa.Pure.putL [] l).1.size ≤ 65539 * l.length := by
  have key : ∀ (r pre : List E.S41), (Go.Proofs.Ytlkebjkpmiehcaa.Pure.encs pre).size ≤ 65539 * pre.length → (Go.Proofs.Ytlkebjkpmiehcaa.Pure.putL pre r).1.size ≤ 65539 * (pre.length + r.length) := by
    intro r
    induction r with
    | nil =>
      intro pre hp
      unfold Go.Proofs.Ytlkebjkpmiehcaa.Pure.putL
      split
      · show (0 : Nat) ≤ _
        omega
      · show (Go.Proofs.Ytlkebjkpmiehcaa.Pure.encs pre).size ≤ _
        simp only [List.length_nil, Nat.add_zero]
        exact hp
    | cons y r ih =>
      intro pre hp
      unfold Go.Proofs.Ytlkebjkpmiehcaa.Pure.putL
      split
      · next hy =>
        have h1 := Go.Proofs.Ytlkebjkpmiehcaa.Pure.encE_size hy
        have h2 := ih (pre ++ [y]) (by
          rw [Go.Proofs.Ytlkebjkpmiehcaa.Pure.encs_snoc, ByteArray.size_append, List.length_append, List.length_singleton]
          omega)
        rw [List.length_append, List.length_singleton] at h2
        rw [List.length_cons]
        omega
      · show (0 : Nat) ≤ _
        omega
  have := key l [] (by show (0 : Nat) ≤ _; omega)
  simpa using this
theorem xPut_s (is : Bool) (W U : Wp) : (xPut is W U).s = W.s := by
  unfold xPut
  split <;> rfl
def XB (l : List E.S41) (n : Nat) : Prop := l.length ≤ n ∧ ∀ y ∈ l, y.f1.size ≤ 140737488351232
theorem XB.nil : XB [] 0 := ⟨Nat.le_refl _, fun y h => by cases h⟩
theorem XB.put {l : List E.S41} {n : Nat} (h : XB l n) (is : Bool) (k : Int) (U : Wp) (hU : U.s.size ≤ 140737488351232) : XB (xPutL is k U l) (n + 1) := by
  unfold xPutL
  split
  · refine ⟨by rw [List.length_append, List.length_singleton]; have := h.1; omega, fun y hy => ?_⟩
    rcases List.mem_append.1 hy with h1 | h1
    · exact h.2 y h1
    · rw [List.mem_singleton] at h1
      rw [h1]
      exact hU
  · exact ⟨by have := h.1; omega, h.2⟩
theorem WS.bad_cell {lo g : Nat} {w : World} {W : Wp} {b : Bool} (h : WS lo w g W) (hb : W.b = b) : ∃ v, w.heap[g]? = some (.cells #[v, .bool b] 83 (0, 0)) := by
  obtain ⟨v, h1, _, _⟩ := h
  rw [hb] at h1
  exact ⟨v, h1⟩
theorem built115 (g : Nat) : Try.prog.built 115 [(0, .pointer (some ⟨g, 0, none⟩))] = some #[.pointer (some ⟨g, 0, none⟩), .slice none 0 0] := by kernel_rfl
theorem build115 {ops : Array Oper} {rest : List Oper} {o : Oper} {a : Act} {Q : Exit → Act → World → Prop} {w : World} {x : Operand} {g : Nat} (hgd : o.guard = none) (ho : o.op = .build 115 #[(0, x)]) (hx : a.eval x = .pointer (some ⟨g, 0, none⟩))
    (H : wpList Try.prog ops Q rest (a.put o.dst (.agg #[.pointer (some ⟨g, 0, none⟩), .slice none 0 0])) w) : wpList Try.prog ops Q (o :: rest) a w := by
  refine Kd.event_run hgd ?_ H
  have hr := run_build (P := Try.prog) w 115 #[(0, .pointer (some ⟨g, 0, none⟩))] _ (built115 g)
  have he : (#[(0, x)] : Array (Nat × Operand)).map (fun x => (x.fst, a.eval x.snd)) = #[(0, .pointer (some ⟨g, 0, none⟩))] := by simp [hx]
  unfold execOp
  simp only [ho, Sem.run_bind]
  rw [he, hr]
  rfl
theorem XS.start {x g : Nat} {w : World} (h : w.heap[x]? = some (.cells #[.pointer (some ⟨g, 0, none⟩), .slice none 0 0] 115 (0, 0))) : XS x g w [] := ⟨_, h, Kd.R_nil _ _ _ _ _⟩
structure MB (m : Mv) : Prop where
  b1 : m.f1.size ≤ 2097152
  b2 : m.f2.size ≤ 2097152
  b3 : m.f3.length ≤ 16777216
  b4 : m.f4.size ≤ 2097152
  b5 : m.f5.length ≤ 16777216
  b6 : m.f6.length ≤ 16777216
  b7 : m.f7.length ≤ 16777216
  b8 : m.f8.length ≤ 16777216
  b9 : m.f9.length ≤ 16777216
  c9 : ∀ a, a ∈ m.f9 → a.f1.size ≤ 2097152
  b10 : m.f10.length ≤ 16777216
  c10 : ∀ a, a ∈ m.f10 → a.f0.size ≤ 2097152
  b11 : m.f11.length ≤ 16777216
  c11 : ∀ a, a ∈ m.f11 → a.size ≤ 2097152
  b14 : m.f14.length ≤ 16777216
  c14 : ∀ a, a ∈ m.f14 → a.size ≤ 2097152
  b16 : m.f16.size ≤ 2097152
  b19 : m.f19.size ≤ 2097152
def shOk1 (m : Mv) : Bool := ((m.f3.length : Int) == 1) && decide ((m.f5.length : Int) ≤ 1)
def shOk2 (m : Mv) : Bool := (m.retry && decide ((m.f6.length : Int) ≤ 1) && ((m.f9.length : Int) == 0) && (m.f12 == 0)) || (!m.retry && ((m.f6.length : Int) == 0) && decide ((m.f9.length : Int) ≤ 1))
def shW (W : Wp) (m : Mv) : Wp := ((W.hello m.f1 m.f2).need (shOk1 m)).need (shOk2 m)
theorem hello_size (W : Wp) (r s : ByteArray) (hr : r.size ≤ 2097152) (hs : s.size ≤ 2097152) : (W.hello r s).s.size ≤ W.s.size + 33554432 := by
  have h1 := W.num_size 771 2 (by omega) (by omega)
  have h2 := (((W.num 771 2).need ((r.size : Int) == 32)).add r).vec_size s 1 0 32 (by omega) (by omega) (by omega)
  rw [Wp.add_size] at h2
  have h3 : ((W.num 771 2).need ((r.size : Int) == 32)).s.size = (W.num 771 2).s.size := rfl
  unfold Wp.hello
  omega
theorem retry_at (m : Mv) (h : Hd) (w : World) (rd : Reads w m h) (r : Bool) (hr : m.retry = r) :
    Calls Try.prog 30 #[.agg (cells m h)] w fun e w' => e = .returned (.bool r) ∧ Below w.heap.size w w' := by
  rw [← hr]
  exact retry_calls m h w rd
theorem gate_load {ops : Array Oper} {rest : List Oper} {o : Oper} {a : Act} {Q : Exit → Act → World → Prop} {w : World} {t : TypeId} {x : Operand} (_ho : o.op = .load t x) (h : wpList Try.prog ops Q (o :: rest) a w) : wpList Try.prog ops Q (o :: rest) a w := h
theorem n_lo2 {lo g : Nat} {w : World} {W : Wp} (h : WS lo w g W) : lo ≤ w.heap.size := h.size
theorem n_lo {lo g : Nat} {w1 w : World} {W : Wp} (h : WS lo w1 g W) (b : Below w.heap.size w w1) (k : lo ≤ w.heap.size) : lo ≤ w.heap.size := k
theorem hb_ {w0 w w' : World} {lo g : Nat} (b : Below w0.heap.size w0 w) (f : Fr lo g w w') (hl : w0.heap.size ≤ lo) : Below w0.heap.size w0 w' := b.trans (f.below.mono hl)
theorem paths1 (a b : Bool) : (a = false ∧ True) ∨ (a = true ∧ b = false) ∨ (a = true ∧ b = true) := by cases a <;> cases b <;> simp
theorem paths2 (r a b c d e : Bool) : (r = true ∧ a = false ∧ True ∧ True) ∨ (r = true ∧ a = true ∧ b = false ∧ True) ∨ (r = true ∧ a = true ∧ b = true ∧ c = false) ∨ (r = true ∧ a = true ∧ b = true ∧ c = true) ∨ (r = false ∧ d = false ∧ True ∧ True) ∨ (r = false ∧ d = true ∧ e = false ∧ True) ∨ (r = false ∧ d = true ∧ e = true ∧ True) := by
  cases r <;> cases a <;> cases b <;> cases c <;> cases d <;> cases e <;> simp
set_option maxRecDepth 100000 in
set_option maxHeartbeats 8000000 in
theorem sh_bad (lo g gm : Nat) (m : Mv) (hd : Hd) (W : Wp) (w0 w : World) (h : WS lo w g W) (hlo : w0.heap.size ≤ lo) (hb0 : Below w0.heap.size w0 w) (hy : w.heap[gm]? = some (.cells (cells m hd) 49 (0, 0))) (hne : gm ≠ g) (hr : Reads w0 m hd) (hm : MB m) (hn : W.s.size ≤ 16777216) (hb : (shW W m).b = true) :
    Calls Try.prog 56 #[.pointer (some ⟨g, 0, none⟩), .pointer (some ⟨gm, 0, none⟩)] w fun ex w' => ex = .returned (.tuple #[]) ∧ WS lo w' g (shW W m) ∧ Fr lo g w w' := by
  have hsz_ := Aside0.mk h.size
  have HB0 := Aside0.mk hb0
  have HW := Aside0.mk h
  have HL := Aside0.mk hlo
  have HY := Aside0.mk hy
  have HYN := Aside0.mk hne
  have HR := Aside0.mk hr
  have HMB := Aside0.mk hm
  have HN := Aside0.mk (show W.s.size + 16 + m.f1.size + m.f2.size ≤ 140737488355328 from by have := hm.b1; have := hm.b2; omega)
  have HWS := Aside0.mk hn
  unfold shW shOk1 shOk2 at hb ⊢
  rcases paths1 ((m.f3.length : Int) == 1) (decide ((m.f5.length : Int) ≤ 1)) with ⟨e1, e2⟩ | ⟨e1, e2⟩ | ⟨e1, e2⟩ <;> rcases paths2 m.retry (decide ((m.f6.length : Int) ≤ 1)) ((m.f9.length : Int) == 0) (m.f12 == 0) ((m.f6.length : Int) == 0) (decide ((m.f9.length : Int) ≤ 1)) with ⟨er, e3, e4, e5⟩ | ⟨er, e3, e4, e5⟩ | ⟨er, e3, e4, e5⟩ | ⟨er, e3, e4, e5⟩ | ⟨er, e3, e4, e5⟩ | ⟨er, e3, e4, e5⟩ | ⟨er, e3, e4, e5⟩
  all_goals
    simp only [e1, e2, er, e3, e4, e5, Bool.and_false, Bool.and_true, Bool.false_and, Bool.true_and, Bool.or_false, Bool.or_true, Bool.false_or, Bool.true_or, Bool.not_true, Bool.not_false] at hb ⊢
    have ER := Aside0.mk er
    have HBB := Aside0.mk hb
    clear h hlo hy hne hr hm hb hb0 hn er
    go_enter Try.func56, Try.ntmps56
    go_wp2_with (first
      | ((with_reducible refine gate_dst (N := 3) rfl ?_); refine boxT (v := .pointer (some ⟨gm, 0, none⟩)) (cs := #[.pointer (some ⟨gm, 0, none⟩)]) rfl rfl rfl rfl ?_; intro gb eb w1 h1 b1; have HX := Aside0.mk h1; have HXN := Aside0.mk (show gb ≠ g from by have := HW.out.lt; omega); have n_ := Aside0.mk ((b1.block gm (blk_lt HY.out)).trans HY.out); clear HY; have HY := n_; clear n_; have n_ := Aside0.mk (HW.out.below b1); clear HW; have HW := n_; clear n_; have HF := Aside0.mk (Fr.of_below (g := g) (n_lo HW.out b1 hsz_.out) b1); clear h1 b1 eb)
      | ((with_reducible refine gate_load rfl ?_); first
        | ((with_reducible refine gate_dst (N := 6) rfl ?_); refine ld (v := .pointer (some ⟨gm, 0, none⟩)) rfl rfl rfl HX.out Try.underlying85 rfl rfl ?_)
        | ((with_reducible refine gate_dst (N := 8) rfl ?_); refine wpList_load_row rfl 49 _ rfl gm rfl 49 _ (0, 0) _ HY.out Try.underlying49 rfl sz49 ?_)
        | ((with_reducible refine gate_dst (N := 11) rfl ?_); refine ld (v := .pointer (some ⟨gm, 0, none⟩)) rfl rfl rfl HX.out Try.underlying85 rfl rfl ?_)
        | ((with_reducible refine gate_dst (N := 14) rfl ?_); refine ld (v := .pointer (some ⟨gm, 0, none⟩)) rfl rfl rfl HX.out Try.underlying85 rfl rfl ?_)
        | ((with_reducible refine gate_dst (N := 17) rfl ?_); refine ld (v := .slice hd.A3 m.f3.length hd.c3) rfl rfl rfl HY.out Try.underlying44 rfl rfl ?_)
        | ((with_reducible refine gate_dst (N := 21) rfl ?_); (have k_ : ((m.f3.length : Int) == 1) = true := by with_reducible exact e1); clear k_; refine gate_guard rfl ?_; refine ld (v := .pointer (some ⟨gm, 0, none⟩)) rfl rfl rfl HX.out Try.underlying85 rfl rfl ?_)
        | ((with_reducible refine gate_dst (N := 24) rfl ?_); (have k_ : ((m.f3.length : Int) == 1) = true := by with_reducible exact e1); clear k_; refine gate_guard rfl ?_; refine ld (v := .slice hd.A5 m.f5.length hd.c5) rfl rfl rfl HY.out Try.underlying44 rfl rfl ?_)
        | ((with_reducible refine gate_dst (N := 32) rfl ?_); (have k_ : m.retry = true := by with_reducible exact ER.out); clear k_; refine gate_guard rfl ?_; refine ld (v := .pointer (some ⟨gm, 0, none⟩)) rfl rfl rfl HX.out Try.underlying85 rfl rfl ?_)
        | ((with_reducible refine gate_dst (N := 35) rfl ?_); (have k_ : m.retry = true := by with_reducible exact ER.out); clear k_; refine gate_guard rfl ?_; refine ld (v := .slice hd.A6 m.f6.length hd.c6) rfl rfl rfl HY.out Try.underlying44 rfl rfl ?_)
        | ((with_reducible refine gate_dst (N := 40) rfl ?_); (have k_ : m.retry = true ∧ decide ((m.f6.length : Int) ≤ 1) = true := by with_reducible exact ⟨ER.out, e3⟩); clear k_; refine gate_guard rfl ?_; refine ld (v := .pointer (some ⟨gm, 0, none⟩)) rfl rfl rfl HX.out Try.underlying85 rfl rfl ?_)
        | ((with_reducible refine gate_dst (N := 43) rfl ?_); (have k_ : m.retry = true ∧ decide ((m.f6.length : Int) ≤ 1) = true := by with_reducible exact ⟨ER.out, e3⟩); clear k_; refine gate_guard rfl ?_; refine ld (v := .slice hd.A9 m.f9.length hd.c9) rfl rfl rfl HY.out Try.underlying45 rfl rfl ?_)
        | ((with_reducible refine gate_dst (N := 48) rfl ?_); (have k_ : m.retry = true ∧ ((m.f9.length : Int) == 0) = true := by with_reducible exact ⟨ER.out, e4⟩); clear k_; refine gate_guard rfl ?_; refine ld (v := .pointer (some ⟨gm, 0, none⟩)) rfl rfl rfl HX.out Try.underlying85 rfl rfl ?_)
        | ((with_reducible refine gate_dst (N := 51) rfl ?_); (have k_ : m.retry = true ∧ ((m.f9.length : Int) == 0) = true := by with_reducible exact ⟨ER.out, e4⟩); clear k_; refine gate_guard rfl ?_; refine ld (v := .int .i64 m.f12) rfl rfl rfl HY.out Try.underlying3 rfl rfl ?_)
        | ((with_reducible refine gate_dst (N := 58) rfl ?_); (have k_ : m.retry = false := by with_reducible exact ER.out); clear k_; refine gate_guard rfl ?_; refine ld (v := .pointer (some ⟨gm, 0, none⟩)) rfl rfl rfl HX.out Try.underlying85 rfl rfl ?_)
        | ((with_reducible refine gate_dst (N := 61) rfl ?_); (have k_ : m.retry = false := by with_reducible exact ER.out); clear k_; refine gate_guard rfl ?_; refine ld (v := .slice hd.A6 m.f6.length hd.c6) rfl rfl rfl HY.out Try.underlying44 rfl rfl ?_)
        | ((with_reducible refine gate_dst (N := 66) rfl ?_); (have k_ : m.retry = false ∧ ((m.f6.length : Int) == 0) = true := by with_reducible exact ⟨ER.out, e3⟩); clear k_; refine gate_guard rfl ?_; refine ld (v := .pointer (some ⟨gm, 0, none⟩)) rfl rfl rfl HX.out Try.underlying85 rfl rfl ?_)
        | ((with_reducible refine gate_dst (N := 69) rfl ?_); (have k_ : m.retry = false ∧ ((m.f6.length : Int) == 0) = true := by with_reducible exact ⟨ER.out, e3⟩); clear k_; refine gate_guard rfl ?_; refine ld (v := .slice hd.A9 m.f9.length hd.c9) rfl rfl rfl HY.out Try.underlying45 rfl rfl ?_)
        | ((with_reducible refine gate_dst (N := 78) rfl ?_); refine ld (v := .bool true) rfl rfl rfl H78.out Try.underlying4 rfl rfl ?_))
      | (go_at_call 30; (with_reducible refine (retry_at m hd _ (HR.out.below (hb_ HB0.out HF.out HL.out)) _ ER.out).mono ?_); rintro e1 w1 ⟨rfl, b1⟩; have n_ := Aside0.mk (HW.out.below b1); have f1 := Fr.of_below (g := g) (n_lo2 HW.out) b1; clear HW; have HW := n_; clear n_; have n_ := Aside0.mk (HF.out.trans f1); clear HF; have HF := n_; clear n_; have n_ := Aside0.mk (f1.blk HX.out HXN.out (by decide)); clear HX; have HX := n_; clear n_; have n_ := Aside0.mk (f1.blk HY.out HYN.out (by decide)); clear HY; have HY := n_; clear n_; clear b1 f1)
      | (go_at_call 78; (with_reducible refine (hello_w lo g gm (cells m hd) W _ HW.out HY.out HYN.out m.f1 m.f2 rfl rfl HN.out).mono ?_); rintro e2 w2 ⟨rfl, i2, f2⟩; have HW2 := Aside0.mk i2; have n_ := Aside0.mk (HF.out.trans f2); clear HF; have HF := n_; clear n_; have n_ := Aside0.mk (f2.blk HX.out HXN.out (by decide)); clear HX; have HX := n_; clear n_; have n_ := Aside0.mk (f2.blk HY.out HYN.out (by decide)); clear HY; have HY := n_; clear n_; clear i2 f2)
      | (go_at_call 61; first
        | ((with_reducible refine (need_w lo g _ _ _ HW3.out).mono ?_); rintro e4 w4 ⟨rfl, i4, f4⟩; have HW4 := Aside0.mk i4; obtain ⟨v78, h78⟩ := WS.bad_cell i4 HBB.out; have H78 := Aside0.mk h78; have n_ := Aside0.mk (HF.out.trans f4); clear HF; have HF := n_; clear n_; have n_ := Aside0.mk (f4.blk HX.out HXN.out (by decide)); clear HX; have HX := n_; clear n_; have n_ := Aside0.mk (f4.blk HY.out HYN.out (by decide)); clear HY; have HY := n_; clear n_; clear i4 f4 h78)
        | ((with_reducible refine (need_w lo g (W.hello m.f1 m.f2) _ _ HW2.out).mono ?_); rintro e3 w3 ⟨rfl, i3, f3⟩; have HW3 := Aside0.mk i3; have n_ := Aside0.mk (HF.out.trans f3); clear HF; have HF := n_; clear n_; have n_ := Aside0.mk (f3.blk HX.out HXN.out (by decide)); clear HX; have HX := n_; clear n_; have n_ := Aside0.mk (f3.blk HY.out HYN.out (by decide)); clear HY; have HY := n_; clear n_; clear i3 f3)))
    show bodyPost Try.prog Try.f56 _ Exit.ret ⟨_, []⟩ _
    refine bodyPost_ret (results_none rfl _ _ _) rfl ?_
    exact ⟨rfl, HW4.out, HF.out⟩
theorem or_paths (r a b c d e : Bool) (h : ((r && a && b && c) || (!r && d && e)) = true) : (r = true ∧ a = true ∧ b = true ∧ c = true) ∨ (r = false ∧ d = true ∧ e = true ∧ True) := by
  revert h
  cases r <;> cases a <;> cases b <;> cases c <;> cases d <;> cases e <;> simp
theorem or3 {a b c : Bool} (h : ((a || !b) || !c) = false) : a = false ∧ b = true ∧ c = true := by
  revert h
  cases a <;> cases b <;> cases c <;> simp
def xAll (W : Wp) (L : List (Bool × Int × Wp)) : Wp × List E.S41 := L.foldl (fun p e => (xPut e.1 p.1 e.2.2, xPutL e.1 e.2.1 e.2.2 p.2)) (W, [])
def shL (m : Mv) : List (Bool × Int × Wp) := [(decide (0 < m.f5.length), 43, W0.num (rd m.f5 0) 2), (decide (0 < m.f6.length), 51, W0.num (rd m.f6 0) 2), (decide (0 < m.f9.length), 51, wS W0 (rd_T66 m.f9 0)), (m.f12 != 0, 41, W0.num (wrap64 (m.f12 - 1)) 2)]
def shT (W : Wp) (m : Mv) : Wp := ((shW W m).num (rd m.f3 0) 2).num 0 1
def shP (W : Wp) (m : Mv) : Wp := if (shW W m).b = true then shW W m else (xAll (shT W m) (shL m)).1.ends (xAll (shT W m) (shL m)).2
theorem rdT_mem {l : List S66} (h : 0 < l.length) : rd_T66 l 0 ∈ l := by
  unfold rd_T66
  show l.getD 0 z66 ∈ l
  rw [List.getD_eq_getElem?_getD, List.getElem?_eq_getElem h]
  exact List.getElem_mem h
theorem Fx.fr {lo g x : Nat} {w w' : World} (h : Fx lo g x w w') (hx : w.heap.size ≤ x) : Fr lo g w w' := ⟨h.below, fun k cs t hk hg ht => h.keep k cs t hk hg (Nat.lt_of_lt_of_le (blk_lt hk) hx) ht⟩
theorem of_dec {l : Nat} (h : decide (0 < l) = true) : 0 < l := of_decide_eq_true h
set_option maxRecDepth 100000 in
set_option maxHeartbeats 8000000 in
theorem sh_good (lo g gm : Nat) (m : Mv) (hd : Hd) (W : Wp) (w0 w : World) (h : WS lo w g W) (hlo : w0.heap.size ≤ lo) (hb0 : Below w0.heap.size w0 w) (hy : w.heap[gm]? = some (.cells (cells m hd) 49 (0, 0))) (hne : gm ≠ g) (hr : Reads w0 m hd) (hm : MB m) (hn : W.s.size ≤ 16777216) (hb : (shW W m).b = false) :
    Calls Try.prog 56 #[.pointer (some ⟨g, 0, none⟩), .pointer (some ⟨gm, 0, none⟩)] w fun ex w' => ex = .returned (.tuple #[]) ∧ WS lo w' g ((xAll (shT W m) (shL m)).1.ends (xAll (shT W m) (shL m)).2) ∧ Fr lo g w w' := by
  have hmf := mkf
  have hsz_ := Aside0.mk h.size
  have HB0 := Aside0.mk hb0
  have HW := Aside0.mk h
  have HL := Aside0.mk hlo
  have HY := Aside0.mk hy
  have HYN := Aside0.mk hne
  have HR := Aside0.mk hr
  have HMB := Aside0.mk hm
  have HN := Aside0.mk (show W.s.size + 16 + m.f1.size + m.f2.size ≤ 140737488355328 from by have := hm.b1; have := hm.b2; omega)
  have HWS := Aside0.mk hn
  obtain ⟨_, ok1, ok2⟩ := or3 hb
  have EW0 : shW W m = ((W.hello m.f1 m.f2).need true).need true := by
    unfold shW
    rw [ok1, ok2]
  have hsz := hello_size W m.f1 m.f2 hm.b1 hm.b2
  obtain ⟨W4, hW4⟩ : ∃ X, shW W m = X := ⟨_, rfl⟩
  have h4s : W4.s.size ≤ 50331648 := by
    rw [← hW4]
    show (W.hello m.f1 m.f2).s.size ≤ _
    omega
  unfold shT
  rw [hW4] at hb EW0 ⊢
  have EW := Aside0.mk EW0.symm
  have HBB := Aside0.mk hb
  unfold shOk1 at ok1
  unfold shOk2 at ok2
  rw [Bool.and_eq_true] at ok1
  obtain ⟨e1, e2⟩ := ok1
  have l3 : m.f3.length = 1 := by
    have := beq_iff_eq.mp e1
    omega
  have Q0 := Aside0.mk (show (0 : Int) < (m.f3.length : Int) from by omega)
  have q1 := eq_true Q0.out
  have q2 : (0 < m.f3.length) = True := eq_true (by omega)
  have s5 := W4.num_size (rd m.f3 0) 2 (by omega) (by omega)
  have s6 := (W4.num (rd m.f3 0) 2).num_size 0 1 (by omega) (by omega)
  have HN4 := Aside0.mk (show W4.s.size + 4 ≤ 140737488355328 from by omega)
  have HN5 := Aside0.mk (show (W4.num (rd m.f3 0) 2).s.size + 4 ≤ 140737488355328 from by omega)
  have u1 : (W0.num (rd m.f5 0) 2).s.size ≤ 140737488351232 := Nat.le_trans (W0.num_size _ 2 (by omega) (by omega)) (by rw [W0_size]; omega)
  have u2 : (W0.num (rd m.f6 0) 2).s.size ≤ 140737488351232 := Nat.le_trans (W0.num_size _ 2 (by omega) (by omega)) (by rw [W0_size]; omega)
  have u4 : (W0.num (wrap64 (m.f12 - 1)) 2).s.size ≤ 140737488351232 := Nat.le_trans (W0.num_size _ 2 (by omega) (by omega)) (by rw [W0_size]; omega)
  have x1 := XB.nil.put (decide (0 < m.f5.length)) 43 (W0.num (rd m.f5 0) 2) u1
  have x2 := x1.put (decide (0 < m.f6.length)) 51 (W0.num (rd m.f6 0) 2) u2
  have x3 : XB (xPutL (decide (0 < m.f9.length)) 51 (wS W0 (rd_T66 m.f9 0)) (xPutL (decide (0 < m.f6.length)) 51 (W0.num (rd m.f6 0) 2) (xPutL (decide (0 < m.f5.length)) 43 (W0.num (rd m.f5 0) 2) ([] : List E.S41)))) 3 := by
    by_cases c : decide (0 < m.f9.length) = true
    · exact x2.put (decide (0 < m.f9.length)) 51 (wS W0 (rd_T66 m.f9 0)) (Nat.le_trans (wS_size W0 _ (HMB.out.c9 _ (rdT_mem (of_dec c)))) (by rw [W0_size]; omega))
    · have c' : (decide (0 < m.f9.length)) = false := by simpa using c
      rw [c']
      exact ⟨Nat.le_succ_of_le x2.1, x2.2⟩
  have x4 := x3.put (m.f12 != 0) 41 (W0.num (wrap64 (m.f12 - 1)) 2) u4
  have HLE6 := Aside0.mk (show ([] : List E.S41).length ≤ 1000000000 from by decide)
  have HLE7 := Aside0.mk (show (xPutL (decide (0 < m.f5.length)) 43 (W0.num (rd m.f5 0) 2) ([] : List E.S41)).length ≤ 1000000000 from Nat.le_trans x1.1 (by omega))
  have HLE8 := Aside0.mk (show (xPutL (decide (0 < m.f6.length)) 51 (W0.num (rd m.f6 0) 2) (xPutL (decide (0 < m.f5.length)) 43 (W0.num (rd m.f5 0) 2) ([] : List E.S41))).length ≤ 1000000000 from Nat.le_trans x2.1 (by omega))
  have HLE9 := Aside0.mk (show (xPutL (decide (0 < m.f9.length)) 51 (wS W0 (rd_T66 m.f9 0)) (xPutL (decide (0 < m.f6.length)) 51 (W0.num (rd m.f6 0) 2) (xPutL (decide (0 < m.f5.length)) 43 (W0.num (rd m.f5 0) 2) ([] : List E.S41)))).length ≤ 1000000000 from Nat.le_trans x3.1 (by omega))
  have HEL := Aside0.mk (show (xPutL (m.f12 != 0) 41 (W0.num (wrap64 (m.f12 - 1)) 2) (xPutL (decide (0 < m.f9.length)) 51 (wS W0 (rd_T66 m.f9 0)) (xPutL (decide (0 < m.f6.length)) 51 (W0.num (rd m.f6 0) 2) (xPutL (decide (0 < m.f5.length)) 43 (W0.num (rd m.f5 0) 2) ([] : List E.S41))))).length ≤ 16777216 from Nat.le_trans x4.1 (by omega))
  have HEB := Aside0.mk (show ∀ y ∈ (xPutL (m.f12 != 0) 41 (W0.num (wrap64 (m.f12 - 1)) 2) (xPutL (decide (0 < m.f9.length)) 51 (wS W0 (rd_T66 m.f9 0)) (xPutL (decide (0 < m.f6.length)) 51 (W0.num (rd m.f6 0) 2) (xPutL (decide (0 < m.f5.length)) 43 (W0.num (rd m.f5 0) 2) ([] : List E.S41))))), y.f1.size ≤ 140737488351232 from fun y hy => Nat.le_trans (x4.2 y hy) (by omega))
  have zL := putL_size (xPutL (m.f12 != 0) 41 (W0.num (wrap64 (m.f12 - 1)) 2) (xPutL (decide (0 < m.f9.length)) 51 (wS W0 (rd_T66 m.f9 0)) (xPutL (decide (0 < m.f6.length)) 51 (W0.num (rd m.f6 0) 2) (xPutL (decide (0 < m.f5.length)) 43 (W0.num (rd m.f5 0) 2) ([] : List E.S41)))))
  have HEN := Aside0.mk (show (xPut (m.f12 != 0) (xPut (decide (0 < m.f9.length)) (xPut (decide (0 < m.f6.length)) (xPut (decide (0 < m.f5.length)) (((W4.num (rd m.f3 0) 2).num 0 1)) (W0.num (rd m.f5 0) 2)) (W0.num (rd m.f6 0) 2)) (wS W0 (rd_T66 m.f9 0))) (W0.num (wrap64 (m.f12 - 1)) 2)).s.size + 3 + (Go.Proofs.Ytlkebjkpmiehcaa.Pure.putL [] (xPutL (m.f12 != 0) 41 (W0.num (wrap64 (m.f12 - 1)) 2) (xPutL (decide (0 < m.f9.length)) 51 (wS W0 (rd_T66 m.f9 0)) (xPutL (decide (0 < m.f6.length)) 51 (W0.num (rd m.f6 0) 2) (xPutL (decide (0 < m.f5.length)) 43 (W0.num (rd m.f5 0) 2) ([] : List E.S41)))))).1.size ≤ 140737488355328 from by
    have := x4.1
    simp only [xPut_s]
    omega)
  rcases or_paths _ _ _ _ _ _ ok2 with ⟨er, e3, e4, e5⟩ | ⟨er, e3, e4, e5⟩
  all_goals
    have ER := Aside0.mk er
    clear h hlo hy hne hr hm hb hb0 hn er ok2 hsz h4s hW4 EW0 s5 s6 u1 u2 u4 x1 x2 x3 x4 zL l3
    go_enter Try.func56, Try.ntmps56
    go_wp2_with (first
      | ((with_reducible refine gate_dst (N := 3) rfl ?_); refine boxT (v := .pointer (some ⟨gm, 0, none⟩)) (cs := #[.pointer (some ⟨gm, 0, none⟩)]) rfl rfl rfl rfl ?_; intro gb eb w1 h1 b1; have HX := Aside0.mk h1; have HXN := Aside0.mk (show gb ≠ g from by have := HW.out.lt; omega); have n_ := Aside0.mk ((b1.block gm (blk_lt HY.out)).trans HY.out); clear HY; have HY := n_; clear n_; have n_ := Aside0.mk (HW.out.below b1); clear HW; have HW := n_; clear n_; have HF := Aside0.mk (Fr.of_below (g := g) (n_lo HW.out b1 hsz_.out) b1); clear h1 b1 eb)
      | ((with_reducible refine gate_load rfl ?_); first
        | ((with_reducible refine gate_dst (N := 6) rfl ?_); refine ld (v := .pointer (some ⟨gm, 0, none⟩)) rfl rfl rfl HX.out Try.underlying85 rfl rfl ?_)
        | ((with_reducible refine gate_dst (N := 8) rfl ?_); refine wpList_load_row rfl 49 _ rfl gm rfl 49 _ (0, 0) _ HY.out Try.underlying49 rfl sz49 ?_)
        | ((with_reducible refine gate_dst (N := 11) rfl ?_); refine ld (v := .pointer (some ⟨gm, 0, none⟩)) rfl rfl rfl HX.out Try.underlying85 rfl rfl ?_)
        | ((with_reducible refine gate_dst (N := 14) rfl ?_); refine ld (v := .pointer (some ⟨gm, 0, none⟩)) rfl rfl rfl HX.out Try.underlying85 rfl rfl ?_)
        | ((with_reducible refine gate_dst (N := 17) rfl ?_); refine ld (v := .slice hd.A3 m.f3.length hd.c3) rfl rfl rfl HY.out Try.underlying44 rfl rfl ?_)
        | ((with_reducible refine gate_dst (N := 21) rfl ?_); (have k_ : ((m.f3.length : Int) == 1) = true := by with_reducible exact e1); clear k_; refine gate_guard rfl ?_; refine ld (v := .pointer (some ⟨gm, 0, none⟩)) rfl rfl rfl HX.out Try.underlying85 rfl rfl ?_)
        | ((with_reducible refine gate_dst (N := 24) rfl ?_); (have k_ : ((m.f3.length : Int) == 1) = true := by with_reducible exact e1); clear k_; refine gate_guard rfl ?_; refine ld (v := .slice hd.A5 m.f5.length hd.c5) rfl rfl rfl HY.out Try.underlying44 rfl rfl ?_)
        | ((with_reducible refine gate_dst (N := 32) rfl ?_); (have k_ : m.retry = true := by with_reducible exact ER.out); clear k_; refine gate_guard rfl ?_; refine ld (v := .pointer (some ⟨gm, 0, none⟩)) rfl rfl rfl HX.out Try.underlying85 rfl rfl ?_)
        | ((with_reducible refine gate_dst (N := 35) rfl ?_); (have k_ : m.retry = true := by with_reducible exact ER.out); clear k_; refine gate_guard rfl ?_; refine ld (v := .slice hd.A6 m.f6.length hd.c6) rfl rfl rfl HY.out Try.underlying44 rfl rfl ?_)
        | ((with_reducible refine gate_dst (N := 40) rfl ?_); (have k_ : m.retry = true ∧ decide ((m.f6.length : Int) ≤ 1) = true := by with_reducible exact ⟨ER.out, e3⟩); clear k_; refine gate_guard rfl ?_; refine ld (v := .pointer (some ⟨gm, 0, none⟩)) rfl rfl rfl HX.out Try.underlying85 rfl rfl ?_)
        | ((with_reducible refine gate_dst (N := 43) rfl ?_); (have k_ : m.retry = true ∧ decide ((m.f6.length : Int) ≤ 1) = true := by with_reducible exact ⟨ER.out, e3⟩); clear k_; refine gate_guard rfl ?_; refine ld (v := .slice hd.A9 m.f9.length hd.c9) rfl rfl rfl HY.out Try.underlying45 rfl rfl ?_)
        | ((with_reducible refine gate_dst (N := 48) rfl ?_); (have k_ : m.retry = true ∧ ((m.f9.length : Int) == 0) = true := by with_reducible exact ⟨ER.out, e4⟩); clear k_; refine gate_guard rfl ?_; refine ld (v := .pointer (some ⟨gm, 0, none⟩)) rfl rfl rfl HX.out Try.underlying85 rfl rfl ?_)
        | ((with_reducible refine gate_dst (N := 51) rfl ?_); (have k_ : m.retry = true ∧ ((m.f9.length : Int) == 0) = true := by with_reducible exact ⟨ER.out, e4⟩); clear k_; refine gate_guard rfl ?_; refine ld (v := .int .i64 m.f12) rfl rfl rfl HY.out Try.underlying3 rfl rfl ?_)
        | ((with_reducible refine gate_dst (N := 58) rfl ?_); (have k_ : m.retry = false := by with_reducible exact ER.out); clear k_; refine gate_guard rfl ?_; refine ld (v := .pointer (some ⟨gm, 0, none⟩)) rfl rfl rfl HX.out Try.underlying85 rfl rfl ?_)
        | ((with_reducible refine gate_dst (N := 61) rfl ?_); (have k_ : m.retry = false := by with_reducible exact ER.out); clear k_; refine gate_guard rfl ?_; refine ld (v := .slice hd.A6 m.f6.length hd.c6) rfl rfl rfl HY.out Try.underlying44 rfl rfl ?_)
        | ((with_reducible refine gate_dst (N := 66) rfl ?_); (have k_ : m.retry = false ∧ ((m.f6.length : Int) == 0) = true := by with_reducible exact ⟨ER.out, e3⟩); clear k_; refine gate_guard rfl ?_; refine ld (v := .pointer (some ⟨gm, 0, none⟩)) rfl rfl rfl HX.out Try.underlying85 rfl rfl ?_)
        | ((with_reducible refine gate_dst (N := 69) rfl ?_); (have k_ : m.retry = false ∧ ((m.f6.length : Int) == 0) = true := by with_reducible exact ⟨ER.out, e3⟩); clear k_; refine gate_guard rfl ?_; refine ld (v := .slice hd.A9 m.f9.length hd.c9) rfl rfl rfl HY.out Try.underlying45 rfl rfl ?_)
        | ((with_reducible refine gate_dst (N := 78) rfl ?_); refine ld (v := .bool false) rfl rfl rfl H78.out Try.underlying4 rfl rfl ?_)
        | ((with_reducible refine gate_dst (N := 80) rfl ?_); refine ld (v := .pointer (some ⟨gm, 0, none⟩)) rfl rfl rfl HX.out Try.underlying85 rfl rfl ?_)
        | ((with_reducible refine gate_dst (N := 83) rfl ?_); obtain ⟨ad, e0, hx0⟩ := Kd.at_int (Kd.C_below HR.out.r3 (hb_ HB0.out HF.out HL.out)) 0 (by omega) Q0.out; (have e3_ : ad.add (Int.toNat 0) = ad := by simp [Addr.add]); (rw [e3_] at hx0; clear e3_; refine ld (v := .slice (some ad) m.f3.length hd.c3) rfl rfl rfl HY.out Try.underlying44 rfl (by rw [← e0]; rfl) ?_; have HAD := Aside0.mk hx0; clear hx0 e0))
        | ((with_reducible refine gate_dst (N := 85) rfl ?_); refine ldQ (v := .int .i64 (rd m.f3 0)) rfl rfl rfl Try.underlying3 rfl HAD.out ?_)
        | ((with_reducible refine gate_dst (N := 93) rfl ?_); refine ld (v := .pointer (some ⟨gm, 0, none⟩)) rfl rfl rfl HX.out Try.underlying85 rfl rfl ?_)
        | ((with_reducible refine gate_dst (N := 96) rfl ?_); refine ld (v := .slice hd.A5 m.f5.length hd.c5) rfl rfl rfl HY.out Try.underlying44 rfl rfl ?_)
        | ((with_reducible refine gate_dst (N := 102) rfl ?_); refine ld (v := .pointer (some ⟨gm, 0, none⟩)) rfl rfl rfl HX.out Try.underlying85 rfl rfl ?_)
        | ((with_reducible refine gate_dst (N := 105) rfl ?_); refine ld (v := .slice hd.A6 m.f6.length hd.c6) rfl rfl rfl HY.out Try.underlying44 rfl rfl ?_)
        | ((with_reducible refine gate_dst (N := 111) rfl ?_); refine ld (v := .pointer (some ⟨gm, 0, none⟩)) rfl rfl rfl HX.out Try.underlying85 rfl rfl ?_)
        | ((with_reducible refine gate_dst (N := 114) rfl ?_); refine ld (v := .slice hd.A9 m.f9.length hd.c9) rfl rfl rfl HY.out Try.underlying45 rfl rfl ?_)
        | ((with_reducible refine gate_dst (N := 120) rfl ?_); refine ld (v := .pointer (some ⟨gm, 0, none⟩)) rfl rfl rfl HX.out Try.underlying85 rfl rfl ?_)
        | ((with_reducible refine gate_dst (N := 123) rfl ?_); refine ld (v := .int .i64 m.f12) rfl rfl rfl HY.out Try.underlying3 rfl rfl ?_))
      | (go_at_call 30; (with_reducible refine (retry_at m hd _ (HR.out.below (hb_ HB0.out HF.out HL.out)) _ ER.out).mono ?_); rintro e1 w1 ⟨rfl, b1⟩; have n_ := Aside0.mk (HW.out.below b1); have f1 := Fr.of_below (g := g) (n_lo2 HW.out) b1; clear HW; have HW := n_; clear n_; have n_ := Aside0.mk (HF.out.trans f1); clear HF; have HF := n_; clear n_; have n_ := Aside0.mk (f1.blk HX.out HXN.out (by decide)); clear HX; have HX := n_; clear n_; have n_ := Aside0.mk (f1.blk HY.out HYN.out (by decide)); clear HY; have HY := n_; clear n_; clear b1 f1)
      | (go_at_call 78; (with_reducible refine (hello_w lo g gm (cells m hd) W _ HW.out HY.out HYN.out m.f1 m.f2 rfl rfl HN.out).mono ?_); rintro e2 w2 ⟨rfl, i2, f2⟩; have HW2 := Aside0.mk i2; have n_ := Aside0.mk (HF.out.trans f2); clear HF; have HF := n_; clear n_; have n_ := Aside0.mk (f2.blk HX.out HXN.out (by decide)); clear HX; have HX := n_; clear n_; have n_ := Aside0.mk (f2.blk HY.out HYN.out (by decide)); clear HY; have HY := n_; clear n_; clear i2 f2)
      | (go_at_call 61; first
        | ((with_reducible refine (need_w lo g _ _ _ HW3.out).mono ?_); rintro e4 w4 ⟨rfl, i4, f4⟩; have HW4 := Aside0.mk (show WS lo w4 g W4 from by rw [← EW.out]; exact i4); obtain ⟨v78, h78⟩ := WS.bad_cell HW4.out HBB.out; have H78 := Aside0.mk h78; have n_ := Aside0.mk (HF.out.trans f4); clear HF; have HF := n_; clear n_; have n_ := Aside0.mk (f4.blk HX.out HXN.out (by decide)); clear HX; have HX := n_; clear n_; have n_ := Aside0.mk (f4.blk HY.out HYN.out (by decide)); clear HY; have HY := n_; clear n_; clear i4 f4 h78)
        | ((with_reducible refine (need_w lo g (W.hello m.f1 m.f2) _ _ HW2.out).mono ?_); rintro e3 w3 ⟨rfl, i3, f3⟩; have HW3 := Aside0.mk i3; have n_ := Aside0.mk (HF.out.trans f3); clear HF; have HF := n_; clear n_; have n_ := Aside0.mk (f3.blk HX.out HXN.out (by decide)); clear HX; have HX := n_; clear n_; have n_ := Aside0.mk (f3.blk HY.out HYN.out (by decide)); clear HY; have HY := n_; clear n_; clear i3 f3))
      | (go_at_call 60; first
        | ((with_reducible refine (num_w lo g (W4.num (rd m.f3 0) 2) 0 1 _ HW5.out (by omega) (by omega) HN5.out).mono ?_); rintro e6 w6 ⟨rfl, i6, f6⟩; have HW6 := Aside0.mk i6; have n_ := Aside0.mk (HF.out.trans f6); clear HF; have HF := n_; clear n_; have n_ := Aside0.mk (f6.blk HX.out HXN.out (by decide)); clear HX; have HX := n_; clear n_; have n_ := Aside0.mk (f6.blk HY.out HYN.out (by decide)); clear HY; have HY := n_; clear n_; clear i6 f6)
        | ((with_reducible refine (num_w lo g W4 (rd m.f3 0) 2 _ HW4.out (by omega) (by omega) HN4.out).mono ?_); rintro e5 w5 ⟨rfl, i5, f5⟩; have HW5 := Aside0.mk i5; have n_ := Aside0.mk (HF.out.trans f5); clear HF; have HF := n_; clear n_; have n_ := Aside0.mk (f5.blk HX.out HXN.out (by decide)); clear HX; have HX := n_; clear n_; have n_ := Aside0.mk (f5.blk HY.out HYN.out (by decide)); clear HY; have HY := n_; clear n_; clear i5 f5))
      | ((with_reducible refine gate_dst (N := 90) rfl ?_); refine build115 rfl rfl rfl ?_)
      | ((with_reducible refine gate_dst (N := 91) rfl ?_); refine boxT (v := .agg #[.pointer (some ⟨g, 0, none⟩), .slice none 0 0]) (cs := #[.pointer (some ⟨g, 0, none⟩), .slice none 0 0]) rfl rfl rfl rfl ?_; intro x ex w7 h7 b7; have HXS := Aside0.mk (XS.start h7); have HLX := Aside0.mk (show lo ≤ x from by have := HW6.out.size; omega); have HXX := Aside0.mk (show gb < x from by have := blk_lt HX.out; omega); have HYX := Aside0.mk (show gm < x from by have := blk_lt HY.out; omega); have HWX := Aside0.mk (show w.heap.size ≤ x from by have := HF.out.below.size; have := hsz_.out; first | omega | (rw [ex]; exact this)); have n_ := Aside0.mk (HW6.out.below b7); have f7 := Fr.of_below (g := g) HW6.out.size b7; clear HW6; have HW6 := n_; clear n_; have n_ := Aside0.mk (HF.out.trans f7); clear HF; have HF := n_; clear n_; have n_ := Aside0.mk (f7.blk HX.out HXN.out (by decide)); clear HX; have HX := n_; clear n_; have n_ := Aside0.mk (f7.blk HY.out HYN.out (by decide)); clear HY; have HY := n_; clear n_; have HG := Aside0.mk (Fx.of_fr (x := x) HF.out); clear h7 b7 f7 ex)
      | ((with_reducible refine gate_callee (f := 80) rfl ?_); refine goesL_ (some 100) rfl rfl Try.func80 (by kernel_rfl) rfl #[.pointer (some ⟨x, 0, none⟩), .bool (decide (0 < m.f5.length)), .int .i64 43, .func (.func 88) #[] #[.pointer (some ⟨gb, 0, none⟩)]] rfl (by (try simp only [List.map_toArray, List.map_cons, List.map_nil]); first | done | rfl) ?_; (refine (xput_w lo x g 88 _ (((W4.num (rd m.f3 0) 2).num 0 1)) (W0.num (rd m.f5 0) 2) ([] : List E.S41) (decide (0 < m.f5.length)) 43 _ HW6.out HLX.out HXS.out (fun hi => sv1_w gb gm (cells m hd) hd.A5 hd.c5 m.f5 _ HX.out HY.out rfl (Kd.C_below HR.out.r5 (HB0.out.trans (HG.out.below.mono HL.out))) (of_dec hi)) enters88 HLE6.out).mono ?_); rintro e_ w_ ⟨rfl, iw, ix, f_⟩; refine ⟨_, rfl, ?_⟩; have HW7 := Aside0.mk iw; clear HXS; have HXS := Aside0.mk ix; have n_ := Aside0.mk (HG.out.trans f_); clear HG; have HG := n_; clear n_; have n_ := Aside0.mk (f_.keep _ _ _ HX.out HXN.out HXX.out (by decide)); clear HX; have HX := n_; clear n_; have n_ := Aside0.mk (f_.keep _ _ _ HY.out HYN.out HYX.out (by decide)); clear HY; have HY := n_; clear n_; clear iw ix f_)
      | ((with_reducible refine gate_callee (f := 80) rfl ?_); refine goesL_ (some 109) rfl rfl Try.func80 (by kernel_rfl) rfl #[.pointer (some ⟨x, 0, none⟩), .bool (decide (0 < m.f6.length)), .int .i64 51, .func (.func 89) #[] #[.pointer (some ⟨gb, 0, none⟩)]] rfl (by (try simp only [List.map_toArray, List.map_cons, List.map_nil]); first | done | rfl) ?_; (refine (xput_w lo x g 89 _ (xPut (decide (0 < m.f5.length)) (((W4.num (rd m.f3 0) 2).num 0 1)) (W0.num (rd m.f5 0) 2)) (W0.num (rd m.f6 0) 2) (xPutL (decide (0 < m.f5.length)) 43 (W0.num (rd m.f5 0) 2) ([] : List E.S41)) (decide (0 < m.f6.length)) 51 _ HW7.out HLX.out HXS.out (fun hi => sv2_w gb gm (cells m hd) hd.A6 hd.c6 m.f6 _ HX.out HY.out rfl (Kd.C_below HR.out.r6 (HB0.out.trans (HG.out.below.mono HL.out))) (of_dec hi)) enters89 HLE7.out).mono ?_); rintro e_ w_ ⟨rfl, iw, ix, f_⟩; refine ⟨_, rfl, ?_⟩; have HW8 := Aside0.mk iw; clear HXS; have HXS := Aside0.mk ix; have n_ := Aside0.mk (HG.out.trans f_); clear HG; have HG := n_; clear n_; have n_ := Aside0.mk (f_.keep _ _ _ HX.out HXN.out HXX.out (by decide)); clear HX; have HX := n_; clear n_; have n_ := Aside0.mk (f_.keep _ _ _ HY.out HYN.out HYX.out (by decide)); clear HY; have HY := n_; clear n_; clear iw ix f_)
      | ((with_reducible refine gate_callee (f := 80) rfl ?_); refine goesL_ (some 118) rfl rfl Try.func80 (by kernel_rfl) rfl #[.pointer (some ⟨x, 0, none⟩), .bool (decide (0 < m.f9.length)), .int .i64 51, .func (.func 90) #[] #[.pointer (some ⟨gb, 0, none⟩)]] rfl (by (try simp only [List.map_toArray, List.map_cons, List.map_nil]); first | done | rfl) ?_; (refine (xput_w lo x g 90 _ (xPut (decide (0 < m.f6.length)) (xPut (decide (0 < m.f5.length)) (((W4.num (rd m.f3 0) 2).num 0 1)) (W0.num (rd m.f5 0) 2)) (W0.num (rd m.f6 0) 2)) (wS W0 (rd_T66 m.f9 0)) (xPutL (decide (0 < m.f6.length)) 51 (W0.num (rd m.f6 0) 2) (xPutL (decide (0 < m.f5.length)) 43 (W0.num (rd m.f5 0) 2) ([] : List E.S41))) (decide (0 < m.f9.length)) 51 _ HW8.out HLX.out HXS.out (fun hi => sv3_w gb gm (cells m hd) hd.A9 hd.c9 m.f9 _ HX.out HY.out rfl (Kd.C_below HR.out.r9 (HB0.out.trans (HG.out.below.mono HL.out))) (of_dec hi) (HMB.out.c9 _ (rdT_mem (of_dec hi)))) enters90 HLE8.out).mono ?_); rintro e_ w_ ⟨rfl, iw, ix, f_⟩; refine ⟨_, rfl, ?_⟩; have HW9 := Aside0.mk iw; clear HXS; have HXS := Aside0.mk ix; have n_ := Aside0.mk (HG.out.trans f_); clear HG; have HG := n_; clear n_; have n_ := Aside0.mk (f_.keep _ _ _ HX.out HXN.out HXX.out (by decide)); clear HX; have HX := n_; clear n_; have n_ := Aside0.mk (f_.keep _ _ _ HY.out HYN.out HYX.out (by decide)); clear HY; have HY := n_; clear n_; clear iw ix f_)
      | ((with_reducible refine gate_callee (f := 80) rfl ?_); refine goesL_ (some 126) rfl rfl Try.func80 (by kernel_rfl) rfl #[.pointer (some ⟨x, 0, none⟩), .bool (m.f12 != 0), .int .i64 41, .func (.func 91) #[] #[.pointer (some ⟨gb, 0, none⟩)]] rfl (by (try simp only [List.map_toArray, List.map_cons, List.map_nil]); first | done | rfl) ?_; (refine (xput_w lo x g 91 _ (xPut (decide (0 < m.f9.length)) (xPut (decide (0 < m.f6.length)) (xPut (decide (0 < m.f5.length)) (((W4.num (rd m.f3 0) 2).num 0 1)) (W0.num (rd m.f5 0) 2)) (W0.num (rd m.f6 0) 2)) (wS W0 (rd_T66 m.f9 0))) (W0.num (wrap64 (m.f12 - 1)) 2) (xPutL (decide (0 < m.f9.length)) 51 (wS W0 (rd_T66 m.f9 0)) (xPutL (decide (0 < m.f6.length)) 51 (W0.num (rd m.f6 0) 2) (xPutL (decide (0 < m.f5.length)) 43 (W0.num (rd m.f5 0) 2) ([] : List E.S41)))) (m.f12 != 0) 41 _ HW9.out HLX.out HXS.out (fun hi => sv4_w gb gm (cells m hd) m.f12 _ HX.out HY.out rfl) enters91 HLE9.out).mono ?_); rintro e_ w_ ⟨rfl, iw, ix, f_⟩; refine ⟨_, rfl, ?_⟩; have HW10 := Aside0.mk iw; clear HXS; have HXS := Aside0.mk ix; have n_ := Aside0.mk (HG.out.trans f_); clear HG; have HG := n_; clear n_; have n_ := Aside0.mk (f_.keep _ _ _ HX.out HXN.out HXX.out (by decide)); clear HX; have HX := n_; clear n_; have n_ := Aside0.mk (f_.keep _ _ _ HY.out HYN.out HYX.out (by decide)); clear HY; have HY := n_; clear n_; clear iw ix f_)
      | (go_at_call 87; (with_reducible refine (xend_w lo x g (xPut (m.f12 != 0) (xPut (decide (0 < m.f9.length)) (xPut (decide (0 < m.f6.length)) (xPut (decide (0 < m.f5.length)) (((W4.num (rd m.f3 0) 2).num 0 1)) (W0.num (rd m.f5 0) 2)) (W0.num (rd m.f6 0) 2)) (wS W0 (rd_T66 m.f9 0))) (W0.num (wrap64 (m.f12 - 1)) 2)) (xPutL (m.f12 != 0) 41 (W0.num (wrap64 (m.f12 - 1)) 2) (xPutL (decide (0 < m.f9.length)) 51 (wS W0 (rd_T66 m.f9 0)) (xPutL (decide (0 < m.f6.length)) 51 (W0.num (rd m.f6 0) 2) (xPutL (decide (0 < m.f5.length)) 43 (W0.num (rd m.f5 0) 2) ([] : List E.S41))))) _ HW10.out HXS.out HEL.out HEB.out HEN.out).mono ?_); rintro e_ w_ ⟨rfl, iw, f_⟩; have HWz := Aside0.mk iw; have HFz := Aside0.mk (HG.out.trans (Fx.of_fr f_)); clear iw f_))
    first | go_end0 | ((try simp only [Exit.inBlock, Exit.then]); refine bodyPost_ret (results_none rfl _ _ _) rfl ?_)
    exact ⟨rfl, HWz.out, HFz.out.fr HWX.out⟩
theorem sh_w (lo g gm : Nat) (m : Mv) (hd : Hd) (W : Wp) (w0 w : World) (h : WS lo w g W) (hlo : w0.heap.size ≤ lo) (hb0 : Below w0.heap.size w0 w) (hy : w.heap[gm]? = some (.cells (cells m hd) 49 (0, 0))) (hne : gm ≠ g) (hr : Reads w0 m hd) (hm : MB m) (hn : W.s.size ≤ 16777216) :
    Calls Try.prog 56 #[.pointer (some ⟨g, 0, none⟩), .pointer (some ⟨gm, 0, none⟩)] w fun ex w' => ex = .returned (.tuple #[]) ∧ WS lo w' g (shP W m) ∧ Fr lo g w w' := by
  unfold shP
  by_cases c : (shW W m).b = true
  · rw [if_pos c]
    exact sh_bad lo g gm m hd W w0 w h hlo hb0 hy hne hr hm hn c
  · rw [if_neg c]
    exact sh_good lo g gm m hd W w0 w h hlo hb0 hy hne hr hm hn (by simpa using c)
end Go.Proofs.Ytlkebjkpmiehcaa.Ms
end
section
namespace Go.Proofs.Ytlkebjkpmiehcaa.Ms
open Go.RowKit Go.Proofs.YtlkebjkpmiehcaaW.PrintWords Go.Proofs.YtlkebjkpmiehcaaW.PrintLast Go.Proofs.YtlkebjkpmiehcaaW.PrintMore Go.Proofs.Ytlkebjkpmiehcaa.X
set_option linter.unusedVariables false
set_option linter.unusedSimpArgs false
set_option maxRecDepth 100000 in
set_option maxHeartbeats 8000000 in
theorem nums1_g (lo g : Nat) (W : Wp) (bs bx bw : Nat) (z n : Int) (hz1 : 1 ≤ z) (hz3 : z ≤ 3) (hn1 : 1 ≤ n) (hn4 : n ≤ 4) (A : Option Addr) (c : Nat) (l : List Int) (w : World) (h : WS lo w g W)
    (hs : w.heap[bs]? = some (.cells #[.int .i64 z] 3 (0, 0))) (hx : w.heap[bx]? = some (.cells #[.slice A l.length c] 44 (0, 0))) (hw : w.heap[bw]? = some (.cells #[.int .i64 n] 3 (0, 0))) (hr : Kd.C (Kd.int .i64) w A l.length l) (hlc : l.length ≤ c) (hl : l.length ≤ 16777216) (hn : W.s.size ≤ 100000000) :
    Calls Try.prog 106 #[.pointer (some ⟨g, 0, none⟩), .pointer (some ⟨bs, 0, none⟩), .pointer (some ⟨bx, 0, none⟩), .pointer (some ⟨bw, 0, none⟩)] w fun ex w' => ex = .returned (.tuple #[]) ∧ WS lo w' g (W.within (fw (wN n) l) z) ∧ Fr lo g w w' := by
  have HW := Aside0.mk h
  have hmf := mkf
  have HS := Aside0.mk hs
  have HX := Aside0.mk hx
  have HY := Aside0.mk hw
  have HR := Aside0.mk hr
  have HLC := Aside0.mk hlc
  have HLL := Aside0.mk hl
  have hfa := fw_all (wN n) l hl (fun W a _ => wN_size n hn1 hn4 W a)
  have HN := Aside0.mk (show W.s.size + 3 + (fw (wN n) l).s.size ≤ 140737488355328 from by omega)
  have HZ1 := Aside0.mk hz1
  have HZ3 := Aside0.mk hz3
  have HN1 := Aside0.mk hn1
  have HN4 := Aside0.mk hn4
  clear h hs hx hw hr hfa
  go_enter Try.func106, Try.ntmps106
  go_wp2_with (first
    | ((with_reducible refine gate_dst (N := 6) rfl ?_); refine ld (v := .int .i64 z) rfl rfl rfl HS.out Try.underlying3 rfl rfl ?_)
    | (go_at_call 58; (refine (within_w lo g 107 _ W (fw (wN n) l) z _ HW.out enters107 (nums2_w bx bw n HN1.out HN4.out A c l _ HX.out HY.out HR.out HLC.out HLL.out) HZ1.out HZ3.out HN.out).mono ?_); rintro e1 w1 ⟨rfl, i1, f1⟩; have HWz := Aside0.mk i1; have HFz := Aside0.mk f1; clear i1 f1))
  first | go_end0 | ((try simp only [Exit.inBlock, Exit.then]); refine bodyPost_ret (results_none rfl _ _ _) rfl ?_)
  exact ⟨rfl, HWz.out, HFz.out⟩
def chOk (m : Mv) : Bool := decide (0 < m.f3.length) && ((m.f11.length : Int) == (m.f10.length : Int))
def chL (m : Mv) : List (Bool × Int × Wp) := [(!m.f4.toList.isEmpty, 0, W0.within ((W0.num 0 1).vec m.f4 2 1 64) 2), (decide (0 < m.f6.length), 10, W0.within (fw (wN 2) m.f6) 2), (decide (0 < m.f7.length), 13, W0.within (fw (wN 2) m.f7) 2), (decide (0 < m.f5.length), 43, W0.within (fw (wN 2) m.f5) 1), (decide (0 < m.f8.length), 45, W0.within (fw (wN 1) m.f8) 1), (decide (0 < m.f9.length), 51, W0.within (fw wS m.f9) 2), (decide (0 < m.f10.length), 41, (W0.within (fw wI m.f10) 2).within (fw wB m.f11) 2)]
def chT (W : Wp) (m : Mv) : Wp := (((W.hello m.f1 m.f2).need (chOk m)).within (fw (wN 2) m.f3) 2).vec ⟨#[0]⟩ 1 1 1
def chP (W : Wp) (m : Mv) : Wp := (xAll (chT W m) (chL m)).1.ends (xAll (chT W m) (chL m)).2
set_option maxRecDepth 100000 in
set_option maxHeartbeats 8000000 in
theorem ch_w (lo g gm : Nat) (m : Mv) (hd : Hd) (W : Wp) (w0 w : World) (h : WS lo w g W) (hlo : w0.heap.size ≤ lo) (hb0 : Below w0.heap.size w0 w) (hy : w.heap[gm]? = some (.cells (cells m hd) 49 (0, 0))) (hne : gm ≠ g) (hr : Reads w0 m hd) (hm : MB m) (hn : W.s.size ≤ 16777216) :
    Calls Try.prog 55 #[.pointer (some ⟨g, 0, none⟩), .pointer (some ⟨gm, 0, none⟩)] w fun ex w' => ex = .returned (.tuple #[]) ∧ WS lo w' g (chP W m) ∧ Fr lo g w w' := by
  have hmf := mkf
  have hsz_ := Aside0.mk h.size
  have HB0 := Aside0.mk hb0
  have HW := Aside0.mk h
  have HL := Aside0.mk hlo
  have HY := Aside0.mk hy
  have HYN := Aside0.mk hne
  have HR := Aside0.mk hr
  have HMB := Aside0.mk hm
  have HN := Aside0.mk (show W.s.size + 16 + m.f1.size + m.f2.size ≤ 140737488355328 from by have := hm.b1; have := hm.b2; omega)
  have HWS := Aside0.mk hn
  have hsz := hello_size W m.f1 m.f2 hm.b1 hm.b2
  have u0 : (W0.within ((W0.num 0 1).vec m.f4 2 1 64) 2).s.size ≤ 140737488351232 := Nat.le_trans (W0.within_small _ 2 (by omega) (by omega) (by have := W0.num_size 0 1 (by omega) (by omega); have := (W0.num 0 1).vec_size m.f4 2 1 64 (by omega) (by omega) (by have := hm.b4; omega); have := hm.b4; rw [W0_size] at *; omega)) (by rw [W0_size]; omega)
  have u1 : (W0.within (fw (wN 2) m.f6) 2).s.size ≤ 140737488351232 := Nat.le_trans (W0.within_small _ 2 (by omega) (by omega) (by have := fw_all (wN 2) m.f6 hm.b6 (fun W a _ => wN_size 2 (by omega) (by omega) W a); omega)) (by rw [W0_size]; omega)
  have u2 : (W0.within (fw (wN 2) m.f7) 2).s.size ≤ 140737488351232 := Nat.le_trans (W0.within_small _ 2 (by omega) (by omega) (by have := fw_all (wN 2) m.f7 hm.b7 (fun W a _ => wN_size 2 (by omega) (by omega) W a); omega)) (by rw [W0_size]; omega)
  have u3 : (W0.within (fw (wN 2) m.f5) 1).s.size ≤ 140737488351232 := Nat.le_trans (W0.within_small _ 1 (by omega) (by omega) (by have := fw_all (wN 2) m.f5 hm.b5 (fun W a _ => wN_size 2 (by omega) (by omega) W a); omega)) (by rw [W0_size]; omega)
  have u4 : (W0.within (fw (wN 1) m.f8) 1).s.size ≤ 140737488351232 := Nat.le_trans (W0.within_small _ 1 (by omega) (by omega) (by have := fw_all (wN 1) m.f8 hm.b8 (fun W a _ => wN_size 1 (by omega) (by omega) W a); omega)) (by rw [W0_size]; omega)
  have u5 : (W0.within (fw wS m.f9) 2).s.size ≤ 140737488351232 := Nat.le_trans (W0.within_small _ 2 (by omega) (by omega) (by have := fw_all wS m.f9 hm.b9 (fun W a ha => wS_size W a (hm.c9 a ha)); omega)) (by rw [W0_size]; omega)
  have u6 : ((W0.within (fw wI m.f10) 2).within (fw wB m.f11) 2).s.size ≤ 140737488351232 := by
    have h1 := W0.within_small (fw wI m.f10) 2 (by omega) (by omega) (by have := fw_all wI m.f10 hm.b10 (fun W a ha => wI_size W a (hm.c10 a ha)); omega)
    have h2 := (W0.within (fw wI m.f10) 2).within_small (fw wB m.f11) 2 (by omega) (by omega) (by have := fw_all wB m.f11 hm.b11 (fun W a ha => wB_size W a (hm.c11 a ha)); omega)
    rw [W0_size] at h1
    omega
  have x1 := XB.nil.put (!m.f4.toList.isEmpty) 0 (W0.within ((W0.num 0 1).vec m.f4 2 1 64) 2) u0
  have x2 := x1.put (decide (0 < m.f6.length)) 10 (W0.within (fw (wN 2) m.f6) 2) u1
  have x3 := x2.put (decide (0 < m.f7.length)) 13 (W0.within (fw (wN 2) m.f7) 2) u2
  have x4 := x3.put (decide (0 < m.f5.length)) 43 (W0.within (fw (wN 2) m.f5) 1) u3
  have x5 := x4.put (decide (0 < m.f8.length)) 45 (W0.within (fw (wN 1) m.f8) 1) u4
  have x6 := x5.put (decide (0 < m.f9.length)) 51 (W0.within (fw wS m.f9) 2) u5
  have x7 := x6.put (decide (0 < m.f10.length)) 41 ((W0.within (fw wI m.f10) 2).within (fw wB m.f11) 2) u6
  have HLE6 := Aside0.mk (show ([] : List E.S41).length ≤ 1000000000 from by decide)
  have HLE7 := Aside0.mk (show (xPutL (!m.f4.toList.isEmpty) 0 (W0.within ((W0.num 0 1).vec m.f4 2 1 64) 2) ([] : List E.S41)).length ≤ 1000000000 from Nat.le_trans x1.1 (by omega))
  have HLE8 := Aside0.mk (show (xPutL (decide (0 < m.f6.length)) 10 (W0.within (fw (wN 2) m.f6) 2) (xPutL (!m.f4.toList.isEmpty) 0 (W0.within ((W0.num 0 1).vec m.f4 2 1 64) 2) ([] : List E.S41))).length ≤ 1000000000 from Nat.le_trans x2.1 (by omega))
  have HLE9 := Aside0.mk (show (xPutL (decide (0 < m.f7.length)) 13 (W0.within (fw (wN 2) m.f7) 2) (xPutL (decide (0 < m.f6.length)) 10 (W0.within (fw (wN 2) m.f6) 2) (xPutL (!m.f4.toList.isEmpty) 0 (W0.within ((W0.num 0 1).vec m.f4 2 1 64) 2) ([] : List E.S41)))).length ≤ 1000000000 from Nat.le_trans x3.1 (by omega))
  have HLE10 := Aside0.mk (show (xPutL (decide (0 < m.f5.length)) 43 (W0.within (fw (wN 2) m.f5) 1) (xPutL (decide (0 < m.f7.length)) 13 (W0.within (fw (wN 2) m.f7) 2) (xPutL (decide (0 < m.f6.length)) 10 (W0.within (fw (wN 2) m.f6) 2) (xPutL (!m.f4.toList.isEmpty) 0 (W0.within ((W0.num 0 1).vec m.f4 2 1 64) 2) ([] : List E.S41))))).length ≤ 1000000000 from Nat.le_trans x4.1 (by omega))
  have HLE11 := Aside0.mk (show (xPutL (decide (0 < m.f8.length)) 45 (W0.within (fw (wN 1) m.f8) 1) (xPutL (decide (0 < m.f5.length)) 43 (W0.within (fw (wN 2) m.f5) 1) (xPutL (decide (0 < m.f7.length)) 13 (W0.within (fw (wN 2) m.f7) 2) (xPutL (decide (0 < m.f6.length)) 10 (W0.within (fw (wN 2) m.f6) 2) (xPutL (!m.f4.toList.isEmpty) 0 (W0.within ((W0.num 0 1).vec m.f4 2 1 64) 2) ([] : List E.S41)))))).length ≤ 1000000000 from Nat.le_trans x5.1 (by omega))
  have HLE12 := Aside0.mk (show (xPutL (decide (0 < m.f9.length)) 51 (W0.within (fw wS m.f9) 2) (xPutL (decide (0 < m.f8.length)) 45 (W0.within (fw (wN 1) m.f8) 1) (xPutL (decide (0 < m.f5.length)) 43 (W0.within (fw (wN 2) m.f5) 1) (xPutL (decide (0 < m.f7.length)) 13 (W0.within (fw (wN 2) m.f7) 2) (xPutL (decide (0 < m.f6.length)) 10 (W0.within (fw (wN 2) m.f6) 2) (xPutL (!m.f4.toList.isEmpty) 0 (W0.within ((W0.num 0 1).vec m.f4 2 1 64) 2) ([] : List E.S41))))))).length ≤ 1000000000 from Nat.le_trans x6.1 (by omega))
  obtain ⟨W6, hW6⟩ : ∃ X, chT W m = X := ⟨_, rfl⟩
  have t1 := ((W.hello m.f1 m.f2).need (chOk m)).within_small (fw (wN 2) m.f3) 2 (by omega) (by omega) (by have := fw_all (wN 2) m.f3 hm.b3 (fun W a _ => wN_size 2 (by omega) (by omega) W a); omega)
  have t0 : ((W.hello m.f1 m.f2).need (chOk m)).s.size = (W.hello m.f1 m.f2).s.size := rfl
  have t2 := (((W.hello m.f1 m.f2).need (chOk m)).within (fw (wN 2) m.f3) 2).vec_small ⟨#[0]⟩ 1 1 1 (by omega) (by omega) (by decide)
  have HNH := Aside0.mk (show ((W.hello m.f1 m.f2).need (chOk m)).s.size ≤ 100000000 from by omega)
  have HNV := Aside0.mk (show (((W.hello m.f1 m.f2).need (chOk m)).within (fw (wN 2) m.f3) 2).s.size + 3 + (⟨#[0]⟩ : ByteArray).size ≤ 140737488355328 from by show _ + 3 + 1 ≤ _; omega)
  have h6s : W6.s.size ≤ 200000000 := by
    rw [← hW6]
    unfold chT
    omega
  unfold chP
  rw [hW6]
  have EW6 := Aside0.mk hW6
  unfold chT at EW6
  have HEL := Aside0.mk (show (xPutL (decide (0 < m.f10.length)) 41 ((W0.within (fw wI m.f10) 2).within (fw wB m.f11) 2) (xPutL (decide (0 < m.f9.length)) 51 (W0.within (fw wS m.f9) 2) (xPutL (decide (0 < m.f8.length)) 45 (W0.within (fw (wN 1) m.f8) 1) (xPutL (decide (0 < m.f5.length)) 43 (W0.within (fw (wN 2) m.f5) 1) (xPutL (decide (0 < m.f7.length)) 13 (W0.within (fw (wN 2) m.f7) 2) (xPutL (decide (0 < m.f6.length)) 10 (W0.within (fw (wN 2) m.f6) 2) (xPutL (!m.f4.toList.isEmpty) 0 (W0.within ((W0.num 0 1).vec m.f4 2 1 64) 2) ([] : List E.S41)))))))).length ≤ 16777216 from Nat.le_trans x7.1 (by omega))
  have HEB := Aside0.mk (show ∀ y ∈ (xPutL (decide (0 < m.f10.length)) 41 ((W0.within (fw wI m.f10) 2).within (fw wB m.f11) 2) (xPutL (decide (0 < m.f9.length)) 51 (W0.within (fw wS m.f9) 2) (xPutL (decide (0 < m.f8.length)) 45 (W0.within (fw (wN 1) m.f8) 1) (xPutL (decide (0 < m.f5.length)) 43 (W0.within (fw (wN 2) m.f5) 1) (xPutL (decide (0 < m.f7.length)) 13 (W0.within (fw (wN 2) m.f7) 2) (xPutL (decide (0 < m.f6.length)) 10 (W0.within (fw (wN 2) m.f6) 2) (xPutL (!m.f4.toList.isEmpty) 0 (W0.within ((W0.num 0 1).vec m.f4 2 1 64) 2) ([] : List E.S41)))))))), y.f1.size ≤ 140737488351232 from x7.2)
  have zL := putL_size (xPutL (decide (0 < m.f10.length)) 41 ((W0.within (fw wI m.f10) 2).within (fw wB m.f11) 2) (xPutL (decide (0 < m.f9.length)) 51 (W0.within (fw wS m.f9) 2) (xPutL (decide (0 < m.f8.length)) 45 (W0.within (fw (wN 1) m.f8) 1) (xPutL (decide (0 < m.f5.length)) 43 (W0.within (fw (wN 2) m.f5) 1) (xPutL (decide (0 < m.f7.length)) 13 (W0.within (fw (wN 2) m.f7) 2) (xPutL (decide (0 < m.f6.length)) 10 (W0.within (fw (wN 2) m.f6) 2) (xPutL (!m.f4.toList.isEmpty) 0 (W0.within ((W0.num 0 1).vec m.f4 2 1 64) 2) ([] : List E.S41))))))))
  have HEN := Aside0.mk (show (xPut (decide (0 < m.f10.length)) (xPut (decide (0 < m.f9.length)) (xPut (decide (0 < m.f8.length)) (xPut (decide (0 < m.f5.length)) (xPut (decide (0 < m.f7.length)) (xPut (decide (0 < m.f6.length)) (xPut (!m.f4.toList.isEmpty) W6 (W0.within ((W0.num 0 1).vec m.f4 2 1 64) 2)) (W0.within (fw (wN 2) m.f6) 2)) (W0.within (fw (wN 2) m.f7) 2)) (W0.within (fw (wN 2) m.f5) 1)) (W0.within (fw (wN 1) m.f8) 1)) (W0.within (fw wS m.f9) 2)) ((W0.within (fw wI m.f10) 2).within (fw wB m.f11) 2)).s.size + 3 + (Go.Proofs.Ytlkebjkpmiehcaa.Pure.putL [] (xPutL (decide (0 < m.f10.length)) 41 ((W0.within (fw wI m.f10) 2).within (fw wB m.f11) 2) (xPutL (decide (0 < m.f9.length)) 51 (W0.within (fw wS m.f9) 2) (xPutL (decide (0 < m.f8.length)) 45 (W0.within (fw (wN 1) m.f8) 1) (xPutL (decide (0 < m.f5.length)) 43 (W0.within (fw (wN 2) m.f5) 1) (xPutL (decide (0 < m.f7.length)) 13 (W0.within (fw (wN 2) m.f7) 2) (xPutL (decide (0 < m.f6.length)) 10 (W0.within (fw (wN 2) m.f6) 2) (xPutL (!m.f4.toList.isEmpty) 0 (W0.within ((W0.num 0 1).vec m.f4 2 1 64) 2) ([] : List E.S41))))))))).1.size ≤ 140737488355328 from by
    have := x7.1
    simp only [xPut_s]
    omega)
  clear u0 u1 u2 u3 u4 u5 u6 x1 x2 x3 x4 x5 x6 x7 zL t0 t1 t2 h6s hsz hW6 h hlo hy hne hr hm hb0 hn
  rcases Bool.eq_false_or_eq_true (decide (0 < m.f3.length)) with e1 | e1
  all_goals
    have E1 := Aside0.mk e1
    go_enter Try.func55, Try.ntmps55
    go_wp2_with (first
      | ((with_reducible refine gate_dst (N := 3) rfl ?_); refine boxT (v := .pointer (some ⟨gm, 0, none⟩)) (cs := #[.pointer (some ⟨gm, 0, none⟩)]) rfl rfl rfl rfl ?_; intro gb eb w1 h1 b1; have HX := Aside0.mk h1; have HXN := Aside0.mk (show gb ≠ g from by have := HW.out.lt; omega); have n_ := Aside0.mk ((b1.block gm (blk_lt HY.out)).trans HY.out); clear HY; have HY := n_; clear n_; have n_ := Aside0.mk (HW.out.below b1); clear HW; have HW := n_; clear n_; have HF := Aside0.mk (Fr.of_below (g := g) (n_lo HW.out b1 hsz_.out) b1); clear h1 b1 eb)
      | ((with_reducible refine gate_dst (N := 6) rfl ?_); refine ld (v := .pointer (some ⟨gm, 0, none⟩)) rfl rfl rfl HX.out Try.underlying85 rfl rfl ?_)
      | (go_at_call 78; (with_reducible refine (hello_w lo g gm (cells m hd) W _ HW.out HY.out HYN.out m.f1 m.f2 rfl rfl HN.out).mono ?_); rintro e2 w2 ⟨rfl, i2, f2⟩; have HW2 := Aside0.mk i2; have n_ := Aside0.mk (HF.out.trans f2); clear HF; have HF := n_; clear n_; have n_ := Aside0.mk (f2.blk HX.out HXN.out (by decide)); clear HX; have HX := n_; clear n_; have n_ := Aside0.mk (f2.blk HY.out HYN.out (by decide)); clear HY; have HY := n_; clear n_; clear i2 f2))
    first
    | (have k_ : decide (0 < m.f3.length) = true := by with_reducible exact E1.out
       clear k_
       have EOK := Aside0.mk (show chOk m = ((m.f11.length : Int) == (m.f10.length : Int)) from by unfold chOk; rw [E1.out, Bool.true_and])
       refine start_ (n := 21) (S := fun w' => Below w2.heap.size w2 w') (ds := [20]) #[false, false, false, false, false, false, false, false, false, false, false, false, false, false, false, false, false, false, false, false, false] (by kernel_rfl) rfl rfl (Below.refl w2.heap.size w2).drew (fun hHeld => ?_)
       have HS := Aside0.mk (Below.refl w2.heap.size w2).drew
       generalize w2.drew = w3 at HS hHeld ⊢
       refine pure_ (i := 0) (N := (some 8)) (v := ?_) (a' := ?_) #[true, false, false, false, false, false, false, false, false, false, false, false, false, false, false, false, false, false, false, false, false] rfl rfl (by kernel_rfl) (fun _ _ _ h => h) (Or.inl ⟨by rfl, ?_⟩) ?_ ?_
       rotate_left
       · intro w'
         go_simp
         with_reducible rfl
       rotate_left
       · simp only [Act.put, List.setIfInBounds_toArray, List.set_cons_zero, List.set_cons_succ]
         rfl
       refine take_ (i := 1) (N := (some 9)) (v := ?_) (a' := ?_) #[true, true, false, false, false, false, false, false, false, false, false, false, false, false, false, false, false, false, false, false, false] rfl rfl (by kernel_rfl) (fun _ _ _ h => h) (Or.inl ⟨by rfl, ?_⟩) hHeld ?_ ?_
       rotate_left
       · rintro w' hS
         have hc := (blk_cell ((hS.block gb (blk_lt HX.out)).trans HX.out) 0).trans rfl
         go_simp
         with_reducible rfl
       rotate_left
       · simp only [Act.put, List.setIfInBounds_toArray, List.set_cons_zero, List.set_cons_succ]
         rfl
       refine pure_ (i := 2) (N := (some 10)) (v := ?_) (a' := ?_) #[true, true, true, false, false, false, false, false, false, false, false, false, false, false, false, false, false, false, false, false, false] rfl rfl (by kernel_rfl) (fun _ _ _ h => h) (Or.inl ⟨by rfl, ?_⟩) ?_ ?_
       rotate_left
       · intro w'
         go_simp
         with_reducible rfl
       rotate_left
       · simp only [Act.put, List.setIfInBounds_toArray, List.set_cons_zero, List.set_cons_succ]
         rfl
       refine pure_ (i := 3) (N := (some 11)) (v := ?_) (a' := ?_) #[true, true, true, true, false, false, false, false, false, false, false, false, false, false, false, false, false, false, false, false, false] rfl rfl (by kernel_rfl) (fun _ _ _ h => h) (Or.inl ⟨by rfl, ?_⟩) ?_ ?_
       rotate_left
       · intro w'
         go_simp
         with_reducible rfl
       rotate_left
       · simp only [Act.put, List.setIfInBounds_toArray, List.set_cons_zero, List.set_cons_succ]
         rfl
       refine take_ (i := 4) (N := (some 12)) (v := ?_) (a' := ?_) #[true, true, true, true, true, false, false, false, false, false, false, false, false, false, false, false, false, false, false, false, false] rfl rfl (by kernel_rfl) (fun _ _ _ h => h) (Or.inl ⟨by rfl, ?_⟩) hHeld ?_ ?_
       rotate_left
       · rintro w' hS
         have hc := ((blk_cell ((hS.block gm (blk_lt HY.out)).trans HY.out) 3).trans (show (cells m hd)[3]? = some (.slice hd.A3 m.f3.length hd.c3) from rfl))
         go_simp
         with_reducible rfl
       rotate_left
       · simp only [Act.put, List.setIfInBounds_toArray, List.set_cons_zero, List.set_cons_succ]
         rfl
       refine pure_ (i := 5) (N := (some 13)) (v := ?_) (a' := ?_) #[true, true, true, true, true, true, false, false, false, false, false, false, false, false, false, false, false, false, false, false, false] rfl rfl (by kernel_rfl) (fun _ _ _ h => h) (Or.inl ⟨by rfl, ?_⟩) ?_ ?_
       rotate_left
       · intro w'
         go_simp
         with_reducible rfl
       rotate_left
       · simp only [Act.put, List.setIfInBounds_toArray, List.set_cons_zero, List.set_cons_succ]
         rfl
       refine pure_ (i := 6) (N := (some 14)) (v := ?_) (a' := ?_) #[true, true, true, true, true, true, true, false, false, false, false, false, false, false, false, false, false, false, false, false, false] rfl rfl (by kernel_rfl) (fun _ _ _ h => h) (Or.inl ⟨by rfl, ?_⟩) ?_ ?_
       rotate_left
       · intro w'
         go_simp
         with_reducible rfl
       rotate_left
       · simp only [Act.put, List.setIfInBounds_toArray, List.set_cons_zero, List.set_cons_succ]
         rfl
       refine pure_ (i := 7) (N := (some 15)) (v := ?_) (a' := ?_) #[true, true, true, true, true, true, true, true, false, false, false, false, false, false, false, false, false, false, false, false, false] rfl rfl (by kernel_rfl) (fun _ _ _ h => h) (Or.inl ⟨by rfl, ?_⟩) ?_ ?_
       rotate_left
       · intro w'
         go_simp
         with_reducible rfl
       rotate_left
       · simp only [Act.put, List.setIfInBounds_toArray, List.set_cons_zero, List.set_cons_succ]
         rfl
       refine take_ (i := 8) (N := (some 16)) (v := ?_) (a' := ?_) #[true, true, true, true, true, true, true, true, true, false, false, false, false, false, false, false, false, false, false, false, false] rfl rfl (by kernel_rfl) (fun _ _ _ h => h) (Or.inl ⟨by rfl, ?_⟩) hHeld ?_ ?_
       rotate_left
       · rintro w' hS
         have hc := (blk_cell ((hS.block gb (blk_lt HX.out)).trans HX.out) 0).trans rfl
         go_simp
         with_reducible rfl
       rotate_left
       · simp only [Act.put, List.setIfInBounds_toArray, List.set_cons_zero, List.set_cons_succ]
         rfl
       refine pure_ (i := 9) (N := (some 17)) (v := ?_) (a' := ?_) #[true, true, true, true, true, true, true, true, true, true, false, false, false, false, false, false, false, false, false, false, false] rfl rfl (by kernel_rfl) (fun _ _ _ h => h) (Or.inl ⟨by rfl, ?_⟩) ?_ ?_
       rotate_left
       · intro w'
         go_simp
         with_reducible rfl
       rotate_left
       · simp only [Act.put, List.setIfInBounds_toArray, List.set_cons_zero, List.set_cons_succ]
         rfl
       refine pure_ (i := 10) (N := (some 18)) (v := ?_) (a' := ?_) #[true, true, true, true, true, true, true, true, true, true, true, false, false, false, false, false, false, false, false, false, false] rfl rfl (by kernel_rfl) (fun _ _ _ h => h) (Or.inl ⟨by rfl, ?_⟩) ?_ ?_
       rotate_left
       · intro w'
         go_simp
         with_reducible rfl
       rotate_left
       · simp only [Act.put, List.setIfInBounds_toArray, List.set_cons_zero, List.set_cons_succ]
         rfl
       refine take_ (i := 11) (N := (some 19)) (v := ?_) (a' := ?_) #[true, true, true, true, true, true, true, true, true, true, true, true, false, false, false, false, false, false, false, false, false] rfl rfl (by kernel_rfl) (fun _ _ _ h => h) (Or.inl ⟨by rfl, ?_⟩) hHeld ?_ ?_
       rotate_left
       · rintro w' hS
         have hc := ((blk_cell ((hS.block gm (blk_lt HY.out)).trans HY.out) 11).trans (show (cells m hd)[11]? = some (.slice hd.A11 m.f11.length hd.c11) from rfl))
         go_simp
         with_reducible rfl
       rotate_left
       · simp only [Act.put, List.setIfInBounds_toArray, List.set_cons_zero, List.set_cons_succ]
         rfl
       refine pure_ (i := 12) (N := (some 20)) (v := ?_) (a' := ?_) #[true, true, true, true, true, true, true, true, true, true, true, true, true, false, false, false, false, false, false, false, false] rfl rfl (by kernel_rfl) (fun _ _ _ h => h) (Or.inl ⟨by rfl, ?_⟩) ?_ ?_
       rotate_left
       · intro w'
         go_simp
         with_reducible rfl
       rotate_left
       · simp only [Act.put, List.setIfInBounds_toArray, List.set_cons_zero, List.set_cons_succ]
         rfl
       refine take_ (i := 13) (N := (some 21)) (v := ?_) (a' := ?_) #[true, true, true, true, true, true, true, true, true, true, true, true, true, true, false, false, false, false, false, false, false] rfl rfl (by kernel_rfl) (fun _ _ _ h => h) (Or.inl ⟨by rfl, ?_⟩) hHeld ?_ ?_
       rotate_left
       · rintro w' hS
         have hc := (blk_cell ((hS.block gb (blk_lt HX.out)).trans HX.out) 0).trans rfl
         go_simp
         with_reducible rfl
       rotate_left
       · simp only [Act.put, List.setIfInBounds_toArray, List.set_cons_zero, List.set_cons_succ]
         rfl
       refine pure_ (i := 14) (N := (some 22)) (v := ?_) (a' := ?_) #[true, true, true, true, true, true, true, true, true, true, true, true, true, true, true, false, false, false, false, false, false] rfl rfl (by kernel_rfl) (fun _ _ _ h => h) (Or.inl ⟨by rfl, ?_⟩) ?_ ?_
       rotate_left
       · intro w'
         go_simp
         with_reducible rfl
       rotate_left
       · simp only [Act.put, List.setIfInBounds_toArray, List.set_cons_zero, List.set_cons_succ]
         rfl
       refine pure_ (i := 15) (N := (some 23)) (v := ?_) (a' := ?_) #[true, true, true, true, true, true, true, true, true, true, true, true, true, true, true, true, false, false, false, false, false] rfl rfl (by kernel_rfl) (fun _ _ _ h => h) (Or.inl ⟨by rfl, ?_⟩) ?_ ?_
       rotate_left
       · intro w'
         go_simp
         with_reducible rfl
       rotate_left
       · simp only [Act.put, List.setIfInBounds_toArray, List.set_cons_zero, List.set_cons_succ]
         rfl
       refine take_ (i := 16) (N := (some 24)) (v := ?_) (a' := ?_) #[true, true, true, true, true, true, true, true, true, true, true, true, true, true, true, true, true, false, false, false, false] rfl rfl (by kernel_rfl) (fun _ _ _ h => h) (Or.inl ⟨by rfl, ?_⟩) hHeld ?_ ?_
       rotate_left
       · rintro w' hS
         have hc := ((blk_cell ((hS.block gm (blk_lt HY.out)).trans HY.out) 10).trans (show (cells m hd)[10]? = some (.slice hd.A10 m.f10.length hd.c10) from rfl))
         go_simp
         with_reducible rfl
       rotate_left
       · simp only [Act.put, List.setIfInBounds_toArray, List.set_cons_zero, List.set_cons_succ]
         rfl
       refine pure_ (i := 17) (N := (some 25)) (v := ?_) (a' := ?_) #[true, true, true, true, true, true, true, true, true, true, true, true, true, true, true, true, true, true, false, false, false] rfl rfl (by kernel_rfl) (fun _ _ _ h => h) (Or.inl ⟨by rfl, ?_⟩) ?_ ?_
       rotate_left
       · intro w'
         go_simp
         with_reducible rfl
       rotate_left
       · simp only [Act.put, List.setIfInBounds_toArray, List.set_cons_zero, List.set_cons_succ]
         rfl
       refine pure_ (i := 18) (N := (some 26)) (v := ?_) (a' := ?_) #[true, true, true, true, true, true, true, true, true, true, true, true, true, true, true, true, true, true, true, false, false] rfl rfl (by kernel_rfl) (fun _ _ _ h => h) (Or.inl ⟨by rfl, ?_⟩) ?_ ?_
       rotate_left
       · intro w'
         go_simp
         with_reducible rfl
       rotate_left
       · simp only [Act.put, List.setIfInBounds_toArray, List.set_cons_zero, List.set_cons_succ]
         rfl
       refine pure_ (i := 19) (N := (some 27)) (v := ?_) (a' := ?_) #[true, true, true, true, true, true, true, true, true, true, true, true, true, true, true, true, true, true, true, true, false] rfl rfl (by kernel_rfl) (fun _ _ _ h => h) (Or.inl ⟨by rfl, ?_⟩) ?_ ?_
       rotate_left
       · intro w'
         go_simp
         with_reducible rfl
       rotate_left
       · simp only [Act.put, List.setIfInBounds_toArray, List.set_cons_zero, List.set_cons_succ]
         rfl
       refine last_ (i := 20) (N := (some 28)) #[true, true, true, true, true, true, true, true, true, true, true, true, true, true, true, true, true, true, true, true, true] rfl rfl (by kernel_rfl) (by decide) (fun K hK => ?_)
       refine goes_ (f := 61) Try.func61 (by kernel_rfl) rfl #[.pointer (some ⟨g, 0, none⟩), .bool (chOk m)] (by rfl) rfl rfl (by (try simp only [List.map_toArray, List.map_cons, List.map_nil]); first | done | rfl | (rw [EOK.out]; done) | (rw [EOK.out]; rfl)) ?_
       refine (need_w lo g (W.hello m.f1 m.f2) (chOk m) _ (HW2.out.below HS.out)).mono ?_
       rintro e w4 ⟨rfl, i4, f4⟩
       refine ⟨_, rfl, ?_⟩
       have HW4 := Aside0.mk i4
       have f34 := (Fr.of_below (g := g) HW2.out.size HS.out).trans f4
       have n_ := Aside0.mk (HF.out.trans f34)
       clear HF
       have HF := n_
       clear n_
       have n_ := Aside0.mk (f34.blk HX.out HXN.out (by decide))
       clear HX
       have HX := n_
       clear n_
       have n_ := Aside0.mk (f34.blk HY.out HYN.out (by decide))
       clear HY
       have HY := n_
       clear n_
       clear i4 f4 f34
       refine hK.out _ _ ?_
       clear hK K
       refine norm_ (a' := ?_) ?_ ?_
       rotate_left
       · show Act.put _ (some 28) _ = _
         simp only [Act.put, List.setIfInBounds_toArray, List.set_cons_zero, List.set_cons_succ]
         rfl
       refine done_ (by kernel_rfl) ?_)
    | (have EOK := Aside0.mk (show chOk m = false from by unfold chOk; rw [E1.out, Bool.false_and])
       refine start_ (n := 21) (S := fun w' => Below w2.heap.size w2 w') (ds := [20]) #[false, false, false, false, false, false, false, false, false, false, false, false, false, false, false, false, false, false, false, false, false] (by kernel_rfl) rfl rfl (Below.refl w2.heap.size w2).drew (fun hHeld => ?_)
       have HS := Aside0.mk (Below.refl w2.heap.size w2).drew
       generalize w2.drew = w3 at HS hHeld ⊢
       refine pure_ (i := 0) (N := (some 8)) (v := ?_) (a' := ?_) #[true, false, false, false, false, false, false, false, false, false, false, false, false, false, false, false, false, false, false, false, false] rfl rfl (by kernel_rfl) (fun _ _ _ h => h) (Or.inl ⟨by rfl, ?_⟩) ?_ ?_
       rotate_left
       · intro w'
         go_simp
         with_reducible rfl
       rotate_left
       · simp only [Act.put, List.setIfInBounds_toArray, List.set_cons_zero, List.set_cons_succ]
         rfl
       refine take_ (i := 1) (N := (some 9)) (v := ?_) (a' := ?_) #[true, true, false, false, false, false, false, false, false, false, false, false, false, false, false, false, false, false, false, false, false] rfl rfl (by kernel_rfl) (fun _ _ _ h => h) (Or.inl ⟨by rfl, ?_⟩) hHeld ?_ ?_
       rotate_left
       · rintro w' hS
         have hc := (blk_cell ((hS.block gb (blk_lt HX.out)).trans HX.out) 0).trans rfl
         go_simp
         with_reducible rfl
       rotate_left
       · simp only [Act.put, List.setIfInBounds_toArray, List.set_cons_zero, List.set_cons_succ]
         rfl
       refine pure_ (i := 2) (N := (some 10)) (v := ?_) (a' := ?_) #[true, true, true, false, false, false, false, false, false, false, false, false, false, false, false, false, false, false, false, false, false] rfl rfl (by kernel_rfl) (fun _ _ _ h => h) (Or.inl ⟨by rfl, ?_⟩) ?_ ?_
       rotate_left
       · intro w'
         go_simp
         with_reducible rfl
       rotate_left
       · simp only [Act.put, List.setIfInBounds_toArray, List.set_cons_zero, List.set_cons_succ]
         rfl
       refine pure_ (i := 3) (N := (some 11)) (v := ?_) (a' := ?_) #[true, true, true, true, false, false, false, false, false, false, false, false, false, false, false, false, false, false, false, false, false] rfl rfl (by kernel_rfl) (fun _ _ _ h => h) (Or.inl ⟨by rfl, ?_⟩) ?_ ?_
       rotate_left
       · intro w'
         go_simp
         with_reducible rfl
       rotate_left
       · simp only [Act.put, List.setIfInBounds_toArray, List.set_cons_zero, List.set_cons_succ]
         rfl
       refine take_ (i := 4) (N := (some 12)) (v := ?_) (a' := ?_) #[true, true, true, true, true, false, false, false, false, false, false, false, false, false, false, false, false, false, false, false, false] rfl rfl (by kernel_rfl) (fun _ _ _ h => h) (Or.inl ⟨by rfl, ?_⟩) hHeld ?_ ?_
       rotate_left
       · rintro w' hS
         have hc := ((blk_cell ((hS.block gm (blk_lt HY.out)).trans HY.out) 3).trans (show (cells m hd)[3]? = some (.slice hd.A3 m.f3.length hd.c3) from rfl))
         go_simp
         with_reducible rfl
       rotate_left
       · simp only [Act.put, List.setIfInBounds_toArray, List.set_cons_zero, List.set_cons_succ]
         rfl
       refine pure_ (i := 5) (N := (some 13)) (v := ?_) (a' := ?_) #[true, true, true, true, true, true, false, false, false, false, false, false, false, false, false, false, false, false, false, false, false] rfl rfl (by kernel_rfl) (fun _ _ _ h => h) (Or.inl ⟨by rfl, ?_⟩) ?_ ?_
       rotate_left
       · intro w'
         go_simp
         with_reducible rfl
       rotate_left
       · simp only [Act.put, List.setIfInBounds_toArray, List.set_cons_zero, List.set_cons_succ]
         rfl
       refine pure_ (i := 6) (N := (some 14)) (v := ?_) (a' := ?_) #[true, true, true, true, true, true, true, false, false, false, false, false, false, false, false, false, false, false, false, false, false] rfl rfl (by kernel_rfl) (fun _ _ _ h => h) (Or.inl ⟨by rfl, ?_⟩) ?_ ?_
       rotate_left
       · intro w'
         go_simp
         with_reducible rfl
       rotate_left
       · simp only [Act.put, List.setIfInBounds_toArray, List.set_cons_zero, List.set_cons_succ]
         rfl
       refine pure_ (i := 7) (N := (some 15)) (v := ?_) (a' := ?_) #[true, true, true, true, true, true, true, true, false, false, false, false, false, false, false, false, false, false, false, false, false] rfl rfl (by kernel_rfl) (fun _ _ _ h => h) (Or.inl ⟨by rfl, ?_⟩) ?_ ?_
       rotate_left
       · intro w'
         go_simp
         with_reducible rfl
       rotate_left
       · simp only [Act.put, List.setIfInBounds_toArray, List.set_cons_zero, List.set_cons_succ]
         rfl
       refine pure_ (i := 8) (N := (some 16)) (v := undef) (a' := ?_) #[true, true, true, true, true, true, true, true, true, false, false, false, false, false, false, false, false, false, false, false, false] rfl rfl (by kernel_rfl) (fun _ _ _ h => h) (Or.inr ⟨by rfl, by rfl⟩) ?_ ?_
       rotate_left
       · simp only [Act.put, List.setIfInBounds_toArray, List.set_cons_zero, List.set_cons_succ]
         rfl
       refine pure_ (i := 9) (N := (some 17)) (v := undef) (a' := ?_) #[true, true, true, true, true, true, true, true, true, true, false, false, false, false, false, false, false, false, false, false, false] rfl rfl (by kernel_rfl) (fun _ _ _ h => h) (Or.inr ⟨by rfl, by rfl⟩) ?_ ?_
       rotate_left
       · simp only [Act.put, List.setIfInBounds_toArray, List.set_cons_zero, List.set_cons_succ]
         rfl
       refine pure_ (i := 10) (N := (some 18)) (v := undef) (a' := ?_) #[true, true, true, true, true, true, true, true, true, true, true, false, false, false, false, false, false, false, false, false, false] rfl rfl (by kernel_rfl) (fun _ _ _ h => h) (Or.inr ⟨by rfl, by rfl⟩) ?_ ?_
       rotate_left
       · simp only [Act.put, List.setIfInBounds_toArray, List.set_cons_zero, List.set_cons_succ]
         rfl
       refine pure_ (i := 11) (N := (some 19)) (v := undef) (a' := ?_) #[true, true, true, true, true, true, true, true, true, true, true, true, false, false, false, false, false, false, false, false, false] rfl rfl (by kernel_rfl) (fun _ _ _ h => h) (Or.inr ⟨by rfl, by rfl⟩) ?_ ?_
       rotate_left
       · simp only [Act.put, List.setIfInBounds_toArray, List.set_cons_zero, List.set_cons_succ]
         rfl
       refine pure_ (i := 12) (N := (some 20)) (v := undef) (a' := ?_) #[true, true, true, true, true, true, true, true, true, true, true, true, true, false, false, false, false, false, false, false, false] rfl rfl (by kernel_rfl) (fun _ _ _ h => h) (Or.inr ⟨by rfl, by rfl⟩) ?_ ?_
       rotate_left
       · simp only [Act.put, List.setIfInBounds_toArray, List.set_cons_zero, List.set_cons_succ]
         rfl
       refine pure_ (i := 13) (N := (some 21)) (v := undef) (a' := ?_) #[true, true, true, true, true, true, true, true, true, true, true, true, true, true, false, false, false, false, false, false, false] rfl rfl (by kernel_rfl) (fun _ _ _ h => h) (Or.inr ⟨by rfl, by rfl⟩) ?_ ?_
       rotate_left
       · simp only [Act.put, List.setIfInBounds_toArray, List.set_cons_zero, List.set_cons_succ]
         rfl
       refine pure_ (i := 14) (N := (some 22)) (v := undef) (a' := ?_) #[true, true, true, true, true, true, true, true, true, true, true, true, true, true, true, false, false, false, false, false, false] rfl rfl (by kernel_rfl) (fun _ _ _ h => h) (Or.inr ⟨by rfl, by rfl⟩) ?_ ?_
       rotate_left
       · simp only [Act.put, List.setIfInBounds_toArray, List.set_cons_zero, List.set_cons_succ]
         rfl
       refine pure_ (i := 15) (N := (some 23)) (v := undef) (a' := ?_) #[true, true, true, true, true, true, true, true, true, true, true, true, true, true, true, true, false, false, false, false, false] rfl rfl (by kernel_rfl) (fun _ _ _ h => h) (Or.inr ⟨by rfl, by rfl⟩) ?_ ?_
       rotate_left
       · simp only [Act.put, List.setIfInBounds_toArray, List.set_cons_zero, List.set_cons_succ]
         rfl
       refine pure_ (i := 16) (N := (some 24)) (v := undef) (a' := ?_) #[true, true, true, true, true, true, true, true, true, true, true, true, true, true, true, true, true, false, false, false, false] rfl rfl (by kernel_rfl) (fun _ _ _ h => h) (Or.inr ⟨by rfl, by rfl⟩) ?_ ?_
       rotate_left
       · simp only [Act.put, List.setIfInBounds_toArray, List.set_cons_zero, List.set_cons_succ]
         rfl
       refine pure_ (i := 17) (N := (some 25)) (v := undef) (a' := ?_) #[true, true, true, true, true, true, true, true, true, true, true, true, true, true, true, true, true, true, false, false, false] rfl rfl (by kernel_rfl) (fun _ _ _ h => h) (Or.inr ⟨by rfl, by rfl⟩) ?_ ?_
       rotate_left
       · simp only [Act.put, List.setIfInBounds_toArray, List.set_cons_zero, List.set_cons_succ]
         rfl
       refine pure_ (i := 18) (N := (some 26)) (v := undef) (a' := ?_) #[true, true, true, true, true, true, true, true, true, true, true, true, true, true, true, true, true, true, true, false, false] rfl rfl (by kernel_rfl) (fun _ _ _ h => h) (Or.inr ⟨by rfl, by rfl⟩) ?_ ?_
       rotate_left
       · simp only [Act.put, List.setIfInBounds_toArray, List.set_cons_zero, List.set_cons_succ]
         rfl
       refine pure_ (i := 19) (N := (some 27)) (v := ?_) (a' := ?_) #[true, true, true, true, true, true, true, true, true, true, true, true, true, true, true, true, true, true, true, true, false] rfl rfl (by kernel_rfl) (fun _ _ _ h => h) (Or.inl ⟨by rfl, ?_⟩) ?_ ?_
       rotate_left
       · intro w'
         go_simp
         with_reducible rfl
       rotate_left
       · simp only [Act.put, List.setIfInBounds_toArray, List.set_cons_zero, List.set_cons_succ]
         rfl
       refine last_ (i := 20) (N := (some 28)) #[true, true, true, true, true, true, true, true, true, true, true, true, true, true, true, true, true, true, true, true, true] rfl rfl (by kernel_rfl) (by decide) (fun K hK => ?_)
       refine goes_ (f := 61) Try.func61 (by kernel_rfl) rfl #[.pointer (some ⟨g, 0, none⟩), .bool (chOk m)] (by rfl) rfl rfl (by (try simp only [List.map_toArray, List.map_cons, List.map_nil]); first | done | rfl | (rw [EOK.out]; done) | (rw [EOK.out]; rfl)) ?_
       refine (need_w lo g (W.hello m.f1 m.f2) (chOk m) _ (HW2.out.below HS.out)).mono ?_
       rintro e w4 ⟨rfl, i4, f4⟩
       refine ⟨_, rfl, ?_⟩
       have HW4 := Aside0.mk i4
       have f34 := (Fr.of_below (g := g) HW2.out.size HS.out).trans f4
       have n_ := Aside0.mk (HF.out.trans f34)
       clear HF
       have HF := n_
       clear n_
       have n_ := Aside0.mk (f34.blk HX.out HXN.out (by decide))
       clear HX
       have HX := n_
       clear n_
       have n_ := Aside0.mk (f34.blk HY.out HYN.out (by decide))
       clear HY
       have HY := n_
       clear n_
       clear i4 f4 f34
       refine hK.out _ _ ?_
       clear hK K
       refine norm_ (a' := ?_) ?_ ?_
       rotate_left
       · show Act.put _ (some 28) _ = _
         simp only [Act.put, List.setIfInBounds_toArray, List.set_cons_zero, List.set_cons_succ]
         rfl
       refine done_ (by kernel_rfl) ?_)
    go_wp2_with (first
      | ((with_reducible refine gate_load rfl ?_); first
        | ((with_reducible refine gate_dst (N := 29) rfl ?_); refine ld (v := .pointer (some ⟨gm, 0, none⟩)) rfl rfl rfl HX.out Try.underlying85 rfl rfl ?_)
        | ((with_reducible refine gate_dst (N := 32) rfl ?_); refine ld (v := .slice hd.A3 m.f3.length hd.c3) rfl rfl rfl HY.out Try.underlying44 rfl rfl ?_))
      | (go_at_call 79; (with_reducible refine (nums_w hd.A3 hd.c3 m.f3 2 2 _).mono ?_); rintro e_ w_ ⟨bs, bx, bw, rfl, h1_, h2_, h3_, b_⟩; have H1_ := Aside0.mk h1_; have H2_ := Aside0.mk h2_; have H3_ := Aside0.mk h3_; have n_ := Aside0.mk (HW4.out.below b_); have f_ := Fr.of_below (g := g) HW4.out.size b_; clear HW4; have HW4 := n_; clear n_; have n_ := Aside0.mk (HF.out.trans f_); clear HF; have HF := n_; clear n_; have n_ := Aside0.mk (f_.blk HX.out HXN.out (by decide)); clear HX; have HX := n_; clear n_; have n_ := Aside0.mk (f_.blk HY.out HYN.out (by decide)); clear HY; have HY := n_; clear n_; clear h1_ h2_ h3_ b_ f_)
      | ((refine (nums1_g lo g ((W.hello m.f1 m.f2).need (chOk m)) bs bx bw 2 2 (by omega) (by omega) (by omega) (by omega) hd.A3 hd.c3 m.f3 _ HW4.out H1_.out H2_.out H3_.out (Kd.C_below HR.out.r3 (hb_ HB0.out HF.out HL.out)) HR.out.l3 HMB.out.b3 HNH.out).mono ?_); rintro e_ w_ ⟨rfl, i5, f5⟩; have HW5 := Aside0.mk i5; have n_ := Aside0.mk (HF.out.trans f5); clear HF; have HF := n_; clear n_; have n_ := Aside0.mk (f5.blk HX.out HXN.out (by decide)); clear HX; have HX := n_; clear n_; have n_ := Aside0.mk (f5.blk HY.out HYN.out (by decide)); clear HY; have HY := n_; clear n_; clear i5 f5 H1_ H2_ H3_)
      | (go_at_call 57; (with_reducible refine (vec_w lo g (((W.hello m.f1 m.f2).need (chOk m)).within (fw (wN 2) m.f3) 2) ⟨#[0]⟩ 1 1 1 _ HW5.out (by omega) (by omega) HNV.out).mono ?_); rintro e_ w_ ⟨rfl, i6, f6⟩; have HW6 := Aside0.mk (show WS lo w_ g W6 from by rw [← EW6.out]; exact i6); have n_ := Aside0.mk (HF.out.trans f6); clear HF; have HF := n_; clear n_; have n_ := Aside0.mk (f6.blk HX.out HXN.out (by decide)); clear HX; have HX := n_; clear n_; have n_ := Aside0.mk (f6.blk HY.out HYN.out (by decide)); clear HY; have HY := n_; clear n_; clear i6 f6)
      | ((with_reducible refine gate_dst (N := 39) rfl ?_); refine build115 rfl rfl rfl ?_)
      | ((with_reducible refine gate_dst (N := 40) rfl ?_); refine boxT (v := .agg #[.pointer (some ⟨g, 0, none⟩), .slice none 0 0]) (cs := #[.pointer (some ⟨g, 0, none⟩), .slice none 0 0]) rfl rfl rfl rfl ?_; intro x ex w7 h7 b7; have HXS := Aside0.mk (XS.start h7); have HLX := Aside0.mk (show lo ≤ x from by have := HW6.out.size; omega); have HXX := Aside0.mk (show gb < x from by have := blk_lt HX.out; omega); have HYX := Aside0.mk (show gm < x from by have := blk_lt HY.out; omega); have HWX := Aside0.mk (show w.heap.size ≤ x from by have := HF.out.below.size; have := hsz_.out; first | omega | (rw [ex]; exact this)); have n_ := Aside0.mk (HW6.out.below b7); have f7 := Fr.of_below (g := g) HW6.out.size b7; clear HW6; have HW6 := n_; clear n_; have n_ := Aside0.mk (HF.out.trans f7); clear HF; have HF := n_; clear n_; have n_ := Aside0.mk (f7.blk HX.out HXN.out (by decide)); clear HX; have HX := n_; clear n_; have n_ := Aside0.mk (f7.blk HY.out HYN.out (by decide)); clear HY; have HY := n_; clear n_; have HG := Aside0.mk (Fx.of_fr (x := x) HF.out); clear h7 b7 f7 ex)
      | ((with_reducible refine gate_load rfl ?_); first
        | ((with_reducible refine gate_dst (N := 42) rfl ?_); refine ld (v := .pointer (some ⟨gm, 0, none⟩)) rfl rfl rfl HX.out Try.underlying85 rfl rfl ?_)
        | ((with_reducible refine gate_dst (N := 45) rfl ?_); refine ld (v := .string m.f4) rfl rfl rfl HY.out Try.underlying9 rfl rfl ?_))
      | ((with_reducible refine gate_callee (f := 80) rfl ?_); refine goesL_ (some 48) rfl rfl Try.func80 (by kernel_rfl) rfl #[.pointer (some ⟨x, 0, none⟩), .bool (!m.f4.toList.isEmpty), .int .i64 0, .func (.func 81) #[] #[.pointer (some ⟨gb, 0, none⟩)]] rfl (by (try simp only [List.map_toArray, List.map_cons, List.map_nil]); first | done | rfl) ?_; (refine (xput_w lo x g 81 _ W6 (W0.within ((W0.num 0 1).vec m.f4 2 1 64) 2) ([] : List E.S41) (!m.f4.toList.isEmpty) 0 _ HW6.out HLX.out HXS.out (fun hi => name1_w gb gm (cells m hd) m.f4 _ HX.out HY.out rfl HMB.out.b4) enters81 HLE6.out).mono ?_); rintro e_ wx0 ⟨rfl, iw, ix, f_⟩; refine ⟨_, rfl, ?_⟩; have HW7 := Aside0.mk iw; clear HXS; have HXS := Aside0.mk ix; have n_ := Aside0.mk (HG.out.trans f_); clear HG; have HG := n_; clear n_; have n_ := Aside0.mk (f_.keep _ _ _ HX.out HXN.out HXX.out (by decide)); clear HX; have HX := n_; clear n_; have n_ := Aside0.mk (f_.keep _ _ _ HY.out HYN.out HYX.out (by decide)); clear HY; have HY := n_; clear n_; clear iw ix f_))
    refine start_ (n := 13) (S := fun w' => Below wx0.heap.size wx0 w') (ds := [12]) #[false, false, false, false, false, false, false, false, false, false, false, false, false] (by kernel_rfl) rfl rfl (Below.refl wx0.heap.size wx0).drew (fun hHeld => ?_)
    have HS := Aside0.mk (Below.refl wx0.heap.size wx0).drew
    generalize wx0.drew = wd7 at HS hHeld ⊢
    refine pure_ (i := 0) (N := (some 49)) (v := ?_) (a' := ?_) #[true, false, false, false, false, false, false, false, false, false, false, false, false] rfl rfl (by kernel_rfl) (fun _ _ _ h => h) (Or.inl ⟨by rfl, ?_⟩) ?_ ?_
    rotate_left
    · intro w'
      go_simp
      with_reducible rfl
    rotate_left
    · simp only [Act.put, List.setIfInBounds_toArray, List.set_cons_zero, List.set_cons_succ]
      rfl
    refine take_ (i := 1) (N := (some 50)) (v := ?_) (a' := ?_) #[true, true, false, false, false, false, false, false, false, false, false, false, false] rfl rfl (by kernel_rfl) (fun _ _ _ h => h) (Or.inl ⟨by rfl, ?_⟩) hHeld ?_ ?_
    rotate_left
    · rintro w' hS
      have hc := (blk_cell ((hS.block gb (blk_lt HX.out)).trans HX.out) 0).trans rfl
      go_simp
      with_reducible rfl
    rotate_left
    · simp only [Act.put, List.setIfInBounds_toArray, List.set_cons_zero, List.set_cons_succ]
      rfl
    refine pure_ (i := 2) (N := (some 51)) (v := ?_) (a' := ?_) #[true, true, true, false, false, false, false, false, false, false, false, false, false] rfl rfl (by kernel_rfl) (fun _ _ _ h => h) (Or.inl ⟨by rfl, ?_⟩) ?_ ?_
    rotate_left
    · intro w'
      go_simp
      with_reducible rfl
    rotate_left
    · simp only [Act.put, List.setIfInBounds_toArray, List.set_cons_zero, List.set_cons_succ]
      rfl
    refine pure_ (i := 3) (N := (some 52)) (v := ?_) (a' := ?_) #[true, true, true, true, false, false, false, false, false, false, false, false, false] rfl rfl (by kernel_rfl) (fun _ _ _ h => h) (Or.inl ⟨by rfl, ?_⟩) ?_ ?_
    rotate_left
    · intro w'
      go_simp
      with_reducible rfl
    rotate_left
    · simp only [Act.put, List.setIfInBounds_toArray, List.set_cons_zero, List.set_cons_succ]
      rfl
    refine take_ (i := 4) (N := (some 53)) (v := ?_) (a' := ?_) #[true, true, true, true, true, false, false, false, false, false, false, false, false] rfl rfl (by kernel_rfl) (fun _ _ _ h => h) (Or.inl ⟨by rfl, ?_⟩) hHeld ?_ ?_
    rotate_left
    · rintro w' hS
      have hc := ((blk_cell ((hS.block gm (blk_lt HY.out)).trans HY.out) 6).trans (show (cells m hd)[6]? = some (.slice hd.A6 m.f6.length hd.c6) from rfl))
      go_simp
      with_reducible rfl
    rotate_left
    · simp only [Act.put, List.setIfInBounds_toArray, List.set_cons_zero, List.set_cons_succ]
      rfl
    refine pure_ (i := 5) (N := (some 54)) (v := ?_) (a' := ?_) #[true, true, true, true, true, true, false, false, false, false, false, false, false] rfl rfl (by kernel_rfl) (fun _ _ _ h => h) (Or.inl ⟨by rfl, ?_⟩) ?_ ?_
    rotate_left
    · intro w'
      go_simp
      with_reducible rfl
    rotate_left
    · simp only [Act.put, List.setIfInBounds_toArray, List.set_cons_zero, List.set_cons_succ]
      rfl
    refine pure_ (i := 6) (N := (some 55)) (v := ?_) (a' := ?_) #[true, true, true, true, true, true, true, false, false, false, false, false, false] rfl rfl (by kernel_rfl) (fun _ _ _ h => h) (Or.inl ⟨by rfl, ?_⟩) ?_ ?_
    rotate_left
    · intro w'
      go_simp
      with_reducible rfl
    rotate_left
    · simp only [Act.put, List.setIfInBounds_toArray, List.set_cons_zero, List.set_cons_succ]
      rfl
    refine take_ (i := 7) (N := (some 56)) (v := ?_) (a' := ?_) #[true, true, true, true, true, true, true, true, false, false, false, false, false] rfl rfl (by kernel_rfl) (fun _ _ _ h => h) (Or.inl ⟨by rfl, ?_⟩) hHeld ?_ ?_
    rotate_left
    · rintro w' hS
      have hc := (blk_cell ((hS.block gb (blk_lt HX.out)).trans HX.out) 0).trans rfl
      go_simp
      with_reducible rfl
    rotate_left
    · simp only [Act.put, List.setIfInBounds_toArray, List.set_cons_zero, List.set_cons_succ]
      rfl
    refine pure_ (i := 8) (N := (some 57)) (v := ?_) (a' := ?_) #[true, true, true, true, true, true, true, true, true, false, false, false, false] rfl rfl (by kernel_rfl) (fun _ _ _ h => h) (Or.inl ⟨by rfl, ?_⟩) ?_ ?_
    rotate_left
    · intro w'
      go_simp
      with_reducible rfl
    rotate_left
    · simp only [Act.put, List.setIfInBounds_toArray, List.set_cons_zero, List.set_cons_succ]
      rfl
    refine pure_ (i := 9) (N := (some 58)) (v := ?_) (a' := ?_) #[true, true, true, true, true, true, true, true, true, true, false, false, false] rfl rfl (by kernel_rfl) (fun _ _ _ h => h) (Or.inl ⟨by rfl, ?_⟩) ?_ ?_
    rotate_left
    · intro w'
      go_simp
      with_reducible rfl
    rotate_left
    · simp only [Act.put, List.setIfInBounds_toArray, List.set_cons_zero, List.set_cons_succ]
      rfl
    refine take_ (i := 10) (N := (some 59)) (v := ?_) (a' := ?_) #[true, true, true, true, true, true, true, true, true, true, true, false, false] rfl rfl (by kernel_rfl) (fun _ _ _ h => h) (Or.inl ⟨by rfl, ?_⟩) hHeld ?_ ?_
    rotate_left
    · rintro w' hS
      have hc := ((blk_cell ((hS.block gm (blk_lt HY.out)).trans HY.out) 6).trans (show (cells m hd)[6]? = some (.slice hd.A6 m.f6.length hd.c6) from rfl))
      go_simp
      with_reducible rfl
    rotate_left
    · simp only [Act.put, List.setIfInBounds_toArray, List.set_cons_zero, List.set_cons_succ]
      rfl
    refine one_ (i := 11) (N := (some 60)) #[true, true, true, true, true, true, true, true, true, true, true, true, false] rfl rfl (by kernel_rfl) (by decide) (fun K hK => ?_)
    refine goes_ (f := 79) Try.func79 (by kernel_rfl) rfl #[.slice hd.A6 m.f6.length hd.c6, .int .i64 2, .int .i64 2] (by rfl) rfl rfl (by (try simp only [List.map_toArray, List.map_cons, List.map_nil]); first | done | rfl) ?_
    refine (nums_w hd.A6 hd.c6 m.f6 2 2 _).mono ?_
    rintro e wn1 ⟨bs, bx, bw, rfl, h1_, h2_, h3_, b_⟩
    refine ⟨_, rfl, ?_⟩
    have HS2 := Aside0.mk (below_step HS.out b_)
    clear b_
    refine hK.out _ _ (HS2.out) (fun hHeld => ?_)
    clear hK K
    refine norm_ (a' := ?_) ?_ ?_
    rotate_left
    · show Act.put _ (some 60) _ = _
      simp only [Act.put, List.setIfInBounds_toArray, List.set_cons_zero, List.set_cons_succ]
      rfl
    refine last_ (i := 12) (N := (some 61)) #[true, true, true, true, true, true, true, true, true, true, true, true, true] rfl rfl (by kernel_rfl) (by decide) (fun K hK => ?_)
    refine goes_ (f := 80) Try.func80 (by kernel_rfl) rfl #[.pointer (some ⟨x, 0, none⟩), .bool (decide (0 < m.f6.length)), .int .i64 10, .func (.func 106) #[] #[.pointer (some ⟨bs, 0, none⟩), .pointer (some ⟨bx, 0, none⟩), .pointer (some ⟨bw, 0, none⟩)]] (by rfl) rfl rfl (by (try simp only [List.map_toArray, List.map_cons, List.map_nil]); first | done | rfl) ?_
    refine (xput_w lo x g 106 _ (xPut (!m.f4.toList.isEmpty) W6 (W0.within ((W0.num 0 1).vec m.f4 2 1 64) 2)) (W0.within (fw (wN 2) m.f6) 2) (xPutL (!m.f4.toList.isEmpty) 0 (W0.within ((W0.num 0 1).vec m.f4 2 1 64) 2) ([] : List E.S41)) (decide (0 < m.f6.length)) 10 _ (HW7.out.below HS2.out) HLX.out (HXS.out.below HS2.out) (fun hi => nums1_w bs bx bw 2 2 (by omega) (by omega) (by omega) (by omega) hd.A6 hd.c6 m.f6 _ h1_ h2_ h3_ (Kd.C_below HR.out.r6 ((HB0.out.trans (HG.out.below.mono HL.out)).trans (HS2.out.mono (HB0.out.trans (HG.out.below.mono HL.out)).size))) HR.out.l6 HMB.out.b6) enters106 HLE7.out).mono ?_
    rintro e wx1 ⟨rfl, iw, ix, f_⟩
    refine ⟨_, rfl, ?_⟩
    have HW8 := Aside0.mk iw
    have fq := (Fx.of_fr (x := x) (Fr.of_below (g := g) HW7.out.size HS2.out)).trans f_
    clear HXS
    have HXS := Aside0.mk ix
    have n_ := Aside0.mk (HG.out.trans fq)
    clear HG
    have HG := n_
    clear n_
    have n_ := Aside0.mk (fq.keep _ _ _ HX.out HXN.out HXX.out (by decide))
    clear HX
    have HX := n_
    clear n_
    have n_ := Aside0.mk (fq.keep _ _ _ HY.out HYN.out HYX.out (by decide))
    clear HY
    have HY := n_
    clear n_
    clear iw ix f_ fq HS HS2
    refine hK.out _ _ ?_
    clear hK K
    refine norm_ (a' := ?_) ?_ ?_
    rotate_left
    · show Act.put _ (some 61) _ = _
      simp only [Act.put, List.setIfInBounds_toArray, List.set_cons_zero, List.set_cons_succ]
      rfl
    refine done_ (by kernel_rfl) ?_
    go_wp2
    refine start_ (n := 13) (S := fun w' => Below wx1.heap.size wx1 w') (ds := [12]) #[false, false, false, false, false, false, false, false, false, false, false, false, false] (by kernel_rfl) rfl rfl (Below.refl wx1.heap.size wx1).drew (fun hHeld => ?_)
    have HS := Aside0.mk (Below.refl wx1.heap.size wx1).drew
    generalize wx1.drew = wd8 at HS hHeld ⊢
    refine pure_ (i := 0) (N := (some 62)) (v := ?_) (a' := ?_) #[true, false, false, false, false, false, false, false, false, false, false, false, false] rfl rfl (by kernel_rfl) (fun _ _ _ h => h) (Or.inl ⟨by rfl, ?_⟩) ?_ ?_
    rotate_left
    · intro w'
      go_simp
      with_reducible rfl
    rotate_left
    · simp only [Act.put, List.setIfInBounds_toArray, List.set_cons_zero, List.set_cons_succ]
      rfl
    refine take_ (i := 1) (N := (some 63)) (v := ?_) (a' := ?_) #[true, true, false, false, false, false, false, false, false, false, false, false, false] rfl rfl (by kernel_rfl) (fun _ _ _ h => h) (Or.inl ⟨by rfl, ?_⟩) hHeld ?_ ?_
    rotate_left
    · rintro w' hS
      have hc := (blk_cell ((hS.block gb (blk_lt HX.out)).trans HX.out) 0).trans rfl
      go_simp
      with_reducible rfl
    rotate_left
    · simp only [Act.put, List.setIfInBounds_toArray, List.set_cons_zero, List.set_cons_succ]
      rfl
    refine pure_ (i := 2) (N := (some 64)) (v := ?_) (a' := ?_) #[true, true, true, false, false, false, false, false, false, false, false, false, false] rfl rfl (by kernel_rfl) (fun _ _ _ h => h) (Or.inl ⟨by rfl, ?_⟩) ?_ ?_
    rotate_left
    · intro w'
      go_simp
      with_reducible rfl
    rotate_left
    · simp only [Act.put, List.setIfInBounds_toArray, List.set_cons_zero, List.set_cons_succ]
      rfl
    refine pure_ (i := 3) (N := (some 65)) (v := ?_) (a' := ?_) #[true, true, true, true, false, false, false, false, false, false, false, false, false] rfl rfl (by kernel_rfl) (fun _ _ _ h => h) (Or.inl ⟨by rfl, ?_⟩) ?_ ?_
    rotate_left
    · intro w'
      go_simp
      with_reducible rfl
    rotate_left
    · simp only [Act.put, List.setIfInBounds_toArray, List.set_cons_zero, List.set_cons_succ]
      rfl
    refine take_ (i := 4) (N := (some 66)) (v := ?_) (a' := ?_) #[true, true, true, true, true, false, false, false, false, false, false, false, false] rfl rfl (by kernel_rfl) (fun _ _ _ h => h) (Or.inl ⟨by rfl, ?_⟩) hHeld ?_ ?_
    rotate_left
    · rintro w' hS
      have hc := ((blk_cell ((hS.block gm (blk_lt HY.out)).trans HY.out) 7).trans (show (cells m hd)[7]? = some (.slice hd.A7 m.f7.length hd.c7) from rfl))
      go_simp
      with_reducible rfl
    rotate_left
    · simp only [Act.put, List.setIfInBounds_toArray, List.set_cons_zero, List.set_cons_succ]
      rfl
    refine pure_ (i := 5) (N := (some 67)) (v := ?_) (a' := ?_) #[true, true, true, true, true, true, false, false, false, false, false, false, false] rfl rfl (by kernel_rfl) (fun _ _ _ h => h) (Or.inl ⟨by rfl, ?_⟩) ?_ ?_
    rotate_left
    · intro w'
      go_simp
      with_reducible rfl
    rotate_left
    · simp only [Act.put, List.setIfInBounds_toArray, List.set_cons_zero, List.set_cons_succ]
      rfl
    refine pure_ (i := 6) (N := (some 68)) (v := ?_) (a' := ?_) #[true, true, true, true, true, true, true, false, false, false, false, false, false] rfl rfl (by kernel_rfl) (fun _ _ _ h => h) (Or.inl ⟨by rfl, ?_⟩) ?_ ?_
    rotate_left
    · intro w'
      go_simp
      with_reducible rfl
    rotate_left
    · simp only [Act.put, List.setIfInBounds_toArray, List.set_cons_zero, List.set_cons_succ]
      rfl
    refine take_ (i := 7) (N := (some 69)) (v := ?_) (a' := ?_) #[true, true, true, true, true, true, true, true, false, false, false, false, false] rfl rfl (by kernel_rfl) (fun _ _ _ h => h) (Or.inl ⟨by rfl, ?_⟩) hHeld ?_ ?_
    rotate_left
    · rintro w' hS
      have hc := (blk_cell ((hS.block gb (blk_lt HX.out)).trans HX.out) 0).trans rfl
      go_simp
      with_reducible rfl
    rotate_left
    · simp only [Act.put, List.setIfInBounds_toArray, List.set_cons_zero, List.set_cons_succ]
      rfl
    refine pure_ (i := 8) (N := (some 70)) (v := ?_) (a' := ?_) #[true, true, true, true, true, true, true, true, true, false, false, false, false] rfl rfl (by kernel_rfl) (fun _ _ _ h => h) (Or.inl ⟨by rfl, ?_⟩) ?_ ?_
    rotate_left
    · intro w'
      go_simp
      with_reducible rfl
    rotate_left
    · simp only [Act.put, List.setIfInBounds_toArray, List.set_cons_zero, List.set_cons_succ]
      rfl
    refine pure_ (i := 9) (N := (some 71)) (v := ?_) (a' := ?_) #[true, true, true, true, true, true, true, true, true, true, false, false, false] rfl rfl (by kernel_rfl) (fun _ _ _ h => h) (Or.inl ⟨by rfl, ?_⟩) ?_ ?_
    rotate_left
    · intro w'
      go_simp
      with_reducible rfl
    rotate_left
    · simp only [Act.put, List.setIfInBounds_toArray, List.set_cons_zero, List.set_cons_succ]
      rfl
    refine take_ (i := 10) (N := (some 72)) (v := ?_) (a' := ?_) #[true, true, true, true, true, true, true, true, true, true, true, false, false] rfl rfl (by kernel_rfl) (fun _ _ _ h => h) (Or.inl ⟨by rfl, ?_⟩) hHeld ?_ ?_
    rotate_left
    · rintro w' hS
      have hc := ((blk_cell ((hS.block gm (blk_lt HY.out)).trans HY.out) 7).trans (show (cells m hd)[7]? = some (.slice hd.A7 m.f7.length hd.c7) from rfl))
      go_simp
      with_reducible rfl
    rotate_left
    · simp only [Act.put, List.setIfInBounds_toArray, List.set_cons_zero, List.set_cons_succ]
      rfl
    refine one_ (i := 11) (N := (some 73)) #[true, true, true, true, true, true, true, true, true, true, true, true, false] rfl rfl (by kernel_rfl) (by decide) (fun K hK => ?_)
    refine goes_ (f := 79) Try.func79 (by kernel_rfl) rfl #[.slice hd.A7 m.f7.length hd.c7, .int .i64 2, .int .i64 2] (by rfl) rfl rfl (by (try simp only [List.map_toArray, List.map_cons, List.map_nil]); first | done | rfl) ?_
    refine (nums_w hd.A7 hd.c7 m.f7 2 2 _).mono ?_
    rintro e wn2 ⟨bs, bx, bw, rfl, h1_, h2_, h3_, b_⟩
    refine ⟨_, rfl, ?_⟩
    have HS2 := Aside0.mk (below_step HS.out b_)
    clear b_
    refine hK.out _ _ (HS2.out) (fun hHeld => ?_)
    clear hK K
    refine norm_ (a' := ?_) ?_ ?_
    rotate_left
    · show Act.put _ (some 73) _ = _
      simp only [Act.put, List.setIfInBounds_toArray, List.set_cons_zero, List.set_cons_succ]
      rfl
    refine last_ (i := 12) (N := (some 74)) #[true, true, true, true, true, true, true, true, true, true, true, true, true] rfl rfl (by kernel_rfl) (by decide) (fun K hK => ?_)
    refine goes_ (f := 80) Try.func80 (by kernel_rfl) rfl #[.pointer (some ⟨x, 0, none⟩), .bool (decide (0 < m.f7.length)), .int .i64 13, .func (.func 106) #[] #[.pointer (some ⟨bs, 0, none⟩), .pointer (some ⟨bx, 0, none⟩), .pointer (some ⟨bw, 0, none⟩)]] (by rfl) rfl rfl (by (try simp only [List.map_toArray, List.map_cons, List.map_nil]); first | done | rfl) ?_
    refine (xput_w lo x g 106 _ (xPut (decide (0 < m.f6.length)) (xPut (!m.f4.toList.isEmpty) W6 (W0.within ((W0.num 0 1).vec m.f4 2 1 64) 2)) (W0.within (fw (wN 2) m.f6) 2)) (W0.within (fw (wN 2) m.f7) 2) (xPutL (decide (0 < m.f6.length)) 10 (W0.within (fw (wN 2) m.f6) 2) (xPutL (!m.f4.toList.isEmpty) 0 (W0.within ((W0.num 0 1).vec m.f4 2 1 64) 2) ([] : List E.S41))) (decide (0 < m.f7.length)) 13 _ (HW8.out.below HS2.out) HLX.out (HXS.out.below HS2.out) (fun hi => nums1_w bs bx bw 2 2 (by omega) (by omega) (by omega) (by omega) hd.A7 hd.c7 m.f7 _ h1_ h2_ h3_ (Kd.C_below HR.out.r7 ((HB0.out.trans (HG.out.below.mono HL.out)).trans (HS2.out.mono (HB0.out.trans (HG.out.below.mono HL.out)).size))) HR.out.l7 HMB.out.b7) enters106 HLE8.out).mono ?_
    rintro e wx2 ⟨rfl, iw, ix, f_⟩
    refine ⟨_, rfl, ?_⟩
    have HW9 := Aside0.mk iw
    have fq := (Fx.of_fr (x := x) (Fr.of_below (g := g) HW8.out.size HS2.out)).trans f_
    clear HXS
    have HXS := Aside0.mk ix
    have n_ := Aside0.mk (HG.out.trans fq)
    clear HG
    have HG := n_
    clear n_
    have n_ := Aside0.mk (fq.keep _ _ _ HX.out HXN.out HXX.out (by decide))
    clear HX
    have HX := n_
    clear n_
    have n_ := Aside0.mk (fq.keep _ _ _ HY.out HYN.out HYX.out (by decide))
    clear HY
    have HY := n_
    clear n_
    clear iw ix f_ fq HS HS2
    refine hK.out _ _ ?_
    clear hK K
    refine norm_ (a' := ?_) ?_ ?_
    rotate_left
    · show Act.put _ (some 74) _ = _
      simp only [Act.put, List.setIfInBounds_toArray, List.set_cons_zero, List.set_cons_succ]
      rfl
    refine done_ (by kernel_rfl) ?_
    go_wp2
    refine start_ (n := 13) (S := fun w' => Below wx2.heap.size wx2 w') (ds := [12]) #[false, false, false, false, false, false, false, false, false, false, false, false, false] (by kernel_rfl) rfl rfl (Below.refl wx2.heap.size wx2).drew (fun hHeld => ?_)
    have HS := Aside0.mk (Below.refl wx2.heap.size wx2).drew
    generalize wx2.drew = wd9 at HS hHeld ⊢
    refine pure_ (i := 0) (N := (some 75)) (v := ?_) (a' := ?_) #[true, false, false, false, false, false, false, false, false, false, false, false, false] rfl rfl (by kernel_rfl) (fun _ _ _ h => h) (Or.inl ⟨by rfl, ?_⟩) ?_ ?_
    rotate_left
    · intro w'
      go_simp
      with_reducible rfl
    rotate_left
    · simp only [Act.put, List.setIfInBounds_toArray, List.set_cons_zero, List.set_cons_succ]
      rfl
    refine take_ (i := 1) (N := (some 76)) (v := ?_) (a' := ?_) #[true, true, false, false, false, false, false, false, false, false, false, false, false] rfl rfl (by kernel_rfl) (fun _ _ _ h => h) (Or.inl ⟨by rfl, ?_⟩) hHeld ?_ ?_
    rotate_left
    · rintro w' hS
      have hc := (blk_cell ((hS.block gb (blk_lt HX.out)).trans HX.out) 0).trans rfl
      go_simp
      with_reducible rfl
    rotate_left
    · simp only [Act.put, List.setIfInBounds_toArray, List.set_cons_zero, List.set_cons_succ]
      rfl
    refine pure_ (i := 2) (N := (some 77)) (v := ?_) (a' := ?_) #[true, true, true, false, false, false, false, false, false, false, false, false, false] rfl rfl (by kernel_rfl) (fun _ _ _ h => h) (Or.inl ⟨by rfl, ?_⟩) ?_ ?_
    rotate_left
    · intro w'
      go_simp
      with_reducible rfl
    rotate_left
    · simp only [Act.put, List.setIfInBounds_toArray, List.set_cons_zero, List.set_cons_succ]
      rfl
    refine pure_ (i := 3) (N := (some 78)) (v := ?_) (a' := ?_) #[true, true, true, true, false, false, false, false, false, false, false, false, false] rfl rfl (by kernel_rfl) (fun _ _ _ h => h) (Or.inl ⟨by rfl, ?_⟩) ?_ ?_
    rotate_left
    · intro w'
      go_simp
      with_reducible rfl
    rotate_left
    · simp only [Act.put, List.setIfInBounds_toArray, List.set_cons_zero, List.set_cons_succ]
      rfl
    refine take_ (i := 4) (N := (some 79)) (v := ?_) (a' := ?_) #[true, true, true, true, true, false, false, false, false, false, false, false, false] rfl rfl (by kernel_rfl) (fun _ _ _ h => h) (Or.inl ⟨by rfl, ?_⟩) hHeld ?_ ?_
    rotate_left
    · rintro w' hS
      have hc := ((blk_cell ((hS.block gm (blk_lt HY.out)).trans HY.out) 5).trans (show (cells m hd)[5]? = some (.slice hd.A5 m.f5.length hd.c5) from rfl))
      go_simp
      with_reducible rfl
    rotate_left
    · simp only [Act.put, List.setIfInBounds_toArray, List.set_cons_zero, List.set_cons_succ]
      rfl
    refine pure_ (i := 5) (N := (some 80)) (v := ?_) (a' := ?_) #[true, true, true, true, true, true, false, false, false, false, false, false, false] rfl rfl (by kernel_rfl) (fun _ _ _ h => h) (Or.inl ⟨by rfl, ?_⟩) ?_ ?_
    rotate_left
    · intro w'
      go_simp
      with_reducible rfl
    rotate_left
    · simp only [Act.put, List.setIfInBounds_toArray, List.set_cons_zero, List.set_cons_succ]
      rfl
    refine pure_ (i := 6) (N := (some 81)) (v := ?_) (a' := ?_) #[true, true, true, true, true, true, true, false, false, false, false, false, false] rfl rfl (by kernel_rfl) (fun _ _ _ h => h) (Or.inl ⟨by rfl, ?_⟩) ?_ ?_
    rotate_left
    · intro w'
      go_simp
      with_reducible rfl
    rotate_left
    · simp only [Act.put, List.setIfInBounds_toArray, List.set_cons_zero, List.set_cons_succ]
      rfl
    refine take_ (i := 7) (N := (some 82)) (v := ?_) (a' := ?_) #[true, true, true, true, true, true, true, true, false, false, false, false, false] rfl rfl (by kernel_rfl) (fun _ _ _ h => h) (Or.inl ⟨by rfl, ?_⟩) hHeld ?_ ?_
    rotate_left
    · rintro w' hS
      have hc := (blk_cell ((hS.block gb (blk_lt HX.out)).trans HX.out) 0).trans rfl
      go_simp
      with_reducible rfl
    rotate_left
    · simp only [Act.put, List.setIfInBounds_toArray, List.set_cons_zero, List.set_cons_succ]
      rfl
    refine pure_ (i := 8) (N := (some 83)) (v := ?_) (a' := ?_) #[true, true, true, true, true, true, true, true, true, false, false, false, false] rfl rfl (by kernel_rfl) (fun _ _ _ h => h) (Or.inl ⟨by rfl, ?_⟩) ?_ ?_
    rotate_left
    · intro w'
      go_simp
      with_reducible rfl
    rotate_left
    · simp only [Act.put, List.setIfInBounds_toArray, List.set_cons_zero, List.set_cons_succ]
      rfl
    refine pure_ (i := 9) (N := (some 84)) (v := ?_) (a' := ?_) #[true, true, true, true, true, true, true, true, true, true, false, false, false] rfl rfl (by kernel_rfl) (fun _ _ _ h => h) (Or.inl ⟨by rfl, ?_⟩) ?_ ?_
    rotate_left
    · intro w'
      go_simp
      with_reducible rfl
    rotate_left
    · simp only [Act.put, List.setIfInBounds_toArray, List.set_cons_zero, List.set_cons_succ]
      rfl
    refine take_ (i := 10) (N := (some 85)) (v := ?_) (a' := ?_) #[true, true, true, true, true, true, true, true, true, true, true, false, false] rfl rfl (by kernel_rfl) (fun _ _ _ h => h) (Or.inl ⟨by rfl, ?_⟩) hHeld ?_ ?_
    rotate_left
    · rintro w' hS
      have hc := ((blk_cell ((hS.block gm (blk_lt HY.out)).trans HY.out) 5).trans (show (cells m hd)[5]? = some (.slice hd.A5 m.f5.length hd.c5) from rfl))
      go_simp
      with_reducible rfl
    rotate_left
    · simp only [Act.put, List.setIfInBounds_toArray, List.set_cons_zero, List.set_cons_succ]
      rfl
    refine one_ (i := 11) (N := (some 86)) #[true, true, true, true, true, true, true, true, true, true, true, true, false] rfl rfl (by kernel_rfl) (by decide) (fun K hK => ?_)
    refine goes_ (f := 79) Try.func79 (by kernel_rfl) rfl #[.slice hd.A5 m.f5.length hd.c5, .int .i64 1, .int .i64 2] (by rfl) rfl rfl (by (try simp only [List.map_toArray, List.map_cons, List.map_nil]); first | done | rfl) ?_
    refine (nums_w hd.A5 hd.c5 m.f5 1 2 _).mono ?_
    rintro e wn3 ⟨bs, bx, bw, rfl, h1_, h2_, h3_, b_⟩
    refine ⟨_, rfl, ?_⟩
    have HS2 := Aside0.mk (below_step HS.out b_)
    clear b_
    refine hK.out _ _ (HS2.out) (fun hHeld => ?_)
    clear hK K
    refine norm_ (a' := ?_) ?_ ?_
    rotate_left
    · show Act.put _ (some 86) _ = _
      simp only [Act.put, List.setIfInBounds_toArray, List.set_cons_zero, List.set_cons_succ]
      rfl
    refine last_ (i := 12) (N := (some 87)) #[true, true, true, true, true, true, true, true, true, true, true, true, true] rfl rfl (by kernel_rfl) (by decide) (fun K hK => ?_)
    refine goes_ (f := 80) Try.func80 (by kernel_rfl) rfl #[.pointer (some ⟨x, 0, none⟩), .bool (decide (0 < m.f5.length)), .int .i64 43, .func (.func 106) #[] #[.pointer (some ⟨bs, 0, none⟩), .pointer (some ⟨bx, 0, none⟩), .pointer (some ⟨bw, 0, none⟩)]] (by rfl) rfl rfl (by (try simp only [List.map_toArray, List.map_cons, List.map_nil]); first | done | rfl) ?_
    refine (xput_w lo x g 106 _ (xPut (decide (0 < m.f7.length)) (xPut (decide (0 < m.f6.length)) (xPut (!m.f4.toList.isEmpty) W6 (W0.within ((W0.num 0 1).vec m.f4 2 1 64) 2)) (W0.within (fw (wN 2) m.f6) 2)) (W0.within (fw (wN 2) m.f7) 2)) (W0.within (fw (wN 2) m.f5) 1) (xPutL (decide (0 < m.f7.length)) 13 (W0.within (fw (wN 2) m.f7) 2) (xPutL (decide (0 < m.f6.length)) 10 (W0.within (fw (wN 2) m.f6) 2) (xPutL (!m.f4.toList.isEmpty) 0 (W0.within ((W0.num 0 1).vec m.f4 2 1 64) 2) ([] : List E.S41)))) (decide (0 < m.f5.length)) 43 _ (HW9.out.below HS2.out) HLX.out (HXS.out.below HS2.out) (fun hi => nums1_w bs bx bw 1 2 (by omega) (by omega) (by omega) (by omega) hd.A5 hd.c5 m.f5 _ h1_ h2_ h3_ (Kd.C_below HR.out.r5 ((HB0.out.trans (HG.out.below.mono HL.out)).trans (HS2.out.mono (HB0.out.trans (HG.out.below.mono HL.out)).size))) HR.out.l5 HMB.out.b5) enters106 HLE9.out).mono ?_
    rintro e wx3 ⟨rfl, iw, ix, f_⟩
    refine ⟨_, rfl, ?_⟩
    have HW10 := Aside0.mk iw
    have fq := (Fx.of_fr (x := x) (Fr.of_below (g := g) HW9.out.size HS2.out)).trans f_
    clear HXS
    have HXS := Aside0.mk ix
    have n_ := Aside0.mk (HG.out.trans fq)
    clear HG
    have HG := n_
    clear n_
    have n_ := Aside0.mk (fq.keep _ _ _ HX.out HXN.out HXX.out (by decide))
    clear HX
    have HX := n_
    clear n_
    have n_ := Aside0.mk (fq.keep _ _ _ HY.out HYN.out HYX.out (by decide))
    clear HY
    have HY := n_
    clear n_
    clear iw ix f_ fq HS HS2
    refine hK.out _ _ ?_
    clear hK K
    refine norm_ (a' := ?_) ?_ ?_
    rotate_left
    · show Act.put _ (some 87) _ = _
      simp only [Act.put, List.setIfInBounds_toArray, List.set_cons_zero, List.set_cons_succ]
      rfl
    refine done_ (by kernel_rfl) ?_
    go_wp2
    refine start_ (n := 13) (S := fun w' => Below wx3.heap.size wx3 w') (ds := [12]) #[false, false, false, false, false, false, false, false, false, false, false, false, false] (by kernel_rfl) rfl rfl (Below.refl wx3.heap.size wx3).drew (fun hHeld => ?_)
    have HS := Aside0.mk (Below.refl wx3.heap.size wx3).drew
    generalize wx3.drew = wd10 at HS hHeld ⊢
    refine pure_ (i := 0) (N := (some 88)) (v := ?_) (a' := ?_) #[true, false, false, false, false, false, false, false, false, false, false, false, false] rfl rfl (by kernel_rfl) (fun _ _ _ h => h) (Or.inl ⟨by rfl, ?_⟩) ?_ ?_
    rotate_left
    · intro w'
      go_simp
      with_reducible rfl
    rotate_left
    · simp only [Act.put, List.setIfInBounds_toArray, List.set_cons_zero, List.set_cons_succ]
      rfl
    refine take_ (i := 1) (N := (some 89)) (v := ?_) (a' := ?_) #[true, true, false, false, false, false, false, false, false, false, false, false, false] rfl rfl (by kernel_rfl) (fun _ _ _ h => h) (Or.inl ⟨by rfl, ?_⟩) hHeld ?_ ?_
    rotate_left
    · rintro w' hS
      have hc := (blk_cell ((hS.block gb (blk_lt HX.out)).trans HX.out) 0).trans rfl
      go_simp
      with_reducible rfl
    rotate_left
    · simp only [Act.put, List.setIfInBounds_toArray, List.set_cons_zero, List.set_cons_succ]
      rfl
    refine pure_ (i := 2) (N := (some 90)) (v := ?_) (a' := ?_) #[true, true, true, false, false, false, false, false, false, false, false, false, false] rfl rfl (by kernel_rfl) (fun _ _ _ h => h) (Or.inl ⟨by rfl, ?_⟩) ?_ ?_
    rotate_left
    · intro w'
      go_simp
      with_reducible rfl
    rotate_left
    · simp only [Act.put, List.setIfInBounds_toArray, List.set_cons_zero, List.set_cons_succ]
      rfl
    refine pure_ (i := 3) (N := (some 91)) (v := ?_) (a' := ?_) #[true, true, true, true, false, false, false, false, false, false, false, false, false] rfl rfl (by kernel_rfl) (fun _ _ _ h => h) (Or.inl ⟨by rfl, ?_⟩) ?_ ?_
    rotate_left
    · intro w'
      go_simp
      with_reducible rfl
    rotate_left
    · simp only [Act.put, List.setIfInBounds_toArray, List.set_cons_zero, List.set_cons_succ]
      rfl
    refine take_ (i := 4) (N := (some 92)) (v := ?_) (a' := ?_) #[true, true, true, true, true, false, false, false, false, false, false, false, false] rfl rfl (by kernel_rfl) (fun _ _ _ h => h) (Or.inl ⟨by rfl, ?_⟩) hHeld ?_ ?_
    rotate_left
    · rintro w' hS
      have hc := ((blk_cell ((hS.block gm (blk_lt HY.out)).trans HY.out) 8).trans (show (cells m hd)[8]? = some (.slice hd.A8 m.f8.length hd.c8) from rfl))
      go_simp
      with_reducible rfl
    rotate_left
    · simp only [Act.put, List.setIfInBounds_toArray, List.set_cons_zero, List.set_cons_succ]
      rfl
    refine pure_ (i := 5) (N := (some 93)) (v := ?_) (a' := ?_) #[true, true, true, true, true, true, false, false, false, false, false, false, false] rfl rfl (by kernel_rfl) (fun _ _ _ h => h) (Or.inl ⟨by rfl, ?_⟩) ?_ ?_
    rotate_left
    · intro w'
      go_simp
      with_reducible rfl
    rotate_left
    · simp only [Act.put, List.setIfInBounds_toArray, List.set_cons_zero, List.set_cons_succ]
      rfl
    refine pure_ (i := 6) (N := (some 94)) (v := ?_) (a' := ?_) #[true, true, true, true, true, true, true, false, false, false, false, false, false] rfl rfl (by kernel_rfl) (fun _ _ _ h => h) (Or.inl ⟨by rfl, ?_⟩) ?_ ?_
    rotate_left
    · intro w'
      go_simp
      with_reducible rfl
    rotate_left
    · simp only [Act.put, List.setIfInBounds_toArray, List.set_cons_zero, List.set_cons_succ]
      rfl
    refine take_ (i := 7) (N := (some 95)) (v := ?_) (a' := ?_) #[true, true, true, true, true, true, true, true, false, false, false, false, false] rfl rfl (by kernel_rfl) (fun _ _ _ h => h) (Or.inl ⟨by rfl, ?_⟩) hHeld ?_ ?_
    rotate_left
    · rintro w' hS
      have hc := (blk_cell ((hS.block gb (blk_lt HX.out)).trans HX.out) 0).trans rfl
      go_simp
      with_reducible rfl
    rotate_left
    · simp only [Act.put, List.setIfInBounds_toArray, List.set_cons_zero, List.set_cons_succ]
      rfl
    refine pure_ (i := 8) (N := (some 96)) (v := ?_) (a' := ?_) #[true, true, true, true, true, true, true, true, true, false, false, false, false] rfl rfl (by kernel_rfl) (fun _ _ _ h => h) (Or.inl ⟨by rfl, ?_⟩) ?_ ?_
    rotate_left
    · intro w'
      go_simp
      with_reducible rfl
    rotate_left
    · simp only [Act.put, List.setIfInBounds_toArray, List.set_cons_zero, List.set_cons_succ]
      rfl
    refine pure_ (i := 9) (N := (some 97)) (v := ?_) (a' := ?_) #[true, true, true, true, true, true, true, true, true, true, false, false, false] rfl rfl (by kernel_rfl) (fun _ _ _ h => h) (Or.inl ⟨by rfl, ?_⟩) ?_ ?_
    rotate_left
    · intro w'
      go_simp
      with_reducible rfl
    rotate_left
    · simp only [Act.put, List.setIfInBounds_toArray, List.set_cons_zero, List.set_cons_succ]
      rfl
    refine take_ (i := 10) (N := (some 98)) (v := ?_) (a' := ?_) #[true, true, true, true, true, true, true, true, true, true, true, false, false] rfl rfl (by kernel_rfl) (fun _ _ _ h => h) (Or.inl ⟨by rfl, ?_⟩) hHeld ?_ ?_
    rotate_left
    · rintro w' hS
      have hc := ((blk_cell ((hS.block gm (blk_lt HY.out)).trans HY.out) 8).trans (show (cells m hd)[8]? = some (.slice hd.A8 m.f8.length hd.c8) from rfl))
      go_simp
      with_reducible rfl
    rotate_left
    · simp only [Act.put, List.setIfInBounds_toArray, List.set_cons_zero, List.set_cons_succ]
      rfl
    refine one_ (i := 11) (N := (some 99)) #[true, true, true, true, true, true, true, true, true, true, true, true, false] rfl rfl (by kernel_rfl) (by decide) (fun K hK => ?_)
    refine goes_ (f := 79) Try.func79 (by kernel_rfl) rfl #[.slice hd.A8 m.f8.length hd.c8, .int .i64 1, .int .i64 1] (by rfl) rfl rfl (by (try simp only [List.map_toArray, List.map_cons, List.map_nil]); first | done | rfl) ?_
    refine (nums_w hd.A8 hd.c8 m.f8 1 1 _).mono ?_
    rintro e wn4 ⟨bs, bx, bw, rfl, h1_, h2_, h3_, b_⟩
    refine ⟨_, rfl, ?_⟩
    have HS2 := Aside0.mk (below_step HS.out b_)
    clear b_
    refine hK.out _ _ (HS2.out) (fun hHeld => ?_)
    clear hK K
    refine norm_ (a' := ?_) ?_ ?_
    rotate_left
    · show Act.put _ (some 99) _ = _
      simp only [Act.put, List.setIfInBounds_toArray, List.set_cons_zero, List.set_cons_succ]
      rfl
    refine last_ (i := 12) (N := (some 100)) #[true, true, true, true, true, true, true, true, true, true, true, true, true] rfl rfl (by kernel_rfl) (by decide) (fun K hK => ?_)
    refine goes_ (f := 80) Try.func80 (by kernel_rfl) rfl #[.pointer (some ⟨x, 0, none⟩), .bool (decide (0 < m.f8.length)), .int .i64 45, .func (.func 106) #[] #[.pointer (some ⟨bs, 0, none⟩), .pointer (some ⟨bx, 0, none⟩), .pointer (some ⟨bw, 0, none⟩)]] (by rfl) rfl rfl (by (try simp only [List.map_toArray, List.map_cons, List.map_nil]); first | done | rfl) ?_
    refine (xput_w lo x g 106 _ (xPut (decide (0 < m.f5.length)) (xPut (decide (0 < m.f7.length)) (xPut (decide (0 < m.f6.length)) (xPut (!m.f4.toList.isEmpty) W6 (W0.within ((W0.num 0 1).vec m.f4 2 1 64) 2)) (W0.within (fw (wN 2) m.f6) 2)) (W0.within (fw (wN 2) m.f7) 2)) (W0.within (fw (wN 2) m.f5) 1)) (W0.within (fw (wN 1) m.f8) 1) (xPutL (decide (0 < m.f5.length)) 43 (W0.within (fw (wN 2) m.f5) 1) (xPutL (decide (0 < m.f7.length)) 13 (W0.within (fw (wN 2) m.f7) 2) (xPutL (decide (0 < m.f6.length)) 10 (W0.within (fw (wN 2) m.f6) 2) (xPutL (!m.f4.toList.isEmpty) 0 (W0.within ((W0.num 0 1).vec m.f4 2 1 64) 2) ([] : List E.S41))))) (decide (0 < m.f8.length)) 45 _ (HW10.out.below HS2.out) HLX.out (HXS.out.below HS2.out) (fun hi => nums1_w bs bx bw 1 1 (by omega) (by omega) (by omega) (by omega) hd.A8 hd.c8 m.f8 _ h1_ h2_ h3_ (Kd.C_below HR.out.r8 ((HB0.out.trans (HG.out.below.mono HL.out)).trans (HS2.out.mono (HB0.out.trans (HG.out.below.mono HL.out)).size))) HR.out.l8 HMB.out.b8) enters106 HLE10.out).mono ?_
    rintro e wx4 ⟨rfl, iw, ix, f_⟩
    refine ⟨_, rfl, ?_⟩
    have HW11 := Aside0.mk iw
    have fq := (Fx.of_fr (x := x) (Fr.of_below (g := g) HW10.out.size HS2.out)).trans f_
    clear HXS
    have HXS := Aside0.mk ix
    have n_ := Aside0.mk (HG.out.trans fq)
    clear HG
    have HG := n_
    clear n_
    have n_ := Aside0.mk (fq.keep _ _ _ HX.out HXN.out HXX.out (by decide))
    clear HX
    have HX := n_
    clear n_
    have n_ := Aside0.mk (fq.keep _ _ _ HY.out HYN.out HYX.out (by decide))
    clear HY
    have HY := n_
    clear n_
    clear iw ix f_ fq HS HS2
    refine hK.out _ _ ?_
    clear hK K
    refine norm_ (a' := ?_) ?_ ?_
    rotate_left
    · show Act.put _ (some 100) _ = _
      simp only [Act.put, List.setIfInBounds_toArray, List.set_cons_zero, List.set_cons_succ]
      rfl
    refine done_ (by kernel_rfl) ?_
    go_wp2_with (first
      | ((with_reducible refine gate_load rfl ?_); first
        | ((with_reducible refine gate_dst (N := 102) rfl ?_); refine ld (v := .pointer (some ⟨gm, 0, none⟩)) rfl rfl rfl HX.out Try.underlying85 rfl rfl ?_)
        | ((with_reducible refine gate_dst (N := 105) rfl ?_); refine ld (v := .slice hd.A9 m.f9.length hd.c9) rfl rfl rfl HY.out Try.underlying45 rfl rfl ?_))
      | ((with_reducible refine gate_callee (f := 80) rfl ?_); refine goesL_ (some 109) rfl rfl Try.func80 (by kernel_rfl) rfl #[.pointer (some ⟨x, 0, none⟩), .bool (decide (0 < m.f9.length)), .int .i64 51, .func (.func 83) #[] #[.pointer (some ⟨gb, 0, none⟩)]] rfl (by (try simp only [List.map_toArray, List.map_cons, List.map_nil]); first | done | rfl) ?_; (refine (xput_w lo x g 83 _ (xPut (decide (0 < m.f8.length)) (xPut (decide (0 < m.f5.length)) (xPut (decide (0 < m.f7.length)) (xPut (decide (0 < m.f6.length)) (xPut (!m.f4.toList.isEmpty) W6 (W0.within ((W0.num 0 1).vec m.f4 2 1 64) 2)) (W0.within (fw (wN 2) m.f6) 2)) (W0.within (fw (wN 2) m.f7) 2)) (W0.within (fw (wN 2) m.f5) 1)) (W0.within (fw (wN 1) m.f8) 1)) (W0.within (fw wS m.f9) 2) (xPutL (decide (0 < m.f8.length)) 45 (W0.within (fw (wN 1) m.f8) 1) (xPutL (decide (0 < m.f5.length)) 43 (W0.within (fw (wN 2) m.f5) 1) (xPutL (decide (0 < m.f7.length)) 13 (W0.within (fw (wN 2) m.f7) 2) (xPutL (decide (0 < m.f6.length)) 10 (W0.within (fw (wN 2) m.f6) 2) (xPutL (!m.f4.toList.isEmpty) 0 (W0.within ((W0.num 0 1).vec m.f4 2 1 64) 2) ([] : List E.S41)))))) (decide (0 < m.f9.length)) 51 _ HW11.out HLX.out HXS.out (fun hi => shares1_w gb gm (cells m hd) hd.A9 hd.c9 m.f9 _ HX.out HY.out rfl (Kd.C_below HR.out.r9 (HB0.out.trans (HG.out.below.mono HL.out))) HR.out.l9 HMB.out.b9 HMB.out.c9) enters83 HLE11.out).mono ?_); rintro e_ wx5 ⟨rfl, iw, ix, f_⟩; refine ⟨_, rfl, ?_⟩; have HW12 := Aside0.mk iw; clear HXS; have HXS := Aside0.mk ix; have n_ := Aside0.mk (HG.out.trans f_); clear HG; have HG := n_; clear n_; have n_ := Aside0.mk (f_.keep _ _ _ HX.out HXN.out HXX.out (by decide)); clear HX; have HX := n_; clear n_; have n_ := Aside0.mk (f_.keep _ _ _ HY.out HYN.out HYX.out (by decide)); clear HY; have HY := n_; clear n_; clear iw ix f_))
    refine start_ (n := 10) (S := fun w' => Below wx5.heap.size wx5 w') (ds := [9]) #[false, false, false, false, false, false, false, false, false, false] (by kernel_rfl) rfl rfl (Below.refl wx5.heap.size wx5).drew (fun hHeld => ?_)
    have HS := Aside0.mk (Below.refl wx5.heap.size wx5).drew
    generalize wx5.drew = wd12 at HS hHeld ⊢
    refine pure_ (i := 0) (N := (some 110)) (v := ?_) (a' := ?_) #[true, false, false, false, false, false, false, false, false, false] rfl rfl (by kernel_rfl) (fun _ _ _ h => h) (Or.inl ⟨by rfl, ?_⟩) ?_ ?_
    rotate_left
    · intro w'
      go_simp
      with_reducible rfl
    rotate_left
    · simp only [Act.put, List.setIfInBounds_toArray, List.set_cons_zero, List.set_cons_succ]
      rfl
    refine take_ (i := 1) (N := (some 111)) (v := ?_) (a' := ?_) #[true, true, false, false, false, false, false, false, false, false] rfl rfl (by kernel_rfl) (fun _ _ _ h => h) (Or.inl ⟨by rfl, ?_⟩) hHeld ?_ ?_
    rotate_left
    · rintro w' hS
      have hc := (blk_cell ((hS.block gb (blk_lt HX.out)).trans HX.out) 0).trans rfl
      go_simp
      with_reducible rfl
    rotate_left
    · simp only [Act.put, List.setIfInBounds_toArray, List.set_cons_zero, List.set_cons_succ]
      rfl
    refine pure_ (i := 2) (N := (some 112)) (v := ?_) (a' := ?_) #[true, true, true, false, false, false, false, false, false, false] rfl rfl (by kernel_rfl) (fun _ _ _ h => h) (Or.inl ⟨by rfl, ?_⟩) ?_ ?_
    rotate_left
    · intro w'
      go_simp
      with_reducible rfl
    rotate_left
    · simp only [Act.put, List.setIfInBounds_toArray, List.set_cons_zero, List.set_cons_succ]
      rfl
    refine pure_ (i := 3) (N := (some 113)) (v := ?_) (a' := ?_) #[true, true, true, true, false, false, false, false, false, false] rfl rfl (by kernel_rfl) (fun _ _ _ h => h) (Or.inl ⟨by rfl, ?_⟩) ?_ ?_
    rotate_left
    · intro w'
      go_simp
      with_reducible rfl
    rotate_left
    · simp only [Act.put, List.setIfInBounds_toArray, List.set_cons_zero, List.set_cons_succ]
      rfl
    refine take_ (i := 4) (N := (some 114)) (v := ?_) (a' := ?_) #[true, true, true, true, true, false, false, false, false, false] rfl rfl (by kernel_rfl) (fun _ _ _ h => h) (Or.inl ⟨by rfl, ?_⟩) hHeld ?_ ?_
    rotate_left
    · rintro w' hS
      have hc := ((blk_cell ((hS.block gm (blk_lt HY.out)).trans HY.out) 10).trans (show (cells m hd)[10]? = some (.slice hd.A10 m.f10.length hd.c10) from rfl))
      go_simp
      with_reducible rfl
    rotate_left
    · simp only [Act.put, List.setIfInBounds_toArray, List.set_cons_zero, List.set_cons_succ]
      rfl
    refine pure_ (i := 5) (N := (some 115)) (v := ?_) (a' := ?_) #[true, true, true, true, true, true, false, false, false, false] rfl rfl (by kernel_rfl) (fun _ _ _ h => h) (Or.inl ⟨by rfl, ?_⟩) ?_ ?_
    rotate_left
    · intro w'
      go_simp
      with_reducible rfl
    rotate_left
    · simp only [Act.put, List.setIfInBounds_toArray, List.set_cons_zero, List.set_cons_succ]
      rfl
    refine pure_ (i := 6) (N := (some 116)) (v := ?_) (a' := ?_) #[true, true, true, true, true, true, true, false, false, false] rfl rfl (by kernel_rfl) (fun _ _ _ h => h) (Or.inl ⟨by rfl, ?_⟩) ?_ ?_
    rotate_left
    · intro w'
      go_simp
      with_reducible rfl
    rotate_left
    · simp only [Act.put, List.setIfInBounds_toArray, List.set_cons_zero, List.set_cons_succ]
      rfl
    refine take_ (i := 7) (N := (some 117)) (v := ?_) (a' := ?_) #[true, true, true, true, true, true, true, true, false, false] rfl rfl (by kernel_rfl) (fun _ _ _ h => h) (Or.inl ⟨by rfl, ?_⟩) hHeld ?_ ?_
    rotate_left
    · rintro w' hS
      have hc := (blk_cell ((hS.block gb (blk_lt HX.out)).trans HX.out) 0).trans rfl
      go_simp
      with_reducible rfl
    rotate_left
    · simp only [Act.put, List.setIfInBounds_toArray, List.set_cons_zero, List.set_cons_succ]
      rfl
    refine one_ (i := 8) (N := (some 118)) #[true, true, true, true, true, true, true, true, true, false] rfl rfl (by kernel_rfl) (by decide) (fun K hK => ?_)
    refine goes_ (f := 86) Try.func86 (by kernel_rfl) rfl #[.pointer (some ⟨gm, 0, none⟩)] (by rfl) rfl rfl (by (try simp only [List.map_toArray, List.map_cons, List.map_nil]); first | done | rfl) ?_
    refine (psk_w gm _).mono ?_
    rintro e wn6 ⟨gb2, rfl, h1_, b_⟩
    refine ⟨_, rfl, ?_⟩
    have HS2 := Aside0.mk (below_step HS.out b_)
    clear b_
    refine hK.out _ _ (HS2.out) (fun hHeld => ?_)
    clear hK K
    refine norm_ (a' := ?_) ?_ ?_
    rotate_left
    · show Act.put _ (some 118) _ = _
      simp only [Act.put, List.setIfInBounds_toArray, List.set_cons_zero, List.set_cons_succ]
      rfl
    refine last_ (i := 9) (N := (some 119)) #[true, true, true, true, true, true, true, true, true, true] rfl rfl (by kernel_rfl) (by decide) (fun K hK => ?_)
    refine goes_ (f := 80) Try.func80 (by kernel_rfl) rfl #[.pointer (some ⟨x, 0, none⟩), .bool (decide (0 < m.f10.length)), .int .i64 41, .func (.func 108) #[] #[.pointer (some ⟨gb2, 0, none⟩)]] (by rfl) rfl rfl (by (try simp only [List.map_toArray, List.map_cons, List.map_nil]); first | done | rfl) ?_
    refine (xput_w lo x g 108 _ (xPut (decide (0 < m.f9.length)) (xPut (decide (0 < m.f8.length)) (xPut (decide (0 < m.f5.length)) (xPut (decide (0 < m.f7.length)) (xPut (decide (0 < m.f6.length)) (xPut (!m.f4.toList.isEmpty) W6 (W0.within ((W0.num 0 1).vec m.f4 2 1 64) 2)) (W0.within (fw (wN 2) m.f6) 2)) (W0.within (fw (wN 2) m.f7) 2)) (W0.within (fw (wN 2) m.f5) 1)) (W0.within (fw (wN 1) m.f8) 1)) (W0.within (fw wS m.f9) 2)) ((W0.within (fw wI m.f10) 2).within (fw wB m.f11) 2) (xPutL (decide (0 < m.f9.length)) 51 (W0.within (fw wS m.f9) 2) (xPutL (decide (0 < m.f8.length)) 45 (W0.within (fw (wN 1) m.f8) 1) (xPutL (decide (0 < m.f5.length)) 43 (W0.within (fw (wN 2) m.f5) 1) (xPutL (decide (0 < m.f7.length)) 13 (W0.within (fw (wN 2) m.f7) 2) (xPutL (decide (0 < m.f6.length)) 10 (W0.within (fw (wN 2) m.f6) 2) (xPutL (!m.f4.toList.isEmpty) 0 (W0.within ((W0.num 0 1).vec m.f4 2 1 64) 2) ([] : List E.S41))))))) (decide (0 < m.f10.length)) 41 _ (HW12.out.below HS2.out) HLX.out (HXS.out.below HS2.out) (fun hi => psk1_w gb2 gm (cells m hd) hd.A10 hd.c10 m.f10 hd.A11 hd.c11 m.f11 _ h1_ ((HS2.out.block gm (blk_lt HY.out)).trans HY.out) rfl (Kd.C_below HR.out.r10 ((HB0.out.trans (HG.out.below.mono HL.out)).trans (HS2.out.mono (HB0.out.trans (HG.out.below.mono HL.out)).size))) HR.out.l10 HMB.out.b10 HMB.out.c10 rfl (Kd.C_below HR.out.r11 ((HB0.out.trans (HG.out.below.mono HL.out)).trans (HS2.out.mono (HB0.out.trans (HG.out.below.mono HL.out)).size))) HR.out.l11 HMB.out.b11 HMB.out.c11) enters108 HLE12.out).mono ?_
    rintro e wx6 ⟨rfl, iw, ix, f_⟩
    refine ⟨_, rfl, ?_⟩
    have HW13 := Aside0.mk iw
    have fq := (Fx.of_fr (x := x) (Fr.of_below (g := g) HW12.out.size HS2.out)).trans f_
    clear HXS
    have HXS := Aside0.mk ix
    have n_ := Aside0.mk (HG.out.trans fq)
    clear HG
    have HG := n_
    clear n_
    have n_ := Aside0.mk (fq.keep _ _ _ HX.out HXN.out HXX.out (by decide))
    clear HX
    have HX := n_
    clear n_
    have n_ := Aside0.mk (fq.keep _ _ _ HY.out HYN.out HYX.out (by decide))
    clear HY
    have HY := n_
    clear n_
    clear iw ix f_ fq HS HS2
    refine hK.out _ _ ?_
    clear hK K
    refine norm_ (a' := ?_) ?_ ?_
    rotate_left
    · show Act.put _ (some 119) _ = _
      simp only [Act.put, List.setIfInBounds_toArray, List.set_cons_zero, List.set_cons_succ]
      rfl
    refine done_ (by kernel_rfl) ?_
    go_wp2_with (first
      | (go_at_call 87; (with_reducible refine (xend_w lo x g (xPut (decide (0 < m.f10.length)) (xPut (decide (0 < m.f9.length)) (xPut (decide (0 < m.f8.length)) (xPut (decide (0 < m.f5.length)) (xPut (decide (0 < m.f7.length)) (xPut (decide (0 < m.f6.length)) (xPut (!m.f4.toList.isEmpty) W6 (W0.within ((W0.num 0 1).vec m.f4 2 1 64) 2)) (W0.within (fw (wN 2) m.f6) 2)) (W0.within (fw (wN 2) m.f7) 2)) (W0.within (fw (wN 2) m.f5) 1)) (W0.within (fw (wN 1) m.f8) 1)) (W0.within (fw wS m.f9) 2)) ((W0.within (fw wI m.f10) 2).within (fw wB m.f11) 2)) (xPutL (decide (0 < m.f10.length)) 41 ((W0.within (fw wI m.f10) 2).within (fw wB m.f11) 2) (xPutL (decide (0 < m.f9.length)) 51 (W0.within (fw wS m.f9) 2) (xPutL (decide (0 < m.f8.length)) 45 (W0.within (fw (wN 1) m.f8) 1) (xPutL (decide (0 < m.f5.length)) 43 (W0.within (fw (wN 2) m.f5) 1) (xPutL (decide (0 < m.f7.length)) 13 (W0.within (fw (wN 2) m.f7) 2) (xPutL (decide (0 < m.f6.length)) 10 (W0.within (fw (wN 2) m.f6) 2) (xPutL (!m.f4.toList.isEmpty) 0 (W0.within ((W0.num 0 1).vec m.f4 2 1 64) 2) ([] : List E.S41)))))))) _ HW13.out HXS.out HEL.out HEB.out HEN.out).mono ?_); rintro e_ w_ ⟨rfl, iw, f_⟩; have HWz := Aside0.mk iw; have HFz := Aside0.mk (HG.out.trans (Fx.of_fr f_)); clear iw f_))
    first | go_end0 | ((try simp only [Exit.inBlock, Exit.then]); refine bodyPost_ret (results_none rfl _ _ _) rfl ?_)
    exact ⟨rfl, HWz.out, HFz.out.fr HWX.out⟩
end Go.Proofs.Ytlkebjkpmiehcaa.Ms
end
section
namespace Go.Proofs.Ytlkebjkpmiehcaa.Ms
open Go.RowKit Go.Proofs.YtlkebjkpmiehcaaW.PrintWords Go.Proofs.YtlkebjkpmiehcaaW.PrintLast Go.Proofs.YtlkebjkpmiehcaaW.PrintMore Go.Proofs.Ytlkebjkpmiehcaa.X
open Go.Proofs.Ytlkebjkpmiehcaa.Pure (nv numOf vecOf nv_bd nv_bd4 number_any)
set_option linter.unusedVariables false
def Rp.aft (P B : Rp) (l : Bool) : Rp := { P with c := B.c, t := B.t, l := l }
structure Kh (lo r rb f g : Nat) (w w' : World) : Prop where
  below : Below lo w w'
  keep : ∀ k o, w.heap[k]? = some o → k ≠ r → k ≠ rb → k ≠ f → k ≠ g → w'.heap[k]? = some o
theorem Kh.trans {lo r rb f g : Nat} {a b c : World} (h : Kh lo r rb f g a b) (k : Kh lo r rb f g b c) : Kh lo r rb f g a c := ⟨h.below.trans k.below, fun i o hi hr hb hf hg => k.keep i o (h.keep i o hi hr hb hf hg) hr hb hf hg⟩
theorem Kh.inner {lo r rb f g : Nat} {w w1 w2 : World} (h : Kg lo r f g w w1) (hn : w.heap.size ≤ rb) (k : Kh lo r rb f g w1 w2) : Kg lo r f g w w2 :=
  ⟨h.below.trans k.below, fun i o hi hr hf hg => k.keep i o (h.keep i o hi hr hf hg) hr (by have := blk_lt hi; omega) hf hg⟩
def nonT (_ : Int) (m : Mv) (B : Rp) : Bool × Mv × Rp := (false, m, B)
def sameL (_ : Int) (l : Bool) : Bool := l
def pskL (k : Int) (_ : Bool) : Bool := k == 41
def Rp.exA (R : Rp) : Rp := R.allow (!R.l)
def Rp.exK (R : Rp) : Int := R.exA.numV 2
def Rp.exB (R : Rp) : Rp := R.exA.numR 2
def Rp.exT (R : Rp) (seen : List Int) : Bool := R.t || decide (R.exK ∈ seen)
def Rp.exI (R : Rp) (seen : List Int) : Rp := { R.exB.inR 2 with t := R.exT seen }
def Rp.exP (R : Rp) (seen : List Int) : Rp := { R.exB.outR 2 with t := R.exT seen }
section
variable (take : Int → Mv → Rp → Bool × Mv × Rp) (lastf : Int → Bool → Bool)
def exX (R : Rp) (seen : List Int) (m : Mv) : Bool × Mv × Rp := take R.exK m (R.exI seen)
def exQ (R : Rp) (seen : List Int) (m : Mv) : Rp := (R.exP seen).aft (exX take R seen m).2.2 (lastf R.exK R.l)
def exN (R : Rp) (seen : List Int) (m : Mv) : Rp := if (exX take R seen m).1 = true then (exQ take lastf R seen m).back (exX take R seen m).2.2.done else exQ take lastf R seen m
def exO (R : Rp) (seen : List Int) (m : Mv) : List Int := if (exX take R seen m).1 = true then [] else if (exQ take lastf R seen m).c = 0 then [R.exK] else []
def exts : Nat → List Int → Mv → Rp → List Int × Mv × Rp
  | 0, _, m, R => ([], m, R)
  | k + 1, seen, m, R => if R.more = true then (exO take lastf R seen m ++ (exts k (seen ++ [R.exK]) (exX take R seen m).2.1 (exN take lastf R seen m)).1, (exts k (seen ++ [R.exK]) (exX take R seen m).2.1 (exN take lastf R seen m)).2) else ([], m, R)
end
theorem Rp.Ok.exA {R : Rp} (h : R.Ok) : R.exA.Ok := h.allow _
theorem Rp.Ok.exB {R : Rp} (h : R.Ok) : R.exB.Ok := h.exA.numR 2
theorem Rp.Ok.exI {R : Rp} (h : R.Ok) (seen : List Int) : (R.exI seen).Ok := ⟨(h.exB.inR 2).lo, (h.exB.inR 2).hi, (h.exB.inR 2).sz⟩
theorem Rp.Ok.exP {R : Rp} (h : R.Ok) (seen : List Int) : (R.exP seen).Ok := ⟨(h.exB.outR 2).lo, (h.exB.outR 2).hi, (h.exB.outR 2).sz⟩
theorem Rp.Ok.aft {R : Rp} (h : R.Ok) (B : Rp) (l : Bool) : (R.aft B l).Ok := ⟨h.lo, h.hi, h.sz⟩
theorem exN_p (take : Int → Mv → Rp → Bool × Mv × Rp) (lastf : Int → Bool → Bool) (R : Rp) (seen : List Int) (m : Mv) : (exN take lastf R seen m).p = (R.exB.outR 2).p ∧ (exN take lastf R seen m).s = R.s := by
  unfold exN
  split <;> exact ⟨rfl, rfl⟩
theorem Rp.Ok.exN {R : Rp} (h : R.Ok) (take : Int → Mv → Rp → Bool × Mv × Rp) (lastf : Int → Bool → Bool) (seen : List Int) (m : Mv) : (exN take lastf R seen m).Ok := by
  obtain ⟨h1, h2⟩ := exN_p take lastf R seen m
  have h3 := h.exB.outR 2
  exact ⟨by rw [h1]; exact h3.lo, by rw [h1, h2]; exact h3.hi, by rw [h2]; exact h.sz⟩
end Go.Proofs.Ytlkebjkpmiehcaa.Ms
end
section
namespace Go.Proofs.Ytlkebjkpmiehcaa.Ms
open Go.RowKit Go.Proofs.YtlkebjkpmiehcaaW.PrintWords Go.Proofs.YtlkebjkpmiehcaaW.PrintLast Go.Proofs.YtlkebjkpmiehcaaW.PrintMore Go.Proofs.Ytlkebjkpmiehcaa.X
open Go.Proofs.Ytlkebjkpmiehcaa.Pure (nv numOf vecOf nv_bd nv_bd4 number_any)
set_option linter.unusedVariables false
structure Mov (w w1 : World) (ts : List Nat) : Prop where
  cells : ∀ (k : Nat) (cs : Array Value) (t : TypeId), w.heap[k]? = some (.cells cs t (0, 0)) → t ∉ ts → w1.heap[k]? = some (.cells cs t (0, 0))
  maps : ∀ (k : Nat) (es : Array MapEntry) (c : Nat), w.heap[k]? = some (Obj.map es c) → w1.heap[k]? = some (Obj.map es c)
theorem Mov.of_below {w w1 : World} (b : Below w.heap.size w w1) (ts : List Nat) : Mov w w1 ts := ⟨fun k _ _ h _ => (b.block k (blk_lt h)).trans h, fun k _ _ h => (b.block k (blk_lt h)).trans h⟩
theorem Mov.of_kf {lo r f : Nat} {w w1 : World} {R : Rp} (h : RS w r f R) (k : Kf lo r f w w1) : Mov w w1 [92, 90] := ⟨kf_types h k, fun j es c hj => k.keep j _ hj (map_ne hj h.rd) (map_ne hj h.ft)⟩
theorem Mov.of_map {w w1 : World} (hm : MapTurn w w1) : ∀ (k : Nat) (cs : Array Value) (t : TypeId), w.heap[k]? = some (.cells cs t (0, 0)) → t ∉ ([] : List Nat) → w1.heap[k]? = some (.cells cs t (0, 0)) := fun k cs t h _ => blk_map h hm
theorem Mov.row {w w1 : World} {ts : List Nat} (a : Mov w w1 ts) {α : Type} {d : Kd α} {e base : Nat} {ok : Nat → Prop} {v : Value} {xs : List α} (h : d.R e w base ok v xs) (ht : ∀ q, q ∈ e :: d.E → q ∉ ts) : d.R e w1 base ok v xs :=
  Kd.R_mono (Kd.R_move (Kd.R_bound h) (fun i hi => by
    obtain ⟨_, _, h3, q, hq, cells, hc⟩ := hi
    rw [hc]
    exact a.cells i _ _ hc (ht q hq))) (fun _ hk => hk.1)
theorem Mov.set {w w1 : World} {ts : List Nat} (a : Mov w w1 ts) {d : Kd Int} {e : TypeId} {base : Nat} {ok : Nat → Prop} {v : Value} {xs : List Int} (h : Kd.Y d e w base ok v xs) : Kd.Y d e w1 base ok v xs := Y_gen h a.maps
theorem MO.map {ok : Nat → Prop} {gm : Nat} {w w1 : World} {m : Mv} (a : MO ok w gm m) (hm : MapTurn w w1) : MO ok w1 gm m := by
  obtain ⟨hd, a⟩ := a
  exact ⟨hd, a.move (blk_map a.box hm) [] (Mov.of_map hm) (by decide) (by decide) (by decide) (by decide)⟩
theorem Rs.map {w w1 : World} {r f : Nat} {s : ByteArray} {p c : Int} {t l : Bool} (h : Rs w r f s p c t l) (hm : MapTurn w w1) : Rs w1 r f s p c t l := ⟨blk_map h.rd hm, blk_map h.ft hm⟩
theorem Kg.over {lo r f g B : Nat} {w W w1 : World} (h : Kg lo r f g w W) (hb : Below B W w1) (hl : lo ≤ B) (hB : w.heap.size ≤ B) : Kg lo r f g w w1 :=
  ⟨h.below.trans (hb.mono hl), fun i o hi hr hf hg => (hb.block i (Nat.lt_of_lt_of_le (blk_lt hi) hB)).trans (h.keep i o hi hr hf hg)⟩
theorem R_lt {α : Type} {d : Kd α} {e base : Nat} {W : World} {ok : Nat → Prop} {v : Value} {xs : List α} (h : d.R e W base ok v xs) : ∀ j, W.heap.size ≤ j → some j ≠ v.ownBlock := by
  intro j hj e
  obtain ⟨inner, ho⟩ := Kd.R_own h
  have := own_lt ho j e.symm
  omega
end Go.Proofs.Ytlkebjkpmiehcaa.Ms
end
section
namespace Go.Proofs.Ytlkebjkpmiehcaa.Ms
open Go.RowKit Go.Proofs.YtlkebjkpmiehcaaW.PrintWords Go.Proofs.YtlkebjkpmiehcaaW.PrintLast Go.Proofs.YtlkebjkpmiehcaaW.PrintMore Go.Proofs.Ytlkebjkpmiehcaa.X
open Go.Proofs.Ytlkebjkpmiehcaa.Pure (nv numOf vecOf nv_bd nv_bd4 number_any)
set_option linter.unusedVariables false
def Rp.ceR (R : Rp) : Rp := (R.vecR 1 0 255).allow ((R.vecV 1 0 255).toList.isEmpty)
def Rp.ceV (R : Rp) : List ByteArray := allV oneCer (R.ceR.inR 3)
def Rp.ceN (R : Rp) : Rp := (R.ceR.outR 3).back (allR oneCer (R.ceR.inR 3))
theorem Rp.Ok.ceR {R : Rp} (h : R.Ok) : R.ceR.Ok := (h.vecR _ _ _).allow _
theorem Rp.Ok.ceN {R : Rp} (h : R.Ok) : R.ceN.Ok := (h.ceR.outR 3).back _
def Rp.ti1 (R : Rp) : Rp := R.numR 4
def Rp.ti2 (R : Rp) : Rp := R.ti1.numR 4
def Rp.ti3 (R : Rp) : Rp := R.ti2.vecR 1 0 255
def Rp.ti4 (R : Rp) : Rp := R.ti3.vecR 2 1 65536
def Rp.tiM (R : Rp) (m : Mv) : Mv := { m with f17 := R.numV 4, f18 := R.ti1.numV 4, f19 := R.ti2.vecV 1 0 255, f16 := R.ti3.vecV 2 1 65536 }
theorem Rp.Ok.ti1 {R : Rp} (h : R.Ok) : R.ti1.Ok := h.numR 4
theorem Rp.Ok.ti2 {R : Rp} (h : R.Ok) : R.ti2.Ok := h.ti1.numR 4
theorem Rp.Ok.ti3 {R : Rp} (h : R.Ok) : R.ti3.Ok := h.ti2.vecR _ _ _
theorem Rp.Ok.ti4 {R : Rp} (h : R.Ok) : R.ti4.Ok := h.ti3.vecR _ _ _
def Rp.h1 (R : Rp) : Rp := R.verR
def Rp.h2 (R : Rp) : Rp := R.h1.bytR 32
def Rp.h3 (R : Rp) : Rp := R.h2.vecR 1 0 32
def Rp.hM (R : Rp) (m : Mv) : Mv := { m with f1 := R.h1.bytV 32, f2 := R.h2.vecV 1 0 32 }
def Rp.c4 (R : Rp) : Rp := lstR (oneNum 2) R.h3 2
def Rp.c5 (R : Rp) : Rp := R.c4.vecR 1 0 255
def Rp.c6 (R : Rp) : Rp := R.c5.allow ((R.c4.vecV 1 0 255).toList == ([0] : List UInt8))
def Rp.cM (R : Rp) (m : Mv) : Mv := { R.hM m with f3 := lstV (oneNum 2) R.h3 2 }
def Rp.cX (R : Rp) (m : Mv) : List Int × Mv × Rp := exts cli pskL (R.c6.inR 2).s.size [] (R.cM m) (R.c6.inR 2)
def Rp.chM (R : Rp) (m : Mv) : Mv := { (R.cX m).2.1 with f13 := (R.cX m).1 }
def Rp.chR (R : Rp) (m : Mv) : Rp := (R.c6.outR 2).back (R.cX m).2.2
def Rp.s4 (R : Rp) : Rp := R.h3.numR 2
def Rp.s5 (R : Rp) : Rp := R.s4.numR 1
def Rp.s6 (R : Rp) : Rp := R.s5.allow (R.s4.numV 1 == 0)
def Rp.sM (R : Rp) (m : Mv) : Mv := { R.hM m with f3 := [R.h3.numV 2] }
def Rp.sX (R : Rp) (m : Mv) : List Int × Mv × Rp := exts srv sameL (R.s6.inR 2).s.size [] (R.sM m) (R.s6.inR 2)
def Rp.shM (R : Rp) (m : Mv) : Mv := { (R.sX m).2.1 with f13 := (R.sX m).1 }
def Rp.shR (R : Rp) (m : Mv) : Rp := (R.s6.outR 2).back (R.sX m).2.2
theorem Rp.Ok.h1 {R : Rp} (h : R.Ok) : R.h1.Ok := h.verR
theorem Rp.Ok.h2 {R : Rp} (h : R.Ok) : R.h2.Ok := h.h1.bytR (by omega)
theorem Rp.Ok.h3 {R : Rp} (h : R.Ok) : R.h3.Ok := h.h2.vecR _ _ _
theorem Rp.Ok.c4 {R : Rp} (h : R.Ok) : R.c4.Ok := h.h3.lstR 2
theorem Rp.Ok.c5 {R : Rp} (h : R.Ok) : R.c5.Ok := h.c4.vecR _ _ _
theorem Rp.Ok.c6 {R : Rp} (h : R.Ok) : R.c6.Ok := h.c5.allow _
theorem Rp.Ok.chR {R : Rp} (h : R.Ok) (m : Mv) : (R.chR m).Ok := (h.c6.outR 2).back _
theorem Rp.Ok.s4 {R : Rp} (h : R.Ok) : R.s4.Ok := h.h3.numR _
theorem Rp.Ok.s5 {R : Rp} (h : R.Ok) : R.s5.Ok := h.s4.numR _
theorem Rp.Ok.s6 {R : Rp} (h : R.Ok) : R.s6.Ok := h.s5.allow _
theorem Rp.Ok.shR {R : Rp} (h : R.Ok) (m : Mv) : (R.shR m).Ok := (h.s6.outR 2).back _
end Go.Proofs.Ytlkebjkpmiehcaa.Ms
end
section
namespace Go.Proofs.Ytlkebjkpmiehcaa.Ms
open Go.RowKit Go.Proofs.YtlkebjkpmiehcaaW.PrintWords Go.Proofs.YtlkebjkpmiehcaaW.PrintLast Go.Proofs.YtlkebjkpmiehcaaW.PrintMore Go.Proofs.Ytlkebjkpmiehcaa.X
open Go.Proofs.Ytlkebjkpmiehcaa.Pure (nv numOf vecOf nv_bd nv_bd4 number_any)
set_option linter.unusedVariables false
def fin32 (n : Int) : Bool := n == 32 || n == 48
theorem fin_f (n : Int) : slices_Contains_int_int.f 9 [32, 48] n = some (fin32 n) := by
  unfold slices_Contains_int_int.f slices_Index_int_int.f fin32
  by_cases h1 : n = 32
  · subst h1
    decide
  · by_cases h2 : n = 48
    · subst h2
      decide +kernel
    · have e : slices_Index_int_int.l0 9 [32, 48] n (([32, 48] : List Int).length : Int) 0 = some (-1) := by
        have r0 : rd [32, 48] 0 = 32 := rfl
        have r1 : rd [32, 48] 1 = 48 := rfl
        have w1 : wrap64 1 = 1 := by unfold wrap64; omega
        have w2 : wrap64 2 = 2 := by unfold wrap64; omega
        simp [slices_Index_int_int.l0, h1, h2, w1, w2, rd]
      rw [e]
      simp [beq_eq_false_iff_ne.mpr h1, beq_eq_false_iff_ne.mpr h2]
def Rp.f1 (R : Rp) : Rp := R.need (fin32 (R.s.size : Int))
def Rp.nX (R : Rp) (m : Mv) : List Int × Mv × Rp := exts nonT sameL (R.inR 2).s.size [] m (R.inR 2)
def Rp.u1 (R : Rp) : Rp := (R.numR 1).allow (decide (R.numV 1 ≤ 1))
def bodyP (R : Rp) (m : Mv) : Mv × Rp :=
  if m.f0 = 1 then (R.chM m, R.chR m)
  else if m.f0 = 2 then (R.shM m, R.shR m)
  else if m.f0 = 8 then ({ (R.nX m).2.1 with f13 := (R.nX m).1 }, (R.outR 2).back (R.nX m).2.2)
  else if m.f0 = 11 then ({ m with f14 := R.ceV }, R.ceN)
  else if m.f0 = 15 then ({ m with f15 := R.numV 2, f16 := (R.numR 2).vecV 2 0 65536 }, (R.numR 2).vecR 2 0 65536)
  else if m.f0 = 20 then ({ m with f16 := R.f1.bytV (R.s.size : Int) }, R.f1.bytR (R.s.size : Int))
  else if m.f0 = 4 then (R.tiM m, R.ti4.barR)
  else ({ m with f20 := R.numV 1 + 1 }, R.u1)
theorem Rp.Ok.f1 {R : Rp} (h : R.Ok) : R.f1.Ok := h.need _
theorem Rp.Ok.u1 {R : Rp} (h : R.Ok) : R.u1.Ok := (h.numR 1).allow _
set_option maxRecDepth 100000 in
set_option maxHeartbeats 8000000 in
theorem body_no (lo r f gm : Nat) (R : Rp) (m : Mv) (w : World) (k0 : Int) (hk : m.f0 = k0) (n1 : (k0 == 1) = false) (n2 : (k0 == 2) = false) (n8 : (k0 == 8) = false) (n11 : (k0 == 11) = false) (n15 : (k0 == 15) = false) (n20 : (k0 == 20) = false) (n4 : (k0 == 4) = false) (hl : lo ≤ f) (hl2 : lo ≤ r) (hg : lo ≤ gm) (h : RS w r f R) (ho : R.Ok) (hm : MO (fun _ => True) w gm m) :
    Calls Try.prog 49 #[.pointer (some ⟨r, 0, none⟩), .pointer (some ⟨gm, 0, none⟩)] w fun ex w' => ex = .returned (.tuple #[]) ∧ RS w' r f (Rp.done R.u1) ∧ MO (fun _ => True) w' gm { m with f20 := R.numV 1 + 1 } ∧ Kg lo r f gm w w' := by
  have nb0 := (R.numV_bd 1).1
  have nb1 : R.numV 1 ≤ 255 := by have := (R.numV_bd 1).2; omega
  have HKK := Aside0.mk hk
  clear hk
  have H := Aside0.mk h
  have HL := Aside0.mk hl
  have HL2 := Aside0.mk hl2
  have HG := Aside0.mk hg
  have HO := Aside0.mk ho
  have HWL := Aside0.mk (h.wsz hl)
  have M := Aside0.mk hm
  have K := Aside0.mk (Kg.of_kf (g := gm) (Kf.refl lo r f w))
  clear h hl hl2 hg ho hm
  go_enter Try.func49, Try.ntmps49
  go_wp2_with (first
    | ((with_reducible refine gate_dst (N := 8) rfl ?_); obtain ⟨hd_, hm_⟩ := M.out; refine ld (v := .int .i64 k0) rfl rfl rfl hm_.box Try.underlying3 rfl (by show some (Value.int .i64 m.f0) = _; rw [HKK.out]) ?_; clear hm_)
    | (go_at_call 75; (with_reducible refine (u8_c lo r f R _ HL.out HL2.out H.out HO.out).mono ?_); rintro e1 w1 ⟨rfl, i1, k1⟩; have M1 := Aside0.mk (M.out.kf H.out k1); have H1 := Aside0.mk i1; have K1 := Aside0.mk (K.out.trans (Kg.of_kf k1)); clear i1 k1)
    | (go_at_call 76; (with_reducible refine (allow_c lo r f (R.numR 1) _ (decide (R.numV 1 ≤ 1)) HL.out H1.out).mono ?_); rintro e2 w2 ⟨rfl, i1, k1⟩; have M2 := Aside0.mk (M1.out.kf H1.out k1); have H2 := Aside0.mk (show RS w2 r f R.u1 from i1); have K2 := Aside0.mk (K1.out.trans (Kg.of_kf k1)); clear i1 k1)
    | ((with_reducible refine gate_store (p := 19) rfl ?_); obtain ⟨hd_, hm_⟩ := M2.out; refine st (v := .int .i64 (R.numV 1 + 1)) rfl rfl rfl hm_.box sz3' rfl rfl rfl (by rw [cells_size]; omega) ?_; intro w3 h3_ b3_ k3_; have M3 := Aside0.mk (hm_.s20 _ h3_ k3_); have H3 := Aside0.mk (H2.out.store hm_ k3_); have K3 := Aside0.mk (K2.out.trans (Kg.of_store (b3_ _ HG.out) k3_)); clear h3_ b3_ k3_ hm_)
    | (go_at_call 77; (with_reducible refine (done_c lo r f R.u1 _ HL.out H3.out).mono ?_); rintro e20 w20 ⟨rfl, i20, k20⟩; have M20 := Aside0.mk (M3.out.kf H3.out k20); have H20 := Aside0.mk i20; have K20 := Aside0.mk (K3.out.trans (Kg.of_kf k20)); clear i20 k20))
  first | go_end0 | ((try simp only [Exit.inBlock, Exit.then]); refine bodyPost_ret (results_none rfl _ _ _) rfl ?_)
  exact ⟨rfl, H20.out, M20.out, K20.out⟩
end Go.Proofs.Ytlkebjkpmiehcaa.Ms
end
section
namespace Go.Proofs.Ytlkebjkpmiehcaa.Ms
open Go.RowKit Go.Proofs.YtlkebjkpmiehcaaW.PrintWords Go.Proofs.YtlkebjkpmiehcaaW.PrintLast Go.Proofs.YtlkebjkpmiehcaaW.PrintMore Go.Proofs.Ytlkebjkpmiehcaa.X
set_option linter.unusedVariables false
abbrev Bodies (m : Mv) (h : Hd) (w0 : World) (u : ByteArray) (bu : Bool) : Prop := ∀ w lo g gm, At w0 w lo g gm (cells m h) →
  Calls Try.prog 44 #[.pointer (some ⟨g, 0, none⟩), .pointer (some ⟨gm, 0, none⟩)] w fun ex w' => ex = .returned (.tuple #[]) ∧ Wt lo w' g u bu ∧ Fr lo g w w'
def be3 (n : Nat) : ByteArray := (wire_Bytes.f n 3).getD ByteArray.empty
theorem be3_some (n : Nat) : wire_Bytes.f n 3 = some (be3 n) := rfl
theorem un_reads {w : World} {m : Mv} {h : Hd} (r : Reads w m h) : Reads w m.unused (h.unused m) := by
  unfold Mv.unused Hd.unused
  repeat' split
  all_goals (constructor <;> first | exact C_nil _ _ | exact Nat.zero_le _ | exact r.r3 | exact r.r5 | exact r.r6 | exact r.r7 | exact r.r8 | exact r.r9 | exact r.r10 | exact r.r11 | exact r.r13 | exact r.r14 | exact r.l3 | exact r.l5 | exact r.l6 | exact r.l7 | exact r.l8 | exact r.l9 | exact r.l10 | exact r.l11 | exact r.l13 | exact r.l14)
set_option maxRecDepth 100000 in
set_option maxHeartbeats 8000000 in
theorem put_bad (m : Mv) (h : Hd) (u : ByteArray) (w : World) (hk : msg_known.f m.f0 = some true) (hr : Reads w m h) (ht : m.unused.texts ≤ 9223372036854775807) (hl : m.unused.lists ≤ 9223372036854775807) (hy : Bodies m h w u true) :
    Calls Try.prog 23 #[.agg (cells m h)] w fun ex w' => ex = .returned (.tuple #[.string ⟨#[]⟩, .int .i64 1700]) ∧ Below w.heap.size w w' := by
  have HK := Aside0.mk hk
  have HR := Aside0.mk hr
  have HY := Aside0.mk hy
  have HT := Aside0.mk ht
  have HL := Aside0.mk hl
  clear hk hr hy ht hl
  go_enter Try.func23, Try.ntmps23
  go_wp2_with (first
    | ((with_reducible refine gate_dst (N := 1) rfl ?_); refine box49 rfl rfl rfl ?_; intro gm e1 w1 h1 b1; have HM := Aside0.mk h1; have HB := Aside0.mk b1; have HE := Aside0.mk (blk_lt h1); clear h1 b1 e1)
    | ((with_reducible refine gate_dst (N := 6) rfl ?_); refine ld (v := .int .i64 m.f0) rfl rfl rfl HM.out Try.underlying3 rfl rfl ?_)
    | (go_at_call 43; (with_reducible refine (msg_known.calls m.f0 true _ HK.out).mono ?_); rintro e2 w2 ⟨rfl, d2⟩; have HM2 := Aside0.mk ((d2.below.block gm (blk_lt HM.out)).trans HM.out); have HB2 := Aside0.mk (below_step HB.out d2.below); clear d2)
    | ((with_reducible refine gate_dst (N := 9) rfl ?_); refine build83 rfl rfl ?_)
    | ((with_reducible refine gate_dst (N := 10) rfl ?_); refine box83 rfl _ rfl rfl ?_; intro g eg w3 i3 b3; have HA := Aside0.mk (At.mk (w0 := w) i3 ((b3.block gm (blk_lt HM2.out)).trans HM2.out) (blk_lt HM2.out) (below_step HB2.out b3) HB2.out.size); clear i3 b3 eg)
    | (go_at_call 44; (refine (HY.out _ _ _ _ HA.out).mono ?_); rintro e4 w4 ⟨rfl, i4, f4⟩; have HM4 := Aside0.mk (f4.keep _ _ _ HA.out.box (by have := HA.out.lt; have := HA.out.wt.lt; omega) (by decide)); have HB4 := Aside0.mk (HA.out.below.trans (f4.below.mono HA.out.le)); obtain ⟨v4, h4, l4, o4⟩ := i4; obtain ⟨A4, c4, rfl⟩ := own_slice o4; have HG4 := Aside0.mk h4; have HO4 := Aside0.mk o4; have hcb := cell1 h4; have hc0 := cell0 h4; clear h4 o4 f4))
  go_ret2
  exact ⟨rfl, HB4.out⟩
set_option maxRecDepth 100000 in
set_option maxHeartbeats 8000000 in
theorem put_unused (m : Mv) (h : Hd) (u : ByteArray) (w : World) (hk : msg_known.f m.f0 = some true) (hr : Reads w m h) (ht : m.unused.texts ≤ 9223372036854775807) (hl : m.unused.lists ≤ 9223372036854775807) (hy : Bodies m h w u false) (hz : m.unused.zero = false) :
    Calls Try.prog 23 #[.agg (cells m h)] w fun ex w' => ex = .returned (.tuple #[.string ⟨#[]⟩, .int .i64 1700]) ∧ Below w.heap.size w w' := by
  have HK := Aside0.mk hk
  have HR := Aside0.mk hr
  have HY := Aside0.mk hy
  have HT := Aside0.mk ht
  have HL := Aside0.mk hl
  clear hk hr hy ht hl
  go_enter Try.func23, Try.ntmps23
  go_wp2_with (first
    | ((with_reducible refine gate_dst (N := 1) rfl ?_); refine box49 rfl rfl rfl ?_; intro gm e1 w1 h1 b1; have HM := Aside0.mk h1; have HB := Aside0.mk b1; have HE := Aside0.mk (blk_lt h1); clear h1 b1 e1)
    | ((with_reducible refine gate_dst (N := 6) rfl ?_); refine ld (v := .int .i64 m.f0) rfl rfl rfl HM.out Try.underlying3 rfl rfl ?_)
    | (go_at_call 43; (with_reducible refine (msg_known.calls m.f0 true _ HK.out).mono ?_); rintro e2 w2 ⟨rfl, d2⟩; have HM2 := Aside0.mk ((d2.below.block gm (blk_lt HM.out)).trans HM.out); have HB2 := Aside0.mk (below_step HB.out d2.below); clear d2)
    | ((with_reducible refine gate_dst (N := 9) rfl ?_); refine build83 rfl rfl ?_)
    | ((with_reducible refine gate_dst (N := 10) rfl ?_); refine box83 rfl _ rfl rfl ?_; intro g eg w3 i3 b3; have HA := Aside0.mk (At.mk (w0 := w) i3 ((b3.block gm (blk_lt HM2.out)).trans HM2.out) (blk_lt HM2.out) (below_step HB2.out b3) HB2.out.size); clear i3 b3 eg)
    | (go_at_call 44; (refine (HY.out _ _ _ _ HA.out).mono ?_); rintro e4 w4 ⟨rfl, i4, f4⟩; have HM4 := Aside0.mk (f4.keep _ _ _ HA.out.box (by have := HA.out.lt; have := HA.out.wt.lt; omega) (by decide)); have HB4 := Aside0.mk (HA.out.below.trans (f4.below.mono HA.out.le)); obtain ⟨v4, h4, l4, o4⟩ := i4; obtain ⟨A4, c4, rfl⟩ := own_slice o4; have HG4 := Aside0.mk h4; have HO4 := Aside0.mk o4; have hcb := cell1 h4; have hc0 := cell0 h4; clear h4 o4 f4)
    | ((with_reducible refine gate_dst (N := 18) rfl ?_); refine gate_guard rfl ?_; refine wpList_load_row rfl 49 _ rfl gm rfl 49 _ (0, 0) _ HM4.out Try.underlying49 rfl sz49 ?_)
    | (go_at_call 46; (with_reducible refine (unused_calls m h _).mono ?_); rintro e5 w5 ⟨rfl, b5⟩; have HG5 := Aside0.mk ((b5.block g (blk_lt HG4.out)).trans HG4.out); have HM5 := Aside0.mk ((b5.block gm (blk_lt HM4.out)).trans HM4.out); have HO5 := Aside0.mk (HO4.out.kept (grown_of_below b5 none) (by cases A4 <;> simp [Value.ownBlock])); have HB5 := Aside0.mk (below_step HB4.out b5); clear b5 hcb hc0)
    | (go_at_call 45; (with_reducible refine (zero_calls m.unused (h.unused m) _ (un_reads (HR.out.below HB5.out)) HT.out HL.out).mono ?_); rintro e6 w6 ⟨rfl, b6⟩; have HG6 := Aside0.mk ((b6.block g (blk_lt HG5.out)).trans HG5.out); have HM6 := Aside0.mk ((b6.block gm (blk_lt HM5.out)).trans HM5.out); have HO6 := Aside0.mk (HO5.out.kept (grown_of_below b6 none) (by cases A4 <;> simp [Value.ownBlock])); have HB6 := Aside0.mk (below_step HB5.out b6); have hc0 := cell0 HG6.out; clear b6))
  go_ret2
  exact ⟨rfl, HB6.out⟩
set_option maxRecDepth 100000 in
set_option maxHeartbeats 8000000 in
theorem put_long (m : Mv) (h : Hd) (u : ByteArray) (w : World) (hk : msg_known.f m.f0 = some true) (hr : Reads w m h) (ht : m.unused.texts ≤ 9223372036854775807) (hl : m.unused.lists ≤ 9223372036854775807) (hy : Bodies m h w u false) (hz : m.unused.zero = true) (hs : 65532 < u.size) :
    Calls Try.prog 23 #[.agg (cells m h)] w fun ex w' => ex = .returned (.tuple #[.string ⟨#[]⟩, .int .i64 1700]) ∧ Below w.heap.size w w' := by
  have HK := Aside0.mk hk
  have HR := Aside0.mk hr
  have HY := Aside0.mk hy
  have HT := Aside0.mk ht
  have HL := Aside0.mk hl
  clear hk hr hy ht hl
  have hs1 : decide ((65532 : Int) < (u.size : Int)) = true := decide_eq_true (by omega)
  go_enter Try.func23, Try.ntmps23
  go_wp2_with (first
    | ((with_reducible refine gate_dst (N := 1) rfl ?_); refine box49 rfl rfl rfl ?_; intro gm e1 w1 h1 b1; have HM := Aside0.mk h1; have HB := Aside0.mk b1; have HE := Aside0.mk (blk_lt h1); clear h1 b1 e1)
    | ((with_reducible refine gate_dst (N := 6) rfl ?_); refine ld (v := .int .i64 m.f0) rfl rfl rfl HM.out Try.underlying3 rfl rfl ?_)
    | (go_at_call 43; (with_reducible refine (msg_known.calls m.f0 true _ HK.out).mono ?_); rintro e2 w2 ⟨rfl, d2⟩; have HM2 := Aside0.mk ((d2.below.block gm (blk_lt HM.out)).trans HM.out); have HB2 := Aside0.mk (below_step HB.out d2.below); clear d2)
    | ((with_reducible refine gate_dst (N := 9) rfl ?_); refine build83 rfl rfl ?_)
    | ((with_reducible refine gate_dst (N := 10) rfl ?_); refine box83 rfl _ rfl rfl ?_; intro g eg w3 i3 b3; have HA := Aside0.mk (At.mk (w0 := w) i3 ((b3.block gm (blk_lt HM2.out)).trans HM2.out) (blk_lt HM2.out) (below_step HB2.out b3) HB2.out.size); clear i3 b3 eg)
    | (go_at_call 44; (refine (HY.out _ _ _ _ HA.out).mono ?_); rintro e4 w4 ⟨rfl, i4, f4⟩; have HM4 := Aside0.mk (f4.keep _ _ _ HA.out.box (by have := HA.out.lt; have := HA.out.wt.lt; omega) (by decide)); have HB4 := Aside0.mk (HA.out.below.trans (f4.below.mono HA.out.le)); obtain ⟨v4, h4, l4, o4⟩ := i4; obtain ⟨A4, c4, rfl⟩ := own_slice o4; have HG4 := Aside0.mk h4; have HO4 := Aside0.mk o4; have hcb := cell1 h4; have hc0 := cell0 h4; clear h4 o4 f4)
    | ((with_reducible refine gate_dst (N := 18) rfl ?_); refine gate_guard rfl ?_; refine wpList_load_row rfl 49 _ rfl gm rfl 49 _ (0, 0) _ HM4.out Try.underlying49 rfl sz49 ?_)
    | (go_at_call 46; (with_reducible refine (unused_calls m h _).mono ?_); rintro e5 w5 ⟨rfl, b5⟩; have HG5 := Aside0.mk ((b5.block g (blk_lt HG4.out)).trans HG4.out); have HM5 := Aside0.mk ((b5.block gm (blk_lt HM4.out)).trans HM4.out); have HO5 := Aside0.mk (HO4.out.kept (grown_of_below b5 none) (by cases A4 <;> simp [Value.ownBlock])); have HB5 := Aside0.mk (below_step HB4.out b5); clear b5 hcb hc0)
    | (go_at_call 45; (with_reducible refine (zero_calls m.unused (h.unused m) _ (un_reads (HR.out.below HB5.out)) HT.out HL.out).mono ?_); rintro e6 w6 ⟨rfl, b6⟩; have HG6 := Aside0.mk ((b6.block g (blk_lt HG5.out)).trans HG5.out); have HM6 := Aside0.mk ((b6.block gm (blk_lt HM5.out)).trans HM5.out); have HO6 := Aside0.mk (HO5.out.kept (grown_of_below b6 none) (by cases A4 <;> simp [Value.ownBlock])); have HB6 := Aside0.mk (below_step HB5.out b6); have hc0 := cell0 HG6.out; clear b6))
  go_ret2
  exact ⟨rfl, HB6.out⟩
end Go.Proofs.Ytlkebjkpmiehcaa.Ms
end
section
namespace Go.Proofs.Ytlkebjkpmiehcaa.Ms
open Go.RowKit Go.Proofs.YtlkebjkpmiehcaaW.PrintWords Go.Proofs.YtlkebjkpmiehcaaW.PrintLast Go.Proofs.YtlkebjkpmiehcaaW.PrintMore Go.Proofs.Ytlkebjkpmiehcaa.X
set_option linter.unusedVariables false
def framed (k : Int) (u : ByteArray) : ByteArray := strOfNums [k % 256] ++ be3 u.size ++ u
set_option maxRecDepth 100000 in
set_option maxHeartbeats 8000000 in
theorem put_ok (m : Mv) (h : Hd) (u : ByteArray) (w : World) (hk : msg_known.f m.f0 = some true) (hr : Reads w m h) (ht : m.unused.texts ≤ 9223372036854775807) (hl : m.unused.lists ≤ 9223372036854775807) (hy : Bodies m h w u false) (hz : m.unused.zero = true) (hs : u.size ≤ 65532) :
    Calls Try.prog 23 #[.agg (cells m h)] w fun ex w' => ex = .returned (.tuple #[.string (framed m.f0 u), .int .i64 0]) ∧ Below w.heap.size w w' := by
  have HK := Aside0.mk hk
  have HR := Aside0.mk hr
  have HY := Aside0.mk hy
  have HT := Aside0.mk ht
  have HL := Aside0.mk hl
  clear hk hr hy ht hl
  have hs1 : decide ((65532 : Int) < (u.size : Int)) = false := decide_eq_false (by omega)
  obtain ⟨t, ht0⟩ : ∃ t, be3 u.size = t := ⟨_, rfl⟩
  have HBE := Aside0.mk (show wire_Bytes.f (u.size : Int) 3 = some t from by rw [← ht0]; exact be3_some _)
  obtain ⟨y, hy0⟩ : ∃ y : List Int, y = [m.f0 % 256] := ⟨_, rfl⟩
  have Ny := Aside0.mk hy0
  have hc1 : (strOfNums y).size + t.size ≤ 9223372036854775807 := by
    obtain ⟨r, h1, h2⟩ := bytes_some u.size 3 (by omega) (by omega)
    rw [HBE.out] at h1
    cases h1
    rw [hy0, h2]
    show 1 + 3 ≤ 9223372036854775807
    omega
  have c1 := eq_true hc1
  have c1f : (9223372036854775807 < (strOfNums y).size + t.size) = False := eq_false (Nat.not_lt.2 hc1)
  obtain ⟨z, hz0⟩ : ∃ z, strOfNums y ++ t = z := ⟨_, rfl⟩
  have hc2 : z.size + u.size ≤ 9223372036854775807 := by
    obtain ⟨r, h1, h2⟩ := bytes_some u.size 3 (by omega) (by omega)
    rw [HBE.out] at h1
    cases h1
    rw [← hz0, ByteArray.size_append, hy0, h2]
    have : (strOfNums [m.f0 % 256]).size = 1 := rfl
    omega
  have c2 := eq_true hc2
  have c2f : (9223372036854775807 < z.size + u.size) = False := eq_false (Nat.not_lt.2 hc2)
  obtain ⟨f, hf0⟩ : ∃ f, z ++ u = f := ⟨_, rfl⟩
  have Sf := Aside0.mk (show framed m.f0 u = f from by unfold framed; rw [ht0, ← hy0, hz0, hf0])
  clear ht0 hy0 hc1 hc2
  go_enter Try.func23, Try.ntmps23
  go_wp2_with (first
    | ((with_reducible refine gate_dst (N := 1) rfl ?_); refine box49 rfl rfl rfl ?_; intro gm e1 w1 h1 b1; have HM := Aside0.mk h1; have HB := Aside0.mk b1; have HE := Aside0.mk (blk_lt h1); clear h1 b1 e1)
    | ((with_reducible refine gate_dst (N := 6) rfl ?_); refine ld (v := .int .i64 m.f0) rfl rfl rfl HM.out Try.underlying3 rfl rfl ?_)
    | (go_at_call 43; (with_reducible refine (msg_known.calls m.f0 true _ HK.out).mono ?_); rintro e2 w2 ⟨rfl, d2⟩; have HM2 := Aside0.mk ((d2.below.block gm (blk_lt HM.out)).trans HM.out); have HB2 := Aside0.mk (below_step HB.out d2.below); clear d2)
    | ((with_reducible refine gate_dst (N := 9) rfl ?_); refine build83 rfl rfl ?_)
    | ((with_reducible refine gate_dst (N := 10) rfl ?_); refine box83 rfl _ rfl rfl ?_; intro g eg w3 i3 b3; have HA := Aside0.mk (At.mk (w0 := w) i3 ((b3.block gm (blk_lt HM2.out)).trans HM2.out) (blk_lt HM2.out) (below_step HB2.out b3) HB2.out.size); clear i3 b3 eg)
    | (go_at_call 44; (refine (HY.out _ _ _ _ HA.out).mono ?_); rintro e4 w4 ⟨rfl, i4, f4⟩; have HM4 := Aside0.mk (f4.keep _ _ _ HA.out.box (by have := HA.out.lt; have := HA.out.wt.lt; omega) (by decide)); have HB4 := Aside0.mk (HA.out.below.trans (f4.below.mono HA.out.le)); obtain ⟨v4, h4, l4, o4⟩ := i4; obtain ⟨A4, c4, rfl⟩ := own_slice o4; have HG4 := Aside0.mk h4; have HO4 := Aside0.mk o4; have hcb := cell1 h4; have hc0 := cell0 h4; clear h4 o4 f4)
    | ((with_reducible refine gate_dst (N := 18) rfl ?_); refine gate_guard rfl ?_; refine wpList_load_row rfl 49 _ rfl gm rfl 49 _ (0, 0) _ HM4.out Try.underlying49 rfl sz49 ?_)
    | (go_at_call 46; (with_reducible refine (unused_calls m h _).mono ?_); rintro e5 w5 ⟨rfl, b5⟩; have HG5 := Aside0.mk ((b5.block g (blk_lt HG4.out)).trans HG4.out); have HM5 := Aside0.mk ((b5.block gm (blk_lt HM4.out)).trans HM4.out); have HO5 := Aside0.mk (HO4.out.kept (grown_of_below b5 none) (by cases A4 <;> simp [Value.ownBlock])); have HB5 := Aside0.mk (below_step HB4.out b5); clear b5 hcb hc0)
    | (go_at_call 45; (with_reducible refine (zero_calls m.unused (h.unused m) _ (un_reads (HR.out.below HB5.out)) HT.out HL.out).mono ?_); rintro e6 w6 ⟨rfl, b6⟩; have HG6 := Aside0.mk ((b6.block g (blk_lt HG5.out)).trans HG5.out); have HM6 := Aside0.mk ((b6.block gm (blk_lt HM5.out)).trans HM5.out); have HO6 := Aside0.mk (HO5.out.kept (grown_of_below b6 none) (by cases A4 <;> simp [Value.ownBlock])); have HB6 := Aside0.mk (below_step HB5.out b6); have hc0 := cell0 HG6.out; clear b6))
  clear hc0
  refine start_ (n := 20) (S := fun w' => Below w6.heap.size w6 w') (ds := []) #[false, false, false, false, false, false, false, false, false, false, false, false, false, false, false, false, false, false, false, false] (by kernel_rfl) rfl rfl (Below.refl w6.heap.size w6).drew (fun hHeld => ?_)
  have HS7 := Aside0.mk (Below.refl w6.heap.size w6).drew
  generalize w6.drew = w7 at HS7 hHeld ⊢
  refine pure_ (i := 0) (N := (some 31)) (v := ?_) (a' := ?_) #[true, false, false, false, false, false, false, false, false, false, false, false, false, false, false, false, false, false, false, false] rfl rfl (by kernel_rfl) (fun _ _ _ h => h) (Or.inl ⟨by rfl, ?_⟩) ?_ ?_
  rotate_left
  · intro w'
    go_simp
    with_reducible rfl
  rotate_left
  · simp only [Act.put, List.setIfInBounds_toArray, List.set_cons_zero, List.set_cons_succ]
    rfl
  refine take_ (i := 1) (N := (some 32)) (v := ?_) (a' := ?_) #[true, true, false, false, false, false, false, false, false, false, false, false, false, false, false, false, false, false, false, false] rfl rfl (by kernel_rfl) (fun _ _ _ h => h) (Or.inl ⟨by rfl, ?_⟩) hHeld ?_ ?_
  rotate_left
  · rintro w' hS
    have hc : w'.cell? ⟨gm, 0, none⟩ = some (.int .i64 m.f0) := (blk_cell ((hS.block gm (blk_lt HM6.out)).trans HM6.out) 0).trans rfl
    go_simp
    with_reducible rfl
  rotate_left
  · simp only [Act.put, List.setIfInBounds_toArray, List.set_cons_zero, List.set_cons_succ]
    rfl
  refine pure_ (i := 2) (N := (some 33)) (v := ?_) (a' := ?_) #[true, true, true, false, false, false, false, false, false, false, false, false, false, false, false, false, false, false, false, false] rfl rfl (by kernel_rfl) (fun _ _ _ h => h) (Or.inl ⟨by rfl, ?_⟩) ?_ ?_
  rotate_left
  · intro w'
    go_simp
    with_reducible rfl
  rotate_left
  · simp only [Act.put, List.setIfInBounds_toArray, List.set_cons_zero, List.set_cons_succ]
    rfl
  refine pure_ (i := 5) (N := (some 36)) (v := ?_) (a' := ?_) #[true, true, true, false, false, true, false, false, false, false, false, false, false, false, false, false, false, false, false, false] rfl rfl (by kernel_rfl) (fun _ _ _ h => h) (Or.inl ⟨by rfl, ?_⟩) ?_ ?_
  rotate_left
  · intro w'
    go_simp
    with_reducible rfl
  rotate_left
  · simp only [Act.put, List.setIfInBounds_toArray, List.set_cons_zero, List.set_cons_succ]
    rfl
  refine pure_ (i := 6) (N := (some 37)) (v := ?_) (a' := ?_) #[true, true, true, false, false, true, true, false, false, false, false, false, false, false, false, false, false, false, false, false] rfl rfl (by kernel_rfl) (fun _ _ _ h => h) (Or.inl ⟨by rfl, ?_⟩) ?_ ?_
  rotate_left
  · intro w'
    go_simp
    with_reducible rfl
  rotate_left
  · simp only [Act.put, List.setIfInBounds_toArray, List.set_cons_zero, List.set_cons_succ]
    rfl
  refine pure_ (i := 7) (N := (some 38)) (v := ?_) (a' := ?_) #[true, true, true, false, false, true, true, true, false, false, false, false, false, false, false, false, false, false, false, false] rfl rfl (by kernel_rfl) (fun _ _ _ h => h) (Or.inl ⟨by rfl, ?_⟩) ?_ ?_
  rotate_left
  · intro w'
    go_simp
    with_reducible rfl
  rotate_left
  · simp only [Act.put, List.setIfInBounds_toArray, List.set_cons_zero, List.set_cons_succ]
    rfl
  refine take_ (i := 8) (N := (some 39)) (v := ?_) (a' := ?_) #[true, true, true, false, false, true, true, true, true, false, false, false, false, false, false, false, false, false, false, false] rfl rfl (by kernel_rfl) (fun _ _ _ h => h) (Or.inl ⟨by rfl, ?_⟩) hHeld ?_ ?_
  rotate_left
  · rintro w' hS
    have hc := cell0 ((hS.block g (blk_lt HG6.out)).trans HG6.out)
    go_simp
    with_reducible rfl
  rotate_left
  · simp only [Act.put, List.setIfInBounds_toArray, List.set_cons_zero, List.set_cons_succ]
    rfl
  refine pure_ (i := 9) (N := (some 40)) (v := ?_) (a' := ?_) #[true, true, true, false, false, true, true, true, true, true, false, false, false, false, false, false, false, false, false, false] rfl rfl (by kernel_rfl) (fun _ _ _ h => h) (Or.inl ⟨by rfl, ?_⟩) ?_ ?_
  rotate_left
  · intro w'
    go_simp
    with_reducible rfl
  rotate_left
  · simp only [Act.put, List.setIfInBounds_toArray, List.set_cons_zero, List.set_cons_succ]
    rfl
  refine pure_ (i := 12) (N := (some 43)) (v := ?_) (a' := ?_) #[true, true, true, false, false, true, true, true, true, true, false, false, true, false, false, false, false, false, false, false] rfl rfl (by kernel_rfl) (fun _ _ _ h => h) (Or.inl ⟨by rfl, ?_⟩) ?_ ?_
  rotate_left
  · intro w'
    go_simp
    with_reducible rfl
  rotate_left
  · simp only [Act.put, List.setIfInBounds_toArray, List.set_cons_zero, List.set_cons_succ]
    rfl
  refine pure_ (i := 13) (N := (some 44)) (v := ?_) (a' := ?_) #[true, true, true, false, false, true, true, true, true, true, false, false, true, true, false, false, false, false, false, false] rfl rfl (by kernel_rfl) (fun _ _ _ h => h) (Or.inl ⟨by rfl, ?_⟩) ?_ ?_
  rotate_left
  · intro w'
    go_simp
    with_reducible rfl
  rotate_left
  · simp only [Act.put, List.setIfInBounds_toArray, List.set_cons_zero, List.set_cons_succ]
    rfl
  refine pure_ (i := 14) (N := (some 45)) (v := ?_) (a' := ?_) #[true, true, true, false, false, true, true, true, true, true, false, false, true, true, true, false, false, false, false, false] rfl rfl (by kernel_rfl) (fun _ _ _ h => h) (Or.inl ⟨by rfl, ?_⟩) ?_ ?_
  rotate_left
  · intro w'
    go_simp
    with_reducible rfl
  rotate_left
  · simp only [Act.put, List.setIfInBounds_toArray, List.set_cons_zero, List.set_cons_succ]
    rfl
  refine take_ (i := 15) (N := (some 46)) (v := ?_) (a' := ?_) #[true, true, true, false, false, true, true, true, true, true, false, false, true, true, true, true, false, false, false, false] rfl rfl (by kernel_rfl) (fun _ _ _ h => h) (Or.inl ⟨by rfl, ?_⟩) hHeld ?_ ?_
  rotate_left
  · rintro w' hS
    have hc := cell0 ((hS.block g (blk_lt HG6.out)).trans HG6.out)
    go_simp
    with_reducible rfl
  rotate_left
  · simp only [Act.put, List.setIfInBounds_toArray, List.set_cons_zero, List.set_cons_succ]
    rfl
  refine take_ (i := 16) (N := (some 47)) (v := ?_) (a' := ?_) #[true, true, true, false, false, true, true, true, true, true, false, false, true, true, true, true, true, false, false, false] rfl rfl (by kernel_rfl) (fun _ _ _ h => h) (Or.inl ⟨by rfl, ?_⟩) hHeld ?_ ?_
  rotate_left
  · rintro w' hS
    have hcv := own_bytes (HO6.out.kept (grown_of_below hS none) (by cases A4 <;> simp [Value.ownBlock]))
    go_simp
    with_reducible rfl
  rotate_left
  · simp only [Act.put, List.setIfInBounds_toArray, List.set_cons_zero, List.set_cons_succ]
    rfl
  refine two_ (i := 3) (j := 10) (Ni := some 34) (Nj := some 41) #[true, true, true, true, false, true, true, true, true, true, false, false, true, true, true, true, true, false, false, false] #[true, true, true, false, false, true, true, true, true, true, true, false, true, true, true, true, true, false, false, false] rfl rfl rfl rfl (by kernel_rfl) (by decide) (by decide) (fun K hK => ?_) (fun K hK => ?_)
  · refine Kd.R_lit_step (Kd.int .u8) _ 5 ?hg (N := 34) ?hd (xs := ([(m.f0) % 256] : List Int)) (inner := [.int .u8 ((m.f0) % 256)]) (ok := fun _ => True) (okp := fun _ => True) ?hr ?hp (fun _ hk => hk) trivial (Below.refl _ _) (Nat.le_refl _) (by simp) ?_; (case hd => rfl); (case hg => rfl); (case hr => first | (go_simp; done) | (go_simp; rfl)); (case hp => exact (Reps.one (show Kd.M (Kd.int .u8) _ _ _ ((m.f0) % 256) [.int .u8 ((m.f0) % 256)] from rfl) (Reps.none _ _)))
    intro vy wy ho hb hg_ hnew_
    clear hg_ hnew_
    (first | rw [← Ny.out] at ho | (simp only [Int.reduceToNat] at ho; rw [← Ny.out] at ho))
    have HO := Aside0.mk ho
    have n_ := Aside0.mk (below_step HS7.out hb)
    clear HS7
    have HS7 := n_
    clear n_ ho hb
    refine hK.out _ _ HS7.out (fun hHeld => ?_)
    clear hK K
    refine norm_ (a' := ?_) ?_ ?_
    rotate_left
    · show Act.put _ (some 34) _ = _
      simp only [Act.put, List.setIfInBounds_toArray, List.set_cons_zero, List.set_cons_succ]
      rfl
    refine two_ (i := 4) (j := 10) (Ni := some 35) (Nj := some 41) #[true, true, true, true, true, true, true, true, true, true, false, false, true, true, true, true, true, false, false, false] #[true, true, true, true, false, true, true, true, true, true, true, false, true, true, true, true, true, false, false, false] rfl rfl rfl rfl (by kernel_rfl) (by decide) (by decide) (fun K hK => ?_) (fun K hK => ?_)
    · have hcv8 := own_string (P := Try.prog) Try.underlying39 Try.underlying5 Try.underlying9 (Kd.own_of_R HO.out)
      refine value_ (w1 := ?_) (v := ?_) (by rfl) rfl ?_ ?_
      rotate_left 2
      · go_simp
        constructor
        · rfl
        · rfl
      clear hcv8
      refine hK.out _ _ HS7.out (fun hHeld => ?_)
      clear hK K
      refine norm_ (a' := ?_) ?_ ?_
      rotate_left
      · show Act.put _ (some 35) _ = _
        simp only [Act.put, List.setIfInBounds_toArray, List.set_cons_zero, List.set_cons_succ]
        rfl
      refine one_ (i := 10) (N := (some 41)) #[true, true, true, true, true, true, true, true, true, true, true, false, true, true, true, true, true, false, false, false] rfl rfl (by kernel_rfl) (by decide) (fun K hK => ?_)
      refine goes_ Try.func47 (by kernel_rfl) rfl #[.int .i64 (u.size : Int), .int .i64 3] (by rfl) rfl rfl (by (try simp only [List.map_toArray, List.map_cons, List.map_nil]); first | done | rfl) ?_
      with_reducible refine (wire_Bytes.calls (u.size : Int) 3 t _ HBE.out).mono ?_
      rintro e wz ⟨rfl, hb⟩
      refine ⟨_, rfl, ?_⟩
      have n1_ := Aside0.mk (Kd.R_below HO.out hb)
      clear HO
      have HO := n1_
      clear n1_
      have n_ := Aside0.mk (below_step HS7.out hb)
      clear HS7
      have HS7 := n_
      clear n_ hb
      refine hK.out _ _ HS7.out (fun hHeld => ?_)
      clear hK K
      refine norm_ (a' := ?_) ?_ ?_
      rotate_left
      · show Act.put _ (some 41) _ = _
        simp only [Act.put, List.setIfInBounds_toArray, List.set_cons_zero, List.set_cons_succ]
        rfl
      refine pure_ (i := 11) (N := (some 42)) (v := ?_) (a' := ?_) #[true, true, true, true, true, true, true, true, true, true, true, true, true, true, true, true, true, false, false, false] rfl rfl (by kernel_rfl) (fun _ _ _ h => h) (Or.inl ⟨by rfl, ?_⟩) ?_ ?_
      rotate_left
      · intro w'
        go_simp
        with_reducible rfl
      rotate_left
      · simp only [Act.put, List.setIfInBounds_toArray, List.set_cons_zero, List.set_cons_succ]
        rfl
      refine pure_ (i := 17) (N := (some 48)) (v := ?_) (a' := ?_) #[true, true, true, true, true, true, true, true, true, true, true, true, true, true, true, true, true, true, false, false] rfl rfl (by kernel_rfl) (fun _ _ _ h => h) (Or.inl ⟨by rfl, ?_⟩) ?_ ?_
      rotate_left
      · intro w'
        go_simp
        with_reducible rfl
      rotate_left
      · simp only [Act.put, List.setIfInBounds_toArray, List.set_cons_zero, List.set_cons_succ]
        rfl
      refine pure_ (i := 18) (N := (some 2)) (v := ?_) (a' := ?_) #[true, true, true, true, true, true, true, true, true, true, true, true, true, true, true, true, true, true, true, false] rfl rfl (by kernel_rfl) (fun _ _ _ h => h) (Or.inl ⟨by rfl, ?_⟩) ?_ ?_
      rotate_left
      · intro w'
        go_simp
        with_reducible rfl
      rotate_left
      · simp only [Act.put, List.setIfInBounds_toArray, List.set_cons_zero, List.set_cons_succ]
        rfl
      refine pure_ (i := 19) (N := (some 3)) (v := ?_) (a' := ?_) #[true, true, true, true, true, true, true, true, true, true, true, true, true, true, true, true, true, true, true, true] rfl rfl (by kernel_rfl) (fun _ _ _ h => h) (Or.inl ⟨by rfl, ?_⟩) ?_ ?_
      rotate_left
      · intro w'
        go_simp
        with_reducible rfl
      rotate_left
      · simp only [Act.put, List.setIfInBounds_toArray, List.set_cons_zero, List.set_cons_succ]
        rfl
      refine done_ (by kernel_rfl) ?_
      go_wp2
      go_ret2
      exact ⟨by rw [Sf.out]; rfl, below_step HB6.out HS7.out⟩
    · refine goes_ Try.func47 (by kernel_rfl) rfl #[.int .i64 (u.size : Int), .int .i64 3] (by rfl) rfl rfl (by (try simp only [List.map_toArray, List.map_cons, List.map_nil]); first | done | rfl) ?_
      with_reducible refine (wire_Bytes.calls (u.size : Int) 3 t _ HBE.out).mono ?_
      rintro e wz ⟨rfl, hb⟩
      refine ⟨_, rfl, ?_⟩
      have n1_ := Aside0.mk (Kd.R_below HO.out hb)
      clear HO
      have HO := n1_
      clear n1_
      have n_ := Aside0.mk (below_step HS7.out hb)
      clear HS7
      have HS7 := n_
      clear n_ hb
      refine hK.out _ _ HS7.out (fun hHeld => ?_)
      clear hK K
      refine norm_ (a' := ?_) ?_ ?_
      rotate_left
      · show Act.put _ (some 41) _ = _
        simp only [Act.put, List.setIfInBounds_toArray, List.set_cons_zero, List.set_cons_succ]
        rfl
      refine one_ (i := 4) (N := (some 35)) #[true, true, true, true, true, true, true, true, true, true, true, false, true, true, true, true, true, false, false, false] rfl rfl (by kernel_rfl) (by decide) (fun K hK => ?_)
      have hcv8 := own_string (P := Try.prog) Try.underlying39 Try.underlying5 Try.underlying9 (Kd.own_of_R HO.out)
      refine value_ (w1 := ?_) (v := ?_) (by rfl) rfl ?_ ?_
      rotate_left 2
      · go_simp
        constructor
        · rfl
        · rfl
      clear hcv8
      refine hK.out _ _ HS7.out (fun hHeld => ?_)
      clear hK K
      refine norm_ (a' := ?_) ?_ ?_
      rotate_left
      · show Act.put _ (some 35) _ = _
        simp only [Act.put, List.setIfInBounds_toArray, List.set_cons_zero, List.set_cons_succ]
        rfl
      refine pure_ (i := 11) (N := (some 42)) (v := ?_) (a' := ?_) #[true, true, true, true, true, true, true, true, true, true, true, true, true, true, true, true, true, false, false, false] rfl rfl (by kernel_rfl) (fun _ _ _ h => h) (Or.inl ⟨by rfl, ?_⟩) ?_ ?_
      rotate_left
      · intro w'
        go_simp
        with_reducible rfl
      rotate_left
      · simp only [Act.put, List.setIfInBounds_toArray, List.set_cons_zero, List.set_cons_succ]
        rfl
      refine pure_ (i := 17) (N := (some 48)) (v := ?_) (a' := ?_) #[true, true, true, true, true, true, true, true, true, true, true, true, true, true, true, true, true, true, false, false] rfl rfl (by kernel_rfl) (fun _ _ _ h => h) (Or.inl ⟨by rfl, ?_⟩) ?_ ?_
      rotate_left
      · intro w'
        go_simp
        with_reducible rfl
      rotate_left
      · simp only [Act.put, List.setIfInBounds_toArray, List.set_cons_zero, List.set_cons_succ]
        rfl
      refine pure_ (i := 18) (N := (some 2)) (v := ?_) (a' := ?_) #[true, true, true, true, true, true, true, true, true, true, true, true, true, true, true, true, true, true, true, false] rfl rfl (by kernel_rfl) (fun _ _ _ h => h) (Or.inl ⟨by rfl, ?_⟩) ?_ ?_
      rotate_left
      · intro w'
        go_simp
        with_reducible rfl
      rotate_left
      · simp only [Act.put, List.setIfInBounds_toArray, List.set_cons_zero, List.set_cons_succ]
        rfl
      refine pure_ (i := 19) (N := (some 3)) (v := ?_) (a' := ?_) #[true, true, true, true, true, true, true, true, true, true, true, true, true, true, true, true, true, true, true, true] rfl rfl (by kernel_rfl) (fun _ _ _ h => h) (Or.inl ⟨by rfl, ?_⟩) ?_ ?_
      rotate_left
      · intro w'
        go_simp
        with_reducible rfl
      rotate_left
      · simp only [Act.put, List.setIfInBounds_toArray, List.set_cons_zero, List.set_cons_succ]
        rfl
      refine done_ (by kernel_rfl) ?_
      go_wp2
      go_ret2
      exact ⟨by rw [Sf.out]; rfl, below_step HB6.out HS7.out⟩
  · refine goes_ Try.func47 (by kernel_rfl) rfl #[.int .i64 (u.size : Int), .int .i64 3] (by rfl) rfl rfl (by (try simp only [List.map_toArray, List.map_cons, List.map_nil]); first | done | rfl) ?_
    with_reducible refine (wire_Bytes.calls (u.size : Int) 3 t _ HBE.out).mono ?_
    rintro e wz ⟨rfl, hb⟩
    refine ⟨_, rfl, ?_⟩
    have n_ := Aside0.mk (below_step HS7.out hb)
    clear HS7
    have HS7 := n_
    clear n_ hb
    refine hK.out _ _ HS7.out (fun hHeld => ?_)
    clear hK K
    refine norm_ (a' := ?_) ?_ ?_
    rotate_left
    · show Act.put _ (some 41) _ = _
      simp only [Act.put, List.setIfInBounds_toArray, List.set_cons_zero, List.set_cons_succ]
      rfl
    refine one_ (i := 3) (N := (some 34)) #[true, true, true, true, false, true, true, true, true, true, true, false, true, true, true, true, true, false, false, false] rfl rfl (by kernel_rfl) (by decide) (fun K hK => ?_)
    refine Kd.R_lit_step (Kd.int .u8) _ 5 ?hg (N := 34) ?hd (xs := ([(m.f0) % 256] : List Int)) (inner := [.int .u8 ((m.f0) % 256)]) (ok := fun _ => True) (okp := fun _ => True) ?hr ?hp (fun _ hk => hk) trivial (Below.refl _ _) (Nat.le_refl _) (by simp) ?_; (case hd => rfl); (case hg => rfl); (case hr => first | (go_simp; done) | (go_simp; rfl)); (case hp => exact (Reps.one (show Kd.M (Kd.int .u8) _ _ _ ((m.f0) % 256) [.int .u8 ((m.f0) % 256)] from rfl) (Reps.none _ _)))
    intro vy wy ho hb hg_ hnew_
    clear hg_ hnew_
    (first | rw [← Ny.out] at ho | (simp only [Int.reduceToNat] at ho; rw [← Ny.out] at ho))
    have HO := Aside0.mk ho
    have n_ := Aside0.mk (below_step HS7.out hb)
    clear HS7
    have HS7 := n_
    clear n_ ho hb
    refine hK.out _ _ HS7.out (fun hHeld => ?_)
    clear hK K
    refine norm_ (a' := ?_) ?_ ?_
    rotate_left
    · show Act.put _ (some 34) _ = _
      simp only [Act.put, List.setIfInBounds_toArray, List.set_cons_zero, List.set_cons_succ]
      rfl
    refine one_ (i := 4) (N := (some 35)) #[true, true, true, true, true, true, true, true, true, true, true, false, true, true, true, true, true, false, false, false] rfl rfl (by kernel_rfl) (by decide) (fun K hK => ?_)
    have hcv8 := own_string (P := Try.prog) Try.underlying39 Try.underlying5 Try.underlying9 (Kd.own_of_R HO.out)
    refine value_ (w1 := ?_) (v := ?_) (by rfl) rfl ?_ ?_
    rotate_left 2
    · go_simp
      constructor
      · rfl
      · rfl
    clear hcv8
    refine hK.out _ _ HS7.out (fun hHeld => ?_)
    clear hK K
    refine norm_ (a' := ?_) ?_ ?_
    rotate_left
    · show Act.put _ (some 35) _ = _
      simp only [Act.put, List.setIfInBounds_toArray, List.set_cons_zero, List.set_cons_succ]
      rfl
    refine pure_ (i := 11) (N := (some 42)) (v := ?_) (a' := ?_) #[true, true, true, true, true, true, true, true, true, true, true, true, true, true, true, true, true, false, false, false] rfl rfl (by kernel_rfl) (fun _ _ _ h => h) (Or.inl ⟨by rfl, ?_⟩) ?_ ?_
    rotate_left
    · intro w'
      go_simp
      with_reducible rfl
    rotate_left
    · simp only [Act.put, List.setIfInBounds_toArray, List.set_cons_zero, List.set_cons_succ]
      rfl
    refine pure_ (i := 17) (N := (some 48)) (v := ?_) (a' := ?_) #[true, true, true, true, true, true, true, true, true, true, true, true, true, true, true, true, true, true, false, false] rfl rfl (by kernel_rfl) (fun _ _ _ h => h) (Or.inl ⟨by rfl, ?_⟩) ?_ ?_
    rotate_left
    · intro w'
      go_simp
      with_reducible rfl
    rotate_left
    · simp only [Act.put, List.setIfInBounds_toArray, List.set_cons_zero, List.set_cons_succ]
      rfl
    refine pure_ (i := 18) (N := (some 2)) (v := ?_) (a' := ?_) #[true, true, true, true, true, true, true, true, true, true, true, true, true, true, true, true, true, true, true, false] rfl rfl (by kernel_rfl) (fun _ _ _ h => h) (Or.inl ⟨by rfl, ?_⟩) ?_ ?_
    rotate_left
    · intro w'
      go_simp
      with_reducible rfl
    rotate_left
    · simp only [Act.put, List.setIfInBounds_toArray, List.set_cons_zero, List.set_cons_succ]
      rfl
    refine pure_ (i := 19) (N := (some 3)) (v := ?_) (a' := ?_) #[true, true, true, true, true, true, true, true, true, true, true, true, true, true, true, true, true, true, true, true] rfl rfl (by kernel_rfl) (fun _ _ _ h => h) (Or.inl ⟨by rfl, ?_⟩) ?_ ?_
    rotate_left
    · intro w'
      go_simp
      with_reducible rfl
    rotate_left
    · simp only [Act.put, List.setIfInBounds_toArray, List.set_cons_zero, List.set_cons_succ]
      rfl
    refine done_ (by kernel_rfl) ?_
    go_wp2
    go_ret2
    exact ⟨by rw [Sf.out]; rfl, below_step HB6.out HS7.out⟩
end Go.Proofs.Ytlkebjkpmiehcaa.Ms
end
