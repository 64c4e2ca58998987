/- Words, contracts and lemmas that the claim needs, in the order in which they build. Conditions: each lemma's own. -/
import Derived.Laws.Tables
import Derived.Test.YtlkebjkpmiehcaaHb3
namespace Go.Proofs.Ytlkebjkpmiehcaa
abbrev T43 : Array Bool := #[false,false,false,false,false,false,false,false,false,false]
abbrev T47 : Array Bool := #[true,false,false,false,false,false,false,false,false,false]
abbrev T411 : Array Bool := #[true,true,false,false,false,false,false,false,false,false]
abbrev T415 : Array Bool := #[true,true,true,false,false,false,false,false,false,false]
abbrev T429 : Array Bool := #[true,true,true,true,false,false,false,false,false,false]
abbrev T431 : Array Bool := #[true,true,true,true,false,true,true,true,true,true,true,false,true,true,true,true,true,false,false,false]
abbrev T434 : Array Bool := #[true,true,true,true,true,false,false,false,false,false]
abbrev T437 : Array Bool := #[true,true,true,true,true,true,false,false,false,false]
abbrev T440 : Array Bool := #[true,true,true,true,true,true,true,false,false,false]
abbrev T443 : Array Bool := #[true,true,true,true,true,true,true,true,false,false]
abbrev T446 : Array Bool := #[true,true,true,true,true,true,true,true,true,false]
abbrev T452 : Array Bool := #[true,true,true,true,true,true,true,true,true,true,true,false,true,true,true,true,true,false,false,false]
abbrev T459 : Array Bool := #[true,true,true,true,true,true,true,true,true,true,true,true,true,true,true,true,true,false,false,false]
abbrev T460 : Array Bool := #[true,true,true,true,true,true,true,true,true,true,true,true,true,true,true,true,true,true,false,false]
abbrev T461 : Array Bool := #[true,true,true,true,true,true,true,true,true,true,true,true,true,true,true,true,true,true,true,false]
abbrev T462 : Array Bool := #[true,true,true,true,true,true,true,true,true,true,true,true,true,true,true,true,true,true,true,true]
abbrev T465 : Array Bool := #[true,true,true,true,true,true,true,true,true,true]
end Go.Proofs.Ytlkebjkpmiehcaa
section
namespace Go.Proofs.Ytlkebjkpmiehcaa.Ms
open Go.RowKit Go.Proofs.YtlkebjkpmiehcaaW.PrintWords Go.Proofs.YtlkebjkpmiehcaaW.PrintLast Go.Proofs.YtlkebjkpmiehcaaW.PrintMore Go.Proofs.Ytlkebjkpmiehcaa.X
open Go.Proofs.Ytlkebjkpmiehcaa.Pure (nv numOf vecOf nv_bd nv_bd4 number_any vec_ok)
set_option linter.unusedVariables false
def zeroM : Mv := ⟨0,⟨#[]⟩,⟨#[]⟩,[],⟨#[]⟩,[],[],[],[],[],[],[],0,[],[],0,⟨#[]⟩,0,0,⟨#[]⟩,0⟩
def hd0 : Hd := ⟨none,0,none,0,none,0,none,0,none,0,none,0,none,0,none,0,none,0,none,0⟩
def getR (s : ByteArray) : Rp := ⟨s.extract 4 s.size,0,0,false,false⟩
def getB (s : ByteArray) : Mv × Rp := bodyP (getR s) { zeroM with f0 := bt s 0 }
def getF (s : ByteArray) : Rp := if (getB s).2.done.t = true then (getB s).2.done.fail 1702 else (getB s).2.done
def knownB (k : Int) : Bool := (msg_known.f k).getD false
def headed (s : ByteArray) : Bool := (numOf s 1 3).2.2 == 0 && (numOf s 1 3).1 == (s.size : Int) - 4 && decide ((s.size : Int) ≤ 65536)
def getM (s : ByteArray) : Mv × Int :=
 if s.size = 0 then (zeroM,1701)
 else if knownB (bt s 0) = false then (zeroM,1701)
 else if headed s = false then (zeroM,1700)
 else if (getF s).c = 0 then ((getB s).1,0) else (zeroM,(getF s).c)
theorem known_f (k : Int) : msg_known.f k = some (knownB k) := by
 unfold knownB msg_known.f
 repeat' split
 all_goals rfl
theorem built49 : Try.prog.built 49 [] = some zcells := by kernel_rfl
theorem built90 : Try.prog.built 90 [] = some #[.int .i64 0,.bool false] := by kernel_rfl
section
variable {ops : Array Oper} {rest : List Oper} {o : Oper} {a : Act} {Q : Exit → Act → World → Prop} {w : World}
theorem bld {t : TypeId} {fs : Array (Nat × Operand)} {vs : Array (Nat × Value)} {cs : Array Value} (hgd : o.guard = none) (ho : o.op = .build t fs) (hv : fs.map (fun x => (x.1,a.eval x.2)) = vs) (hb : Try.prog.built t vs.toList = some cs)
  (H : wpList Try.prog ops Q rest (a.put o.dst (.agg cs)) w) : wpList Try.prog ops Q (o :: rest) a w := by
 refine wpList_plain hgd fun K hK => ?_
 unfold Oper.wp execOp
 have hr := run_build (P := Try.prog) w t vs _ hb
 simp only [ho,Sem.run_bind]
 rw [hv,hr]
 exact hK _ _ H
theorem boxA {t : TypeId} (hgd : o.guard = none) {x : Operand} (ho : o.op = .box t x) {cs : Array Value} (hx : a.eval x = .agg cs)
  (H : ∀ g,g = w.heap.size → ∀ w1,w1.heap[g]? = some (.cells cs t (0,0)) → Below w.heap.size w w1 → wpList Try.prog ops Q rest (a.put o.dst (.pointer (some ⟨g,0,none⟩))) w1) : wpList Try.prog ops Q (o :: rest) a w := by
 refine Kd.event_run hgd ?_ (H _ rfl _ (blk_new w _) (below_alloc (Below.refl _ _) _))
 unfold execOp
 simp only [ho,hx]
 rfl
theorem alloc49' (hgd : o.guard = none) (ho : o.op = .alloc 49)
  (H : ∀ g,g = w.heap.size → ∀ w1,w1.heap[g]? = some (.cells zcells 49 (0,0)) → Below w.heap.size w w1 → wpList Try.prog ops Q rest (a.put o.dst (.pointer (some ⟨g,0,none⟩))) w1) : wpList Try.prog ops Q (o :: rest) a w := by
 refine Kd.event_run hgd ?_ (H _ rfl _ (blk_new w (.cells zcells 49)) (below_alloc (Below.refl _ _) _))
 obtain ⟨i0,hi,hz⟩ := Option.map_eq_some_iff.1 zero49
 unfold execOp
 simp only [ho,Instr.alloc,zeroValue,typeInfo,Sem.run_bind]
 simp [hi,hz]
 rfl
theorem stRowN {n : TypeId} {N : Nat} (hsz : (Try.prog.info? n).map (·.size) = some N) (hgd : o.guard = none) {p x : Operand} (ho : o.op = .store n p x) {g : Nat} (hp : a.eval p = .pointer (some ⟨g,0,none⟩))
  {cs zs : Array Value} (hx : a.eval x = .agg cs) {t : TypeId} (h : w.heap[g]? = some (.cells zs t (0,0))) (hz : zs.size = N) (hc : cs.size = N) (h1 : cs.toList.all (·.oneCell') = true)
  (H : ∀ w1,w1.heap[g]? = some (.cells cs t (0,0)) → (∀ lo,lo ≤ g → Below lo w w1) → KeepBut w w1 g none → wpList Try.prog ops Q rest (a.put o.dst undef) w1) : wpList Try.prog ops Q (o :: rest) a w := by
 refine wpList_plain hgd fun K hK => wp_store_row n p x ho g cs hp hx t zs h (by rw [hc]; exact hsz) (by rw [hz,hc]) (by rw [← Array.all_toList]; exact h1) (hK _ _ (H _ ?_ ?_ ?_))
 ·simp [World.setRow,Array.getElem?_modify,h]
 ·intro lo hl
  refine ⟨rfl,rfl,rfl,by simp [World.setRow],fun k hk => ?_⟩
  simp only [World.setRow,Array.getElem?_modify]
  rw [if_neg (by omega)]
 ·refine ⟨by simp [World.setRow],fun k hk hne _ => ?_⟩
  simp only [World.setRow,Array.getElem?_modify]
  rw [if_neg (Ne.symm hne)]
theorem stRowM {oi : Oper} {K : Act → World → Prop} {n : TypeId} {N : Nat} (hsz : (Try.prog.info? n).map (·.size) = some N) (hw : Region.wanted oi (yielded ops a.tmps) = true) (hN : oi.dst = none) {p x : Operand} (ho : oi.op = .store n p x) {g : Nat} (hp : a.eval p = .pointer (some ⟨g,0,none⟩))
  {cs zs : Array Value} (hx : a.eval x = .agg cs) {t : TypeId} (h : w.heap[g]? = some (.cells zs t (0,0))) (hz : zs.size = N) (hc : cs.size = N) (h1 : cs.toList.all (·.oneCell') = true)
  (H : ∀ w1,w1.heap[g]? = some (.cells cs t (0,0)) → (∀ lo,lo ≤ g → Below lo w w1) → KeepBut w w1 g none → K a w1) : if Region.wanted oi (yielded ops a.tmps) = true then Oper.wp Try.prog oi a w K Q else K (a.put none undef) w := by
 rw [if_pos hw]
 refine wp_store_row n p x ho g cs hp hx t zs h (by rw [hc]; exact hsz) (by rw [hz,hc]) (by rw [← Array.all_toList]; exact h1) ?_
 have hput : a.put oi.dst undef = a := by rw [hN]; rfl
 rw [hput]
 refine H _ ?_ ?_ ?_
 ·simp [World.setRow,Array.getElem?_modify,h]
 ·intro lo hl
  refine ⟨rfl,rfl,rfl,by simp [World.setRow],fun k hk => ?_⟩
  simp only [World.setRow,Array.getElem?_modify]
  rw [if_neg (by omega)]
 ·refine ⟨by simp [World.setRow],fun k hk hne _ => ?_⟩
  simp only [World.setRow,Array.getElem?_modify]
  rw [if_neg (Ne.symm hne)]
end
theorem b0_eq (s : ByteArray) (h : 0 < s.size) : wrap64 ((s[0]'h).toNat : Int) = bt s 0 := by
 have e := bt_at s 0 (by simpa using h)
 have hb := bt_range s 0
 rw [← e]
 show wrap64 ((s[0]'h).toNat : Int) = ((s[0]'h).toNat : Int)
 have : ((s[0]'h).toNat : Int) = bt s 0 := e
 unfold wrap64
 omega
theorem zreads (w : World) : Reads w zeroM hd0 := by
 constructor <;> first | exact C_nil _ _ | exact Nat.le_refl _
theorem cells_one (m : Mv) (h : Hd) : (cells m h).toList.all (·.oneCell') = true := rfl
abbrev BodyC (R : Rp) (m : Mv) : Prop := ∀ (lo r f gm : Nat) (w : World),lo ≤ f → lo ≤ r → lo ≤ gm → RS w r f R → R.Ok → MO (fun _ => True) w gm m → Calls Try.prog 49 #[.pointer (some ⟨r,0,none⟩),.pointer (some ⟨gm,0,none⟩)] w fun ex w' => ex = .returned (.tuple #[]) ∧ RS w' r f (Rp.done (bodyP R m).2) ∧ MO (fun _ => True) w' gm (bodyP R m).1 ∧ Kg lo r f gm w w'
set_option maxRecDepth 100000 in
set_option maxHeartbeats 8000000 in
theorem get_empty (s : ByteArray) (w : World) (hs : s.size ≤ 140737488351232) (he : s.size = 0) :
  Calls Try.prog 24 #[.string s] w fun ex w' => ex = .returned (.tuple #[.agg (cells zeroM hd0),.int .i64 1701]) ∧ Below w.heap.size w w' := by
 have e1 : s.toList.isEmpty = true := by rw [ByteArray.toList_eq,List.isEmpty_iff]; exact List.eq_nil_of_length_eq_zero (by simpa using he)
 clear he
 go_enter Try.func24,Try.ntmps24
 go_wp2_with (first
  | ((with_reducible refine gate_dst (N := 2) rfl ?_); refine alloc49' rfl rfl ?_; intro g2 eg w1 h1 b1; have HZ := Aq.mk h1; have HB := Aq.mk b1; have HE := Aq.mk (show w.heap.size ≤ g2 from by omega); clear h1 b1 eg)
  | ((with_reducible refine gate_dst (N := 18) rfl ?_); refine bld rfl rfl (vs := #[]) (by simp) built49 ?_)
  | ((with_reducible refine gate_store (p := 2) rfl ?_); refine stRowN sz49 rfl rfl rfl rfl HZ.out rfl rfl rfl ?_; intro w9 h9 b9 k9; have HZ9 := Aq.mk h9; have HB9 := Aq.mk (HB.out.trans (b9 _ HE.out)); clear h9 b9 k9))
 refine bodyPost_ret (results_ct rfl _ _ g2 49 _ (0,0) _ rfl HZ9.out Try.underlying49 rfl sz49) rfl ?_
 exact ⟨rfl,HB9.out⟩
set_option maxRecDepth 100000 in
set_option maxHeartbeats 8000000 in
theorem get_unknown (s : ByteArray) (w : World) (hs : s.size ≤ 140737488351232) (he : s.size ≠ 0) (hk : knownB (bt s 0) = false) :
  Calls Try.prog 24 #[.string s] w fun ex w' => ex = .returned (.tuple #[.agg (cells zeroM hd0),.int .i64 1701]) ∧ Below w.heap.size w w' := by
 have e1 : s.toList.isEmpty = false := by rw [ByteArray.toList_eq]; rw [List.isEmpty_eq_false_iff]; intro e; exact he (by simpa using congrArg List.length e)
 have HKN := Aq.mk hk
 have HH := Aq.mk (Nat.pos_of_ne_zero he)
 have hpos : 0 < s.size := HH.out
 have hb0 := bt_range s 0
 clear he hk
 go_enter Try.func24,Try.ntmps24
 go_wp2_with (first
  | ((with_reducible refine gate_dst (N := 2) rfl ?_); refine alloc49' rfl rfl ?_; intro g2 eg w1 h1 b1; have HZ := Aq.mk h1; have HB := Aq.mk b1; have HE := Aq.mk (show w.heap.size ≤ g2 from by omega); clear h1 b1 eg)
  | (go_at_call 43; rw [b0_eq s HH.out]; (with_reducible refine (msg_known.calls (bt s 0) false _ (by rw [known_f,HKN.out])).mono ?_); rintro e2 w2 ⟨rfl,d2⟩; have HZ2 := Aq.mk ((d2.below.block g2 (blk_lt HZ.out)).trans HZ.out); have HB2 := Aq.mk (below_step HB.out d2.below); clear d2)
  | ((with_reducible refine gate_dst (N := 18) rfl ?_); refine bld rfl rfl (vs := #[]) (by simp) built49 ?_)
  | ((with_reducible refine gate_store (p := 2) rfl ?_); refine stRowN sz49 rfl rfl rfl rfl HZ2.out rfl rfl rfl ?_; intro w9 h9 b9 k9; have HZ9 := Aq.mk h9; have HB9 := Aq.mk (HB2.out.trans (b9 _ HE.out)); clear h9 b9 k9))
 refine bodyPost_ret (results_ct rfl _ _ g2 49 _ (0,0) _ rfl HZ9.out Try.underlying49 rfl sz49) rfl ?_
 exact ⟨rfl,HB9.out⟩
theorem u24_at (s : ByteArray) (hs : s.size ≤ 140737488351232) : ∃ k,wire_U24.f k s 1 = some (numOf s 1 3) := by
 obtain ⟨k,hk⟩ := ev_at (number_any s 1 3 (by omega) hs)
 refine ⟨k,?_⟩
 unfold wire_U24.f
 rw [xe_number,show (3 : Int) = ((3 : Nat) : Int) from rfl,hk]
 rfl
set_option maxRecDepth 100000 in
set_option maxHeartbeats 8000000 in
theorem get_form_a (s : ByteArray) (w : World) (hs : s.size ≤ 140737488351232) (he : s.size ≠ 0) (hk : knownB (bt s 0) = true) (k : Nat) (n q er : Int) (hu : wire_U24.f k s 1 = some (n,q,er)) (hq : er ≠ 0) :
  Calls Try.prog 24 #[.string s] w fun ex w' => ex = .returned (.tuple #[.agg (cells zeroM hd0),.int .i64 1700]) ∧ Below w.heap.size w w' := by
 have f1 : (er != 0) = true := by simpa using hq
 have e1 : s.toList.isEmpty = false := by rw [ByteArray.toList_eq]; rw [List.isEmpty_eq_false_iff]; intro e; exact he (by simpa using congrArg List.length e)
 have HKN := Aq.mk hk
 have HH := Aq.mk (Nat.pos_of_ne_zero he)
 have hpos : 0 < s.size := HH.out
 have hb0 := bt_range s 0
 clear he hk
 have HU := Aq.mk hu
 clear hu
 go_enter Try.func24,Try.ntmps24
 go_wp2_with (first
  | ((with_reducible refine gate_dst (N := 2) rfl ?_); refine alloc49' rfl rfl ?_; intro g2 eg w1 h1 b1; have HZ := Aq.mk h1; have HB := Aq.mk b1; have HE := Aq.mk (show w.heap.size ≤ g2 from by omega); clear h1 b1 eg)
  | (go_at_call 43; rw [b0_eq s HH.out]; (with_reducible refine (msg_known.calls (bt s 0) true _ (by rw [known_f,HKN.out])).mono ?_); rintro e2 w2 ⟨rfl,d2⟩; have HZ2 := Aq.mk ((d2.below.block g2 (blk_lt HZ.out)).trans HZ.out); have HB2 := Aq.mk (below_step HB.out d2.below); clear d2)
  | (go_at_call 48; (with_reducible refine (wire_U24.calls k s 1 _ _ _ _ HU.out).mono ?_); rintro e3 w3 ⟨rfl,d3⟩; have HZ3 := Aq.mk ((d3.below.block g2 (blk_lt HZ2.out)).trans HZ2.out); have HB3 := Aq.mk (below_step HB2.out d3.below); clear d3)
  | ((with_reducible refine gate_dst (N := 39) rfl ?_); refine bld rfl rfl (vs := #[]) (by simp) built49 ?_)
  | ((with_reducible refine gate_store (p := 2) rfl ?_); refine stRowN sz49 rfl rfl rfl rfl HZ3.out rfl rfl rfl ?_; intro w9 h9 b9 k9; have HZ9 := Aq.mk h9; have HB9 := Aq.mk (HB3.out.trans (b9 _ HE.out)); clear h9 b9 k9))
 refine bodyPost_ret (results_ct rfl _ _ g2 49 _ (0,0) _ rfl HZ9.out Try.underlying49 rfl sz49) rfl ?_
 exact ⟨rfl,HB9.out⟩
set_option maxRecDepth 100000 in
set_option maxHeartbeats 8000000 in
theorem get_form_b (s : ByteArray) (w : World) (hs : s.size ≤ 140737488351232) (he : s.size ≠ 0) (hk : knownB (bt s 0) = true) (k : Nat) (n q er : Int) (hu : wire_U24.f k s 1 = some (n,q,er)) (hq : er = 0) (hn : n ≠ (s.size : Int) - 4) :
  Calls Try.prog 24 #[.string s] w fun ex w' => ex = .returned (.tuple #[.agg (cells zeroM hd0),.int .i64 1700]) ∧ Below w.heap.size w w' := by
 subst hq
 have f2 : (n != (s.size : Int) - 4) = true := by simpa using hn
 have e1 : s.toList.isEmpty = false := by rw [ByteArray.toList_eq]; rw [List.isEmpty_eq_false_iff]; intro e; exact he (by simpa using congrArg List.length e)
 have HKN := Aq.mk hk
 have HH := Aq.mk (Nat.pos_of_ne_zero he)
 have hpos : 0 < s.size := HH.out
 have hb0 := bt_range s 0
 clear he hk
 have HU := Aq.mk hu
 clear hu
 go_enter Try.func24,Try.ntmps24
 go_wp2_with (first
  | ((with_reducible refine gate_dst (N := 2) rfl ?_); refine alloc49' rfl rfl ?_; intro g2 eg w1 h1 b1; have HZ := Aq.mk h1; have HB := Aq.mk b1; have HE := Aq.mk (show w.heap.size ≤ g2 from by omega); clear h1 b1 eg)
  | (go_at_call 43; rw [b0_eq s HH.out]; (with_reducible refine (msg_known.calls (bt s 0) true _ (by rw [known_f,HKN.out])).mono ?_); rintro e2 w2 ⟨rfl,d2⟩; have HZ2 := Aq.mk ((d2.below.block g2 (blk_lt HZ.out)).trans HZ.out); have HB2 := Aq.mk (below_step HB.out d2.below); clear d2)
  | (go_at_call 48; (with_reducible refine (wire_U24.calls k s 1 _ _ _ _ HU.out).mono ?_); rintro e3 w3 ⟨rfl,d3⟩; have HZ3 := Aq.mk ((d3.below.block g2 (blk_lt HZ2.out)).trans HZ2.out); have HB3 := Aq.mk (below_step HB2.out d3.below); clear d3)
  | ((with_reducible refine gate_dst (N := 39) rfl ?_); refine bld rfl rfl (vs := #[]) (by simp) built49 ?_)
  | ((with_reducible refine gate_store (p := 2) rfl ?_); refine stRowN sz49 rfl rfl rfl rfl HZ3.out rfl rfl rfl ?_; intro w9 h9 b9 k9; have HZ9 := Aq.mk h9; have HB9 := Aq.mk (HB3.out.trans (b9 _ HE.out)); clear h9 b9 k9))
 refine bodyPost_ret (results_ct rfl _ _ g2 49 _ (0,0) _ rfl HZ9.out Try.underlying49 rfl sz49) rfl ?_
 exact ⟨rfl,HB9.out⟩
set_option maxRecDepth 100000 in
set_option maxHeartbeats 8000000 in
theorem get_form_c (s : ByteArray) (w : World) (hs : s.size ≤ 140737488351232) (he : s.size ≠ 0) (hk : knownB (bt s 0) = true) (k : Nat) (n q er : Int) (hu : wire_U24.f k s 1 = some (n,q,er)) (hq : er = 0) (hn : n = (s.size : Int) - 4) (hz : 65536 < s.size) :
  Calls Try.prog 24 #[.string s] w fun ex w' => ex = .returned (.tuple #[.agg (cells zeroM hd0),.int .i64 1700]) ∧ Below w.heap.size w w' := by
 subst hq
 subst hn
 have f3 : decide (65536 < s.size) = true := decide_eq_true hz
 have f3b : decide ((65536 : Int) < (s.size : Int)) = true := decide_eq_true (by omega)
 have e1 : s.toList.isEmpty = false := by rw [ByteArray.toList_eq]; rw [List.isEmpty_eq_false_iff]; intro e; exact he (by simpa using congrArg List.length e)
 have HKN := Aq.mk hk
 have HH := Aq.mk (Nat.pos_of_ne_zero he)
 have hpos : 0 < s.size := HH.out
 have hb0 := bt_range s 0
 clear he hk
 have HU := Aq.mk hu
 clear hu
 go_enter Try.func24,Try.ntmps24
 go_wp2_with (first
  | ((with_reducible refine gate_dst (N := 2) rfl ?_); refine alloc49' rfl rfl ?_; intro g2 eg w1 h1 b1; have HZ := Aq.mk h1; have HB := Aq.mk b1; have HE := Aq.mk (show w.heap.size ≤ g2 from by omega); clear h1 b1 eg)
  | (go_at_call 43; rw [b0_eq s HH.out]; (with_reducible refine (msg_known.calls (bt s 0) true _ (by rw [known_f,HKN.out])).mono ?_); rintro e2 w2 ⟨rfl,d2⟩; have HZ2 := Aq.mk ((d2.below.block g2 (blk_lt HZ.out)).trans HZ.out); have HB2 := Aq.mk (below_step HB.out d2.below); clear d2)
  | (go_at_call 48; (with_reducible refine (wire_U24.calls k s 1 _ _ _ _ HU.out).mono ?_); rintro e3 w3 ⟨rfl,d3⟩; have HZ3 := Aq.mk ((d3.below.block g2 (blk_lt HZ2.out)).trans HZ2.out); have HB3 := Aq.mk (below_step HB2.out d3.below); clear d3)
  | ((with_reducible refine gate_dst (N := 39) rfl ?_); refine bld rfl rfl (vs := #[]) (by simp) built49 ?_)
  | ((with_reducible refine gate_store (p := 2) rfl ?_); refine stRowN sz49 rfl rfl rfl rfl HZ3.out rfl rfl rfl ?_; intro w9 h9 b9 k9; have HZ9 := Aq.mk h9; have HB9 := Aq.mk (HB3.out.trans (b9 _ HE.out)); clear h9 b9 k9))
 refine bodyPost_ret (results_ct rfl _ _ g2 49 _ (0,0) _ rfl HZ9.out Try.underlying49 rfl sz49) rfl ?_
 exact ⟨rfl,HB9.out⟩
theorem MO.start {w : World} {gm : Nat} {k : Int} (h : w.heap[gm]? = some (.cells (cells { zeroM with f0 := k } hd0) 49 (0,0))) : MO (fun _ => True) w gm { zeroM with f0 := k } :=
 ⟨hd0,h,Kd.R_nil _ _ _ _ _,Kd.R_nil _ _ _ _ _,Kd.R_nil _ _ _ _ _,Kd.R_nil _ _ _ _ _,Kd.R_nil _ _ _ _ _,Kd.R_nil _ _ _ _ _,Kd.R_nil _ _ _ _ _,Kd.R_nil _ _ _ _ _,Kd.R_nil _ _ _ _ _,Kd.R_nil _ _ _ _ _⟩
theorem getR_ok {s : ByteArray} (h : s.size ≤ 65536) : (getR s).Ok := ⟨Int.le_refl _,by show (0 : Int) ≤ _; omega,by show (s.extract 4 s.size).size ≤ _; rw [ByteArray.size_extract]; omega⟩
set_option maxRecDepth 100000 in
set_option maxHeartbeats 8000000 in
theorem get_t_ok (s : ByteArray) (w : World) (hs : s.size ≤ 140737488351232) (he : s.size ≠ 0) (hk : knownB (bt s 0) = true) (k : Nat) (q : Int) (hu : wire_U24.f k s 1 = some ((s.size : Int) - 4,q,0)) (h4 : 4 ≤ s.size) (hz : s.size ≤ 65536) (BC : Aq (BodyC (getR s) { zeroM with f0 := bt s 0 })) (ht : (getB s).2.done.t = true) (hc : (getF s).c = 0) :
  Calls Try.prog 24 #[.string s] w fun ex w' => ∃ h,ex = .returned (.tuple #[.agg (cells (getB s).1 h),.int .i64 0]) ∧ Reads w' (getB s).1 h ∧ Below w.heap.size w w' := by
 have e1 : s.toList.isEmpty = false := by rw [ByteArray.toList_eq]; rw [List.isEmpty_eq_false_iff]; intro e; exact he (by simpa using congrArg List.length e)
 have HKN := Aq.mk hk
 have HH := Aq.mk (Nat.pos_of_ne_zero he)
 have hpos : 0 < s.size := HH.out
 have hb0 := bt_range s 0
 clear he hk
 have f2 : ((s.size : Int) - 4 != (s.size : Int) - 4) = false := by simp
 have f3 : decide (65536 < s.size) = false := decide_eq_false (by omega)
 have f3b : decide ((65536 : Int) < (s.size : Int)) = false := decide_eq_false (by omega)
 have f4 : 4 ≤ s.size := h4
 have HRO := Aq.mk (getR_ok hz)
 have HU := Aq.mk hu
 have HT := Aq.mk ht
 have hcb : ((getF s).c == 0) = true := by simpa using hc
 clear hu hc f4
 have f4 : 4 ≤ s.size := h4
 go_enter Try.func24,Try.ntmps24
 go_wp2_with (first
  | ((with_reducible refine gate_dst (N := 2) rfl ?_); refine alloc49' rfl rfl ?_; intro g2 eg w1 h1 b1; have HZ := Aq.mk h1; have HB := Aq.mk b1; have HE := Aq.mk (show w.heap.size ≤ g2 from by omega); clear h1 b1 eg)
  | (go_at_call 43; rw [b0_eq s HH.out]; (with_reducible refine (msg_known.calls (bt s 0) true _ (by rw [known_f,HKN.out])).mono ?_); rintro e2 w2 ⟨rfl,d2⟩; have HZ2 := Aq.mk ((d2.below.block g2 (blk_lt HZ.out)).trans HZ.out); have HB2 := Aq.mk (below_step HB.out d2.below); clear d2)
  | (go_at_call 48; (with_reducible refine (wire_U24.calls k s 1 _ _ _ _ HU.out).mono ?_); rintro e3 w3 ⟨rfl,d3⟩; have HZ3 := Aq.mk ((d3.below.block g2 (blk_lt HZ2.out)).trans HZ2.out); have HB3 := Aq.mk (below_step HB2.out d3.below); clear d3)
  | ((with_reducible refine gate_dst (N := 7) rfl ?_); refine alloc49' rfl rfl ?_; intro gm eg w4 h4 b4; have HM4 := Aq.mk h4; have HZ4 := Aq.mk ((b4.block g2 (blk_lt HZ3.out)).trans HZ3.out); have HB4 := Aq.mk (below_step HB3.out b4); have HGM := Aq.mk (show w.heap.size ≤ gm ∧ g2 ≠ gm from by have := HB3.out.size; have := blk_lt HZ3.out; omega); clear h4 b4 eg)
  | ((with_reducible refine gate_store (p := 7) rfl ?_); refine stRowN (cs := cells { zeroM with f0 := wrap64 ((s[0]'HH.out).toNat : Int) } hd0) sz49 rfl rfl rfl rfl HM4.out rfl rfl (cells_one _ _) ?_; intro w5 h5 b5 k5; rw [b0_eq s HH.out] at h5; have M5 := Aq.mk (MO.start h5); have HZ5 := Aq.mk ((k5.2 g2 (blk_lt HZ4.out) HGM.out.2 (by simp)).trans HZ4.out); have HB5 := Aq.mk (HB4.out.trans (b5 _ HGM.out.1)); clear h5 b5 k5)
  | ((with_reducible refine gate_dst (N := 46) rfl ?_); refine bld rfl rfl (vs := #[]) (by simp) built90 ?_)
  | ((with_reducible refine gate_dst (N := 47) rfl ?_); refine boxA rfl rfl rfl ?_; intro f eg w6 h6 b6; have HF6 := Aq.mk h6; have M6 := Aq.mk (M5.out.below b6); have HZ6 := Aq.mk ((b6.block g2 (blk_lt HZ5.out)).trans HZ5.out); have HB6 := Aq.mk (below_step HB5.out b6); have HFN := Aq.mk (show w.heap.size ≤ f ∧ g2 ≠ f from by have := HB5.out.size; have := blk_lt HZ5.out; omega); clear h6 b6 eg)
  | ((with_reducible refine gate_dst (N := 48) rfl ?_); refine bld rfl rfl (vs := #[(0,.string (s.extract 4 s.size)),(2,.pointer (some ⟨f,0,none⟩))]) (by rfl) (built92 _ _) ?_)
  | ((with_reducible refine gate_dst (N := 49) rfl ?_); refine boxA rfl rfl rfl ?_; intro r eg w7 h7 b7; have H7 := Aq.mk (show RS w7 r f (getR s) from ⟨h7,(b7.block f (blk_lt HF6.out)).trans HF6.out⟩); have M7 := Aq.mk (M6.out.below b7); have HZ7 := Aq.mk ((b7.block g2 (blk_lt HZ6.out)).trans HZ6.out); have HB7 := Aq.mk (below_step HB6.out b7); have HRN := Aq.mk (show w.heap.size ≤ r ∧ g2 ≠ r from by have := HB6.out.size; have := blk_lt HZ6.out; omega); clear h7 b7 eg)
  | (go_at_call 49; (with_reducible refine (BC.out w.heap.size r f gm _ HFN.out.1 HRN.out.1 HGM.out.1 H7.out HRO.out M7.out).mono ?_); rintro e8 w8 ⟨rfl,i8,m8,k8⟩; have H8 := Aq.mk (show RS w8 r f (getB s).2.done from i8); have M8 := Aq.mk (show MO (fun _ => True) w8 gm (getB s).1 from m8); have HZ8 := Aq.mk (k8.keep g2 _ HZ7.out HRN.out.2 HFN.out.2 HGM.out.2); have HB8 := Aq.mk (HB7.out.trans k8.below); clear i8 m8 k8)
  | ((with_reducible refine gate_dst (N := 55) rfl ?_); refine ld (v := .pointer (some ⟨f,0,none⟩)) rfl rfl rfl H8.out.rd Try.underlying88 rfl rfl ?_)
  | ((with_reducible refine gate_dst (N := 58) rfl ?_); refine ld (v := .bool true) rfl rfl rfl H8.out.ft Try.underlying4 rfl (by show some (Value.bool (getB s).2.done.t) = _; rw [HT.out]) ?_)
  | (go_at_call 50; (with_reducible refine (fail_c w.heap.size r f (getB s).2.done _ 1702 HFN.out.1 H8.out).mono ?_); rintro e9 w9 ⟨rfl,i9,k9⟩; have H9 := Aq.mk (show RS w9 r f (getF s) from by unfold getF; rw [if_pos HT.out]; exact i9); have M9 := Aq.mk (M8.out.kf H8.out k9); have HZ9 := Aq.mk (k9.keep g2 _ HZ8.out HRN.out.2 HFN.out.2); have HB9 := Aq.mk (HB8.out.trans k9.below); clear i9 k9))
 obtain ⟨hd,hx⟩ := M9.out
 have HX9 := Aq.mk hx
 clear hx
 go_wp2_with (first
  | (go_at_call 51; (with_reducible refine (ok_c r f (getF s) _ H9.out).mono ?_); rintro e10 w10 ⟨rfl,rfl⟩)
  | ((with_reducible refine gate_dst (N := 72) rfl ?_); refine wpList_load_row rfl 49 _ rfl gm rfl 49 _ (0,0) _ HX9.out.box Try.underlying49 rfl sz49 ?_)
  | ((with_reducible refine gate_store (p := 2) rfl ?_); refine stRowN sz49 rfl rfl rfl rfl HZ9.out rfl rfl (cells_one _ _) ?_; intro w11 h11 b11 k11; have HZ11 := Aq.mk h11; have HB11 := Aq.mk (HB9.out.trans (b11 _ HE.out)); have X11 := Aq.mk (HX9.out.move ((k11.2 gm (blk_lt HX9.out.box) (Ne.symm HGM.out.2) (by simp)).trans HX9.out.box) [49] (fun j cs t hj ht => (k11.2 j (blk_lt hj) (blk_ne hj HZ9.out (by intro e; exact ht (by simp [e]))) (by simp)).trans hj) (by decide) (by decide) (by decide) (by decide)); clear h11 b11 k11))
 refine bodyPost_ret (results_ct rfl _ _ g2 49 _ (0,0) _ rfl HZ11.out Try.underlying49 rfl sz49) rfl ?_
 exact ⟨hd,rfl,X11.out.reads,HB11.out⟩
set_option maxRecDepth 100000 in
set_option maxHeartbeats 8000000 in
theorem get_t_no (s : ByteArray) (w : World) (hs : s.size ≤ 140737488351232) (he : s.size ≠ 0) (hk : knownB (bt s 0) = true) (k : Nat) (q : Int) (hu : wire_U24.f k s 1 = some ((s.size : Int) - 4,q,0)) (h4 : 4 ≤ s.size) (hz : s.size ≤ 65536) (BC : Aq (BodyC (getR s) { zeroM with f0 := bt s 0 })) (ht : (getB s).2.done.t = true) (hc : (getF s).c ≠ 0) :
  Calls Try.prog 24 #[.string s] w fun ex w' => ex = .returned (.tuple #[.agg (cells zeroM hd0),.int .i64 (getF s).c]) ∧ Below w.heap.size w w' := by
 have e1 : s.toList.isEmpty = false := by rw [ByteArray.toList_eq]; rw [List.isEmpty_eq_false_iff]; intro e; exact he (by simpa using congrArg List.length e)
 have HKN := Aq.mk hk
 have HH := Aq.mk (Nat.pos_of_ne_zero he)
 have hpos : 0 < s.size := HH.out
 have hb0 := bt_range s 0
 clear he hk
 have f2 : ((s.size : Int) - 4 != (s.size : Int) - 4) = false := by simp
 have f3 : decide (65536 < s.size) = false := decide_eq_false (by omega)
 have f3b : decide ((65536 : Int) < (s.size : Int)) = false := decide_eq_false (by omega)
 have f4 : 4 ≤ s.size := h4
 have HRO := Aq.mk (getR_ok hz)
 have HU := Aq.mk hu
 have HT := Aq.mk ht
 have hcb : ((getF s).c == 0) = false := by simpa using hc
 clear hu hc f4
 have f4 : 4 ≤ s.size := h4
 go_enter Try.func24,Try.ntmps24
 go_wp2_with (first
  | ((with_reducible refine gate_dst (N := 2) rfl ?_); refine alloc49' rfl rfl ?_; intro g2 eg w1 h1 b1; have HZ := Aq.mk h1; have HB := Aq.mk b1; have HE := Aq.mk (show w.heap.size ≤ g2 from by omega); clear h1 b1 eg)
  | (go_at_call 43; rw [b0_eq s HH.out]; (with_reducible refine (msg_known.calls (bt s 0) true _ (by rw [known_f,HKN.out])).mono ?_); rintro e2 w2 ⟨rfl,d2⟩; have HZ2 := Aq.mk ((d2.below.block g2 (blk_lt HZ.out)).trans HZ.out); have HB2 := Aq.mk (below_step HB.out d2.below); clear d2)
  | (go_at_call 48; (with_reducible refine (wire_U24.calls k s 1 _ _ _ _ HU.out).mono ?_); rintro e3 w3 ⟨rfl,d3⟩; have HZ3 := Aq.mk ((d3.below.block g2 (blk_lt HZ2.out)).trans HZ2.out); have HB3 := Aq.mk (below_step HB2.out d3.below); clear d3)
  | ((with_reducible refine gate_dst (N := 7) rfl ?_); refine alloc49' rfl rfl ?_; intro gm eg w4 h4 b4; have HM4 := Aq.mk h4; have HZ4 := Aq.mk ((b4.block g2 (blk_lt HZ3.out)).trans HZ3.out); have HB4 := Aq.mk (below_step HB3.out b4); have HGM := Aq.mk (show w.heap.size ≤ gm ∧ g2 ≠ gm from by have := HB3.out.size; have := blk_lt HZ3.out; omega); clear h4 b4 eg)
  | ((with_reducible refine gate_store (p := 7) rfl ?_); refine stRowN (cs := cells { zeroM with f0 := wrap64 ((s[0]'HH.out).toNat : Int) } hd0) sz49 rfl rfl rfl rfl HM4.out rfl rfl (cells_one _ _) ?_; intro w5 h5 b5 k5; rw [b0_eq s HH.out] at h5; have M5 := Aq.mk (MO.start h5); have HZ5 := Aq.mk ((k5.2 g2 (blk_lt HZ4.out) HGM.out.2 (by simp)).trans HZ4.out); have HB5 := Aq.mk (HB4.out.trans (b5 _ HGM.out.1)); clear h5 b5 k5)
  | ((with_reducible refine gate_dst (N := 46) rfl ?_); refine bld rfl rfl (vs := #[]) (by simp) built90 ?_)
  | ((with_reducible refine gate_dst (N := 47) rfl ?_); refine boxA rfl rfl rfl ?_; intro f eg w6 h6 b6; have HF6 := Aq.mk h6; have M6 := Aq.mk (M5.out.below b6); have HZ6 := Aq.mk ((b6.block g2 (blk_lt HZ5.out)).trans HZ5.out); have HB6 := Aq.mk (below_step HB5.out b6); have HFN := Aq.mk (show w.heap.size ≤ f ∧ g2 ≠ f from by have := HB5.out.size; have := blk_lt HZ5.out; omega); clear h6 b6 eg)
  | ((with_reducible refine gate_dst (N := 48) rfl ?_); refine bld rfl rfl (vs := #[(0,.string (s.extract 4 s.size)),(2,.pointer (some ⟨f,0,none⟩))]) (by rfl) (built92 _ _) ?_)
  | ((with_reducible refine gate_dst (N := 49) rfl ?_); refine boxA rfl rfl rfl ?_; intro r eg w7 h7 b7; have H7 := Aq.mk (show RS w7 r f (getR s) from ⟨h7,(b7.block f (blk_lt HF6.out)).trans HF6.out⟩); have M7 := Aq.mk (M6.out.below b7); have HZ7 := Aq.mk ((b7.block g2 (blk_lt HZ6.out)).trans HZ6.out); have HB7 := Aq.mk (below_step HB6.out b7); have HRN := Aq.mk (show w.heap.size ≤ r ∧ g2 ≠ r from by have := HB6.out.size; have := blk_lt HZ6.out; omega); clear h7 b7 eg)
  | (go_at_call 49; (with_reducible refine (BC.out w.heap.size r f gm _ HFN.out.1 HRN.out.1 HGM.out.1 H7.out HRO.out M7.out).mono ?_); rintro e8 w8 ⟨rfl,i8,m8,k8⟩; have H8 := Aq.mk (show RS w8 r f (getB s).2.done from i8); have M8 := Aq.mk (show MO (fun _ => True) w8 gm (getB s).1 from m8); have HZ8 := Aq.mk (k8.keep g2 _ HZ7.out HRN.out.2 HFN.out.2 HGM.out.2); have HB8 := Aq.mk (HB7.out.trans k8.below); clear i8 m8 k8)
  | ((with_reducible refine gate_dst (N := 55) rfl ?_); refine ld (v := .pointer (some ⟨f,0,none⟩)) rfl rfl rfl H8.out.rd Try.underlying88 rfl rfl ?_)
  | ((with_reducible refine gate_dst (N := 58) rfl ?_); refine ld (v := .bool true) rfl rfl rfl H8.out.ft Try.underlying4 rfl (by show some (Value.bool (getB s).2.done.t) = _; rw [HT.out]) ?_)
  | (go_at_call 50; (with_reducible refine (fail_c w.heap.size r f (getB s).2.done _ 1702 HFN.out.1 H8.out).mono ?_); rintro e9 w9 ⟨rfl,i9,k9⟩; have H9 := Aq.mk (show RS w9 r f (getF s) from by unfold getF; rw [if_pos HT.out]; exact i9); have M9 := Aq.mk (M8.out.kf H8.out k9); have HZ9 := Aq.mk (k9.keep g2 _ HZ8.out HRN.out.2 HFN.out.2); have HB9 := Aq.mk (HB8.out.trans k9.below); clear i9 k9))
 go_wp2_with (first
  | (go_at_call 51; (with_reducible refine (ok_c r f (getF s) _ H9.out).mono ?_); rintro e10 w10 ⟨rfl,rfl⟩))
 refine start_ (n := 10) (S := fun w' => w'.heap[r]? = some (.cells #[.string (getF s).s,.int .i64 (getF s).p,.pointer (some ⟨f,0,none⟩),.bool (getF s).l] 92 (0,0)) ∧ w'.heap[f]? = some (.cells #[.int .i64 (getF s).c,.bool (getF s).t] 90 (0,0))) (ds := []) T43 (by kernel_rfl) rfl rfl ⟨(((Below.refl w10.heap.size w10).drew.block r (blk_lt H9.out.rd)).trans H9.out.rd),(((Below.refl w10.heap.size w10).drew.block f (blk_lt H9.out.ft)).trans H9.out.ft)⟩ (fun hHeld => ?_)
 have HS := Aq.mk (Below.refl w10.heap.size w10).drew
 generalize w10.drew = wd at HS hHeld ⊢
 have HHD := Aq.mk hHeld
 have HZD := Aq.mk ((HS.out.block g2 (blk_lt HZ9.out)).trans HZ9.out)
 have HBD := Aq.mk (below_step HB9.out HS.out)
 refine take_ (i := 0) (N := (some 64)) (v := .agg zcells) (a' := ?_) T47 rfl rfl (by kernel_rfl) (fun _ _ _ h => h) (Or.inl ⟨by rfl,?_⟩) hHeld ?_ ?_
 ·rintro w' hS
  have hb := run_build (P := Try.prog) w' 49 #[] _ built49
  first | (go_simp; done) | (go_simp; rfl) | (simp [execOp,Act.eval,Sem.run_bind,hb]; done)
 rotate_left
 ·simp only [Act.put,LS_]
  rfl
 refine pure_ (i := 1) (N := (some 65)) (v := ?_) (a' := ?_) T411 rfl rfl (by kernel_rfl) (fun _ _ _ h => h) (Or.inl ⟨by rfl,?_⟩) ?_ ?_
 rotate_left
 ·intro w'
  go_simp
  with_reducible rfl
 rotate_left
 ·simp only [Act.put,LS_]
  rfl
 refine pure_ (i := 2) (N := (some 66)) (v := ?_) (a' := ?_) T415 rfl rfl (by kernel_rfl) (fun _ _ _ h => h) (Or.inl ⟨by rfl,?_⟩) ?_ ?_
 rotate_left
 ·intro w'
  go_simp
  with_reducible rfl
 rotate_left
 ·simp only [Act.put,LS_]
  rfl
 refine pure_ (i := 3) (N := (some 67)) (v := ?_) (a' := ?_) T429 rfl rfl (by kernel_rfl) (fun _ _ _ h => h) (Or.inl ⟨by rfl,?_⟩) ?_ ?_
 rotate_left
 ·intro w'
  go_simp
  with_reducible rfl
 rotate_left
 ·simp only [Act.put,LS_]
  rfl
 refine take_ (i := 4) (N := (some 68)) (v := ?_) (a' := ?_) T434 rfl rfl (by kernel_rfl) (fun _ _ _ h => h) (Or.inl ⟨by rfl,?_⟩) hHeld ?_ ?_
 rotate_left
 ·rintro w' hS
  have hc : w'.cell? ⟨r,2,none⟩ = some (.pointer (some ⟨f,0,none⟩)) := (blk_cell hS.1 2).trans rfl
  go_simp
  with_reducible rfl
 rotate_left
 ·simp only [Act.put,LS_]
  rfl
 refine pure_ (i := 5) (N := (some 69)) (v := ?_) (a' := ?_) T437 rfl rfl (by kernel_rfl) (fun _ _ _ h => h) (Or.inl ⟨by rfl,?_⟩) ?_ ?_
 rotate_left
 ·intro w'
  go_simp
  with_reducible rfl
 rotate_left
 ·simp only [Act.put,LS_]
  rfl
 refine pure_ (i := 6) (N := (some 70)) (v := ?_) (a' := ?_) T440 rfl rfl (by kernel_rfl) (fun _ _ _ h => h) (Or.inl ⟨by rfl,?_⟩) ?_ ?_
 rotate_left
 ·intro w'
  go_simp
  with_reducible rfl
 rotate_left
 ·simp only [Act.put,LS_]
  rfl
 refine take_ (i := 7) (N := (some 71)) (v := ?_) (a' := ?_) T443 rfl rfl (by kernel_rfl) (fun _ _ _ h => h) (Or.inl ⟨by rfl,?_⟩) hHeld ?_ ?_
 rotate_left
 ·rintro w' hS
  have hc : w'.cell? ⟨f,0,none⟩ = some (.int .i64 (getF s).c) := (blk_cell hS.2 0).trans rfl
  go_simp
  with_reducible rfl
 rotate_left
 ·simp only [Act.put,LS_]
  rfl
 refine one_ (i := 8) (N := none) T446 rfl rfl (by kernel_rfl) (by decide) (fun K hK => ?_)
 refine stRowM sz49 (by rfl) rfl rfl rfl rfl HZD.out rfl rfl rfl ?_
 intro w11 h11 b11 k11
 have HZ11 := Aq.mk h11
 have HB11 := Aq.mk (HBD.out.trans (b11 _ HE.out))
 have HH11 := Aq.mk (And.intro ((k11.2 r (blk_lt HHD.out.1) (Ne.symm HRN.out.2) (by simp)).trans HHD.out.1) ((k11.2 f (blk_lt HHD.out.2) (Ne.symm HFN.out.2) (by simp)).trans HHD.out.2))
 clear h11 b11 k11
 refine hK.out _ _ (HH11.out) (fun hHeld => ?_)
 clear hK K
 refine pure_ (i := 9) (N := (some 3)) (v := ?_) (a' := ?_) T465 rfl rfl (by kernel_rfl) (fun _ _ _ h => h) (Or.inl ⟨by rfl,?_⟩) ?_ ?_
 rotate_left
 ·intro w'
  go_simp
  with_reducible rfl
 rotate_left
 ·simp only [Act.put,LS_]
  rfl
 refine done_ (by kernel_rfl) ?_
 go_wp2
 refine bodyPost_ret (results_ct rfl _ _ g2 49 _ (0,0) _ rfl HZ11.out Try.underlying49 rfl sz49) rfl ?_
 exact ⟨rfl,HB11.out⟩
set_option maxRecDepth 100000 in
set_option maxHeartbeats 8000000 in
theorem get_f_ok (s : ByteArray) (w : World) (hs : s.size ≤ 140737488351232) (he : s.size ≠ 0) (hk : knownB (bt s 0) = true) (k : Nat) (q : Int) (hu : wire_U24.f k s 1 = some ((s.size : Int) - 4,q,0)) (h4 : 4 ≤ s.size) (hz : s.size ≤ 65536) (BC : Aq (BodyC (getR s) { zeroM with f0 := bt s 0 })) (ht : (getB s).2.done.t = false) (hc : (getF s).c = 0) :
  Calls Try.prog 24 #[.string s] w fun ex w' => ∃ h,ex = .returned (.tuple #[.agg (cells (getB s).1 h),.int .i64 0]) ∧ Reads w' (getB s).1 h ∧ Below w.heap.size w w' := by
 have e1 : s.toList.isEmpty = false := by rw [ByteArray.toList_eq]; rw [List.isEmpty_eq_false_iff]; intro e; exact he (by simpa using congrArg List.length e)
 have HKN := Aq.mk hk
 have HH := Aq.mk (Nat.pos_of_ne_zero he)
 have hpos : 0 < s.size := HH.out
 have hb0 := bt_range s 0
 clear he hk
 have f2 : ((s.size : Int) - 4 != (s.size : Int) - 4) = false := by simp
 have f3 : decide (65536 < s.size) = false := decide_eq_false (by omega)
 have f3b : decide ((65536 : Int) < (s.size : Int)) = false := decide_eq_false (by omega)
 have f4 : 4 ≤ s.size := h4
 have HRO := Aq.mk (getR_ok hz)
 have HU := Aq.mk hu
 have HT := Aq.mk ht
 have hcb : ((getF s).c == 0) = true := by simpa using hc
 clear hu hc f4
 have f4 : 4 ≤ s.size := h4
 go_enter Try.func24,Try.ntmps24
 go_wp2_with (first
  | ((with_reducible refine gate_dst (N := 2) rfl ?_); refine alloc49' rfl rfl ?_; intro g2 eg w1 h1 b1; have HZ := Aq.mk h1; have HB := Aq.mk b1; have HE := Aq.mk (show w.heap.size ≤ g2 from by omega); clear h1 b1 eg)
  | (go_at_call 43; rw [b0_eq s HH.out]; (with_reducible refine (msg_known.calls (bt s 0) true _ (by rw [known_f,HKN.out])).mono ?_); rintro e2 w2 ⟨rfl,d2⟩; have HZ2 := Aq.mk ((d2.below.block g2 (blk_lt HZ.out)).trans HZ.out); have HB2 := Aq.mk (below_step HB.out d2.below); clear d2)
  | (go_at_call 48; (with_reducible refine (wire_U24.calls k s 1 _ _ _ _ HU.out).mono ?_); rintro e3 w3 ⟨rfl,d3⟩; have HZ3 := Aq.mk ((d3.below.block g2 (blk_lt HZ2.out)).trans HZ2.out); have HB3 := Aq.mk (below_step HB2.out d3.below); clear d3)
  | ((with_reducible refine gate_dst (N := 7) rfl ?_); refine alloc49' rfl rfl ?_; intro gm eg w4 h4 b4; have HM4 := Aq.mk h4; have HZ4 := Aq.mk ((b4.block g2 (blk_lt HZ3.out)).trans HZ3.out); have HB4 := Aq.mk (below_step HB3.out b4); have HGM := Aq.mk (show w.heap.size ≤ gm ∧ g2 ≠ gm from by have := HB3.out.size; have := blk_lt HZ3.out; omega); clear h4 b4 eg)
  | ((with_reducible refine gate_store (p := 7) rfl ?_); refine stRowN (cs := cells { zeroM with f0 := wrap64 ((s[0]'HH.out).toNat : Int) } hd0) sz49 rfl rfl rfl rfl HM4.out rfl rfl (cells_one _ _) ?_; intro w5 h5 b5 k5; rw [b0_eq s HH.out] at h5; have M5 := Aq.mk (MO.start h5); have HZ5 := Aq.mk ((k5.2 g2 (blk_lt HZ4.out) HGM.out.2 (by simp)).trans HZ4.out); have HB5 := Aq.mk (HB4.out.trans (b5 _ HGM.out.1)); clear h5 b5 k5)
  | ((with_reducible refine gate_dst (N := 46) rfl ?_); refine bld rfl rfl (vs := #[]) (by simp) built90 ?_)
  | ((with_reducible refine gate_dst (N := 47) rfl ?_); refine boxA rfl rfl rfl ?_; intro f eg w6 h6 b6; have HF6 := Aq.mk h6; have M6 := Aq.mk (M5.out.below b6); have HZ6 := Aq.mk ((b6.block g2 (blk_lt HZ5.out)).trans HZ5.out); have HB6 := Aq.mk (below_step HB5.out b6); have HFN := Aq.mk (show w.heap.size ≤ f ∧ g2 ≠ f from by have := HB5.out.size; have := blk_lt HZ5.out; omega); clear h6 b6 eg)
  | ((with_reducible refine gate_dst (N := 48) rfl ?_); refine bld rfl rfl (vs := #[(0,.string (s.extract 4 s.size)),(2,.pointer (some ⟨f,0,none⟩))]) (by rfl) (built92 _ _) ?_)
  | ((with_reducible refine gate_dst (N := 49) rfl ?_); refine boxA rfl rfl rfl ?_; intro r eg w7 h7 b7; have H7 := Aq.mk (show RS w7 r f (getR s) from ⟨h7,(b7.block f (blk_lt HF6.out)).trans HF6.out⟩); have M7 := Aq.mk (M6.out.below b7); have HZ7 := Aq.mk ((b7.block g2 (blk_lt HZ6.out)).trans HZ6.out); have HB7 := Aq.mk (below_step HB6.out b7); have HRN := Aq.mk (show w.heap.size ≤ r ∧ g2 ≠ r from by have := HB6.out.size; have := blk_lt HZ6.out; omega); clear h7 b7 eg)
  | (go_at_call 49; (with_reducible refine (BC.out w.heap.size r f gm _ HFN.out.1 HRN.out.1 HGM.out.1 H7.out HRO.out M7.out).mono ?_); rintro e8 w8 ⟨rfl,i8,m8,k8⟩; have H8 := Aq.mk (show RS w8 r f (getB s).2.done from i8); have M8 := Aq.mk (show MO (fun _ => True) w8 gm (getB s).1 from m8); have HZ8 := Aq.mk (k8.keep g2 _ HZ7.out HRN.out.2 HFN.out.2 HGM.out.2); have HB8 := Aq.mk (HB7.out.trans k8.below); clear i8 m8 k8)
  | ((with_reducible refine gate_dst (N := 55) rfl ?_); refine ld (v := .pointer (some ⟨f,0,none⟩)) rfl rfl rfl H8.out.rd Try.underlying88 rfl rfl ?_)
  | ((with_reducible refine gate_dst (N := 58) rfl ?_); refine ld (v := .bool false) rfl rfl rfl H8.out.ft Try.underlying4 rfl (by show some (Value.bool (getB s).2.done.t) = _; rw [HT.out]) ?_))
 have H9 := Aq.mk (show RS w8 r f (getF s) from by unfold getF; rw [if_neg (by rw [HT.out]; decide)]; exact H8.out)
 have M9 := M8
 have HZ9 := HZ8
 have HB9 := HB8
 obtain ⟨hd,hx⟩ := M9.out
 have HX9 := Aq.mk hx
 clear hx
 go_wp2_with (first
  | (go_at_call 51; (with_reducible refine (ok_c r f (getF s) _ H9.out).mono ?_); rintro e10 w10 ⟨rfl,rfl⟩)
  | ((with_reducible refine gate_dst (N := 72) rfl ?_); refine wpList_load_row rfl 49 _ rfl gm rfl 49 _ (0,0) _ HX9.out.box Try.underlying49 rfl sz49 ?_)
  | ((with_reducible refine gate_store (p := 2) rfl ?_); refine stRowN sz49 rfl rfl rfl rfl HZ9.out rfl rfl (cells_one _ _) ?_; intro w11 h11 b11 k11; have HZ11 := Aq.mk h11; have HB11 := Aq.mk (HB9.out.trans (b11 _ HE.out)); have X11 := Aq.mk (HX9.out.move ((k11.2 gm (blk_lt HX9.out.box) (Ne.symm HGM.out.2) (by simp)).trans HX9.out.box) [49] (fun j cs t hj ht => (k11.2 j (blk_lt hj) (blk_ne hj HZ9.out (by intro e; exact ht (by simp [e]))) (by simp)).trans hj) (by decide) (by decide) (by decide) (by decide)); clear h11 b11 k11))
 refine bodyPost_ret (results_ct rfl _ _ g2 49 _ (0,0) _ rfl HZ11.out Try.underlying49 rfl sz49) rfl ?_
 exact ⟨hd,rfl,X11.out.reads,HB11.out⟩
set_option maxRecDepth 100000 in
set_option maxHeartbeats 8000000 in
theorem get_f_no (s : ByteArray) (w : World) (hs : s.size ≤ 140737488351232) (he : s.size ≠ 0) (hk : knownB (bt s 0) = true) (k : Nat) (q : Int) (hu : wire_U24.f k s 1 = some ((s.size : Int) - 4,q,0)) (h4 : 4 ≤ s.size) (hz : s.size ≤ 65536) (BC : Aq (BodyC (getR s) { zeroM with f0 := bt s 0 })) (ht : (getB s).2.done.t = false) (hc : (getF s).c ≠ 0) :
  Calls Try.prog 24 #[.string s] w fun ex w' => ex = .returned (.tuple #[.agg (cells zeroM hd0),.int .i64 (getF s).c]) ∧ Below w.heap.size w w' := by
 have e1 : s.toList.isEmpty = false := by rw [ByteArray.toList_eq]; rw [List.isEmpty_eq_false_iff]; intro e; exact he (by simpa using congrArg List.length e)
 have HKN := Aq.mk hk
 have HH := Aq.mk (Nat.pos_of_ne_zero he)
 have hpos : 0 < s.size := HH.out
 have hb0 := bt_range s 0
 clear he hk
 have f2 : ((s.size : Int) - 4 != (s.size : Int) - 4) = false := by simp
 have f3 : decide (65536 < s.size) = false := decide_eq_false (by omega)
 have f3b : decide ((65536 : Int) < (s.size : Int)) = false := decide_eq_false (by omega)
 have f4 : 4 ≤ s.size := h4
 have HRO := Aq.mk (getR_ok hz)
 have HU := Aq.mk hu
 have HT := Aq.mk ht
 have hcb : ((getF s).c == 0) = false := by simpa using hc
 clear hu hc f4
 have f4 : 4 ≤ s.size := h4
 go_enter Try.func24,Try.ntmps24
 go_wp2_with (first
  | ((with_reducible refine gate_dst (N := 2) rfl ?_); refine alloc49' rfl rfl ?_; intro g2 eg w1 h1 b1; have HZ := Aq.mk h1; have HB := Aq.mk b1; have HE := Aq.mk (show w.heap.size ≤ g2 from by omega); clear h1 b1 eg)
  | (go_at_call 43; rw [b0_eq s HH.out]; (with_reducible refine (msg_known.calls (bt s 0) true _ (by rw [known_f,HKN.out])).mono ?_); rintro e2 w2 ⟨rfl,d2⟩; have HZ2 := Aq.mk ((d2.below.block g2 (blk_lt HZ.out)).trans HZ.out); have HB2 := Aq.mk (below_step HB.out d2.below); clear d2)
  | (go_at_call 48; (with_reducible refine (wire_U24.calls k s 1 _ _ _ _ HU.out).mono ?_); rintro e3 w3 ⟨rfl,d3⟩; have HZ3 := Aq.mk ((d3.below.block g2 (blk_lt HZ2.out)).trans HZ2.out); have HB3 := Aq.mk (below_step HB2.out d3.below); clear d3)
  | ((with_reducible refine gate_dst (N := 7) rfl ?_); refine alloc49' rfl rfl ?_; intro gm eg w4 h4 b4; have HM4 := Aq.mk h4; have HZ4 := Aq.mk ((b4.block g2 (blk_lt HZ3.out)).trans HZ3.out); have HB4 := Aq.mk (below_step HB3.out b4); have HGM := Aq.mk (show w.heap.size ≤ gm ∧ g2 ≠ gm from by have := HB3.out.size; have := blk_lt HZ3.out; omega); clear h4 b4 eg)
  | ((with_reducible refine gate_store (p := 7) rfl ?_); refine stRowN (cs := cells { zeroM with f0 := wrap64 ((s[0]'HH.out).toNat : Int) } hd0) sz49 rfl rfl rfl rfl HM4.out rfl rfl (cells_one _ _) ?_; intro w5 h5 b5 k5; rw [b0_eq s HH.out] at h5; have M5 := Aq.mk (MO.start h5); have HZ5 := Aq.mk ((k5.2 g2 (blk_lt HZ4.out) HGM.out.2 (by simp)).trans HZ4.out); have HB5 := Aq.mk (HB4.out.trans (b5 _ HGM.out.1)); clear h5 b5 k5)
  | ((with_reducible refine gate_dst (N := 46) rfl ?_); refine bld rfl rfl (vs := #[]) (by simp) built90 ?_)
  | ((with_reducible refine gate_dst (N := 47) rfl ?_); refine boxA rfl rfl rfl ?_; intro f eg w6 h6 b6; have HF6 := Aq.mk h6; have M6 := Aq.mk (M5.out.below b6); have HZ6 := Aq.mk ((b6.block g2 (blk_lt HZ5.out)).trans HZ5.out); have HB6 := Aq.mk (below_step HB5.out b6); have HFN := Aq.mk (show w.heap.size ≤ f ∧ g2 ≠ f from by have := HB5.out.size; have := blk_lt HZ5.out; omega); clear h6 b6 eg)
  | ((with_reducible refine gate_dst (N := 48) rfl ?_); refine bld rfl rfl (vs := #[(0,.string (s.extract 4 s.size)),(2,.pointer (some ⟨f,0,none⟩))]) (by rfl) (built92 _ _) ?_)
  | ((with_reducible refine gate_dst (N := 49) rfl ?_); refine boxA rfl rfl rfl ?_; intro r eg w7 h7 b7; have H7 := Aq.mk (show RS w7 r f (getR s) from ⟨h7,(b7.block f (blk_lt HF6.out)).trans HF6.out⟩); have M7 := Aq.mk (M6.out.below b7); have HZ7 := Aq.mk ((b7.block g2 (blk_lt HZ6.out)).trans HZ6.out); have HB7 := Aq.mk (below_step HB6.out b7); have HRN := Aq.mk (show w.heap.size ≤ r ∧ g2 ≠ r from by have := HB6.out.size; have := blk_lt HZ6.out; omega); clear h7 b7 eg)
  | (go_at_call 49; (with_reducible refine (BC.out w.heap.size r f gm _ HFN.out.1 HRN.out.1 HGM.out.1 H7.out HRO.out M7.out).mono ?_); rintro e8 w8 ⟨rfl,i8,m8,k8⟩; have H8 := Aq.mk (show RS w8 r f (getB s).2.done from i8); have M8 := Aq.mk (show MO (fun _ => True) w8 gm (getB s).1 from m8); have HZ8 := Aq.mk (k8.keep g2 _ HZ7.out HRN.out.2 HFN.out.2 HGM.out.2); have HB8 := Aq.mk (HB7.out.trans k8.below); clear i8 m8 k8)
  | ((with_reducible refine gate_dst (N := 55) rfl ?_); refine ld (v := .pointer (some ⟨f,0,none⟩)) rfl rfl rfl H8.out.rd Try.underlying88 rfl rfl ?_)
  | ((with_reducible refine gate_dst (N := 58) rfl ?_); refine ld (v := .bool false) rfl rfl rfl H8.out.ft Try.underlying4 rfl (by show some (Value.bool (getB s).2.done.t) = _; rw [HT.out]) ?_))
 have H9 := Aq.mk (show RS w8 r f (getF s) from by unfold getF; rw [if_neg (by rw [HT.out]; decide)]; exact H8.out)
 have M9 := M8
 have HZ9 := HZ8
 have HB9 := HB8
 go_wp2_with (first
  | (go_at_call 51; (with_reducible refine (ok_c r f (getF s) _ H9.out).mono ?_); rintro e10 w10 ⟨rfl,rfl⟩))
 refine start_ (n := 10) (S := fun w' => w'.heap[r]? = some (.cells #[.string (getF s).s,.int .i64 (getF s).p,.pointer (some ⟨f,0,none⟩),.bool (getF s).l] 92 (0,0)) ∧ w'.heap[f]? = some (.cells #[.int .i64 (getF s).c,.bool (getF s).t] 90 (0,0))) (ds := []) T43 (by kernel_rfl) rfl rfl ⟨(((Below.refl w10.heap.size w10).drew.block r (blk_lt H9.out.rd)).trans H9.out.rd),(((Below.refl w10.heap.size w10).drew.block f (blk_lt H9.out.ft)).trans H9.out.ft)⟩ (fun hHeld => ?_)
 have HS := Aq.mk (Below.refl w10.heap.size w10).drew
 generalize w10.drew = wd at HS hHeld ⊢
 have HHD := Aq.mk hHeld
 have HZD := Aq.mk ((HS.out.block g2 (blk_lt HZ9.out)).trans HZ9.out)
 have HBD := Aq.mk (below_step HB9.out HS.out)
 refine take_ (i := 0) (N := (some 64)) (v := .agg zcells) (a' := ?_) T47 rfl rfl (by kernel_rfl) (fun _ _ _ h => h) (Or.inl ⟨by rfl,?_⟩) hHeld ?_ ?_
 ·rintro w' hS
  have hb := run_build (P := Try.prog) w' 49 #[] _ built49
  first | (go_simp; done) | (go_simp; rfl) | (simp [execOp,Act.eval,Sem.run_bind,hb]; done)
 rotate_left
 ·simp only [Act.put,LS_]
  rfl
 refine pure_ (i := 1) (N := (some 65)) (v := ?_) (a' := ?_) T411 rfl rfl (by kernel_rfl) (fun _ _ _ h => h) (Or.inl ⟨by rfl,?_⟩) ?_ ?_
 rotate_left
 ·intro w'
  go_simp
  with_reducible rfl
 rotate_left
 ·simp only [Act.put,LS_]
  rfl
 refine pure_ (i := 2) (N := (some 66)) (v := ?_) (a' := ?_) T415 rfl rfl (by kernel_rfl) (fun _ _ _ h => h) (Or.inl ⟨by rfl,?_⟩) ?_ ?_
 rotate_left
 ·intro w'
  go_simp
  with_reducible rfl
 rotate_left
 ·simp only [Act.put,LS_]
  rfl
 refine pure_ (i := 3) (N := (some 67)) (v := ?_) (a' := ?_) T429 rfl rfl (by kernel_rfl) (fun _ _ _ h => h) (Or.inl ⟨by rfl,?_⟩) ?_ ?_
 rotate_left
 ·intro w'
  go_simp
  with_reducible rfl
 rotate_left
 ·simp only [Act.put,LS_]
  rfl
 refine take_ (i := 4) (N := (some 68)) (v := ?_) (a' := ?_) T434 rfl rfl (by kernel_rfl) (fun _ _ _ h => h) (Or.inl ⟨by rfl,?_⟩) hHeld ?_ ?_
 rotate_left
 ·rintro w' hS
  have hc : w'.cell? ⟨r,2,none⟩ = some (.pointer (some ⟨f,0,none⟩)) := (blk_cell hS.1 2).trans rfl
  go_simp
  with_reducible rfl
 rotate_left
 ·simp only [Act.put,LS_]
  rfl
 refine pure_ (i := 5) (N := (some 69)) (v := ?_) (a' := ?_) T437 rfl rfl (by kernel_rfl) (fun _ _ _ h => h) (Or.inl ⟨by rfl,?_⟩) ?_ ?_
 rotate_left
 ·intro w'
  go_simp
  with_reducible rfl
 rotate_left
 ·simp only [Act.put,LS_]
  rfl
 refine pure_ (i := 6) (N := (some 70)) (v := ?_) (a' := ?_) T440 rfl rfl (by kernel_rfl) (fun _ _ _ h => h) (Or.inl ⟨by rfl,?_⟩) ?_ ?_
 rotate_left
 ·intro w'
  go_simp
  with_reducible rfl
 rotate_left
 ·simp only [Act.put,LS_]
  rfl
 refine take_ (i := 7) (N := (some 71)) (v := ?_) (a' := ?_) T443 rfl rfl (by kernel_rfl) (fun _ _ _ h => h) (Or.inl ⟨by rfl,?_⟩) hHeld ?_ ?_
 rotate_left
 ·rintro w' hS
  have hc : w'.cell? ⟨f,0,none⟩ = some (.int .i64 (getF s).c) := (blk_cell hS.2 0).trans rfl
  go_simp
  with_reducible rfl
 rotate_left
 ·simp only [Act.put,LS_]
  rfl
 refine one_ (i := 8) (N := none) T446 rfl rfl (by kernel_rfl) (by decide) (fun K hK => ?_)
 refine stRowM sz49 (by rfl) rfl rfl rfl rfl HZD.out rfl rfl rfl ?_
 intro w11 h11 b11 k11
 have HZ11 := Aq.mk h11
 have HB11 := Aq.mk (HBD.out.trans (b11 _ HE.out))
 have HH11 := Aq.mk (And.intro ((k11.2 r (blk_lt HHD.out.1) (Ne.symm HRN.out.2) (by simp)).trans HHD.out.1) ((k11.2 f (blk_lt HHD.out.2) (Ne.symm HFN.out.2) (by simp)).trans HHD.out.2))
 clear h11 b11 k11
 refine hK.out _ _ (HH11.out) (fun hHeld => ?_)
 clear hK K
 refine pure_ (i := 9) (N := (some 3)) (v := ?_) (a' := ?_) T465 rfl rfl (by kernel_rfl) (fun _ _ _ h => h) (Or.inl ⟨by rfl,?_⟩) ?_ ?_
 rotate_left
 ·intro w'
  go_simp
  with_reducible rfl
 rotate_left
 ·simp only [Act.put,LS_]
  rfl
 refine done_ (by kernel_rfl) ?_
 go_wp2
 refine bodyPost_ret (results_ct rfl _ _ g2 49 _ (0,0) _ rfl HZ11.out Try.underlying49 rfl sz49) rfl ?_
 exact ⟨rfl,HB11.out⟩
end Go.Proofs.Ytlkebjkpmiehcaa.Ms
end
section
namespace Go.Proofs.Ytlkebjkpmiehcaa.Ms
open Go.RowKit Go.Proofs.YtlkebjkpmiehcaaW.PrintWords Go.Proofs.YtlkebjkpmiehcaaW.PrintLast Go.Proofs.YtlkebjkpmiehcaaW.PrintMore Go.Proofs.Ytlkebjkpmiehcaa.X
open Go.Proofs.Ytlkebjkpmiehcaa.Pure (nv numOf vecOf nv_bd nv_bd4 number_any vec_ok)
set_option linter.unusedVariables false
theorem get_of (s : ByteArray) (w : World) (hs : s.size ≤ 140737488351232) (BC : Aq (BodyC (getR s) { zeroM with f0 := bt s 0 })) :
  Calls Try.prog 24 #[.string s] w fun ex w' => ∃ h,ex = .returned (.tuple #[.agg (cells (getM s).1 h),.int .i64 (getM s).2]) ∧ Reads w' (getM s).1 h ∧ Below w.heap.size w w' := by
 by_cases he : s.size = 0
 ·have e : getM s = (zeroM,1701) := by unfold getM; rw [if_pos he]
  rw [e]
  exact (get_empty s w hs he).mono fun ex w' ⟨h1,h2⟩ => ⟨hd0,h1,zreads _,h2⟩
 by_cases hk : knownB (bt s 0) = false
 ·have e : getM s = (zeroM,1701) := by unfold getM; rw [if_neg he,if_pos hk]
  rw [e]
  exact (get_unknown s w hs he hk).mono fun ex w' ⟨h1,h2⟩ => ⟨hd0,h1,zreads _,h2⟩
 have hk' : knownB (bt s 0) = true := by simpa using hk
 obtain ⟨k,hk2⟩ := u24_at s hs
 obtain ⟨T,hT⟩ : ∃ T,numOf s 1 3 = T := ⟨_,rfl⟩
 obtain ⟨n,q,er⟩ := T
 rw [hT] at hk2
 by_cases h1 : er = 0
 ·by_cases h2 : n = (s.size : Int) - 4
  ·by_cases h3 : s.size ≤ 65536
   ·subst h1
    subst h2
    have hh : headed s = true := by
     unfold headed
     rw [hT]
     simp only [beq_self_eq_true,Bool.true_and]
     exact decide_eq_true (by omega)
    have h4 : 4 ≤ s.size := by
     rcases num_ok (s := s) (p := 1) (n := 3) (by omega) (by omega) with ⟨_,_,hx⟩ | hx
     ·omega
     ·rw [hT] at hx
      exact absurd (congrArg (fun x => x.2.2) hx) (by simp)
    have e0 : getM s = if (getF s).c = 0 then ((getB s).1,0) else (zeroM,(getF s).c) := by
     unfold getM
     rw [if_neg he,if_neg hk,if_neg (by rw [hh]; decide)]
    by_cases hc : (getF s).c = 0
    ·rw [e0,if_pos hc]
     by_cases ht : (getB s).2.done.t = true
     ·exact get_t_ok s w hs he hk' k q hk2 h4 h3 BC ht hc
     ·exact get_f_ok s w hs he hk' k q hk2 h4 h3 BC (by simpa using ht) hc
    ·rw [e0,if_neg hc]
     by_cases ht : (getB s).2.done.t = true
     ·exact (get_t_no s w hs he hk' k q hk2 h4 h3 BC ht hc).mono fun ex w' ⟨h1,h2⟩ => ⟨hd0,h1,zreads _,h2⟩
     ·exact (get_f_no s w hs he hk' k q hk2 h4 h3 BC (by simpa using ht) hc).mono fun ex w' ⟨h1,h2⟩ => ⟨hd0,h1,zreads _,h2⟩
   ·have hh : headed s = false := by
     unfold headed
     rw [show decide ((s.size : Int) ≤ 65536) = false from decide_eq_false (by omega)]
     simp
    have e : getM s = (zeroM,1700) := by unfold getM; rw [if_neg he,if_neg hk,if_pos hh]
    rw [e]
    exact (get_form_c s w hs he hk' k n q er hk2 h1 h2 (by omega)).mono fun ex w' ⟨h1,h2⟩ => ⟨hd0,h1,zreads _,h2⟩
  ·have hh : headed s = false := by
    unfold headed
    rw [hT]
    rw [show ((n : Int) == (s.size : Int) - 4) = false from beq_eq_false_iff_ne.mpr h2]
    simp
   have e : getM s = (zeroM,1700) := by unfold getM; rw [if_neg he,if_neg hk,if_pos hh]
   rw [e]
   exact (get_form_b s w hs he hk' k n q er hk2 h1 h2).mono fun ex w' ⟨h1,h2⟩ => ⟨hd0,h1,zreads _,h2⟩
 ·have hh : headed s = false := by
   unfold headed
   rw [hT]
   rw [show ((er : Int) == 0) = false from beq_eq_false_iff_ne.mpr h1]
   simp
  have e : getM s = (zeroM,1700) := by unfold getM; rw [if_neg he,if_neg hk,if_pos hh]
  rw [e]
  exact (get_form_a s w hs he hk' k n q er hk2 h1).mono fun ex w' ⟨h1,h2⟩ => ⟨hd0,h1,zreads _,h2⟩
theorem get_c (s : ByteArray) (w : World) (hs : s.size ≤ 140737488351232) :
  Calls Try.prog 24 #[.string s] w fun ex w' => ∃ h,ex = .returned (.tuple #[.agg (cells (getM s).1 h),.int .i64 (getM s).2]) ∧ Reads w' (getM s).1 h ∧ Below w.heap.size w w' :=
 get_of s w hs ⟨fun lo r f gm w a b c d e g => body_c lo r f gm _ _ w a b c d e g⟩
theorem bc_no (s : ByteArray) (k : Int) (hk : bt s 0 = k) (n1 : k ≠ 1) (n2 : k ≠ 2) (n8 : k ≠ 8) (n11 : k ≠ 11) (n15 : k ≠ 15) (n20 : k ≠ 20) (n4 : k ≠ 4) : Aq (BodyC (getR s) { zeroM with f0 := bt s 0 }) := by
 refine ⟨fun lo r f gm w hl hl2 hg h ho hm => ?_⟩
 rw [hk] at hm ⊢
 have e : bodyP (getR s) { zeroM with f0 := k } = ({ zeroM with f0 := k,f20 := (getR s).numV 1 + 1 },(getR s).u1) := by
  unfold bodyP
  rw [if_neg n1,if_neg n2,if_neg n8,if_neg n11,if_neg n15,if_neg n20,if_neg n4]
 rw [e]
 exact body_no lo r f gm (getR s) { zeroM with f0 := k } w k rfl (beq_eq_false_iff_ne.mpr n1) (beq_eq_false_iff_ne.mpr n2) (beq_eq_false_iff_ne.mpr n8) (beq_eq_false_iff_ne.mpr n11) (beq_eq_false_iff_ne.mpr n15) (beq_eq_false_iff_ne.mpr n20) (beq_eq_false_iff_ne.mpr n4) hl hl2 hg h ho hm
end Go.Proofs.Ytlkebjkpmiehcaa.Ms
end
section
namespace Go.Proofs.Ytlkebjkpmiehcaa.Ms
open Go.RowKit Go.Proofs.YtlkebjkpmiehcaaW.PrintWords Go.Proofs.YtlkebjkpmiehcaaW.PrintLast Go.Proofs.YtlkebjkpmiehcaaW.PrintMore Go.Proofs.Ytlkebjkpmiehcaa.X
set_option linter.unusedVariables false
theorem stRow49 {ops : Array Oper} {rest : List Oper} {o : Oper} {a : Act} {Q : Exit → Act → World → Prop} {w : World} {p x : Operand} (hgd : o.guard = none) (ho : o.op = .store 49 p x) {g : Nat} (hp : a.eval p = .pointer (some ⟨g,0,none⟩))
  {cs zs : Array Value} (hx : a.eval x = .agg cs) {t : TypeId} (h : w.heap[g]? = some (.cells zs t (0,0))) (hz : zs.size = 21) (hc : cs.size = 21) (h1 : cs.toList.all (·.oneCell') = true)
  (H : ∀ w1,w1.heap[g]? = some (.cells cs t (0,0)) → (∀ lo,lo ≤ g → Below lo w w1) → wpList Try.prog ops Q rest (a.put o.dst undef) w1) : wpList Try.prog ops Q (o :: rest) a w := by
 refine wpList_plain hgd fun K hK => wp_store_row 49 p x ho g cs hp hx t zs h (by rw [hc]; exact sz49) (by rw [hz,hc]) (by rw [← Array.all_toList]; exact h1) (hK _ _ (H _ ?_ ?_))
 ·simp [World.setRow,Array.getElem?_modify,h]
 ·intro lo hl
  refine ⟨rfl,rfl,rfl,by simp [World.setRow],fun k hk => ?_⟩
  simp only [World.setRow,Array.getElem?_modify]
  rw [if_neg (by omega)]
set_option maxRecDepth 100000 in
set_option maxHeartbeats 8000000 in
theorem un1 (f1 f2 f4 f16 f19 : ByteArray) (f12 f15 f17 f18 f20 : Int) (A3 A5 A6 A7 A8 A9 A10 A11 A13 A14 : Option Addr) (n3 c3 n5 c5 n6 c6 n7 c7 n8 c8 n9 c9 n10 c10 n11 c11 n13 c13 n14 c14 : Nat) (w : World) : Calls Try.prog 46 #[.agg #[.int .i64 1,.string f1,.string f2,.slice A3 n3 c3,.string f4,.slice A5 n5 c5,.slice A6 n6 c6,.slice A7 n7 c7,.slice A8 n8 c8,.slice A9 n9 c9,.slice A10 n10 c10,.slice A11 n11 c11,.int .i64 f12,.slice A13 n13 c13,.slice A14 n14 c14,.int .i64 f15,.string f16,.int .i64 f17,.int .i64 f18,.string f19,.int .i64 f20]] w fun e w' => e = .returned (.agg #[.int .i64 1,.string ⟨#[]⟩,.string ⟨#[]⟩,.slice none 0 0,.string ⟨#[]⟩,.slice none 0 0,.slice none 0 0,.slice none 0 0,.slice none 0 0,.slice none 0 0,.slice none 0 0,.slice none 0 0,.int .i64 f12,.slice A13 n13 c13,.slice A14 n14 c14,.int .i64 f15,.string f16,.int .i64 f17,.int .i64 f18,.string f19,.int .i64 f20]) ∧ Below w.heap.size w w' := by
 go_enter Try.func46,Try.ntmps46
 go_wp2_with (first
  | ((with_reducible refine gate_dst (N := 1) rfl ?_); refine box49 rfl rfl rfl ?_; intro g1 e1 w1 h1 b1; have HM := Aq.mk h1; have HB := Aq.mk b1; have HE1 := Aq.mk e1; clear h1 b1 e1)
  | ((with_reducible refine gate_dst (N := 2) rfl ?_); refine alloc49 rfl rfl ?_; intro g2 e2 zs hzs w2 h2 b2; have HNE := Aq.mk (show g2 ≠ g1 from by have := blk_lt HM.out; omega); have HZ := Aq.mk h2; have HL2 := Aq.mk (show w.heap.size ≤ g2 from by have := HB.out.size; omega); have HZS := Aq.mk hzs; have n_ := Aq.mk ((b2.block g1 (blk_lt HM.out)).trans HM.out); clear HM; have HM := n_; clear n_; have n_ := Aq.mk (below_step HB.out b2); clear HB; have HB := n_; clear n_ h2 b2 e2 hzs)
  | ((with_reducible refine gate_dst (N := 4) rfl ?_); refine ld rfl rfl rfl HM.out Try.underlying3 rfl rfl ?_)
  | ((with_reducible refine gate_dst (N := 25) rfl ?_); refine ld rfl rfl rfl HM.out Try.underlying3 rfl rfl ?_)
  | ((with_reducible refine gate_dst (N := 42) rfl ?_); refine wpList_load_row rfl 49 _ rfl g1 rfl 49 _ (0,0) _ HM.out Try.underlying49 rfl sz49 ?_)
  | ((with_reducible refine gate_store (p := 2) rfl ?_); refine stRow49 rfl rfl rfl rfl HZ.out HZS.out rfl rfl ?_; intro w3 h3 b3; have HZ3 := Aq.mk h3; have HB3 := Aq.mk (HB.out.trans (b3 _ HL2.out)); clear h3 b3)
  | (refine st rfl rfl rfl HM.out (by first | exact sz3 | exact sz9 | exact sz44 | exact sz45 | exact sz46 | exact sz47) rfl rfl rfl (by simp) ?_; intro w3 h3 b3 k3; simp only [List.setIfInBounds_toArray,List.set_cons_succ,List.set_cons_zero,Act.eval] at h3; have n_ := Aq.mk h3; clear HM; have HM := n_; clear n_; have n_ := Aq.mk ((k3.2 g2 (blk_lt HZ.out) HNE.out (by simp)).trans HZ.out); clear HZ; have HZ := n_; clear n_; have n_ := Aq.mk (HB.out.trans (b3 _ (Nat.le_of_eq HE1.out.symm))); clear HB; have HB := n_; clear n_ h3 b3 k3))
 refine bodyPost_ret (results_cell_row rfl _ _ g2 49 _ (0,0) _ rfl HZ3.out Try.underlying49 rfl sz49) rfl ?_
 exact ⟨rfl,HB3.out⟩
set_option maxRecDepth 100000 in
set_option maxHeartbeats 8000000 in
theorem un2 (f1 f2 f4 f16 f19 : ByteArray) (f12 f15 f17 f18 f20 : Int) (A3 A5 A6 A7 A8 A9 A10 A11 A13 A14 : Option Addr) (n3 c3 n5 c5 n6 c6 n7 c7 n8 c8 n9 c9 n10 c10 n11 c11 n13 c13 n14 c14 : Nat) (w : World) : Calls Try.prog 46 #[.agg #[.int .i64 2,.string f1,.string f2,.slice A3 n3 c3,.string f4,.slice A5 n5 c5,.slice A6 n6 c6,.slice A7 n7 c7,.slice A8 n8 c8,.slice A9 n9 c9,.slice A10 n10 c10,.slice A11 n11 c11,.int .i64 f12,.slice A13 n13 c13,.slice A14 n14 c14,.int .i64 f15,.string f16,.int .i64 f17,.int .i64 f18,.string f19,.int .i64 f20]] w fun e w' => e = .returned (.agg #[.int .i64 2,.string ⟨#[]⟩,.string ⟨#[]⟩,.slice none 0 0,.string f4,.slice none 0 0,.slice none 0 0,.slice A7 n7 c7,.slice A8 n8 c8,.slice none 0 0,.slice A10 n10 c10,.slice A11 n11 c11,.int .i64 0,.slice A13 n13 c13,.slice A14 n14 c14,.int .i64 f15,.string f16,.int .i64 f17,.int .i64 f18,.string f19,.int .i64 f20]) ∧ Below w.heap.size w w' := by
 go_enter Try.func46,Try.ntmps46
 go_wp2_with (first
  | ((with_reducible refine gate_dst (N := 1) rfl ?_); refine box49 rfl rfl rfl ?_; intro g1 e1 w1 h1 b1; have HM := Aq.mk h1; have HB := Aq.mk b1; have HE1 := Aq.mk e1; clear h1 b1 e1)
  | ((with_reducible refine gate_dst (N := 2) rfl ?_); refine alloc49 rfl rfl ?_; intro g2 e2 zs hzs w2 h2 b2; have HNE := Aq.mk (show g2 ≠ g1 from by have := blk_lt HM.out; omega); have HZ := Aq.mk h2; have HL2 := Aq.mk (show w.heap.size ≤ g2 from by have := HB.out.size; omega); have HZS := Aq.mk hzs; have n_ := Aq.mk ((b2.block g1 (blk_lt HM.out)).trans HM.out); clear HM; have HM := n_; clear n_; have n_ := Aq.mk (below_step HB.out b2); clear HB; have HB := n_; clear n_ h2 b2 e2 hzs)
  | ((with_reducible refine gate_dst (N := 4) rfl ?_); refine ld rfl rfl rfl HM.out Try.underlying3 rfl rfl ?_)
  | ((with_reducible refine gate_dst (N := 25) rfl ?_); refine ld rfl rfl rfl HM.out Try.underlying3 rfl rfl ?_)
  | ((with_reducible refine gate_dst (N := 42) rfl ?_); refine wpList_load_row rfl 49 _ rfl g1 rfl 49 _ (0,0) _ HM.out Try.underlying49 rfl sz49 ?_)
  | ((with_reducible refine gate_store (p := 2) rfl ?_); refine stRow49 rfl rfl rfl rfl HZ.out HZS.out rfl rfl ?_; intro w3 h3 b3; have HZ3 := Aq.mk h3; have HB3 := Aq.mk (HB.out.trans (b3 _ HL2.out)); clear h3 b3)
  | (refine st rfl rfl rfl HM.out (by first | exact sz3 | exact sz9 | exact sz44 | exact sz45 | exact sz46 | exact sz47) rfl rfl rfl (by simp) ?_; intro w3 h3 b3 k3; simp only [List.setIfInBounds_toArray,List.set_cons_succ,List.set_cons_zero,Act.eval] at h3; have n_ := Aq.mk h3; clear HM; have HM := n_; clear n_; have n_ := Aq.mk ((k3.2 g2 (blk_lt HZ.out) HNE.out (by simp)).trans HZ.out); clear HZ; have HZ := n_; clear n_; have n_ := Aq.mk (HB.out.trans (b3 _ (Nat.le_of_eq HE1.out.symm))); clear HB; have HB := n_; clear n_ h3 b3 k3))
 refine bodyPost_ret (results_cell_row rfl _ _ g2 49 _ (0,0) _ rfl HZ3.out Try.underlying49 rfl sz49) rfl ?_
 exact ⟨rfl,HB3.out⟩
set_option maxRecDepth 100000 in
set_option maxHeartbeats 8000000 in
theorem un11 (f1 f2 f4 f16 f19 : ByteArray) (f12 f15 f17 f18 f20 : Int) (A3 A5 A6 A7 A8 A9 A10 A11 A13 A14 : Option Addr) (n3 c3 n5 c5 n6 c6 n7 c7 n8 c8 n9 c9 n10 c10 n11 c11 n13 c13 n14 c14 : Nat) (w : World) : Calls Try.prog 46 #[.agg #[.int .i64 11,.string f1,.string f2,.slice A3 n3 c3,.string f4,.slice A5 n5 c5,.slice A6 n6 c6,.slice A7 n7 c7,.slice A8 n8 c8,.slice A9 n9 c9,.slice A10 n10 c10,.slice A11 n11 c11,.int .i64 f12,.slice A13 n13 c13,.slice A14 n14 c14,.int .i64 f15,.string f16,.int .i64 f17,.int .i64 f18,.string f19,.int .i64 f20]] w fun e w' => e = .returned (.agg #[.int .i64 11,.string f1,.string f2,.slice A3 n3 c3,.string f4,.slice A5 n5 c5,.slice A6 n6 c6,.slice A7 n7 c7,.slice A8 n8 c8,.slice A9 n9 c9,.slice A10 n10 c10,.slice A11 n11 c11,.int .i64 f12,.slice A13 n13 c13,.slice none 0 0,.int .i64 f15,.string f16,.int .i64 f17,.int .i64 f18,.string f19,.int .i64 f20]) ∧ Below w.heap.size w w' := by
 go_enter Try.func46,Try.ntmps46
 go_wp2_with (first
  | ((with_reducible refine gate_dst (N := 1) rfl ?_); refine box49 rfl rfl rfl ?_; intro g1 e1 w1 h1 b1; have HM := Aq.mk h1; have HB := Aq.mk b1; have HE1 := Aq.mk e1; clear h1 b1 e1)
  | ((with_reducible refine gate_dst (N := 2) rfl ?_); refine alloc49 rfl rfl ?_; intro g2 e2 zs hzs w2 h2 b2; have HNE := Aq.mk (show g2 ≠ g1 from by have := blk_lt HM.out; omega); have HZ := Aq.mk h2; have HL2 := Aq.mk (show w.heap.size ≤ g2 from by have := HB.out.size; omega); have HZS := Aq.mk hzs; have n_ := Aq.mk ((b2.block g1 (blk_lt HM.out)).trans HM.out); clear HM; have HM := n_; clear n_; have n_ := Aq.mk (below_step HB.out b2); clear HB; have HB := n_; clear n_ h2 b2 e2 hzs)
  | ((with_reducible refine gate_dst (N := 4) rfl ?_); refine ld rfl rfl rfl HM.out Try.underlying3 rfl rfl ?_)
  | ((with_reducible refine gate_dst (N := 25) rfl ?_); refine ld rfl rfl rfl HM.out Try.underlying3 rfl rfl ?_)
  | ((with_reducible refine gate_dst (N := 42) rfl ?_); refine wpList_load_row rfl 49 _ rfl g1 rfl 49 _ (0,0) _ HM.out Try.underlying49 rfl sz49 ?_)
  | ((with_reducible refine gate_store (p := 2) rfl ?_); refine stRow49 rfl rfl rfl rfl HZ.out HZS.out rfl rfl ?_; intro w3 h3 b3; have HZ3 := Aq.mk h3; have HB3 := Aq.mk (HB.out.trans (b3 _ HL2.out)); clear h3 b3)
  | (refine st rfl rfl rfl HM.out (by first | exact sz3 | exact sz9 | exact sz44 | exact sz45 | exact sz46 | exact sz47) rfl rfl rfl (by simp) ?_; intro w3 h3 b3 k3; simp only [List.setIfInBounds_toArray,List.set_cons_succ,List.set_cons_zero,Act.eval] at h3; have n_ := Aq.mk h3; clear HM; have HM := n_; clear n_; have n_ := Aq.mk ((k3.2 g2 (blk_lt HZ.out) HNE.out (by simp)).trans HZ.out); clear HZ; have HZ := n_; clear n_; have n_ := Aq.mk (HB.out.trans (b3 _ (Nat.le_of_eq HE1.out.symm))); clear HB; have HB := n_; clear n_ h3 b3 k3))
 refine bodyPost_ret (results_cell_row rfl _ _ g2 49 _ (0,0) _ rfl HZ3.out Try.underlying49 rfl sz49) rfl ?_
 exact ⟨rfl,HB3.out⟩
set_option maxRecDepth 100000 in
set_option maxHeartbeats 8000000 in
theorem un4 (f1 f2 f4 f16 f19 : ByteArray) (f12 f15 f17 f18 f20 : Int) (A3 A5 A6 A7 A8 A9 A10 A11 A13 A14 : Option Addr) (n3 c3 n5 c5 n6 c6 n7 c7 n8 c8 n9 c9 n10 c10 n11 c11 n13 c13 n14 c14 : Nat) (w : World) : Calls Try.prog 46 #[.agg #[.int .i64 4,.string f1,.string f2,.slice A3 n3 c3,.string f4,.slice A5 n5 c5,.slice A6 n6 c6,.slice A7 n7 c7,.slice A8 n8 c8,.slice A9 n9 c9,.slice A10 n10 c10,.slice A11 n11 c11,.int .i64 f12,.slice A13 n13 c13,.slice A14 n14 c14,.int .i64 f15,.string f16,.int .i64 f17,.int .i64 f18,.string f19,.int .i64 f20]] w fun e w' => e = .returned (.agg #[.int .i64 4,.string f1,.string f2,.slice A3 n3 c3,.string f4,.slice A5 n5 c5,.slice A6 n6 c6,.slice A7 n7 c7,.slice A8 n8 c8,.slice A9 n9 c9,.slice A10 n10 c10,.slice A11 n11 c11,.int .i64 f12,.slice A13 n13 c13,.slice A14 n14 c14,.int .i64 f15,.string ⟨#[]⟩,.int .i64 0,.int .i64 0,.string ⟨#[]⟩,.int .i64 f20]) ∧ Below w.heap.size w w' := by
 go_enter Try.func46,Try.ntmps46
 go_wp2_with (first
  | ((with_reducible refine gate_dst (N := 1) rfl ?_); refine box49 rfl rfl rfl ?_; intro g1 e1 w1 h1 b1; have HM := Aq.mk h1; have HB := Aq.mk b1; have HE1 := Aq.mk e1; clear h1 b1 e1)
  | ((with_reducible refine gate_dst (N := 2) rfl ?_); refine alloc49 rfl rfl ?_; intro g2 e2 zs hzs w2 h2 b2; have HNE := Aq.mk (show g2 ≠ g1 from by have := blk_lt HM.out; omega); have HZ := Aq.mk h2; have HL2 := Aq.mk (show w.heap.size ≤ g2 from by have := HB.out.size; omega); have HZS := Aq.mk hzs; have n_ := Aq.mk ((b2.block g1 (blk_lt HM.out)).trans HM.out); clear HM; have HM := n_; clear n_; have n_ := Aq.mk (below_step HB.out b2); clear HB; have HB := n_; clear n_ h2 b2 e2 hzs)
  | ((with_reducible refine gate_dst (N := 4) rfl ?_); refine ld rfl rfl rfl HM.out Try.underlying3 rfl rfl ?_)
  | ((with_reducible refine gate_dst (N := 25) rfl ?_); refine ld rfl rfl rfl HM.out Try.underlying3 rfl rfl ?_)
  | ((with_reducible refine gate_dst (N := 42) rfl ?_); refine wpList_load_row rfl 49 _ rfl g1 rfl 49 _ (0,0) _ HM.out Try.underlying49 rfl sz49 ?_)
  | ((with_reducible refine gate_store (p := 2) rfl ?_); refine stRow49 rfl rfl rfl rfl HZ.out HZS.out rfl rfl ?_; intro w3 h3 b3; have HZ3 := Aq.mk h3; have HB3 := Aq.mk (HB.out.trans (b3 _ HL2.out)); clear h3 b3)
  | (refine st rfl rfl rfl HM.out (by first | exact sz3 | exact sz9 | exact sz44 | exact sz45 | exact sz46 | exact sz47) rfl rfl rfl (by simp) ?_; intro w3 h3 b3 k3; simp only [List.setIfInBounds_toArray,List.set_cons_succ,List.set_cons_zero,Act.eval] at h3; have n_ := Aq.mk h3; clear HM; have HM := n_; clear n_; have n_ := Aq.mk ((k3.2 g2 (blk_lt HZ.out) HNE.out (by simp)).trans HZ.out); clear HZ; have HZ := n_; clear n_; have n_ := Aq.mk (HB.out.trans (b3 _ (Nat.le_of_eq HE1.out.symm))); clear HB; have HB := n_; clear n_ h3 b3 k3))
 refine bodyPost_ret (results_cell_row rfl _ _ g2 49 _ (0,0) _ rfl HZ3.out Try.underlying49 rfl sz49) rfl ?_
 exact ⟨rfl,HB3.out⟩
set_option maxRecDepth 100000 in
set_option maxHeartbeats 8000000 in
theorem un20 (f1 f2 f4 f16 f19 : ByteArray) (f12 f15 f17 f18 f20 : Int) (A3 A5 A6 A7 A8 A9 A10 A11 A13 A14 : Option Addr) (n3 c3 n5 c5 n6 c6 n7 c7 n8 c8 n9 c9 n10 c10 n11 c11 n13 c13 n14 c14 : Nat) (w : World) : Calls Try.prog 46 #[.agg #[.int .i64 20,.string f1,.string f2,.slice A3 n3 c3,.string f4,.slice A5 n5 c5,.slice A6 n6 c6,.slice A7 n7 c7,.slice A8 n8 c8,.slice A9 n9 c9,.slice A10 n10 c10,.slice A11 n11 c11,.int .i64 f12,.slice A13 n13 c13,.slice A14 n14 c14,.int .i64 f15,.string f16,.int .i64 f17,.int .i64 f18,.string f19,.int .i64 f20]] w fun e w' => e = .returned (.agg #[.int .i64 20,.string f1,.string f2,.slice A3 n3 c3,.string f4,.slice A5 n5 c5,.slice A6 n6 c6,.slice A7 n7 c7,.slice A8 n8 c8,.slice A9 n9 c9,.slice A10 n10 c10,.slice A11 n11 c11,.int .i64 f12,.slice A13 n13 c13,.slice A14 n14 c14,.int .i64 f15,.string ⟨#[]⟩,.int .i64 f17,.int .i64 f18,.string f19,.int .i64 f20]) ∧ Below w.heap.size w w' := by
 go_enter Try.func46,Try.ntmps46
 go_wp2_with (first
  | ((with_reducible refine gate_dst (N := 1) rfl ?_); refine box49 rfl rfl rfl ?_; intro g1 e1 w1 h1 b1; have HM := Aq.mk h1; have HB := Aq.mk b1; have HE1 := Aq.mk e1; clear h1 b1 e1)
  | ((with_reducible refine gate_dst (N := 2) rfl ?_); refine alloc49 rfl rfl ?_; intro g2 e2 zs hzs w2 h2 b2; have HNE := Aq.mk (show g2 ≠ g1 from by have := blk_lt HM.out; omega); have HZ := Aq.mk h2; have HL2 := Aq.mk (show w.heap.size ≤ g2 from by have := HB.out.size; omega); have HZS := Aq.mk hzs; have n_ := Aq.mk ((b2.block g1 (blk_lt HM.out)).trans HM.out); clear HM; have HM := n_; clear n_; have n_ := Aq.mk (below_step HB.out b2); clear HB; have HB := n_; clear n_ h2 b2 e2 hzs)
  | ((with_reducible refine gate_dst (N := 4) rfl ?_); refine ld rfl rfl rfl HM.out Try.underlying3 rfl rfl ?_)
  | ((with_reducible refine gate_dst (N := 25) rfl ?_); refine ld rfl rfl rfl HM.out Try.underlying3 rfl rfl ?_)
  | ((with_reducible refine gate_dst (N := 42) rfl ?_); refine wpList_load_row rfl 49 _ rfl g1 rfl 49 _ (0,0) _ HM.out Try.underlying49 rfl sz49 ?_)
  | ((with_reducible refine gate_store (p := 2) rfl ?_); refine stRow49 rfl rfl rfl rfl HZ.out HZS.out rfl rfl ?_; intro w3 h3 b3; have HZ3 := Aq.mk h3; have HB3 := Aq.mk (HB.out.trans (b3 _ HL2.out)); clear h3 b3)
  | (refine st rfl rfl rfl HM.out (by first | exact sz3 | exact sz9 | exact sz44 | exact sz45 | exact sz46 | exact sz47) rfl rfl rfl (by simp) ?_; intro w3 h3 b3 k3; simp only [List.setIfInBounds_toArray,List.set_cons_succ,List.set_cons_zero,Act.eval] at h3; have n_ := Aq.mk h3; clear HM; have HM := n_; clear n_; have n_ := Aq.mk ((k3.2 g2 (blk_lt HZ.out) HNE.out (by simp)).trans HZ.out); clear HZ; have HZ := n_; clear n_; have n_ := Aq.mk (HB.out.trans (b3 _ (Nat.le_of_eq HE1.out.symm))); clear HB; have HB := n_; clear n_ h3 b3 k3))
 refine bodyPost_ret (results_cell_row rfl _ _ g2 49 _ (0,0) _ rfl HZ3.out Try.underlying49 rfl sz49) rfl ?_
 exact ⟨rfl,HB3.out⟩
set_option maxRecDepth 100000 in
set_option maxHeartbeats 8000000 in
theorem un15 (f1 f2 f4 f16 f19 : ByteArray) (f12 f15 f17 f18 f20 : Int) (A3 A5 A6 A7 A8 A9 A10 A11 A13 A14 : Option Addr) (n3 c3 n5 c5 n6 c6 n7 c7 n8 c8 n9 c9 n10 c10 n11 c11 n13 c13 n14 c14 : Nat) (w : World) : Calls Try.prog 46 #[.agg #[.int .i64 15,.string f1,.string f2,.slice A3 n3 c3,.string f4,.slice A5 n5 c5,.slice A6 n6 c6,.slice A7 n7 c7,.slice A8 n8 c8,.slice A9 n9 c9,.slice A10 n10 c10,.slice A11 n11 c11,.int .i64 f12,.slice A13 n13 c13,.slice A14 n14 c14,.int .i64 f15,.string f16,.int .i64 f17,.int .i64 f18,.string f19,.int .i64 f20]] w fun e w' => e = .returned (.agg #[.int .i64 15,.string f1,.string f2,.slice A3 n3 c3,.string f4,.slice A5 n5 c5,.slice A6 n6 c6,.slice A7 n7 c7,.slice A8 n8 c8,.slice A9 n9 c9,.slice A10 n10 c10,.slice A11 n11 c11,.int .i64 f12,.slice A13 n13 c13,.slice A14 n14 c14,.int .i64 0,.string ⟨#[]⟩,.int .i64 f17,.int .i64 f18,.string f19,.int .i64 f20]) ∧ Below w.heap.size w w' := by
 go_enter Try.func46,Try.ntmps46
 go_wp2_with (first
  | ((with_reducible refine gate_dst (N := 1) rfl ?_); refine box49 rfl rfl rfl ?_; intro g1 e1 w1 h1 b1; have HM := Aq.mk h1; have HB := Aq.mk b1; have HE1 := Aq.mk e1; clear h1 b1 e1)
  | ((with_reducible refine gate_dst (N := 2) rfl ?_); refine alloc49 rfl rfl ?_; intro g2 e2 zs hzs w2 h2 b2; have HNE := Aq.mk (show g2 ≠ g1 from by have := blk_lt HM.out; omega); have HZ := Aq.mk h2; have HL2 := Aq.mk (show w.heap.size ≤ g2 from by have := HB.out.size; omega); have HZS := Aq.mk hzs; have n_ := Aq.mk ((b2.block g1 (blk_lt HM.out)).trans HM.out); clear HM; have HM := n_; clear n_; have n_ := Aq.mk (below_step HB.out b2); clear HB; have HB := n_; clear n_ h2 b2 e2 hzs)
  | ((with_reducible refine gate_dst (N := 4) rfl ?_); refine ld rfl rfl rfl HM.out Try.underlying3 rfl rfl ?_)
  | ((with_reducible refine gate_dst (N := 25) rfl ?_); refine ld rfl rfl rfl HM.out Try.underlying3 rfl rfl ?_)
  | ((with_reducible refine gate_dst (N := 42) rfl ?_); refine wpList_load_row rfl 49 _ rfl g1 rfl 49 _ (0,0) _ HM.out Try.underlying49 rfl sz49 ?_)
  | ((with_reducible refine gate_store (p := 2) rfl ?_); refine stRow49 rfl rfl rfl rfl HZ.out HZS.out rfl rfl ?_; intro w3 h3 b3; have HZ3 := Aq.mk h3; have HB3 := Aq.mk (HB.out.trans (b3 _ HL2.out)); clear h3 b3)
  | (refine st rfl rfl rfl HM.out (by first | exact sz3 | exact sz9 | exact sz44 | exact sz45 | exact sz46 | exact sz47) rfl rfl rfl (by simp) ?_; intro w3 h3 b3 k3; simp only [List.setIfInBounds_toArray,List.set_cons_succ,List.set_cons_zero,Act.eval] at h3; have n_ := Aq.mk h3; clear HM; have HM := n_; clear n_; have n_ := Aq.mk ((k3.2 g2 (blk_lt HZ.out) HNE.out (by simp)).trans HZ.out); clear HZ; have HZ := n_; clear n_; have n_ := Aq.mk (HB.out.trans (b3 _ (Nat.le_of_eq HE1.out.symm))); clear HB; have HB := n_; clear n_ h3 b3 k3))
 refine bodyPost_ret (results_cell_row rfl _ _ g2 49 _ (0,0) _ rfl HZ3.out Try.underlying49 rfl sz49) rfl ?_
 exact ⟨rfl,HB3.out⟩
set_option maxRecDepth 100000 in
set_option maxHeartbeats 8000000 in
theorem un24 (f1 f2 f4 f16 f19 : ByteArray) (f12 f15 f17 f18 f20 : Int) (A3 A5 A6 A7 A8 A9 A10 A11 A13 A14 : Option Addr) (n3 c3 n5 c5 n6 c6 n7 c7 n8 c8 n9 c9 n10 c10 n11 c11 n13 c13 n14 c14 : Nat) (w : World) : Calls Try.prog 46 #[.agg #[.int .i64 24,.string f1,.string f2,.slice A3 n3 c3,.string f4,.slice A5 n5 c5,.slice A6 n6 c6,.slice A7 n7 c7,.slice A8 n8 c8,.slice A9 n9 c9,.slice A10 n10 c10,.slice A11 n11 c11,.int .i64 f12,.slice A13 n13 c13,.slice A14 n14 c14,.int .i64 f15,.string f16,.int .i64 f17,.int .i64 f18,.string f19,.int .i64 f20]] w fun e w' => e = .returned (.agg #[.int .i64 24,.string f1,.string f2,.slice A3 n3 c3,.string f4,.slice A5 n5 c5,.slice A6 n6 c6,.slice A7 n7 c7,.slice A8 n8 c8,.slice A9 n9 c9,.slice A10 n10 c10,.slice A11 n11 c11,.int .i64 f12,.slice A13 n13 c13,.slice A14 n14 c14,.int .i64 f15,.string f16,.int .i64 f17,.int .i64 f18,.string f19,.int .i64 0]) ∧ Below w.heap.size w w' := by
 go_enter Try.func46,Try.ntmps46
 go_wp2_with (first
  | ((with_reducible refine gate_dst (N := 1) rfl ?_); refine box49 rfl rfl rfl ?_; intro g1 e1 w1 h1 b1; have HM := Aq.mk h1; have HB := Aq.mk b1; have HE1 := Aq.mk e1; clear h1 b1 e1)
  | ((with_reducible refine gate_dst (N := 2) rfl ?_); refine alloc49 rfl rfl ?_; intro g2 e2 zs hzs w2 h2 b2; have HNE := Aq.mk (show g2 ≠ g1 from by have := blk_lt HM.out; omega); have HZ := Aq.mk h2; have HL2 := Aq.mk (show w.heap.size ≤ g2 from by have := HB.out.size; omega); have HZS := Aq.mk hzs; have n_ := Aq.mk ((b2.block g1 (blk_lt HM.out)).trans HM.out); clear HM; have HM := n_; clear n_; have n_ := Aq.mk (below_step HB.out b2); clear HB; have HB := n_; clear n_ h2 b2 e2 hzs)
  | ((with_reducible refine gate_dst (N := 4) rfl ?_); refine ld rfl rfl rfl HM.out Try.underlying3 rfl rfl ?_)
  | ((with_reducible refine gate_dst (N := 25) rfl ?_); refine ld rfl rfl rfl HM.out Try.underlying3 rfl rfl ?_)
  | ((with_reducible refine gate_dst (N := 42) rfl ?_); refine wpList_load_row rfl 49 _ rfl g1 rfl 49 _ (0,0) _ HM.out Try.underlying49 rfl sz49 ?_)
  | ((with_reducible refine gate_store (p := 2) rfl ?_); refine stRow49 rfl rfl rfl rfl HZ.out HZS.out rfl rfl ?_; intro w3 h3 b3; have HZ3 := Aq.mk h3; have HB3 := Aq.mk (HB.out.trans (b3 _ HL2.out)); clear h3 b3)
  | (refine st rfl rfl rfl HM.out (by first | exact sz3 | exact sz9 | exact sz44 | exact sz45 | exact sz46 | exact sz47) rfl rfl rfl (by simp) ?_; intro w3 h3 b3 k3; simp only [List.setIfInBounds_toArray,List.set_cons_succ,List.set_cons_zero,Act.eval] at h3; have n_ := Aq.mk h3; clear HM; have HM := n_; clear n_; have n_ := Aq.mk ((k3.2 g2 (blk_lt HZ.out) HNE.out (by simp)).trans HZ.out); clear HZ; have HZ := n_; clear n_; have n_ := Aq.mk (HB.out.trans (b3 _ (Nat.le_of_eq HE1.out.symm))); clear HB; have HB := n_; clear n_ h3 b3 k3))
 refine bodyPost_ret (results_cell_row rfl _ _ g2 49 _ (0,0) _ rfl HZ3.out Try.underlying49 rfl sz49) rfl ?_
 exact ⟨rfl,HB3.out⟩
set_option maxRecDepth 100000 in
set_option maxHeartbeats 8000000 in
theorem un0 (f1 f2 f4 f16 f19 : ByteArray) (f12 f15 f17 f18 f20 : Int) (A3 A5 A6 A7 A8 A9 A10 A11 A13 A14 : Option Addr) (n3 c3 n5 c5 n6 c6 n7 c7 n8 c8 n9 c9 n10 c10 n11 c11 n13 c13 n14 c14 : Nat) (f0 : Int) (h1 : (f0 == 1) = false) (h2 : (f0 == 2) = false) (h11 : (f0 == 11) = false) (h4 : (f0 == 4) = false) (h20 : (f0 == 20) = false) (h15 : (f0 == 15) = false) (h24 : (f0 == 24) = false) (w : World) : Calls Try.prog 46 #[.agg #[.int .i64 f0,.string f1,.string f2,.slice A3 n3 c3,.string f4,.slice A5 n5 c5,.slice A6 n6 c6,.slice A7 n7 c7,.slice A8 n8 c8,.slice A9 n9 c9,.slice A10 n10 c10,.slice A11 n11 c11,.int .i64 f12,.slice A13 n13 c13,.slice A14 n14 c14,.int .i64 f15,.string f16,.int .i64 f17,.int .i64 f18,.string f19,.int .i64 f20]] w fun e w' => e = .returned (.agg #[.int .i64 f0,.string f1,.string f2,.slice A3 n3 c3,.string f4,.slice A5 n5 c5,.slice A6 n6 c6,.slice A7 n7 c7,.slice A8 n8 c8,.slice A9 n9 c9,.slice A10 n10 c10,.slice A11 n11 c11,.int .i64 f12,.slice A13 n13 c13,.slice A14 n14 c14,.int .i64 f15,.string f16,.int .i64 f17,.int .i64 f18,.string f19,.int .i64 f20]) ∧ Below w.heap.size w w' := by
 go_enter Try.func46,Try.ntmps46
 go_wp2_with (first
  | ((with_reducible refine gate_dst (N := 1) rfl ?_); refine box49 rfl rfl rfl ?_; intro g1 e1 w1 h1 b1; have HM := Aq.mk h1; have HB := Aq.mk b1; have HE1 := Aq.mk e1; clear h1 b1 e1)
  | ((with_reducible refine gate_dst (N := 2) rfl ?_); refine alloc49 rfl rfl ?_; intro g2 e2 zs hzs w2 h2 b2; have HNE := Aq.mk (show g2 ≠ g1 from by have := blk_lt HM.out; omega); have HZ := Aq.mk h2; have HL2 := Aq.mk (show w.heap.size ≤ g2 from by have := HB.out.size; omega); have HZS := Aq.mk hzs; have n_ := Aq.mk ((b2.block g1 (blk_lt HM.out)).trans HM.out); clear HM; have HM := n_; clear n_; have n_ := Aq.mk (below_step HB.out b2); clear HB; have HB := n_; clear n_ h2 b2 e2 hzs)
  | ((with_reducible refine gate_dst (N := 4) rfl ?_); refine ld rfl rfl rfl HM.out Try.underlying3 rfl rfl ?_)
  | ((with_reducible refine gate_dst (N := 25) rfl ?_); refine ld rfl rfl rfl HM.out Try.underlying3 rfl rfl ?_)
  | ((with_reducible refine gate_dst (N := 42) rfl ?_); refine wpList_load_row rfl 49 _ rfl g1 rfl 49 _ (0,0) _ HM.out Try.underlying49 rfl sz49 ?_)
  | ((with_reducible refine gate_store (p := 2) rfl ?_); refine stRow49 rfl rfl rfl rfl HZ.out HZS.out rfl rfl ?_; intro w3 h3 b3; have HZ3 := Aq.mk h3; have HB3 := Aq.mk (HB.out.trans (b3 _ HL2.out)); clear h3 b3)
  | (refine st rfl rfl rfl HM.out (by first | exact sz3 | exact sz9 | exact sz44 | exact sz45 | exact sz46 | exact sz47) rfl rfl rfl (by simp) ?_; intro w3 h3 b3 k3; simp only [List.setIfInBounds_toArray,List.set_cons_succ,List.set_cons_zero,Act.eval] at h3; have n_ := Aq.mk h3; clear HM; have HM := n_; clear n_; have n_ := Aq.mk ((k3.2 g2 (blk_lt HZ.out) HNE.out (by simp)).trans HZ.out); clear HZ; have HZ := n_; clear n_; have n_ := Aq.mk (HB.out.trans (b3 _ (Nat.le_of_eq HE1.out.symm))); clear HB; have HB := n_; clear n_ h3 b3 k3))
 refine bodyPost_ret (results_cell_row rfl _ _ g2 49 _ (0,0) _ rfl HZ3.out Try.underlying49 rfl sz49) rfl ?_
 exact ⟨rfl,HB3.out⟩
theorem unused_calls (m : Mv) (h : Hd) (w : World) : Calls Try.prog 46 #[.agg (cells m h)] w fun e w' => e = .returned (.agg (cells m.unused (h.unused m))) ∧ Below w.heap.size w w' := by
 obtain ⟨f0,f1,f2,f3,f4,f5,f6,f7,f8,f9,f10,f11,f12,f13,f14,f15,f16,f17,f18,f19,f20⟩ := m
 obtain ⟨A3,c3,A5,c5,A6,c6,A7,c7,A8,c8,A9,c9,A10,c10,A11,c11,A13,c13,A14,c14⟩ := h
 by_cases h1 : f0 = 1
 ·subst h1
  exact un1 f1 f2 f4 f16 f19 f12 f15 f17 f18 f20 A3 A5 A6 A7 A8 A9 A10 A11 A13 A14 _ c3 _ c5 _ c6 _ c7 _ c8 _ c9 _ c10 _ c11 _ c13 _ c14 w
 by_cases h2 : f0 = 2
 ·subst h2
  exact un2 f1 f2 f4 f16 f19 f12 f15 f17 f18 f20 A3 A5 A6 A7 A8 A9 A10 A11 A13 A14 _ c3 _ c5 _ c6 _ c7 _ c8 _ c9 _ c10 _ c11 _ c13 _ c14 w
 by_cases h11 : f0 = 11
 ·subst h11
  exact un11 f1 f2 f4 f16 f19 f12 f15 f17 f18 f20 A3 A5 A6 A7 A8 A9 A10 A11 A13 A14 _ c3 _ c5 _ c6 _ c7 _ c8 _ c9 _ c10 _ c11 _ c13 _ c14 w
 by_cases h4 : f0 = 4
 ·subst h4
  exact un4 f1 f2 f4 f16 f19 f12 f15 f17 f18 f20 A3 A5 A6 A7 A8 A9 A10 A11 A13 A14 _ c3 _ c5 _ c6 _ c7 _ c8 _ c9 _ c10 _ c11 _ c13 _ c14 w
 by_cases h20 : f0 = 20
 ·subst h20
  exact un20 f1 f2 f4 f16 f19 f12 f15 f17 f18 f20 A3 A5 A6 A7 A8 A9 A10 A11 A13 A14 _ c3 _ c5 _ c6 _ c7 _ c8 _ c9 _ c10 _ c11 _ c13 _ c14 w
 by_cases h15 : f0 = 15
 ·subst h15
  exact un15 f1 f2 f4 f16 f19 f12 f15 f17 f18 f20 A3 A5 A6 A7 A8 A9 A10 A11 A13 A14 _ c3 _ c5 _ c6 _ c7 _ c8 _ c9 _ c10 _ c11 _ c13 _ c14 w
 by_cases h24 : f0 = 24
 ·subst h24
  exact un24 f1 f2 f4 f16 f19 f12 f15 f17 f18 f20 A3 A5 A6 A7 A8 A9 A10 A11 A13 A14 _ c3 _ c5 _ c6 _ c7 _ c8 _ c9 _ c10 _ c11 _ c13 _ c14 w
 simp only [Mv.unused,Hd.unused,if_neg h1,if_neg h2,if_neg h11,if_neg h4,if_neg h20,if_neg h15,if_neg h24]
 exact un0 f1 f2 f4 f16 f19 f12 f15 f17 f18 f20 A3 A5 A6 A7 A8 A9 A10 A11 A13 A14 _ c3 _ c5 _ c6 _ c7 _ c8 _ c9 _ c10 _ c11 _ c13 _ c14 f0 (beq_eq_false_iff_ne.mpr h1) (beq_eq_false_iff_ne.mpr h2) (beq_eq_false_iff_ne.mpr h11) (beq_eq_false_iff_ne.mpr h4) (beq_eq_false_iff_ne.mpr h20) (beq_eq_false_iff_ne.mpr h15) (beq_eq_false_iff_ne.mpr h24) w
def pv (v : ByteArray) (n : Int) : ByteArray × Int := (wire_PutVec.f v n).getD (ByteArray.empty,101)
def nm (x n : Int) : ByteArray × Int := (wire_Put.f x n).getD (ByteArray.empty,101)
theorem bytes_some (x n : Int) (h1 : 1 ≤ n) (h4 : n ≤ 4) : ∃ r,wire_Bytes.f x n = some r ∧ r.size = n.toNat := by
 have : n = 1 ∨ n = 2 ∨ n = 3 ∨ n = 4 := by omega
 rcases this with rfl | rfl | rfl | rfl
 all_goals exact ⟨_,rfl,rfl⟩
theorem w8 (n : Int) (h1 : 1 ≤ n) (h4 : n ≤ 4) : wrap64 (8 * n) = 8 * n := (i64_w _).symm.trans (IntWalk.i64_in _ (by omega))
theorem pv_ex (v : ByteArray) (n : Int) (h1 : 1 ≤ n) (h3 : n ≤ 3) (hv : v.size ≤ 140737488355328) : ∃ r,wire_PutVec.f v n = some r ∧ r.1.size ≤ 3 + v.size ∧ ((r.2 = 0 ∧ r.1.size = n.toNat + v.size) ∨ (r.2 = 101 ∧ r.1 = ByteArray.empty)) := by
 obtain ⟨r,hr,hs⟩ := bytes_some v.size n h1 (by omega)
 unfold wire_PutVec.f
 rw [w8 n h1 (by omega),if_neg (by omega),if_neg (by omega),if_pos (by omega),hr]
 simp only [Option.bind_some]
 have hz : (r ++ v).size = n.toNat + v.size := by rw [ByteArray.size_append,hs]
 by_cases h : shr .i64 (v.size : Int) (8 * n) = 0
 ·rw [if_pos h,if_pos (by omega)]
  exact ⟨_,rfl,by show (r ++ v).size ≤ _; omega,.inl ⟨rfl,hz⟩⟩
 ·rw [if_neg h]
  exact ⟨_,rfl,by show (0 : Nat) ≤ _; omega,.inr ⟨rfl,rfl⟩⟩
theorem pv_some (v : ByteArray) (n : Int) (h1 : 1 ≤ n) (h3 : n ≤ 3) (hv : v.size ≤ 140737488355328) : wire_PutVec.f v n = some ((pv v n).1,(pv v n).2) := by
 obtain ⟨r,hr,_⟩ := pv_ex v n h1 h3 hv
 unfold pv
 rw [hr]
 rfl
theorem pv_size (v : ByteArray) (n : Int) (h1 : 1 ≤ n) (h3 : n ≤ 3) (hv : v.size ≤ 140737488355328) : (pv v n).1.size ≤ 3 + v.size := by
 obtain ⟨r,hr,hs,_⟩ := pv_ex v n h1 h3 hv
 unfold pv
 rw [hr]
 exact hs
theorem nm_ex (x n : Int) (h1 : 1 ≤ n) (h4 : n ≤ 4) : ∃ r,wire_Put.f x n = some r ∧ r.1.size ≤ 4 := by
 obtain ⟨r,hr,hs⟩ := bytes_some x n h1 h4
 unfold wire_Put.f
 rw [w8 n h1 h4,if_neg (by omega),if_neg (by omega),hr]
 simp only [Option.bind_some]
 by_cases h0 : x < 0
 ·rw [if_pos h0]
  exact ⟨_,rfl,by show (0 : Nat) ≤ _; omega⟩
 ·rw [if_neg h0,if_pos (by omega)]
  by_cases h : shr .i64 x (8 * n) = 0
  ·rw [if_pos h]
   exact ⟨_,rfl,by show r.size ≤ 4; omega⟩
  ·rw [if_neg h]
   exact ⟨_,rfl,by show (0 : Nat) ≤ _; omega⟩
theorem nm_some (x n : Int) (h1 : 1 ≤ n) (h4 : n ≤ 4) : wire_Put.f x n = some ((nm x n).1,(nm x n).2) := by
 obtain ⟨r,hr,_⟩ := nm_ex x n h1 h4
 unfold nm
 rw [hr]
 rfl
theorem nm_size (x n : Int) (h1 : 1 ≤ n) (h4 : n ≤ 4) : (nm x n).1.size ≤ 4 := by
 obtain ⟨r,hr,hs⟩ := nm_ex x n h1 h4
 unfold nm
 rw [hr]
 exact hs
theorem num_calls' (lo g : Nat) (s : ByteArray) (b : Bool) (x size : Int) (w : World) (h : Wt lo w g s b) (h1 : 1 ≤ size) (h4 : size ≤ 4) (hn : s.size + 4 ≤ 140737488355328) :
  Calls Try.prog 60 #[.pointer (some ⟨g,0,none⟩),.int .i64 x,.int .i64 size] w fun ex w' => ex = .returned (.tuple #[]) ∧ Wt lo w' g (s ++ (nm x size).1) (b || !((nm x size).2 == 0)) ∧ Fr lo g w w' :=
 num_calls lo g s _ b x size _ w h (nm_some x size h1 h4) (by have := nm_size x size h1 h4; omega)
theorem vec_calls' (lo g : Nat) (s v : ByteArray) (b : Bool) (size least most : Int) (w : World) (h : Wt lo w g s b) (h1 : 1 ≤ size) (h3 : size ≤ 3) (hn : s.size + 3 + v.size ≤ 140737488355328) :
  Calls Try.prog 57 #[.pointer (some ⟨g,0,none⟩),.string v,.int .i64 size,.int .i64 least,.int .i64 most] w fun ex w' => ex = .returned (.tuple #[]) ∧ Wt lo w' g (s ++ (pv v size).1) (b || !(vecOk v (pv v size).2 least most)) ∧ Fr lo g w w' :=
 vec_calls lo g s v _ b size least most _ w h (pv_some v size h1 h3 (by omega)) (by have := pv_size v size h1 h3 (by omega); omega)
theorem within_calls' (lo g k : Nat) (cap : Array Value) (s u : ByteArray) (b bu : Bool) (size : Int) (w : World) (h : Wt lo w g s b)
  (eg : ∀ args w,(callFunc k args).run Try.prog w = .ok (.enter k args) w) (hw : Writes k cap w u bu) (h1 : 1 ≤ size) (h3 : size ≤ 3) (hn : s.size + 3 + u.size ≤ 140737488355328) :
  Calls Try.prog 58 #[.pointer (some ⟨g,0,none⟩),.int .i64 size,.func (.func k) #[] cap] w fun ex w' => ex = .returned (.tuple #[]) ∧ Wt lo w' g (s ++ (pv u size).1) ((b || !(!bu)) || !(vecOk u (pv u size).2 0 16777216)) ∧ Fr lo g w w' :=
 within_calls lo g k cap s u _ b bu size _ w h eg hw (pv_some u size h1 h3 (by omega)) (by have := pv_size u size h1 h3 (by omega); omega)
def certStep (p : ByteArray × Bool) (c : ByteArray) : ByteArray × Bool :=
 ((p.1 ++ (pv c 3).1) ++ (pv ⟨#[]⟩ 2).1,(p.2 || !(vecOk c (pv c 3).2 1 16777216)) || !(vecOk ⟨#[]⟩ (pv ⟨#[]⟩ 2).2 0 0))
def certW (l : List ByteArray) : ByteArray × Bool := l.foldl certStep (ByteArray.empty,false)
def csz (l : List ByteArray) : Nat := (l.map fun c => c.size + 6).sum
theorem csz_step (l : List ByteArray) (i : Nat) (h : i < l.length) : csz (l.take (i + 1)) = csz (l.take i) + ((rdOf ByteArray.empty l (i : Int)).size + 6) := by
 unfold csz rdOf
 rw [Int.toNat_natCast,List.take_add_one,List.map_append,List.sum_append,List.getD_eq_getElem?_getD,List.getElem?_eq_getElem h]
 simp
theorem csz_le (l : List ByteArray) (i : Nat) : csz (l.take i) ≤ csz l := by
 unfold csz
 conv => rhs; rw [← List.take_append_drop i l,List.map_append,List.sum_append]
 exact Nat.le_add_right _ _
theorem certW_step (l : List ByteArray) (i : Nat) (h : i < l.length) : certW (l.take (i + 1)) = certStep (certW (l.take i)) (rdOf ByteArray.empty l (i : Int)) := by
 unfold certW rdOf
 rw [Int.toNat_natCast,List.take_add_one,List.foldl_append,List.getD_eq_getElem?_getD,List.getElem?_eq_getElem h]
 simp
theorem pv2 : (pv ⟨#[]⟩ 2).1.size ≤ 3 := by have := pv_size ⟨#[]⟩ 2 (by omega) (by omega) (by show (0 : Nat) ≤ _; omega); exact Nat.le_trans this (by show 3 + 0 ≤ 3; omega)
theorem certW_size (l : List ByteArray) (hl : csz l ≤ 140737488355328) : ∀ i,i ≤ l.length → (certW (l.take i)).1.size ≤ csz (l.take i)
 | 0,_ => by simp [certW,csz]
 | i + 1,h => by
  have ih := certW_size l hl i (by omega)
  have hc := csz_step l i h
  have hb := csz_le l (i + 1)
  rw [certW_step l i h]
  unfold certStep
  simp only [ByteArray.size_append]
  have h1 := pv_size (rdOf ByteArray.empty l (i : Int)) 3 (by omega) (by omega) (by omega)
  have h2 := pv2
  omega
structure Cap (w0 w : World) (gb gm : Nat) (cs : Array Value) : Prop where
 box : w.heap[gb]? = some (.cells #[.pointer (some ⟨gm,0,none⟩)] 85 (0,0))
 msg : w.heap[gm]? = some (.cells cs 49 (0,0))
 below : Below w0.heap.size w0 w
theorem Cap.fr {w0 w w' : World} {lo g gb gm : Nat} {cs : Array Value} (h : Cap w0 w gb gm cs) (f : Fr lo g w w') (hl : w0.heap.size ≤ lo) (h1 : gb ≠ g) (h2 : gm ≠ g) : Cap w0 w' gb gm cs :=
 ⟨f.keep _ _ _ h.box h1 (by decide),f.keep _ _ _ h.msg h2 (by decide),h.below.trans (f.below.mono hl)⟩
theorem Cap.over {w0 w w' : World} {gb gm : Nat} {cs : Array Value} (h : Cap w0 w gb gm cs) (b : Below w.heap.size w w') : Cap w0 w' gb gm cs :=
 ⟨(b.block gb (blk_lt h.box)).trans h.box,(b.block gm (blk_lt h.msg)).trans h.msg,h.below.trans (b.mono h.below.size)⟩
set_option maxRecDepth 100000 in
set_option maxHeartbeats 8000000 in
theorem certs_calls (lo g gb gm : Nat) (cs : Array Value) (A : Option Addr) (c : Nat) (l : List ByteArray) (w0 w : World) (hl : w0.heap.size ≤ lo) (h1 : gb ≠ g) (h2 : gm ≠ g) (hcap : Cap w0 w gb gm cs) (hc : cs[14]? = some (.slice A l.length c))
  (hr : Kd.C Kd.string w0 A l.length l) (hlc : l.length ≤ c) (hsz : csz l ≤ 140737488355328) (h : Wt lo w g ByteArray.empty false) :
  Calls Try.prog 59 #[.pointer (some ⟨g,0,none⟩),.pointer (some ⟨gb,0,none⟩)] w fun ex w' => ex = .returned (.tuple #[]) ∧ Wt lo w' g (certW l).1 (certW l).2 ∧ Fr lo g w w' := by
 have HW := Aq.mk h
 have HC := Aq.mk hcap
 have HR := Aq.mk hr
 have HS := Aq.mk hsz
 have HL := Aq.mk hl
 have HV := Aq.mk hc
 have HLM := Aq.mk (show l.length ≤ 140737488355328 from by
  have : ∀ l : List ByteArray,l.length ≤ csz l := by
   intro l
   induction l with
   | nil => exact Nat.zero_le _
   | cons a r ih => simp only [csz,List.map_cons,List.sum_cons,List.length_cons] at ih ⊢; omega
  exact Nat.le_trans (this l) hsz)
 have H1 := Aq.mk h1
 have H2 := Aq.mk h2
 clear h hcap hr hsz hl h1 h2 hc
 go_enter Try.func59,Try.ntmps59
 go_wp2_with (first
  | ((with_reducible refine gate_dst (N := 5) rfl ?_); refine ld rfl rfl rfl HC.out.box Try.underlying85 rfl rfl ?_)
  | ((with_reducible refine gate_dst (N := 8) rfl ?_); refine ld rfl rfl rfl HC.out.msg Try.underlying47 rfl HV.out ?_))
 go_loopw [10] (fun v wr => ∃ i : Nat,i ≤ l.length ∧ v = .int .i64 i ∧ Aq (Wt lo wr g (certW (l.take i)).1 (certW (l.take i)).2) ∧ Aq (Fr lo g w wr)) (fun v _ => l.length - (intOf v).toNat)
 case atStart => exact ⟨0,by omega,rfl,HW,⟨Fr.refl _ _ _⟩⟩
 case round =>
 obtain ⟨i,hi,rfl,HWi,HFi⟩ := hrel
 by_cases hlt : i < l.length
 ·have t1 : decide ((i : Int) < (l.length : Int)) = true := decide_eq_true (by omega)
  have p : (0 : Int) ≤ (i : Int) := by omega
  have q : (i : Int) < (l.length : Int) := by omega
  have HCi := Aq.mk (HC.out.fr HFi.out HL.out H1.out H2.out)
  obtain ⟨ad,e0,hx⟩ := Kd.at_string (Kd.C_below HR.out HCi.out.below) (i : Int) p q
  cases e0
  have hsi := certW_size l HS.out i hi
  have hst := csz_step l i hlt
  have hle := csz_le l (i + 1)
  obtain ⟨s,hs⟩ : ∃ s,s = rdOf ByteArray.empty l (i : Int) := ⟨_,rfl⟩
  rw [← hs] at hx hst
  rw [Int.toNat_natCast] at hx
  have HSE := Aq.mk hs
  have HN1 := Aq.mk (show (certW (l.take i)).1.size + 3 + s.size ≤ 140737488355328 from by have := HS.out; omega)
  have HN2 := Aq.mk (show ((certW (l.take i)).1 ++ (pv s 3).1).size + 3 + (⟨#[]⟩ : ByteArray).size ≤ 140737488355328 from by
   have := HS.out
   have h3 := pv_size s 3 (by omega) (by omega) (by omega)
   rw [ByteArray.size_append]
   show _ + 3 + 0 ≤ _
   omega)
  have p' := eq_true p
  have q' := eq_true q
  have z1 : IntKind.i64.wrap ((i : Int) + 1) = (i : Int) + 1 := IntWalk.i64_in _ (by have := HLM.out; omega)
  clear hs hsi hst hle p q
  go_wp2_with (first
   | (go_at_call 57; first
    | ((with_reducible refine (vec_calls' lo g _ s _ 3 1 16777216 _ HWi.out (by omega) (by omega) HN1.out).mono ?_); rintro e1 w1 ⟨rfl,i1,f1⟩; have HW1 := Aq.mk i1; have HF1 := Aq.mk (HFi.out.trans f1); clear i1 f1 hx)
    | ((with_reducible refine (vec_calls' lo g _ ⟨#[]⟩ _ 2 0 0 _ HW1.out (by omega) (by omega) HN2.out).mono ?_); rintro e2 w2 ⟨rfl,i2,f2⟩; have HW2 := Aq.mk i2; have HF2 := Aq.mk (HF1.out.trans f2); clear i2 f2)))
  go_roundw
  case rel => first | exact ⟨i + 1,by omega,by go_num,⟨by rw [certW_step l i hlt,← HSE.out]; exact HW2.out⟩,HF2⟩ | ((repeat apply Exists.intro); exact ⟨⟨i + 1,by omega,by go_num,⟨by rw [certW_step l i hlt,← HSE.out]; exact HW2.out⟩,HF2⟩,rfl⟩)
  case measure => simp [intOf]; omega
 ·have t1 : decide ((i : Int) < (l.length : Int)) = false := decide_eq_false (by omega)
  have hie : l.take i = l := List.take_of_length_le (by omega)
  rw [hie] at HWi
  clear hie
  go_wp2
  first | go_end0 | ((try simp only [Exit.inBlock,Exit.then]); refine bodyPost_ret (results_none rfl _ _ _) rfl ?_)
  exact ⟨rfl,HWi.out,HFi.out⟩
theorem box85 {ops : Array Oper} {rest : List Oper} {o : Oper} {a : Act} {Q : Exit → Act → World → Prop} {w : World} {x : Operand} (hgd : o.guard = none) (ho : o.op = .box 85 x) {q : Option Addr} (hx : a.eval x = .pointer q)
  (H : ∀ g,g = w.heap.size → ∀ w1,w1.heap[g]? = some (.cells #[.pointer q] 85 (0,0)) → Below w.heap.size w w1 → wpList Try.prog ops Q rest (a.put o.dst (.pointer (some ⟨g,0,none⟩))) w1) : wpList Try.prog ops Q (o :: rest) a w := by
 refine Kd.event_run hgd ?_ (H _ rfl _ (blk_new w _) (below_alloc (Below.refl _ _) _))
 unfold execOp
 simp only [ho,hx]
 rfl
theorem enters59 : ∀ args w,(callFunc 59 args).run Try.prog w = .ok (.enter 59 args) w := fun args w => enters_ Try.func59 (by kernel_rfl) rfl args w
structure At (w0 w : World) (lo g gm : Nat) (cs : Array Value) : Prop where
 wt : Wt lo w g ByteArray.empty false
 box : w.heap[gm]? = some (.cells cs 49 (0,0))
 lt : gm < lo
 below : Below w0.heap.size w0 w
 le : w0.heap.size ≤ lo
theorem cellB {w : World} {g : Nat} {v : Value} (h : w.heap[g]? = some (.cells #[v] 85 (0,0))) : w.cell? ⟨g,0,none⟩ = some v := (blk_cell h 0).trans rfl
set_option maxRecDepth 100000 in
set_option maxHeartbeats 8000000 in
theorem body24 (lo g gm : Nat) (cs : Array Value) (w0 w : World) (h : At w0 w lo g gm cs) (hk : cs[0]? = some (.int .i64 24)) (u : Int) (hu : cs[20]? = some (.int .i64 u)) :
  Calls Try.prog 44 #[.pointer (some ⟨g,0,none⟩),.pointer (some ⟨gm,0,none⟩)] w fun ex w' => ex = .returned (.tuple #[]) ∧ Wt lo w' g (ByteArray.empty ++ (nm (wrap64 (u - 1)) 1).1) ((false || !(u == 1 || u == 2)) || !((nm (wrap64 (u - 1)) 1).2 == 0)) ∧ Fr lo g w w' := by
 have HW := Aq.mk h.wt
 have HM := Aq.mk h.box
 have HB := Aq.mk h.below
 have HL := Aq.mk h.le
 have HNM := Aq.mk (show gm ≠ g from by have := h.wt.lt; have := h.lt; omega)
 have HV0 := Aq.mk hk
 have HV20 := Aq.mk hu
 have HN := Aq.mk (show (ByteArray.empty).size + 4 ≤ 140737488355328 from by show 0 + 4 ≤ _; omega)
 clear h hk hu
 by_cases c1 : u = 1
 ·have c1b : (u == 1) = true := beq_iff_eq.mpr c1
  clear c1
  rw [c1b]
  go_enter Try.func44,Try.ntmps44
  go_wp2_with (first
  | ((with_reducible refine gate_dst (N := 3) rfl ?_); refine box85 rfl rfl rfl ?_; intro gb eb w1 h1 b1; have HW1 := Aq.mk (HW.out.below b1); have HF := Aq.mk (Fr.of_below (g := g) HW.out.size b1); have HC := Aq.mk (Cap.mk (w0 := w0) h1 ((b1.block gm (blk_lt HM.out)).trans HM.out) (HB.out.trans (b1.mono HB.out.size))); have HNB := Aq.mk (show gb ≠ g from by have := HW.out.lt; omega); have hcb := cellB h1; have hcm := (blk_cell HC.out.msg 20).trans HV20.out; clear h1 b1 eb)
  | ((with_reducible refine gate_dst (N := 4) rfl ?_); refine ld rfl rfl rfl HC.out.box Try.underlying85 rfl rfl ?_)
  | ((with_reducible refine gate_dst (N := 7) rfl ?_); refine ld rfl rfl rfl HC.out.msg Try.underlying3 rfl HV0.out ?_)
  | ((with_reducible refine gate_dst (N := 9) rfl ?_); refine ld rfl rfl rfl HC.out.box Try.underlying85 rfl rfl ?_)
  | ((with_reducible refine gate_dst (N := 12) rfl ?_); refine ld rfl rfl rfl HC.out.msg Try.underlying3 rfl HV20.out ?_)
  | ((with_reducible refine gate_dst (N := 23) rfl ?_); refine ld rfl rfl rfl HC.out.box Try.underlying85 rfl rfl ?_)
  | ((with_reducible refine gate_dst (N := 26) rfl ?_); refine ld rfl rfl rfl HC.out.msg Try.underlying3 rfl HV20.out ?_)
  | (go_at_call 61; first
   | ((with_reducible refine (need_calls lo g _ _ true _ HW1.out).mono ?_); rintro e2 w2 ⟨rfl,i2,b2,k2⟩; have HW2 := Aq.mk i2; have f2 := Fr.of_keep b2 k2; have n_ := Aq.mk (HF.out.trans f2); clear HF; have HF := n_; clear n_; have n_ := Aq.mk (HC.out.fr f2 HL.out HNB.out HNM.out); clear HC; have HC := n_; clear n_; clear i2 b2 k2 f2))
  | (go_at_call 60; first
   | ((with_reducible refine (num_calls' lo g _ _ (wrap64 (u - 1)) 1 _ HW2.out (by omega) (by omega) HN.out).mono ?_); rintro e3 w3 ⟨rfl,i3,f3⟩; have HW3 := Aq.mk i3; have n_ := Aq.mk (HF.out.trans f3); clear HF; have HF := n_; clear n_; have n_ := Aq.mk (HC.out.fr f3 HL.out HNB.out HNM.out); clear HC; have HC := n_; clear n_; clear i3 f3)))
  first | go_end0 | ((try simp only [Exit.inBlock,Exit.then]); refine bodyPost_ret (results_none rfl _ _ _) rfl ?_)
  exact ⟨rfl,HW3.out,HF.out⟩
 ·have c1b : (u == 1) = false := beq_eq_false_iff_ne.mpr c1
  clear c1
  by_cases c2 : u = 2
  ·have c2b : (u == 2) = true := beq_iff_eq.mpr c2
   clear c2
   rw [c1b,c2b]
   go_enter Try.func44,Try.ntmps44
   go_wp2_with (first
  | ((with_reducible refine gate_dst (N := 3) rfl ?_); refine box85 rfl rfl rfl ?_; intro gb eb w1 h1 b1; have HW1 := Aq.mk (HW.out.below b1); have HF := Aq.mk (Fr.of_below (g := g) HW.out.size b1); have HC := Aq.mk (Cap.mk (w0 := w0) h1 ((b1.block gm (blk_lt HM.out)).trans HM.out) (HB.out.trans (b1.mono HB.out.size))); have HNB := Aq.mk (show gb ≠ g from by have := HW.out.lt; omega); have hcb := cellB h1; have hcm := (blk_cell HC.out.msg 20).trans HV20.out; clear h1 b1 eb)
  | ((with_reducible refine gate_dst (N := 4) rfl ?_); refine ld rfl rfl rfl HC.out.box Try.underlying85 rfl rfl ?_)
  | ((with_reducible refine gate_dst (N := 7) rfl ?_); refine ld rfl rfl rfl HC.out.msg Try.underlying3 rfl HV0.out ?_)
  | ((with_reducible refine gate_dst (N := 9) rfl ?_); refine ld rfl rfl rfl HC.out.box Try.underlying85 rfl rfl ?_)
  | ((with_reducible refine gate_dst (N := 12) rfl ?_); refine ld rfl rfl rfl HC.out.msg Try.underlying3 rfl HV20.out ?_)
  | ((with_reducible refine gate_dst (N := 23) rfl ?_); refine ld rfl rfl rfl HC.out.box Try.underlying85 rfl rfl ?_)
  | ((with_reducible refine gate_dst (N := 26) rfl ?_); refine ld rfl rfl rfl HC.out.msg Try.underlying3 rfl HV20.out ?_)
  | (go_at_call 61; first
   | ((with_reducible refine (need_calls lo g _ _ true _ HW1.out).mono ?_); rintro e2 w2 ⟨rfl,i2,b2,k2⟩; have HW2 := Aq.mk i2; have f2 := Fr.of_keep b2 k2; have n_ := Aq.mk (HF.out.trans f2); clear HF; have HF := n_; clear n_; have n_ := Aq.mk (HC.out.fr f2 HL.out HNB.out HNM.out); clear HC; have HC := n_; clear n_; clear i2 b2 k2 f2))
  | (go_at_call 60; first
   | ((with_reducible refine (num_calls' lo g _ _ (wrap64 (u - 1)) 1 _ HW2.out (by omega) (by omega) HN.out).mono ?_); rintro e3 w3 ⟨rfl,i3,f3⟩; have HW3 := Aq.mk i3; have n_ := Aq.mk (HF.out.trans f3); clear HF; have HF := n_; clear n_; have n_ := Aq.mk (HC.out.fr f3 HL.out HNB.out HNM.out); clear HC; have HC := n_; clear n_; clear i3 f3)))
   first | go_end0 | ((try simp only [Exit.inBlock,Exit.then]); refine bodyPost_ret (results_none rfl _ _ _) rfl ?_)
   exact ⟨rfl,HW3.out,HF.out⟩
  ·have c2b : (u == 2) = false := beq_eq_false_iff_ne.mpr c2
   clear c2
   rw [c1b,c2b]
   go_enter Try.func44,Try.ntmps44
   go_wp2_with (first
  | ((with_reducible refine gate_dst (N := 3) rfl ?_); refine box85 rfl rfl rfl ?_; intro gb eb w1 h1 b1; have HW1 := Aq.mk (HW.out.below b1); have HF := Aq.mk (Fr.of_below (g := g) HW.out.size b1); have HC := Aq.mk (Cap.mk (w0 := w0) h1 ((b1.block gm (blk_lt HM.out)).trans HM.out) (HB.out.trans (b1.mono HB.out.size))); have HNB := Aq.mk (show gb ≠ g from by have := HW.out.lt; omega); have hcb := cellB h1; have hcm := (blk_cell HC.out.msg 20).trans HV20.out; clear h1 b1 eb)
  | ((with_reducible refine gate_dst (N := 4) rfl ?_); refine ld rfl rfl rfl HC.out.box Try.underlying85 rfl rfl ?_)
  | ((with_reducible refine gate_dst (N := 7) rfl ?_); refine ld rfl rfl rfl HC.out.msg Try.underlying3 rfl HV0.out ?_)
  | ((with_reducible refine gate_dst (N := 9) rfl ?_); refine ld rfl rfl rfl HC.out.box Try.underlying85 rfl rfl ?_)
  | ((with_reducible refine gate_dst (N := 12) rfl ?_); refine ld rfl rfl rfl HC.out.msg Try.underlying3 rfl HV20.out ?_)
  | ((with_reducible refine gate_dst (N := 23) rfl ?_); refine ld rfl rfl rfl HC.out.box Try.underlying85 rfl rfl ?_)
  | ((with_reducible refine gate_dst (N := 26) rfl ?_); refine ld rfl rfl rfl HC.out.msg Try.underlying3 rfl HV20.out ?_)
  | (go_at_call 61; first
   | ((with_reducible refine (need_calls lo g _ _ false _ HW1.out).mono ?_); rintro e2 w2 ⟨rfl,i2,b2,k2⟩; have HW2 := Aq.mk i2; have f2 := Fr.of_keep b2 k2; have n_ := Aq.mk (HF.out.trans f2); clear HF; have HF := n_; clear n_; have n_ := Aq.mk (HC.out.fr f2 HL.out HNB.out HNM.out); clear HC; have HC := n_; clear n_; clear i2 b2 k2 f2))
  | (go_at_call 60; first
   | ((with_reducible refine (num_calls' lo g _ _ (wrap64 (u - 1)) 1 _ HW2.out (by omega) (by omega) HN.out).mono ?_); rintro e3 w3 ⟨rfl,i3,f3⟩; have HW3 := Aq.mk i3; have n_ := Aq.mk (HF.out.trans f3); clear HF; have HF := n_; clear n_; have n_ := Aq.mk (HC.out.fr f3 HL.out HNB.out HNM.out); clear HC; have HC := n_; clear n_; clear i3 f3)))
   first | go_end0 | ((try simp only [Exit.inBlock,Exit.then]); refine bodyPost_ret (results_none rfl _ _ _) rfl ?_)
   exact ⟨rfl,HW3.out,HF.out⟩
set_option maxRecDepth 100000 in
set_option maxHeartbeats 8000000 in
theorem body11 (lo g gm : Nat) (cs : Array Value) (w0 w : World) (h : At w0 w lo g gm cs) (hk : cs[0]? = some (.int .i64 11)) (A : Option Addr) (c : Nat) (l : List ByteArray) (hu : cs[14]? = some (.slice A l.length c)) (hr : Kd.C Kd.string w0 A l.length l) (hlc : l.length ≤ c) (hsz : csz l + 16 ≤ 140737488355328) :
  Calls Try.prog 44 #[.pointer (some ⟨g,0,none⟩),.pointer (some ⟨gm,0,none⟩)] w fun ex w' => ex = .returned (.tuple #[]) ∧ Wt lo w' g ((ByteArray.empty ++ (pv ⟨#[]⟩ 1).1) ++ (pv (certW l).1 3).1) (((false || !(vecOk ⟨#[]⟩ (pv ⟨#[]⟩ 1).2 0 0)) || !(!(certW l).2)) || !(vecOk (certW l).1 (pv (certW l).1 3).2 0 16777216)) ∧ Fr lo g w w' := by
 have HW := Aq.mk h.wt
 have HM := Aq.mk h.box
 have HB := Aq.mk h.below
 have HL := Aq.mk h.le
 have HNM := Aq.mk (show gm ≠ g from by have := h.wt.lt; have := h.lt; omega)
 have HV0 := Aq.mk hk
 have HV14 := Aq.mk hu
 have HR := Aq.mk hr
 have HLC := Aq.mk hlc
 have HS := Aq.mk hsz
 have HN := Aq.mk (show (ByteArray.empty).size + 3 + (⟨#[]⟩ : ByteArray).size ≤ 140737488355328 from by show 0 + 3 + 0 ≤ _; omega)
 have HN2 := Aq.mk (show (ByteArray.empty ++ (pv ⟨#[]⟩ 1).1).size + 3 + (certW l).1.size ≤ 140737488355328 from by
  have h1 := pv_size ⟨#[]⟩ 1 (by omega) (by omega) (by show (0 : Nat) ≤ _; omega)
  have h2 := certW_size l (by omega) l.length (Nat.le_refl _)
  rw [List.take_length] at h2
  rw [ByteArray.size_append]
  have h3 : (⟨#[]⟩ : ByteArray).size = 0 := rfl
  have h4 : (ByteArray.empty).size = 0 := rfl
  omega)
 have hmf : ∀ fn first cap w,(Instr.makeFunc fn first cap).run Try.prog w = .ok (.func fn first cap) w := fun _ _ _ _ => rfl
 clear h hk hu hr hlc hsz
 go_enter Try.func44,Try.ntmps44
 go_wp2_with (first
  | ((with_reducible refine gate_dst (N := 3) rfl ?_); refine box85 rfl rfl rfl ?_; intro gb eb w1 h1 b1; have HW1 := Aq.mk (HW.out.below b1); have HF := Aq.mk (Fr.of_below (g := g) HW.out.size b1); have HC := Aq.mk (Cap.mk (w0 := w0) h1 ((b1.block gm (blk_lt HM.out)).trans HM.out) (HB.out.trans (b1.mono HB.out.size))); have HNB := Aq.mk (show gb ≠ g from by have := HW.out.lt; omega); clear h1 b1 eb)
  | ((with_reducible refine gate_dst (N := 4) rfl ?_); refine ld rfl rfl rfl HC.out.box Try.underlying85 rfl rfl ?_)
  | ((with_reducible refine gate_dst (N := 7) rfl ?_); refine ld rfl rfl rfl HC.out.msg Try.underlying3 rfl HV0.out ?_)
  | (go_at_call 57; first
   | ((with_reducible refine (vec_calls' lo g _ ⟨#[]⟩ _ 1 0 0 _ HW1.out (by omega) (by omega) HN.out).mono ?_); rintro e2 w2 ⟨rfl,i2,f2⟩; have HW2 := Aq.mk i2; have n_ := Aq.mk (HF.out.trans f2); clear HF; have HF := n_; clear n_; have n_ := Aq.mk (HC.out.fr f2 HL.out HNB.out HNM.out); clear HC; have HC := n_; clear n_; clear i2 f2))
  | (go_at_call 58; first
   | ((refine (within_calls' lo g 59 _ _ (certW l).1 _ (certW l).2 3 _ HW2.out enters59 (by intro w1 g1 b1 t1; exact certs_calls _ g1 _ gm cs A c l w0 w1 HC.out.below.size (by have := t1.lt; have := blk_lt HC.out.box; omega) (by have := t1.lt; have := blk_lt HC.out.msg; omega) (HC.out.over b1) HV14.out HR.out HLC.out (by have := HS.out; omega) t1) (by omega) (by omega) HN2.out).mono ?_); rintro e3 w3 ⟨rfl,i3,f3⟩; have HW3 := Aq.mk i3; have n_ := Aq.mk (HF.out.trans f3); clear HF; have HF := n_; clear n_; have n_ := Aq.mk (HC.out.fr f3 HL.out HNB.out HNM.out); clear HC; have HC := n_; clear n_; clear i3 f3)))
 first | go_end0 | ((try simp only [Exit.inBlock,Exit.then]); refine bodyPost_ret (results_none rfl _ _ _) rfl ?_)
 exact ⟨rfl,HW3.out,HF.out⟩
abbrev Bodies (m : Mv) (h : Hd) (w0 : World) (u : ByteArray) (bu : Bool) : Prop := ∀ w lo g gm,At w0 w lo g gm (cells m h) →
 Calls Try.prog 44 #[.pointer (some ⟨g,0,none⟩),.pointer (some ⟨gm,0,none⟩)] w fun ex w' => ex = .returned (.tuple #[]) ∧ Wt lo w' g u bu ∧ Fr lo g w w'
def be3 (n : Nat) : ByteArray := (wire_Bytes.f n 3).getD ByteArray.empty
theorem be3_some (n : Nat) : wire_Bytes.f n 3 = some (be3 n) := rfl
theorem un_reads {w : World} {m : Mv} {h : Hd} (r : Reads w m h) : Reads w m.unused (h.unused m) := by
 unfold Mv.unused Hd.unused
 repeat' split
 all_goals (constructor <;> first | exact C_nil _ _ | exact Nat.zero_le _ | exact r.r3 | exact r.r5 | exact r.r6 | exact r.r7 | exact r.r8 | exact r.r9 | exact r.r10 | exact r.r11 | exact r.r13 | exact r.r14 | exact r.l3 | exact r.l5 | exact r.l6 | exact r.l7 | exact r.l8 | exact r.l9 | exact r.l10 | exact r.l11 | exact r.l13 | exact r.l14)
set_option maxRecDepth 100000 in
set_option maxHeartbeats 8000000 in
theorem put_bad (m : Mv) (h : Hd) (u : ByteArray) (w : World) (hk : msg_known.f m.f0 = some true) (hr : Reads w m h) (ht : m.unused.texts ≤ 9223372036854775807) (hl : m.unused.lists ≤ 9223372036854775807) (hy : Bodies m h w u true) :
  Calls Try.prog 23 #[.agg (cells m h)] w fun ex w' => ex = .returned (.tuple #[.string ⟨#[]⟩,.int .i64 1700]) ∧ Below w.heap.size w w' := by
 have HK := Aq.mk hk
 have HR := Aq.mk hr
 have HY := Aq.mk hy
 have HT := Aq.mk ht
 have HL := Aq.mk hl
 clear hk hr hy ht hl
 go_enter Try.func23,Try.ntmps23
 go_wp2_with (first
  | ((with_reducible refine gate_dst (N := 1) rfl ?_); refine box49 rfl rfl rfl ?_; intro gm e1 w1 h1 b1; have HM := Aq.mk h1; have HB := Aq.mk b1; have HE := Aq.mk (blk_lt h1); clear h1 b1 e1)
  | ((with_reducible refine gate_dst (N := 6) rfl ?_); refine ld (v := .int .i64 m.f0) rfl rfl rfl HM.out Try.underlying3 rfl rfl ?_)
  | (go_at_call 43; (with_reducible refine (msg_known.calls m.f0 true _ HK.out).mono ?_); rintro e2 w2 ⟨rfl,d2⟩; have HM2 := Aq.mk ((d2.below.block gm (blk_lt HM.out)).trans HM.out); have HB2 := Aq.mk (below_step HB.out d2.below); clear d2)
  | ((with_reducible refine gate_dst (N := 9) rfl ?_); refine build83 rfl rfl ?_)
  | ((with_reducible refine gate_dst (N := 10) rfl ?_); refine box83 rfl _ rfl rfl ?_; intro g eg w3 i3 b3; have HA := Aq.mk (At.mk (w0 := w) i3 ((b3.block gm (blk_lt HM2.out)).trans HM2.out) (blk_lt HM2.out) (below_step HB2.out b3) HB2.out.size); clear i3 b3 eg)
  | (go_at_call 44; (refine (HY.out _ _ _ _ HA.out).mono ?_); rintro e4 w4 ⟨rfl,i4,f4⟩; have HM4 := Aq.mk (f4.keep _ _ _ HA.out.box (by have := HA.out.lt; have := HA.out.wt.lt; omega) (by decide)); have HB4 := Aq.mk (HA.out.below.trans (f4.below.mono HA.out.le)); obtain ⟨v4,h4,l4,o4⟩ := i4; obtain ⟨A4,c4,rfl⟩ := own_slice o4; have HG4 := Aq.mk h4; have HO4 := Aq.mk o4; have hcb := cell1 h4; have hc0 := cell0 h4; clear h4 o4 f4))
 go_ret2
 exact ⟨rfl,HB4.out⟩
set_option maxRecDepth 100000 in
set_option maxHeartbeats 8000000 in
theorem put_unused (m : Mv) (h : Hd) (u : ByteArray) (w : World) (hk : msg_known.f m.f0 = some true) (hr : Reads w m h) (ht : m.unused.texts ≤ 9223372036854775807) (hl : m.unused.lists ≤ 9223372036854775807) (hy : Bodies m h w u false) (hz : m.unused.zero = false) :
  Calls Try.prog 23 #[.agg (cells m h)] w fun ex w' => ex = .returned (.tuple #[.string ⟨#[]⟩,.int .i64 1700]) ∧ Below w.heap.size w w' := by
 have HK := Aq.mk hk
 have HR := Aq.mk hr
 have HY := Aq.mk hy
 have HT := Aq.mk ht
 have HL := Aq.mk hl
 clear hk hr hy ht hl
 go_enter Try.func23,Try.ntmps23
 go_wp2_with (first
  | ((with_reducible refine gate_dst (N := 1) rfl ?_); refine box49 rfl rfl rfl ?_; intro gm e1 w1 h1 b1; have HM := Aq.mk h1; have HB := Aq.mk b1; have HE := Aq.mk (blk_lt h1); clear h1 b1 e1)
  | ((with_reducible refine gate_dst (N := 6) rfl ?_); refine ld (v := .int .i64 m.f0) rfl rfl rfl HM.out Try.underlying3 rfl rfl ?_)
  | (go_at_call 43; (with_reducible refine (msg_known.calls m.f0 true _ HK.out).mono ?_); rintro e2 w2 ⟨rfl,d2⟩; have HM2 := Aq.mk ((d2.below.block gm (blk_lt HM.out)).trans HM.out); have HB2 := Aq.mk (below_step HB.out d2.below); clear d2)
  | ((with_reducible refine gate_dst (N := 9) rfl ?_); refine build83 rfl rfl ?_)
  | ((with_reducible refine gate_dst (N := 10) rfl ?_); refine box83 rfl _ rfl rfl ?_; intro g eg w3 i3 b3; have HA := Aq.mk (At.mk (w0 := w) i3 ((b3.block gm (blk_lt HM2.out)).trans HM2.out) (blk_lt HM2.out) (below_step HB2.out b3) HB2.out.size); clear i3 b3 eg)
  | (go_at_call 44; (refine (HY.out _ _ _ _ HA.out).mono ?_); rintro e4 w4 ⟨rfl,i4,f4⟩; have HM4 := Aq.mk (f4.keep _ _ _ HA.out.box (by have := HA.out.lt; have := HA.out.wt.lt; omega) (by decide)); have HB4 := Aq.mk (HA.out.below.trans (f4.below.mono HA.out.le)); obtain ⟨v4,h4,l4,o4⟩ := i4; obtain ⟨A4,c4,rfl⟩ := own_slice o4; have HG4 := Aq.mk h4; have HO4 := Aq.mk o4; have hcb := cell1 h4; have hc0 := cell0 h4; clear h4 o4 f4)
  | ((with_reducible refine gate_dst (N := 18) rfl ?_); refine gate_guard rfl ?_; refine wpList_load_row rfl 49 _ rfl gm rfl 49 _ (0,0) _ HM4.out Try.underlying49 rfl sz49 ?_)
  | (go_at_call 46; (with_reducible refine (unused_calls m h _).mono ?_); rintro e5 w5 ⟨rfl,b5⟩; have HG5 := Aq.mk ((b5.block g (blk_lt HG4.out)).trans HG4.out); have HM5 := Aq.mk ((b5.block gm (blk_lt HM4.out)).trans HM4.out); have HO5 := Aq.mk (HO4.out.kept (grown_of_below b5 none) (by cases A4 <;> simp [Value.ownBlock])); have HB5 := Aq.mk (below_step HB4.out b5); clear b5 hcb hc0)
  | (go_at_call 45; (with_reducible refine (zero_calls m.unused (h.unused m) _ (un_reads (HR.out.below HB5.out)) HT.out HL.out).mono ?_); rintro e6 w6 ⟨rfl,b6⟩; have HG6 := Aq.mk ((b6.block g (blk_lt HG5.out)).trans HG5.out); have HM6 := Aq.mk ((b6.block gm (blk_lt HM5.out)).trans HM5.out); have HO6 := Aq.mk (HO5.out.kept (grown_of_below b6 none) (by cases A4 <;> simp [Value.ownBlock])); have HB6 := Aq.mk (below_step HB5.out b6); have hc0 := cell0 HG6.out; clear b6))
 go_ret2
 exact ⟨rfl,HB6.out⟩
set_option maxRecDepth 100000 in
set_option maxHeartbeats 8000000 in
theorem put_long (m : Mv) (h : Hd) (u : ByteArray) (w : World) (hk : msg_known.f m.f0 = some true) (hr : Reads w m h) (ht : m.unused.texts ≤ 9223372036854775807) (hl : m.unused.lists ≤ 9223372036854775807) (hy : Bodies m h w u false) (hz : m.unused.zero = true) (hs : 65532 < u.size) :
  Calls Try.prog 23 #[.agg (cells m h)] w fun ex w' => ex = .returned (.tuple #[.string ⟨#[]⟩,.int .i64 1700]) ∧ Below w.heap.size w w' := by
 have HK := Aq.mk hk
 have HR := Aq.mk hr
 have HY := Aq.mk hy
 have HT := Aq.mk ht
 have HL := Aq.mk hl
 clear hk hr hy ht hl
 have hs1 : decide ((65532 : Int) < (u.size : Int)) = true := decide_eq_true (by omega)
 go_enter Try.func23,Try.ntmps23
 go_wp2_with (first
  | ((with_reducible refine gate_dst (N := 1) rfl ?_); refine box49 rfl rfl rfl ?_; intro gm e1 w1 h1 b1; have HM := Aq.mk h1; have HB := Aq.mk b1; have HE := Aq.mk (blk_lt h1); clear h1 b1 e1)
  | ((with_reducible refine gate_dst (N := 6) rfl ?_); refine ld (v := .int .i64 m.f0) rfl rfl rfl HM.out Try.underlying3 rfl rfl ?_)
  | (go_at_call 43; (with_reducible refine (msg_known.calls m.f0 true _ HK.out).mono ?_); rintro e2 w2 ⟨rfl,d2⟩; have HM2 := Aq.mk ((d2.below.block gm (blk_lt HM.out)).trans HM.out); have HB2 := Aq.mk (below_step HB.out d2.below); clear d2)
  | ((with_reducible refine gate_dst (N := 9) rfl ?_); refine build83 rfl rfl ?_)
  | ((with_reducible refine gate_dst (N := 10) rfl ?_); refine box83 rfl _ rfl rfl ?_; intro g eg w3 i3 b3; have HA := Aq.mk (At.mk (w0 := w) i3 ((b3.block gm (blk_lt HM2.out)).trans HM2.out) (blk_lt HM2.out) (below_step HB2.out b3) HB2.out.size); clear i3 b3 eg)
  | (go_at_call 44; (refine (HY.out _ _ _ _ HA.out).mono ?_); rintro e4 w4 ⟨rfl,i4,f4⟩; have HM4 := Aq.mk (f4.keep _ _ _ HA.out.box (by have := HA.out.lt; have := HA.out.wt.lt; omega) (by decide)); have HB4 := Aq.mk (HA.out.below.trans (f4.below.mono HA.out.le)); obtain ⟨v4,h4,l4,o4⟩ := i4; obtain ⟨A4,c4,rfl⟩ := own_slice o4; have HG4 := Aq.mk h4; have HO4 := Aq.mk o4; have hcb := cell1 h4; have hc0 := cell0 h4; clear h4 o4 f4)
  | ((with_reducible refine gate_dst (N := 18) rfl ?_); refine gate_guard rfl ?_; refine wpList_load_row rfl 49 _ rfl gm rfl 49 _ (0,0) _ HM4.out Try.underlying49 rfl sz49 ?_)
  | (go_at_call 46; (with_reducible refine (unused_calls m h _).mono ?_); rintro e5 w5 ⟨rfl,b5⟩; have HG5 := Aq.mk ((b5.block g (blk_lt HG4.out)).trans HG4.out); have HM5 := Aq.mk ((b5.block gm (blk_lt HM4.out)).trans HM4.out); have HO5 := Aq.mk (HO4.out.kept (grown_of_below b5 none) (by cases A4 <;> simp [Value.ownBlock])); have HB5 := Aq.mk (below_step HB4.out b5); clear b5 hcb hc0)
  | (go_at_call 45; (with_reducible refine (zero_calls m.unused (h.unused m) _ (un_reads (HR.out.below HB5.out)) HT.out HL.out).mono ?_); rintro e6 w6 ⟨rfl,b6⟩; have HG6 := Aq.mk ((b6.block g (blk_lt HG5.out)).trans HG5.out); have HM6 := Aq.mk ((b6.block gm (blk_lt HM5.out)).trans HM5.out); have HO6 := Aq.mk (HO5.out.kept (grown_of_below b6 none) (by cases A4 <;> simp [Value.ownBlock])); have HB6 := Aq.mk (below_step HB5.out b6); have hc0 := cell0 HG6.out; clear b6))
 go_ret2
 exact ⟨rfl,HB6.out⟩
def framed (k : Int) (u : ByteArray) : ByteArray := strOfNums [k % 256] ++ be3 u.size ++ u
set_option maxRecDepth 100000 in
set_option maxHeartbeats 8000000 in
theorem put_ok (m : Mv) (h : Hd) (u : ByteArray) (w : World) (hk : msg_known.f m.f0 = some true) (hr : Reads w m h) (ht : m.unused.texts ≤ 9223372036854775807) (hl : m.unused.lists ≤ 9223372036854775807) (hy : Bodies m h w u false) (hz : m.unused.zero = true) (hs : u.size ≤ 65532) :
  Calls Try.prog 23 #[.agg (cells m h)] w fun ex w' => ex = .returned (.tuple #[.string (framed m.f0 u),.int .i64 0]) ∧ Below w.heap.size w w' := by
 have HK := Aq.mk hk
 have HR := Aq.mk hr
 have HY := Aq.mk hy
 have HT := Aq.mk ht
 have HL := Aq.mk hl
 clear hk hr hy ht hl
 have hs1 : decide ((65532 : Int) < (u.size : Int)) = false := decide_eq_false (by omega)
 obtain ⟨t,ht0⟩ : ∃ t,be3 u.size = t := ⟨_,rfl⟩
 have HBE := Aq.mk (show wire_Bytes.f (u.size : Int) 3 = some t from by rw [← ht0]; exact be3_some _)
 obtain ⟨y,hy0⟩ : ∃ y : List Int,y = [m.f0 % 256] := ⟨_,rfl⟩
 have Ny := Aq.mk hy0
 have hc1 : (strOfNums y).size + t.size ≤ 9223372036854775807 := by
  obtain ⟨r,h1,h2⟩ := bytes_some u.size 3 (by omega) (by omega)
  rw [HBE.out] at h1
  cases h1
  rw [hy0,h2]
  show 1 + 3 ≤ 9223372036854775807
  omega
 have c1 := eq_true hc1
 have c1f : (9223372036854775807 < (strOfNums y).size + t.size) = False := eq_false (Nat.not_lt.2 hc1)
 obtain ⟨z,hz0⟩ : ∃ z,strOfNums y ++ t = z := ⟨_,rfl⟩
 have hc2 : z.size + u.size ≤ 9223372036854775807 := by
  obtain ⟨r,h1,h2⟩ := bytes_some u.size 3 (by omega) (by omega)
  rw [HBE.out] at h1
  cases h1
  rw [← hz0,ByteArray.size_append,hy0,h2]
  have : (strOfNums [m.f0 % 256]).size = 1 := rfl
  omega
 have c2 := eq_true hc2
 have c2f : (9223372036854775807 < z.size + u.size) = False := eq_false (Nat.not_lt.2 hc2)
 obtain ⟨f,hf0⟩ : ∃ f,z ++ u = f := ⟨_,rfl⟩
 have Sf := Aq.mk (show framed m.f0 u = f from by unfold framed; rw [ht0,← hy0,hz0,hf0])
 clear ht0 hy0 hc1 hc2
 go_enter Try.func23,Try.ntmps23
 go_wp2_with (first
  | ((with_reducible refine gate_dst (N := 1) rfl ?_); refine box49 rfl rfl rfl ?_; intro gm e1 w1 h1 b1; have HM := Aq.mk h1; have HB := Aq.mk b1; have HE := Aq.mk (blk_lt h1); clear h1 b1 e1)
  | ((with_reducible refine gate_dst (N := 6) rfl ?_); refine ld (v := .int .i64 m.f0) rfl rfl rfl HM.out Try.underlying3 rfl rfl ?_)
  | (go_at_call 43; (with_reducible refine (msg_known.calls m.f0 true _ HK.out).mono ?_); rintro e2 w2 ⟨rfl,d2⟩; have HM2 := Aq.mk ((d2.below.block gm (blk_lt HM.out)).trans HM.out); have HB2 := Aq.mk (below_step HB.out d2.below); clear d2)
  | ((with_reducible refine gate_dst (N := 9) rfl ?_); refine build83 rfl rfl ?_)
  | ((with_reducible refine gate_dst (N := 10) rfl ?_); refine box83 rfl _ rfl rfl ?_; intro g eg w3 i3 b3; have HA := Aq.mk (At.mk (w0 := w) i3 ((b3.block gm (blk_lt HM2.out)).trans HM2.out) (blk_lt HM2.out) (below_step HB2.out b3) HB2.out.size); clear i3 b3 eg)
  | (go_at_call 44; (refine (HY.out _ _ _ _ HA.out).mono ?_); rintro e4 w4 ⟨rfl,i4,f4⟩; have HM4 := Aq.mk (f4.keep _ _ _ HA.out.box (by have := HA.out.lt; have := HA.out.wt.lt; omega) (by decide)); have HB4 := Aq.mk (HA.out.below.trans (f4.below.mono HA.out.le)); obtain ⟨v4,h4,l4,o4⟩ := i4; obtain ⟨A4,c4,rfl⟩ := own_slice o4; have HG4 := Aq.mk h4; have HO4 := Aq.mk o4; have hcb := cell1 h4; have hc0 := cell0 h4; clear h4 o4 f4)
  | ((with_reducible refine gate_dst (N := 18) rfl ?_); refine gate_guard rfl ?_; refine wpList_load_row rfl 49 _ rfl gm rfl 49 _ (0,0) _ HM4.out Try.underlying49 rfl sz49 ?_)
  | (go_at_call 46; (with_reducible refine (unused_calls m h _).mono ?_); rintro e5 w5 ⟨rfl,b5⟩; have HG5 := Aq.mk ((b5.block g (blk_lt HG4.out)).trans HG4.out); have HM5 := Aq.mk ((b5.block gm (blk_lt HM4.out)).trans HM4.out); have HO5 := Aq.mk (HO4.out.kept (grown_of_below b5 none) (by cases A4 <;> simp [Value.ownBlock])); have HB5 := Aq.mk (below_step HB4.out b5); clear b5 hcb hc0)
  | (go_at_call 45; (with_reducible refine (zero_calls m.unused (h.unused m) _ (un_reads (HR.out.below HB5.out)) HT.out HL.out).mono ?_); rintro e6 w6 ⟨rfl,b6⟩; have HG6 := Aq.mk ((b6.block g (blk_lt HG5.out)).trans HG5.out); have HM6 := Aq.mk ((b6.block gm (blk_lt HM5.out)).trans HM5.out); have HO6 := Aq.mk (HO5.out.kept (grown_of_below b6 none) (by cases A4 <;> simp [Value.ownBlock])); have HB6 := Aq.mk (below_step HB5.out b6); have hc0 := cell0 HG6.out; clear b6))
 clear hc0
 refine start_ (n := 20) (S := fun w' => Below w6.heap.size w6 w') (ds := []) #[false,false,false,false,false,false,false,false,false,false,false,false,false,false,false,false,false,false,false,false] (by kernel_rfl) rfl rfl (Below.refl w6.heap.size w6).drew (fun hHeld => ?_)
 have HS7 := Aq.mk (Below.refl w6.heap.size w6).drew
 generalize w6.drew = w7 at HS7 hHeld ⊢
 refine pure_ (i := 0) (N := (some 31)) (v := ?_) (a' := ?_) #[true,false,false,false,false,false,false,false,false,false,false,false,false,false,false,false,false,false,false,false] rfl rfl (by kernel_rfl) (fun _ _ _ h => h) (Or.inl ⟨by rfl,?_⟩) ?_ ?_
 rotate_left
 ·intro w'
  go_simp
  with_reducible rfl
 rotate_left
 ·simp only [Act.put,LS_]
  rfl
 refine take_ (i := 1) (N := (some 32)) (v := ?_) (a' := ?_) #[true,true,false,false,false,false,false,false,false,false,false,false,false,false,false,false,false,false,false,false] rfl rfl (by kernel_rfl) (fun _ _ _ h => h) (Or.inl ⟨by rfl,?_⟩) hHeld ?_ ?_
 rotate_left
 ·rintro w' hS
  have hc : w'.cell? ⟨gm,0,none⟩ = some (.int .i64 m.f0) := (blk_cell ((hS.block gm (blk_lt HM6.out)).trans HM6.out) 0).trans rfl
  go_simp
  with_reducible rfl
 rotate_left
 ·simp only [Act.put,LS_]
  rfl
 refine pure_ (i := 2) (N := (some 33)) (v := ?_) (a' := ?_) #[true,true,true,false,false,false,false,false,false,false,false,false,false,false,false,false,false,false,false,false] rfl rfl (by kernel_rfl) (fun _ _ _ h => h) (Or.inl ⟨by rfl,?_⟩) ?_ ?_
 rotate_left
 ·intro w'
  go_simp
  with_reducible rfl
 rotate_left
 ·simp only [Act.put,LS_]
  rfl
 refine pure_ (i := 5) (N := (some 36)) (v := ?_) (a' := ?_) #[true,true,true,false,false,true,false,false,false,false,false,false,false,false,false,false,false,false,false,false] rfl rfl (by kernel_rfl) (fun _ _ _ h => h) (Or.inl ⟨by rfl,?_⟩) ?_ ?_
 rotate_left
 ·intro w'
  go_simp
  with_reducible rfl
 rotate_left
 ·simp only [Act.put,LS_]
  rfl
 refine pure_ (i := 6) (N := (some 37)) (v := ?_) (a' := ?_) #[true,true,true,false,false,true,true,false,false,false,false,false,false,false,false,false,false,false,false,false] rfl rfl (by kernel_rfl) (fun _ _ _ h => h) (Or.inl ⟨by rfl,?_⟩) ?_ ?_
 rotate_left
 ·intro w'
  go_simp
  with_reducible rfl
 rotate_left
 ·simp only [Act.put,LS_]
  rfl
 refine pure_ (i := 7) (N := (some 38)) (v := ?_) (a' := ?_) #[true,true,true,false,false,true,true,true,false,false,false,false,false,false,false,false,false,false,false,false] rfl rfl (by kernel_rfl) (fun _ _ _ h => h) (Or.inl ⟨by rfl,?_⟩) ?_ ?_
 rotate_left
 ·intro w'
  go_simp
  with_reducible rfl
 rotate_left
 ·simp only [Act.put,LS_]
  rfl
 refine take_ (i := 8) (N := (some 39)) (v := ?_) (a' := ?_) #[true,true,true,false,false,true,true,true,true,false,false,false,false,false,false,false,false,false,false,false] rfl rfl (by kernel_rfl) (fun _ _ _ h => h) (Or.inl ⟨by rfl,?_⟩) hHeld ?_ ?_
 rotate_left
 ·rintro w' hS
  have hc := cell0 ((hS.block g (blk_lt HG6.out)).trans HG6.out)
  go_simp
  with_reducible rfl
 rotate_left
 ·simp only [Act.put,LS_]
  rfl
 refine pure_ (i := 9) (N := (some 40)) (v := ?_) (a' := ?_) #[true,true,true,false,false,true,true,true,true,true,false,false,false,false,false,false,false,false,false,false] rfl rfl (by kernel_rfl) (fun _ _ _ h => h) (Or.inl ⟨by rfl,?_⟩) ?_ ?_
 rotate_left
 ·intro w'
  go_simp
  with_reducible rfl
 rotate_left
 ·simp only [Act.put,LS_]
  rfl
 refine pure_ (i := 12) (N := (some 43)) (v := ?_) (a' := ?_) #[true,true,true,false,false,true,true,true,true,true,false,false,true,false,false,false,false,false,false,false] rfl rfl (by kernel_rfl) (fun _ _ _ h => h) (Or.inl ⟨by rfl,?_⟩) ?_ ?_
 rotate_left
 ·intro w'
  go_simp
  with_reducible rfl
 rotate_left
 ·simp only [Act.put,LS_]
  rfl
 refine pure_ (i := 13) (N := (some 44)) (v := ?_) (a' := ?_) #[true,true,true,false,false,true,true,true,true,true,false,false,true,true,false,false,false,false,false,false] rfl rfl (by kernel_rfl) (fun _ _ _ h => h) (Or.inl ⟨by rfl,?_⟩) ?_ ?_
 rotate_left
 ·intro w'
  go_simp
  with_reducible rfl
 rotate_left
 ·simp only [Act.put,LS_]
  rfl
 refine pure_ (i := 14) (N := (some 45)) (v := ?_) (a' := ?_) #[true,true,true,false,false,true,true,true,true,true,false,false,true,true,true,false,false,false,false,false] rfl rfl (by kernel_rfl) (fun _ _ _ h => h) (Or.inl ⟨by rfl,?_⟩) ?_ ?_
 rotate_left
 ·intro w'
  go_simp
  with_reducible rfl
 rotate_left
 ·simp only [Act.put,LS_]
  rfl
 refine take_ (i := 15) (N := (some 46)) (v := ?_) (a' := ?_) #[true,true,true,false,false,true,true,true,true,true,false,false,true,true,true,true,false,false,false,false] rfl rfl (by kernel_rfl) (fun _ _ _ h => h) (Or.inl ⟨by rfl,?_⟩) hHeld ?_ ?_
 rotate_left
 ·rintro w' hS
  have hc := cell0 ((hS.block g (blk_lt HG6.out)).trans HG6.out)
  go_simp
  with_reducible rfl
 rotate_left
 ·simp only [Act.put,LS_]
  rfl
 refine take_ (i := 16) (N := (some 47)) (v := ?_) (a' := ?_) #[true,true,true,false,false,true,true,true,true,true,false,false,true,true,true,true,true,false,false,false] rfl rfl (by kernel_rfl) (fun _ _ _ h => h) (Or.inl ⟨by rfl,?_⟩) hHeld ?_ ?_
 rotate_left
 ·rintro w' hS
  have hcv := own_bytes (HO6.out.kept (grown_of_below hS none) (by cases A4 <;> simp [Value.ownBlock]))
  go_simp
  with_reducible rfl
 rotate_left
 ·simp only [Act.put,LS_]
  rfl
 refine two_ (i := 3) (j := 10) (Ni := some 34) (Nj := some 41) #[true,true,true,true,false,true,true,true,true,true,false,false,true,true,true,true,true,false,false,false] #[true,true,true,false,false,true,true,true,true,true,true,false,true,true,true,true,true,false,false,false] rfl rfl rfl rfl (by kernel_rfl) (by decide) (by decide) (fun K hK => ?_) (fun K hK => ?_)
 ·refine Kd.R_lit_step (Kd.int .u8) _ 5 ?hg (N := 34) ?hd (xs := ([(m.f0) % 256] : List Int)) (inner := [.int .u8 ((m.f0) % 256)]) (ok := fun _ => True) (okp := fun _ => True) ?hr ?hp (fun _ hk => hk) trivial (Below.refl _ _) (Nat.le_refl _) (by simp) ?_; (case hd => rfl); (case hg => rfl); (case hr => first | (go_simp; done) | (go_simp; rfl)); (case hp => exact (Reps.one (show Kd.M (Kd.int .u8) _ _ _ ((m.f0) % 256) [.int .u8 ((m.f0) % 256)] from rfl) (Reps.none _ _)))
  intro vy wy ho hb hg_ hnew_
  clear hg_ hnew_
  (first | rw [← Ny.out] at ho | (simp only [Int.reduceToNat] at ho; rw [← Ny.out] at ho))
  have HO := Aq.mk ho
  have n_ := Aq.mk (below_step HS7.out hb)
  clear HS7
  have HS7 := n_
  clear n_ ho hb
  refine hK.out _ _ HS7.out (fun hHeld => ?_)
  clear hK K
  refine norm_ (a' := ?_) ?_ ?_
  rotate_left
  ·show Act.put _ (some 34) _ = _
   simp only [Act.put,LS_]
   rfl
  refine two_ (i := 4) (j := 10) (Ni := some 35) (Nj := some 41) #[true,true,true,true,true,true,true,true,true,true,false,false,true,true,true,true,true,false,false,false] T431 rfl rfl rfl rfl (by kernel_rfl) (by decide) (by decide) (fun K hK => ?_) (fun K hK => ?_)
  ·have hcv8 := own_string (P := Try.prog) Try.underlying39 Try.underlying5 Try.underlying9 (Kd.own_of_R HO.out)
   refine value_ (w1 := ?_) (v := ?_) (by rfl) rfl ?_ ?_
   rotate_left 2
   ·go_simp
    constructor
    ·rfl
    ·rfl
   clear hcv8
   refine hK.out _ _ HS7.out (fun hHeld => ?_)
   clear hK K
   refine norm_ (a' := ?_) ?_ ?_
   rotate_left
   ·show Act.put _ (some 35) _ = _
    simp only [Act.put,LS_]
    rfl
   refine one_ (i := 10) (N := (some 41)) T452 rfl rfl (by kernel_rfl) (by decide) (fun K hK => ?_)
   refine goes_ Try.func47 (by kernel_rfl) rfl #[.int .i64 (u.size : Int),.int .i64 3] (by rfl) rfl rfl (by (try simp only [List.map_toArray,List.map_cons,List.map_nil]); first | done | rfl) ?_
   with_reducible refine (wire_Bytes.calls (u.size : Int) 3 t _ HBE.out).mono ?_
   rintro e wz ⟨rfl,hb⟩
   refine ⟨_,rfl,?_⟩
   have n1_ := Aq.mk (Kd.R_below HO.out hb)
   clear HO
   have HO := n1_
   clear n1_
   have n_ := Aq.mk (below_step HS7.out hb)
   clear HS7
   have HS7 := n_
   clear n_ hb
   refine hK.out _ _ HS7.out (fun hHeld => ?_)
   clear hK K
   refine norm_ (a' := ?_) ?_ ?_
   rotate_left
   ·show Act.put _ (some 41) _ = _
    simp only [Act.put,LS_]
    rfl
   refine pure_ (i := 11) (N := (some 42)) (v := ?_) (a' := ?_) T459 rfl rfl (by kernel_rfl) (fun _ _ _ h => h) (Or.inl ⟨by rfl,?_⟩) ?_ ?_
   rotate_left
   ·intro w'
    go_simp
    with_reducible rfl
   rotate_left
   ·simp only [Act.put,LS_]
    rfl
   refine pure_ (i := 17) (N := (some 48)) (v := ?_) (a' := ?_) T460 rfl rfl (by kernel_rfl) (fun _ _ _ h => h) (Or.inl ⟨by rfl,?_⟩) ?_ ?_
   rotate_left
   ·intro w'
    go_simp
    with_reducible rfl
   rotate_left
   ·simp only [Act.put,LS_]
    rfl
   refine pure_ (i := 18) (N := (some 2)) (v := ?_) (a' := ?_) T461 rfl rfl (by kernel_rfl) (fun _ _ _ h => h) (Or.inl ⟨by rfl,?_⟩) ?_ ?_
   rotate_left
   ·intro w'
    go_simp
    with_reducible rfl
   rotate_left
   ·simp only [Act.put,LS_]
    rfl
   refine pure_ (i := 19) (N := (some 3)) (v := ?_) (a' := ?_) T462 rfl rfl (by kernel_rfl) (fun _ _ _ h => h) (Or.inl ⟨by rfl,?_⟩) ?_ ?_
   rotate_left
   ·intro w'
    go_simp
    with_reducible rfl
   rotate_left
   ·simp only [Act.put,LS_]
    rfl
   refine done_ (by kernel_rfl) ?_
   go_wp2
   go_ret2
   exact ⟨by rw [Sf.out]; rfl,below_step HB6.out HS7.out⟩
  ·refine goes_ Try.func47 (by kernel_rfl) rfl #[.int .i64 (u.size : Int),.int .i64 3] (by rfl) rfl rfl (by (try simp only [List.map_toArray,List.map_cons,List.map_nil]); first | done | rfl) ?_
   with_reducible refine (wire_Bytes.calls (u.size : Int) 3 t _ HBE.out).mono ?_
   rintro e wz ⟨rfl,hb⟩
   refine ⟨_,rfl,?_⟩
   have n1_ := Aq.mk (Kd.R_below HO.out hb)
   clear HO
   have HO := n1_
   clear n1_
   have n_ := Aq.mk (below_step HS7.out hb)
   clear HS7
   have HS7 := n_
   clear n_ hb
   refine hK.out _ _ HS7.out (fun hHeld => ?_)
   clear hK K
   refine norm_ (a' := ?_) ?_ ?_
   rotate_left
   ·show Act.put _ (some 41) _ = _
    simp only [Act.put,LS_]
    rfl
   refine one_ (i := 4) (N := (some 35)) T452 rfl rfl (by kernel_rfl) (by decide) (fun K hK => ?_)
   have hcv8 := own_string (P := Try.prog) Try.underlying39 Try.underlying5 Try.underlying9 (Kd.own_of_R HO.out)
   refine value_ (w1 := ?_) (v := ?_) (by rfl) rfl ?_ ?_
   rotate_left 2
   ·go_simp
    constructor
    ·rfl
    ·rfl
   clear hcv8
   refine hK.out _ _ HS7.out (fun hHeld => ?_)
   clear hK K
   refine norm_ (a' := ?_) ?_ ?_
   rotate_left
   ·show Act.put _ (some 35) _ = _
    simp only [Act.put,LS_]
    rfl
   refine pure_ (i := 11) (N := (some 42)) (v := ?_) (a' := ?_) T459 rfl rfl (by kernel_rfl) (fun _ _ _ h => h) (Or.inl ⟨by rfl,?_⟩) ?_ ?_
   rotate_left
   ·intro w'
    go_simp
    with_reducible rfl
   rotate_left
   ·simp only [Act.put,LS_]
    rfl
   refine pure_ (i := 17) (N := (some 48)) (v := ?_) (a' := ?_) T460 rfl rfl (by kernel_rfl) (fun _ _ _ h => h) (Or.inl ⟨by rfl,?_⟩) ?_ ?_
   rotate_left
   ·intro w'
    go_simp
    with_reducible rfl
   rotate_left
   ·simp only [Act.put,LS_]
    rfl
   refine pure_ (i := 18) (N := (some 2)) (v := ?_) (a' := ?_) T461 rfl rfl (by kernel_rfl) (fun _ _ _ h => h) (Or.inl ⟨by rfl,?_⟩) ?_ ?_
   rotate_left
   ·intro w'
    go_simp
    with_reducible rfl
   rotate_left
   ·simp only [Act.put,LS_]
    rfl
   refine pure_ (i := 19) (N := (some 3)) (v := ?_) (a' := ?_) T462 rfl rfl (by kernel_rfl) (fun _ _ _ h => h) (Or.inl ⟨by rfl,?_⟩) ?_ ?_
   rotate_left
   ·intro w'
    go_simp
    with_reducible rfl
   rotate_left
   ·simp only [Act.put,LS_]
    rfl
   refine done_ (by kernel_rfl) ?_
   go_wp2
   go_ret2
   exact ⟨by rw [Sf.out]; rfl,below_step HB6.out HS7.out⟩
 ·refine goes_ Try.func47 (by kernel_rfl) rfl #[.int .i64 (u.size : Int),.int .i64 3] (by rfl) rfl rfl (by (try simp only [List.map_toArray,List.map_cons,List.map_nil]); first | done | rfl) ?_
  with_reducible refine (wire_Bytes.calls (u.size : Int) 3 t _ HBE.out).mono ?_
  rintro e wz ⟨rfl,hb⟩
  refine ⟨_,rfl,?_⟩
  have n_ := Aq.mk (below_step HS7.out hb)
  clear HS7
  have HS7 := n_
  clear n_ hb
  refine hK.out _ _ HS7.out (fun hHeld => ?_)
  clear hK K
  refine norm_ (a' := ?_) ?_ ?_
  rotate_left
  ·show Act.put _ (some 41) _ = _
   simp only [Act.put,LS_]
   rfl
  refine one_ (i := 3) (N := (some 34)) T431 rfl rfl (by kernel_rfl) (by decide) (fun K hK => ?_)
  refine Kd.R_lit_step (Kd.int .u8) _ 5 ?hg (N := 34) ?hd (xs := ([(m.f0) % 256] : List Int)) (inner := [.int .u8 ((m.f0) % 256)]) (ok := fun _ => True) (okp := fun _ => True) ?hr ?hp (fun _ hk => hk) trivial (Below.refl _ _) (Nat.le_refl _) (by simp) ?_; (case hd => rfl); (case hg => rfl); (case hr => first | (go_simp; done) | (go_simp; rfl)); (case hp => exact (Reps.one (show Kd.M (Kd.int .u8) _ _ _ ((m.f0) % 256) [.int .u8 ((m.f0) % 256)] from rfl) (Reps.none _ _)))
  intro vy wy ho hb hg_ hnew_
  clear hg_ hnew_
  (first | rw [← Ny.out] at ho | (simp only [Int.reduceToNat] at ho; rw [← Ny.out] at ho))
  have HO := Aq.mk ho
  have n_ := Aq.mk (below_step HS7.out hb)
  clear HS7
  have HS7 := n_
  clear n_ ho hb
  refine hK.out _ _ HS7.out (fun hHeld => ?_)
  clear hK K
  refine norm_ (a' := ?_) ?_ ?_
  rotate_left
  ·show Act.put _ (some 34) _ = _
   simp only [Act.put,LS_]
   rfl
  refine one_ (i := 4) (N := (some 35)) T452 rfl rfl (by kernel_rfl) (by decide) (fun K hK => ?_)
  have hcv8 := own_string (P := Try.prog) Try.underlying39 Try.underlying5 Try.underlying9 (Kd.own_of_R HO.out)
  refine value_ (w1 := ?_) (v := ?_) (by rfl) rfl ?_ ?_
  rotate_left 2
  ·go_simp
   constructor
   ·rfl
   ·rfl
  clear hcv8
  refine hK.out _ _ HS7.out (fun hHeld => ?_)
  clear hK K
  refine norm_ (a' := ?_) ?_ ?_
  rotate_left
  ·show Act.put _ (some 35) _ = _
   simp only [Act.put,LS_]
   rfl
  refine pure_ (i := 11) (N := (some 42)) (v := ?_) (a' := ?_) T459 rfl rfl (by kernel_rfl) (fun _ _ _ h => h) (Or.inl ⟨by rfl,?_⟩) ?_ ?_
  rotate_left
  ·intro w'
   go_simp
   with_reducible rfl
  rotate_left
  ·simp only [Act.put,LS_]
   rfl
  refine pure_ (i := 17) (N := (some 48)) (v := ?_) (a' := ?_) T460 rfl rfl (by kernel_rfl) (fun _ _ _ h => h) (Or.inl ⟨by rfl,?_⟩) ?_ ?_
  rotate_left
  ·intro w'
   go_simp
   with_reducible rfl
  rotate_left
  ·simp only [Act.put,LS_]
   rfl
  refine pure_ (i := 18) (N := (some 2)) (v := ?_) (a' := ?_) T461 rfl rfl (by kernel_rfl) (fun _ _ _ h => h) (Or.inl ⟨by rfl,?_⟩) ?_ ?_
  rotate_left
  ·intro w'
   go_simp
   with_reducible rfl
  rotate_left
  ·simp only [Act.put,LS_]
   rfl
  refine pure_ (i := 19) (N := (some 3)) (v := ?_) (a' := ?_) T462 rfl rfl (by kernel_rfl) (fun _ _ _ h => h) (Or.inl ⟨by rfl,?_⟩) ?_ ?_
  rotate_left
  ·intro w'
   go_simp
   with_reducible rfl
  rotate_left
  ·simp only [Act.put,LS_]
   rfl
  refine done_ (by kernel_rfl) ?_
  go_wp2
  go_ret2
  exact ⟨by rw [Sf.out]; rfl,below_step HB6.out HS7.out⟩
end Go.Proofs.Ytlkebjkpmiehcaa.Ms
end
section
namespace Go.Proofs.Ytlkebjkpmiehcaa.X
open Go.RowKit Go.Proofs.YtlkebjkpmiehcaaW.PrintWords Go.Proofs.YtlkebjkpmiehcaaW.PrintLast Go.Proofs.YtlkebjkpmiehcaaW.PrintMore
attribute [local go_sem] max2_int min2_int max_two min_two max_three min_three max_four min_four   
set_option linter.unusedVariables false
set_option linter.unusedSimpArgs false
theorem eqA41 (d : Nat) (w : World) (x0 y0 : Int) (x1 y1 : ByteArray) :
  (Op.equalIn (d + 2) 41 (.agg #[.int .i64 x0,.string x1]) (.agg #[.int .i64 y0,.string y1])).run Try.prog w = .ok (x0 == y0 && (x1.toList == y1.toList)) w := by
 refine eqA_of Try.underlying41 (by kernel_rfl) ?_
 refine eqf_cons (by rfl) (by go_simp; rfl) (by go_simp; rfl) (by go_simp) ?_
 exact eqf_last (by rfl) (by go_simp; rfl) (by go_simp; rfl) (by go_simp)
end Go.Proofs.Ytlkebjkpmiehcaa.X
end
section
namespace Go.Proofs.Ytlkebjkpmiehcaa.X
open Go.RowKit Go.Proofs.YtlkebjkpmiehcaaW.PrintWords Go.Proofs.YtlkebjkpmiehcaaW.PrintLast Go.Proofs.YtlkebjkpmiehcaaW.PrintMore
attribute [local go_sem] max2_int min2_int max_two min_two max_three min_three max_four min_four   
set_option linter.unusedVariables false
set_option linter.unusedSimpArgs false
attribute [local go_sem high] eqA41
def halberdlaw0_Num.f (a0 : Int) : Option (Int) := some a0
set_option maxHeartbeats 8000000 in
set_option maxRecDepth 100000 in
theorem halberdlaw0_Num.calls (a0 : Int) (r : Int) (w : World) (h : halberdlaw0_Num.f a0 = some r) :
  Calls Try.prog 18 #[.int .i64 a0] w fun e w' => e = .returned (.int .i64 r) ∧ Drawn0 w w' := by
 have H : (some a0) = some r := h
 clear h
 obtain rfl := Option.some.inj H
 go_enter Try.func18,Try.ntmps18
 go_wp2
 go_ret
 exact ⟨by first | rfl | (simp; done) | (simp [*]; done),by repeat (first | exact Drawn0.refl _ | apply Drawn0.step)⟩
end Go.Proofs.Ytlkebjkpmiehcaa.X
end
section
namespace Go.Proofs.Ytlkebjkpmiehcaa.Ms
open Go.RowKit Go.Proofs.YtlkebjkpmiehcaaW.PrintWords Go.Proofs.YtlkebjkpmiehcaaW.PrintLast Go.Proofs.YtlkebjkpmiehcaaW.PrintMore Go.Proofs.Ytlkebjkpmiehcaa.X
open Go.Proofs.Ytlkebjkpmiehcaa.Pure (nv numOf vecOf nv_bd nv_bd4 number_any vec_ok)
set_option linter.unusedVariables false
def kuM (u : Int) : Mv := { zeroM with f0 := 24,f20 := u }
theorem num_f (e : Int) : halberdlaw0_Num.f e = some e := rfl
def s5 : ByteArray := ⟨#[24,0,0,1,1]⟩
theorem nreads (w : World) (u : Int) : Reads w (kuM u) hd0 := by
 constructor <;> first | exact C_nil _ _ | exact Nat.le_refl _
theorem ku_reads (u : Int) (h : Hd) (w : World) : Reads w (kuM u) h := by
 have e {α : Type} (d : Kd α) (A : Option Addr) : Kd.C d w A 0 [] := ⟨rfl,by omega,fun h => absurd h (by omega)⟩
 constructor <;> first | exact e _ _ | exact Nat.zero_le _
theorem put_two (w : World) : Calls Try.prog 23 #[.agg (cells (kuM 2) hd0)] w fun ex w' => ex = .returned (.tuple #[.string s5,.int .i64 0]) ∧ Below w.heap.size w w' := by
 have h := put_ok (kuM 2) hd0 (ByteArray.empty ++ (nm (wrap64 (2 - 1)) 1).1) w rfl (nreads w 2) (by decide) (by decide) (fun w1 lo g gm ha => by
  have hb := body24 lo g gm _ w w1 ha rfl 2 rfl
  rw [show ((false || !((2 : Int) == 1 || (2 : Int) == 2)) || !((nm (wrap64 (2 - 1)) 1).2 == 0)) = false from by decide +kernel] at hb
  exact hb) rfl (by decide +kernel)
 have e : framed (kuM 2).f0 (ByteArray.empty ++ (nm (wrap64 (2 - 1)) 1).1) = s5 := by kernel_rfl
 rw [e] at h
 exact h
theorem put_three (w : World) : Calls Try.prog 23 #[.agg (cells (kuM 3) hd0)] w fun ex w' => ex = .returned (.tuple #[.string ⟨#[]⟩,.int .i64 1700]) ∧ Below w.heap.size w w' :=
 put_bad (kuM 3) hd0 (ByteArray.empty ++ (nm (wrap64 (3 - 1)) 1).1) w rfl (nreads w 3) (by decide) (by decide) (fun w1 lo g gm ha => by
  have hb := body24 lo g gm _ w w1 ha rfl 3 rfl
  exact hb)
theorem get_five : getM s5 = (kuM 2,0) := by kernel_rfl
theorem get_e (s : ByteArray) (e : Int) (w : World) (hs : s.size ≤ 140737488351232) (he : (getM s).2 = e) :
  Calls Try.prog 24 #[.string s] w fun ex w' => ∃ m h,ex = .returned (.tuple #[.agg (cells m h),.int .i64 e]) ∧ Below w.heap.size w w' :=
 (get_c s w hs).mono fun ex w' ⟨h,h1,_,h2⟩ => ⟨_,h,by rw [← he]; exact h1,h2⟩
theorem get_m (s : ByteArray) (m : Mv) (w : World) (hs : s.size ≤ 140737488351232) (he : getM s = (m,0)) :
  Calls Try.prog 24 #[.string s] w fun ex w' => ∃ h,ex = .returned (.tuple #[.agg (cells m h),.int .i64 0]) ∧ Reads w' m h ∧ Below w.heap.size w w' := by
 have h := get_c s w hs
 rw [he] at h
 exact h
theorem get_eo (s : ByteArray) (e : Int) (w : World) (hs : s.size ≤ 140737488351232) (BC : Aq (BodyC (getR s) { zeroM with f0 := bt s 0 })) (he : (getM s).2 = e) :
  Calls Try.prog 24 #[.string s] w fun ex w' => ∃ m h,ex = .returned (.tuple #[.agg (cells m h),.int .i64 e]) ∧ Below w.heap.size w w' :=
 (get_of s w hs BC).mono fun ex w' ⟨h,h1,_,h2⟩ => ⟨_,h,by rw [← he]; exact h1,h2⟩
theorem get_mo (s : ByteArray) (m : Mv) (w : World) (hs : s.size ≤ 140737488351232) (BC : Aq (BodyC (getR s) { zeroM with f0 := bt s 0 })) (he : getM s = (m,0)) :
  Calls Try.prog 24 #[.string s] w fun ex w' => ∃ h,ex = .returned (.tuple #[.agg (cells m h),.int .i64 0]) ∧ Reads w' m h ∧ Below w.heap.size w w' := by
 have h := get_of s w hs BC
 rw [he] at h
 exact h
theorem bc1 : Aq (BodyC (getR s5) { zeroM with f0 := bt s5 0 }) := bc_no s5 24 (by decide +kernel) (by decide) (by decide) (by decide) (by decide) (by decide) (by decide) (by decide)
theorem bc2 : Aq (BodyC (getR ⟨#[24,0,0,1,2]⟩) { zeroM with f0 := bt ⟨#[24,0,0,1,2]⟩ 0 }) := bc_no ⟨#[24,0,0,1,2]⟩ 24 (by decide +kernel) (by decide) (by decide) (by decide) (by decide) (by decide) (by decide) (by decide)
theorem bc3 : Aq (BodyC (getR ⟨#[9]⟩) { zeroM with f0 := bt ⟨#[9]⟩ 0 }) := bc_no ⟨#[9]⟩ 9 (by decide +kernel) (by decide) (by decide) (by decide) (by decide) (by decide) (by decide) (by decide)
theorem bc4 : Aq (BodyC (getR ⟨#[24,0,0,2,1,1]⟩) { zeroM with f0 := bt ⟨#[24,0,0,2,1,1]⟩ 0 }) := bc_no ⟨#[24,0,0,2,1,1]⟩ 24 (by decide +kernel) (by decide) (by decide) (by decide) (by decide) (by decide) (by decide) (by decide)
theorem got2 : (getM ⟨#[24,0,0,1,2]⟩).2 = 1702 := by decide +kernel
theorem got3 : (getM ⟨#[9]⟩).2 = 1701 := by decide +kernel
theorem got4 : (getM ⟨#[24,0,0,2,1,1]⟩).2 = 1700 := by decide +kernel
set_option maxRecDepth 100000 in
set_option maxHeartbeats 8000000 in
theorem awake_c (w : World) : Calls Try.prog 22 #[] w fun ex w' => ex = .returned (.bool true) ∧ Below w.heap.size w w' := by
 have hs5 : (s5.toList == ([24,0,0,1,1] : List UInt8)) = true := by decide +kernel
 have hrt : (kuM 2).retry = false := by decide +kernel
 have HB := Aq.mk (Below.refl w.heap.size w)
 go_enter Try.func22,Try.ntmps22
 go_wp2_with (first
  | ((with_reducible refine gate_callee (f := 23) rfl ?_); refine goesL_ (some 15) rfl rfl Try.func23 (by kernel_rfl) rfl #[.agg (cells (kuM 2) hd0)] rfl (by (try simp only [List.map_toArray,List.map_cons,List.map_nil]); first | done | rfl) ?_; (with_reducible refine (put_two _).mono ?_); rintro e_ w_ ⟨rfl,b_⟩; refine ⟨_,rfl,?_⟩; have n0_ := Aq.mk (below_step HB.out b_); clear HB; have HB := n0_; clear n0_; clear b_)
  | ((with_reducible refine gate_callee (f := 24) rfl ?_); refine goesL_ (some 20) rfl rfl Try.func24 (by kernel_rfl) rfl #[.string s5] rfl (by (try simp only [List.map_toArray,List.map_cons,List.map_nil]); first | done | rfl) ?_; (with_reducible refine (get_mo s5 (kuM 2) _ (by decide) bc1 get_five).mono ?_); rintro e_ w_ ⟨hm,rfl,r_,b_⟩; refine ⟨_,rfl,?_⟩; have n0_ := Aq.mk (below_step HB.out b_); clear HB; have HB := n0_; clear n0_; clear b_ r_)
  | ((with_reducible refine gate_callee (f := 24) rfl ?_); refine goesL_ (some 24) rfl rfl Try.func24 (by kernel_rfl) rfl #[.string ⟨#[24,0,0,1,2]⟩] rfl (by (try simp only [List.map_toArray,List.map_cons,List.map_nil]); first | done | rfl) ?_; (with_reducible refine (get_eo ⟨#[24,0,0,1,2]⟩ _ _ (by decide) bc2 got2).mono ?_); rintro e_ w_ ⟨m24,h24,rfl,b_⟩; refine ⟨_,rfl,?_⟩; have n0_ := Aq.mk (below_step HB.out b_); have n1_ := Aq.mk ((b_.block g3 (blk_lt HX.out)).trans HX.out); clear HB; have HB := n0_; clear n0_; clear HX; have HX := n1_; clear n1_; clear b_)
  | ((with_reducible refine gate_callee (f := 24) rfl ?_); refine goesL_ (some 28) rfl rfl Try.func24 (by kernel_rfl) rfl #[.string ⟨#[9]⟩] rfl (by (try simp only [List.map_toArray,List.map_cons,List.map_nil]); first | done | rfl) ?_; (with_reducible refine (get_eo ⟨#[9]⟩ _ _ (by decide) bc3 got3).mono ?_); rintro e_ w_ ⟨m28,h28,rfl,b_⟩; refine ⟨_,rfl,?_⟩; have n0_ := Aq.mk (below_step HB.out b_); have n1_ := Aq.mk ((b_.block g3 (blk_lt HX.out)).trans HX.out); clear HB; have HB := n0_; clear n0_; clear HX; have HX := n1_; clear n1_; clear b_)
  | ((with_reducible refine gate_callee (f := 24) rfl ?_); refine goesL_ (some 32) rfl rfl Try.func24 (by kernel_rfl) rfl #[.string ⟨#[24,0,0,2,1,1]⟩] rfl (by (try simp only [List.map_toArray,List.map_cons,List.map_nil]); first | done | rfl) ?_; (with_reducible refine (get_eo ⟨#[24,0,0,2,1,1]⟩ _ _ (by decide) bc4 got4).mono ?_); rintro e_ w_ ⟨m32,h32,rfl,b_⟩; refine ⟨_,rfl,?_⟩; have n0_ := Aq.mk (below_step HB.out b_); have n1_ := Aq.mk ((b_.block g3 (blk_lt HX.out)).trans HX.out); clear HB; have HB := n0_; clear n0_; clear HX; have HX := n1_; clear n1_; clear b_)
  | ((with_reducible refine gate_callee (f := 23) rfl ?_); refine goesL_ (some 37) rfl rfl Try.func23 (by kernel_rfl) rfl #[.agg (cells (kuM 3) hd0)] rfl (by (try simp only [List.map_toArray,List.map_cons,List.map_nil]); first | done | rfl) ?_; (with_reducible refine (put_three _).mono ?_); rintro e_ w_ ⟨rfl,b_⟩; refine ⟨_,rfl,?_⟩; have n0_ := Aq.mk (below_step HB.out b_); have n1_ := Aq.mk ((b_.block g3 (blk_lt HX.out)).trans HX.out); clear HB; have HB := n0_; clear n0_; clear HX; have HX := n1_; clear n1_; clear b_)
  | ((with_reducible refine gate_dst (N := 3) rfl ?_); refine alloc49' rfl rfl ?_; intro g3 eg w_ h2 b2; have HZ3 := Aq.mk h2; have HE3 := Aq.mk (show w.heap.size ≤ g3 from by have := HB.out.size; omega); have n0_ := Aq.mk (below_step HB.out b2); clear HB; have HB := n0_; clear n0_; clear h2 b2 eg)
  | ((with_reducible refine gate_store (p := 3) rfl ?_); refine stRowN (cs := cells (kuM 2) hm) sz49 rfl rfl rfl rfl HZ3.out rfl rfl (cells_one _ _) ?_; intro w_ h3 b3 k3; have HX := Aq.mk h3; have n0_ := Aq.mk (HB.out.trans (b3 _ HE3.out)); clear HB; have HB := n0_; clear n0_; clear h3 b3 k3)
  | ((with_reducible refine gate_dst (N := 5) rfl ?_); refine alloc49' rfl rfl ?_; intro g5 eg w_ h2 b2; have HNE := Aq.mk (show g3 ≠ g5 from by have := blk_lt HX.out; omega); have HZ5 := Aq.mk h2; have HE5 := Aq.mk (show w.heap.size ≤ g5 from by have := HB.out.size; omega); have n0_ := Aq.mk (below_step HB.out b2); have n1_ := Aq.mk ((b2.block g3 (blk_lt HX.out)).trans HX.out); clear HB; have HB := n0_; clear n0_; clear HX; have HX := n1_; clear n1_; clear h2 b2 eg)
  | ((with_reducible refine gate_store (p := 5) rfl ?_); refine stRowN sz49 rfl rfl rfl rfl HZ5.out rfl rfl (cells_one _ _) ?_; intro w_ h3 b3 k3; have n0_ := Aq.mk ((k3.2 g3 (blk_lt HX.out) HNE.out (by simp)).trans HX.out); have n1_ := Aq.mk (HB.out.trans (b3 _ HE5.out)); clear HX; have HX := n0_; clear n0_; clear HB; have HB := n1_; clear n1_; clear h3 b3 k3 HNE)
  | ((with_reducible refine gate_dst (N := 7) rfl ?_); refine alloc49' rfl rfl ?_; intro g7 eg w_ h2 b2; have HNE := Aq.mk (show g3 ≠ g7 from by have := blk_lt HX.out; omega); have HZ7 := Aq.mk h2; have HE7 := Aq.mk (show w.heap.size ≤ g7 from by have := HB.out.size; omega); have n0_ := Aq.mk (below_step HB.out b2); have n1_ := Aq.mk ((b2.block g3 (blk_lt HX.out)).trans HX.out); clear HB; have HB := n0_; clear n0_; clear HX; have HX := n1_; clear n1_; clear h2 b2 eg)
  | ((with_reducible refine gate_store (p := 7) rfl ?_); refine stRowN sz49 rfl rfl rfl rfl HZ7.out rfl rfl (cells_one _ _) ?_; intro w_ h3 b3 k3; have n0_ := Aq.mk ((k3.2 g3 (blk_lt HX.out) HNE.out (by simp)).trans HX.out); have n1_ := Aq.mk (HB.out.trans (b3 _ HE7.out)); clear HX; have HX := n0_; clear n0_; clear HB; have HB := n1_; clear n1_; clear h3 b3 k3 HNE)
  | ((with_reducible refine gate_dst (N := 9) rfl ?_); refine alloc49' rfl rfl ?_; intro g9 eg w_ h2 b2; have HNE := Aq.mk (show g3 ≠ g9 from by have := blk_lt HX.out; omega); have HZ9 := Aq.mk h2; have HE9 := Aq.mk (show w.heap.size ≤ g9 from by have := HB.out.size; omega); have n0_ := Aq.mk (below_step HB.out b2); have n1_ := Aq.mk ((b2.block g3 (blk_lt HX.out)).trans HX.out); clear HB; have HB := n0_; clear n0_; clear HX; have HX := n1_; clear n1_; clear h2 b2 eg)
  | ((with_reducible refine gate_store (p := 9) rfl ?_); refine stRowN sz49 rfl rfl rfl rfl HZ9.out rfl rfl (cells_one _ _) ?_; intro w_ h3 b3 k3; have n0_ := Aq.mk ((k3.2 g3 (blk_lt HX.out) HNE.out (by simp)).trans HX.out); have n1_ := Aq.mk (HB.out.trans (b3 _ HE9.out)); clear HX; have HX := n0_; clear n0_; clear HB; have HB := n1_; clear n1_; clear h3 b3 k3 HNE)
  | (go_at_call 18; (with_reducible refine (halberdlaw0_Num.calls _ _ _ (num_f _)).mono ?_); rintro ex_ wx_ ⟨rfl,d_⟩; have n0_ := Aq.mk (below_step HB.out d_.below); have n1_ := Aq.mk ((d_.below.block g3 (blk_lt HX.out)).trans HX.out); clear HB; have HB := n0_; clear n0_; clear HX; have HX := n1_; clear n1_; clear d_)
  | ((with_reducible refine gate_dst (N := 49) rfl ?_); refine gate_guard rfl ?_; refine ld (v := .int .i64 2) rfl rfl rfl HX.out Try.underlying3 rfl rfl ?_)
  | ((with_reducible refine gate_dst (N := 78) rfl ?_); refine gate_guard rfl ?_; refine wpList_load_row rfl 49 _ rfl g3 rfl 49 _ (0,0) _ HX.out Try.underlying49 rfl sz49 ?_)
  | (go_at_call 30; (with_reducible refine (retry_calls (kuM 2) hm _ (ku_reads 2 hm _)).mono ?_); rintro e_ w_ ⟨rfl,b_⟩; have n0_ := Aq.mk (below_step HB.out b_); clear HB; have HB := n0_; clear n0_; clear b_))
 go_ret
 exact ⟨rfl,HB.out⟩
end Go.Proofs.Ytlkebjkpmiehcaa.Ms
end
section
namespace Go.Proofs.Ytlkebjkpmiehcaa.Ms
open Go.RowKit Go.Proofs.YtlkebjkpmiehcaaW.PrintWords Go.Proofs.YtlkebjkpmiehcaaW.PrintLast Go.Proofs.YtlkebjkpmiehcaaW.PrintMore Go.Proofs.Ytlkebjkpmiehcaa.X
open Go.Proofs.Ytlkebjkpmiehcaa.Pure (nv numOf vecOf nv_bd From beL beL_length bytesOf_app bytesOf_strOf beL_byte bytesOf_inj strOf_size putVecOf putVec_ok bytes_ok bt_get)
set_option linter.unusedVariables false
set_option linter.unusedSimpArgs false
theorem xe_putVec : wire_PutVec.f = E.wire_PutVec.f := by kernel_rfl
theorem xe_bytes : wire_Bytes.f = E.wire_Bytes.f := by kernel_rfl
theorem pw {n : Nat} (h3 : n ≤ 3) (x : Int) (h : x < 256 ^ n) : x < 16777216 := by
 have : n = 0 ∨ n = 1 ∨ n = 2 ∨ n = 3 := by omega
 rcases this with rfl | rfl | rfl | rfl <;> simp at h <;> omega
theorem vec_from {s t : ByteArray} {p n : Nat} {m : List Int} (h : From s p (beL n t.size ++ (bytesOf t ++ m))) (ht : (t.size : Int) < 256 ^ n) :
  vecOf s p n = (t,((p + n + t.size : Nat) : Int),0) ∧ From s (p + n + t.size) m := by
 obtain ⟨h1,h2⟩ := h.number
 obtain ⟨h3,h4⟩ := h2.text
 have hl := h.len
 have hl4 := h4.len
 rw [List.length_append,beL_length,List.length_append,bytesOf_length] at hl
 have hv : nv s p n = t.size := by rw [h1]; exact Int.emod_eq_of_lt (by omega) ht
 refine ⟨?_,h4⟩
 unfold vecOf
 rw [hv,if_neg (by omega),if_neg (by omega)]
 have e1 : ((p : Int) + (n : Int)).toNat = p + n := by omega
 have e2 : ((p : Int) + (n : Int) + (t.size : Int)).toNat = p + n + t.size := by omega
 rw [e1,e2,h3]
 congr 1
theorem num_from {s : ByteArray} {p n : Nat} {x : Int} {m : List Int} (h : From s p (beL n x ++ m)) (h0 : 0 ≤ x) (hx : x < 256 ^ n) :
  numOf s p n = (x,((p + n : Nat) : Int),0) ∧ From s (p + n) m := by
 obtain ⟨h1,h2⟩ := h.number
 have hl := h.len
 rw [List.length_append,beL_length] at hl
 refine ⟨?_,h2⟩
 unfold numOf
 rw [h1,if_neg (by omega),Int.emod_eq_of_lt h0 hx]
 congr 1
theorem rvec {s t : ByteArray} {p n : Nat} {m : List Int} {tw la : Bool} (lo hi : Int) (h : From s p (beL n t.size ++ (bytesOf t ++ m))) (ht : (t.size : Int) < 256 ^ n) (h1 : lo ≤ t.size) (h2 : (t.size : Int) ≤ hi) :
  (Rp.mk s p 0 tw la).vecV n lo hi = t ∧ (Rp.mk s p 0 tw la).vecR n lo hi = ⟨s,((p + n + t.size : Nat) : Int),0,tw,la⟩ ∧ From s (p + n + t.size) m := by
 obtain ⟨e,hf⟩ := vec_from h ht
 have hc : (Rp.mk s p 0 tw la).vecC n lo hi = 0 := by
  unfold Rp.vecC
  show needed 0 (vecOk (vecOf s p n).1 (vecOf s p n).2.2 lo hi) = 0
  rw [e]
  unfold vecOk
  simp [h1,h2,needed]
 refine ⟨?_,?_,hf⟩
 ·unfold Rp.vecV
  rw [hc]
  show sel 0 (vecOf s p n).1 _ = t
  rw [e]
  exact sel_pos rfl
 ·unfold Rp.vecR
  rw [hc]
  show Rp.mk s (sel 0 (vecOf s p n).2.1 _) 0 tw la = _
  rw [e,sel_pos rfl]
theorem rin {s t : ByteArray} {p n : Nat} {m : List Int} {tw la : Bool} (h : From s p (beL n t.size ++ (bytesOf t ++ m))) (ht : (t.size : Int) < 256 ^ n) (h3 : n ≤ 3) :
  (Rp.mk s p 0 tw la).inR n = ⟨t,0,0,tw,false⟩ ∧ (Rp.mk s p 0 tw la).outR n = ⟨s,((p + n + t.size : Nat) : Int),0,tw,la⟩ ∧ From s (p + n + t.size) m := by
 have hb := pw h3 _ ht
 obtain ⟨e1,e2,hf⟩ := rvec (tw := tw) (la := la) 0 16777216 h ht (by omega) (by omega)
 refine ⟨?_,e2,hf⟩
 have hc : (Rp.mk s p 0 tw la).vecC n 0 16777216 = 0 := congrArg Rp.c e2
 unfold Rp.inR
 rw [e1,hc]
theorem rnum {s : ByteArray} {p n : Nat} {x : Int} {m : List Int} {tw la : Bool} (h : From s p (beL n x ++ m)) (h0 : 0 ≤ x) (hx : x < 256 ^ n) :
  (Rp.mk s p 0 tw la).numV n = x ∧ (Rp.mk s p 0 tw la).numR n = ⟨s,((p + n : Nat) : Int),0,tw,la⟩ ∧ From s (p + n) m := by
 obtain ⟨e,hf⟩ := num_from h h0 hx
 have hc : (Rp.mk s p 0 tw la).numC n = 0 := by
  unfold Rp.numC
  show needed 0 ((numOf s p n).2.2 == 0) = 0
  rw [e]
  simp [needed]
 refine ⟨?_,?_,hf⟩
 ·unfold Rp.numV
  rw [hc]
  show sel 0 (numOf s p n).1 _ = x
  rw [e]
  exact sel_pos rfl
 ·unfold Rp.numR
  rw [hc]
  show Rp.mk s (sel 0 (numOf s p n).2.1 _) 0 tw la = _
  rw [e,sel_pos rfl]
def V (n : Nat) (s : ByteArray) : ByteArray := strOfNums (beL n s.size) ++ s
theorem V_size (n : Nat) (s : ByteArray) : (V n s).size = n + s.size := by
 unfold V
 rw [ByteArray.size_append,strOf_size,beL_length]
theorem V_bytes (n : Nat) (s : ByteArray) : bytesOf (V n s) = beL n s.size ++ bytesOf s := by
 unfold V
 rw [bytesOf_app,bytesOf_strOf (beL_byte _ _)]
def framedV (k : Int) (u : ByteArray) : ByteArray := strOfNums [k % 256] ++ V 3 u
theorem framedV_size (k : Int) (u : ByteArray) : (framedV k u).size = u.size + 4 := by
 unfold framedV
 rw [ByteArray.size_append,V_size,strOf_size]
 simp only [List.length_cons,List.length_nil]
 omega
theorem framedV_bytes (k : Int) (u : ByteArray) : bytesOf (framedV k u) = (k % 256) :: (beL 3 u.size ++ bytesOf u) := by
 unfold framedV
 have hb : 0 ≤ k % 256 ∧ k % 256 ≤ 255 := by omega
 rw [bytesOf_app,V_bytes,bytesOf_strOf (by intro x hx; rw [List.mem_singleton] at hx; rw [hx]; exact hb)]
 rfl
theorem framed_eq (k : Int) (u : ByteArray) : framed k u = framedV k u := by
 unfold framed framedV V be3
 rw [xe_bytes,show E.wire_Bytes.f (u.size : Int) 3 = some (strOfNums (beL 3 u.size)) from bytes_ok u.size 3 (by omega) (by omega),ByteArray.append_assoc]
 rfl
theorem pv_ok (v : ByteArray) (n : Nat) (h0 : 1 ≤ n) (h1 : n ≤ 3) (hv : (v.size : Int) < 256 ^ n) : pv v n = (V n v,0) := by
 have := pw h1 _ hv
 unfold pv
 rw [xe_putVec,putVec_ok v n h0 h1 (by omega)]
 unfold putVecOf
 rw [if_pos hv]
 rfl
theorem head_ok {k : Int} {u : ByteArray} (hu : u.size ≤ 65532) : headed (framedV k u) = true ∧ getR (framedV k u) = ⟨u,0,0,false,false⟩ ∧ bt (framedV k u) 0 = k % 256 := by
 have hz := framedV_size k u
 have h0 := From.start (framedV k u)
 rw [framedV_bytes] at h0
 have h1 : From (framedV k u) 1 (beL 3 u.size ++ bytesOf u) := From.skip (l := [k % 256]) h0
 have h1' : From (framedV k u) 1 (beL 3 u.size ++ (bytesOf u ++ [])) := by rwa [List.append_nil]
 obtain ⟨e,h4⟩ := num_from h1 (by omega) (by omega)
 obtain ⟨h5,_⟩ := (Go.Proofs.Ytlkebjkpmiehcaa.Pure.From.text (s := framedV k u) (t := u) (p := 4) (m := []) (by rw [List.append_nil]; exact h4))
 refine ⟨?_,?_,?_⟩
 ·unfold headed
  have e' : numOf (framedV k u) 1 3 = ((u.size : Int),((1 + 3 : Nat) : Int),0) := e
  rw [e',hz]
  rw [decide_eq_true (show ((u.size + 4 : Nat) : Int) ≤ 65536 by omega)]
  simp only [beq_self_eq_true,Bool.true_and,Bool.and_true,beq_iff_eq]
  omega
 ·unfold getR
  rw [hz,Nat.add_comm u.size 4,h5]
 ·rw [bt_get,framedV_bytes]
  rfl
theorem nil_empty : (⟨#[]⟩ : ByteArray).toList.isEmpty = true := by decide +kernel
theorem ex_parts {s t : ByteArray} {p : Nat} {kd : Int} {m : List Int} {seen : List Int} (h : From s p (beL 2 kd ++ (beL 2 t.size ++ (bytesOf t ++ m)))) (h0 : 0 ≤ kd) (h1 : kd < 65536) (ht : (t.size : Int) < 65536) (hs : kd ∉ seen) :
  Rp.exK ⟨s,p,0,false,false⟩ = kd ∧ Rp.exI ⟨s,p,0,false,false⟩ seen = ⟨t,0,0,false,false⟩ ∧ Rp.exP ⟨s,p,0,false,false⟩ seen = ⟨s,((p + 4 + t.size : Nat) : Int),0,false,false⟩ ∧ From s (p + 4 + t.size) m := by
 obtain ⟨e1,e2,f1⟩ := rnum (tw := false) (la := false) h h0 (by omega)
 obtain ⟨e3,e4,f2⟩ := rin (tw := false) (la := false) f1 (by omega) (by omega)
 have hA : Rp.exA ⟨s,p,0,false,false⟩ = ⟨s,p,0,false,false⟩ := rfl
 have hK : Rp.exK ⟨s,p,0,false,false⟩ = kd := by unfold Rp.exK; rw [hA]; exact e1
 have hB : Rp.exB ⟨s,p,0,false,false⟩ = ⟨s,((p + 2 : Nat) : Int),0,false,false⟩ := by unfold Rp.exB; rw [hA]; exact e2
 have hT : Rp.exT ⟨s,p,0,false,false⟩ seen = false := by unfold Rp.exT; rw [hK]; simp [hs]
 have e : p + 2 + 2 + t.size = p + 4 + t.size := by omega
 rw [e] at e4 f2
 refine ⟨hK,?_,?_,f2⟩
 ·unfold Rp.exI
  rw [hB,hT]
  show { (Rp.mk s ((p + 2 : Nat) : Int) 0 false false).inR 2 with t := false } = _
  have e3' : (Rp.mk s ((p + 2 : Nat) : Int) 0 false false).inR 2 = _ := e3
  rw [e3']
 ·unfold Rp.exP
  rw [hB,hT]
  have e4' : (Rp.mk s ((p + 2 : Nat) : Int) 0 false false).outR 2 = _ := e4
  rw [e4']
theorem more_at {s : ByteArray} {p : Nat} (h : p < s.size) : Rp.more ⟨s,p,0,false,false⟩ = true := by
 unfold Rp.more
 rw [decide_eq_true (show (p : Int) < (s.size : Int) by omega)]
 rfl
theorem rbyt {s t : ByteArray} {p n : Nat} {m : List Int} {tw la : Bool} (h : From s p (bytesOf t ++ m)) (hn : t.size = n) :
  (Rp.mk s p 0 tw la).bytV n = t ∧ (Rp.mk s p 0 tw la).bytR n = ⟨s,((p + n : Nat) : Int),0,tw,la⟩ ∧ From s (p + n) m := by
 have hl := h.len
 rw [List.length_append,bytesOf_length] at hl
 obtain ⟨e,f⟩ := h.text
 rw [hn] at e f hl
 have hc : (Rp.mk s p 0 tw la).bytC n = 0 := by
  unfold Rp.bytC
  show needed 0 (decide ((n : Int) ≤ (s.size : Int) - (p : Int))) = 0
  rw [decide_eq_true (by omega)]
  rfl
 refine ⟨?_,?_,f⟩
 ·unfold Rp.bytV
  rw [hc,sel_pos rfl]
  show s.extract (p : Int).toNat ((p : Int) + (n : Int)).toNat = t
  have e1 : ((p : Int) + (n : Int)).toNat = p + n := by omega
  rw [e1,Int.toNat_natCast,e]
 ·unfold Rp.bytR
  rw [hc,sel_pos rfl]
  show Rp.mk s ((p : Int) + (n : Int)) 0 tw la = _
  congr 1
theorem get_good {u : ByteArray} {k : Int} {mm : Mv} (hk0 : 0 ≤ k) (hk1 : k < 256) (hk : knownB k = true) (hu : u.size ≤ 65532) (hb : bodyP ⟨u,0,0,false,false⟩ { zeroM with f0 := k } = (mm,⟨u,(u.size : Int),0,false,false⟩)) : getM (framedV k u) = (mm,0) := by
 obtain ⟨e1,e2,e3⟩ := head_ok (k := k) hu
 rw [Int.emod_eq_of_lt hk0 hk1] at e3
 have hB : getB (framedV k u) = (mm,⟨u,(u.size : Int),0,false,false⟩) := by
  unfold getB
  rw [e2,e3,hb]
 have hd : Rp.done ⟨u,(u.size : Int),0,false,false⟩ = ⟨u,(u.size : Int),0,false,false⟩ := by
  unfold Rp.done Rp.need
  simp [needed]
 have hF : getF (framedV k u) = ⟨u,(u.size : Int),0,false,false⟩ := by
  unfold getF
  rw [hB,hd]
  rfl
 unfold getM
 rw [framedV_size,if_neg (by omega),e3,hk,if_neg (by decide),e1,if_neg (by decide),hF,hB]
 rfl
theorem exts_stop (take : Int → Mv → Rp → Bool × Mv × Rp) (lastf : Int → Bool → Bool) (k : Nat) (seen : List Int) (m : Mv) (R : Rp) (h : R.c ≠ 0) : exts take lastf k seen m R = ([],m,R) := by
 cases k with
 | zero => rfl
 | succ k =>
  unfold exts
  rw [if_neg]
  unfold Rp.more
  simp [h]
end Go.Proofs.Ytlkebjkpmiehcaa.Ms
end
section
namespace Go.Proofs.Ytlkebjkpmiehcaa.Ms
open Go.RowKit Go.Proofs.YtlkebjkpmiehcaaW.PrintWords Go.Proofs.YtlkebjkpmiehcaaW.PrintLast Go.Proofs.YtlkebjkpmiehcaaW.PrintMore Go.Proofs.Ytlkebjkpmiehcaa.X
set_option linter.unusedVariables false
set_option linter.unusedSimpArgs false
structure Wp where
 s : ByteArray
 b : Bool
abbrev WS (lo : Nat) (w : World) (g : Nat) (W : Wp) : Prop := Wt lo w g W.s W.b
def Wp.need (W : Wp) (is : Bool) : Wp := ⟨W.s,W.b || !is⟩
def Wp.num (W : Wp) (x : Int) (n : Int) : Wp := ⟨W.s ++ (nm x n).1,W.b || !((nm x n).2 == 0)⟩
def Wp.vec (W : Wp) (v : ByteArray) (n lo hi : Int) : Wp := ⟨W.s ++ (pv v n).1,W.b || !(vecOk v (pv v n).2 lo hi)⟩
def Wp.add (W : Wp) (v : ByteArray) : Wp := ⟨W.s ++ v,W.b⟩
def Wp.within (W U : Wp) (n : Int) : Wp := ⟨W.s ++ (pv U.s n).1,(W.b || !(!U.b)) || !(vecOk U.s (pv U.s n).2 0 16777216)⟩
def W0 : Wp := ⟨ByteArray.empty,false⟩
theorem need_w (lo g : Nat) (W : Wp) (is : Bool) (w : World) (h : WS lo w g W) :
  Calls Try.prog 61 #[.pointer (some ⟨g,0,none⟩),.bool is] w fun e w' => e = .returned (.tuple #[]) ∧ WS lo w' g (W.need is) ∧ Fr lo g w w' :=
 (need_calls lo g W.s W.b is w h).mono fun e w' ⟨h1,h2,h3,h4⟩ => ⟨h1,h2,Fr.of_keep h3 h4⟩
theorem num_w (lo g : Nat) (W : Wp) (x size : Int) (w : World) (h : WS lo w g W) (h1 : 1 ≤ size) (h4 : size ≤ 4) (hn : W.s.size + 4 ≤ 140737488355328) :
  Calls Try.prog 60 #[.pointer (some ⟨g,0,none⟩),.int .i64 x,.int .i64 size] w fun ex w' => ex = .returned (.tuple #[]) ∧ WS lo w' g (W.num x size) ∧ Fr lo g w w' :=
 num_calls' lo g W.s W.b x size w h h1 h4 hn
theorem vec_w (lo g : Nat) (W : Wp) (v : ByteArray) (size least most : Int) (w : World) (h : WS lo w g W) (h1 : 1 ≤ size) (h3 : size ≤ 3) (hn : W.s.size + 3 + v.size ≤ 140737488355328) :
  Calls Try.prog 57 #[.pointer (some ⟨g,0,none⟩),.string v,.int .i64 size,.int .i64 least,.int .i64 most] w fun ex w' => ex = .returned (.tuple #[]) ∧ WS lo w' g (W.vec v size least most) ∧ Fr lo g w w' :=
 vec_calls' lo g W.s v W.b size least most w h h1 h3 hn
theorem within_w (lo g k : Nat) (cap : Array Value) (W U : Wp) (size : Int) (w : World) (h : WS lo w g W)
  (eg : ∀ args w,(callFunc k args).run Try.prog w = .ok (.enter k args) w) (hw : Writes k cap w U.s U.b) (h1 : 1 ≤ size) (h3 : size ≤ 3) (hn : W.s.size + 3 + U.s.size ≤ 140737488355328) :
  Calls Try.prog 58 #[.pointer (some ⟨g,0,none⟩),.int .i64 size,.func (.func k) #[] cap] w fun ex w' => ex = .returned (.tuple #[]) ∧ WS lo w' g (W.within U size) ∧ Fr lo g w w' :=
 within_calls' lo g k cap W.s U.s W.b U.b size w h eg hw h1 h3 hn
theorem Wp.num_size (W : Wp) (x n : Int) (h1 : 1 ≤ n) (h4 : n ≤ 4) : (W.num x n).s.size ≤ W.s.size + 4 := by
 have := nm_size x n h1 h4
 show (W.s ++ (nm x n).1).size ≤ _
 rw [ByteArray.size_append]
 omega
theorem Wp.vec_size (W : Wp) (v : ByteArray) (n lo hi : Int) (h1 : 1 ≤ n) (h3 : n ≤ 3) (hv : v.size ≤ 140737488355328) : (W.vec v n lo hi).s.size ≤ W.s.size + 3 + v.size := by
 have := pv_size v n h1 h3 hv
 show (W.s ++ (pv v n).1).size ≤ _
 rw [ByteArray.size_append]
 omega
theorem Wp.add_size (W : Wp) (v : ByteArray) : (W.add v).s.size = W.s.size + v.size := ByteArray.size_append
section
variable {ops : Array Oper} {oi : Oper} {a : Act} {Q : Exit → Act → World → Prop} {K : Act → World → Prop} {w : World} {N : Option Tmp}
theorem run_step {v : Value} {w' : World} (hw : Region.wanted oi (yielded ops a.tmps) = true) (hN : oi.dst = N) (hrun : (execOp a.eval oi).run Try.prog w = .ok (.value v) w') (h : K (a.put N v) w') :
  if Region.wanted oi (yielded ops a.tmps) = true then Oper.wp Try.prog oi a w K Q else K (a.put N undef) w := by
 rw [if_pos hw]
 unfold Oper.wp
 rw [hrun]
 subst hN
 exact h
theorem app_step (hw : Region.wanted oi (yielded ops a.tmps) = true) (hN : oi.dst = N) (sl x : Operand)
  (ho : oi.op = .call { callee := .builtin .append,args := #[sl,x],argTypes := #[39,9] }) (lo g : Nat) (s t : ByteArray) (b : Bool) (v : Value)
  (hs : a.eval sl = v) (hx : a.eval x = .string t) (h1 : w.heap[g]? = some (.cells #[v,.bool b] 83 (0,0))) (h2 : lo ≤ g) (h3 : w.ownsRow lo 5 1 v s.size (Lib.strCells s)) (hn : s.size + t.size ≤ 140737488355328)
  (H : ∀ v' w',Mid lo g w' (s ++ t) b v' → Fr lo g w w' → w'.heap[g]? = some (.cells #[v,.bool b] 83 (0,0)) → K (a.put N v') w') : if Region.wanted oi (yielded ops a.tmps) = true then Oper.wp Try.prog oi a w K Q else K (a.put N undef) w := by
 rw [if_pos hw]
 have hinfo := info5
 obtain ⟨i0,hi,hzz⟩ := Option.map_eq_some_iff.1 hinfo
 simp only [Prod.mk.injEq] at hzz
 obtain ⟨hz0,hz1,hz2⟩ := hzz
 obtain ⟨v1,w1,hr,hown,hg,_⟩ := Lib.run_append_own_string (P := Try.prog) w lo 39 9 oi.type 5 i0 Try.underlying39 (by kernel_rfl) hi hz0 hz1 hz2 v s.size (Lib.strCells s) h3 t (by simp only [maxLen]; omega) hn (by have := blk_lt h1; omega)
 have hz : s.size + t.size = (s ++ t).size := by rw [ByteArray.size_append]
 unfold Oper.wp execOp
 simp only [ho,resolve,invoke,builtin,Sem.run_bind,Sem.run_pure,Result.andThen_ok,List.map_toArray,List.map_cons,List.map_nil,hs,hx,hr]
 subst hN
 show K (a.put oi.dst v1) w1
 refine H v1 w1 ⟨⟨v,blk_grown h1 hg (Wt.row h1 h3)⟩,h2,by rw [strCells_append,← hz]; exact hown⟩ ⟨(Below.refl lo w).grown hg (by have := blk_lt h1; omega) (fun k hk => (h3.lt k hk).1),fun k cs ty hk hgk hty => blk_grown hk hg ?_⟩ (blk_grown h1 hg (Wt.row h1 h3))
 exact row_ne hty hk h3
end
theorem sz39w : (Try.prog.info? 39).map (·.size) = some 1 := by kernel_rfl
theorem own_keep {lo g : Nat} {w w1 : World} {s : ByteArray} {b : Bool} {v : Value} (m : Mid lo g w s b v) (k : KeepBut w w1 g none) (bl : Below lo w w1) : w1.ownsRow lo 5 1 v s.size (Lib.strCells s) := by
 obtain ⟨v0,h0⟩ := m.row
 have hne := row_ne (by decide) h0 m.own
 exact m.own.kept (row := some g) ⟨bl.os,bl.tape,bl.output,k.1,fun i hi hg => k.2 i hi (by simpa using hg) (by simp)⟩ (by
  cases hv : v.ownBlock with
  | none => exact .inl rfl
  | some q => exact .inr (fun e => hne (by first | exact e.symm | rw [hv]; exact e | rw [hv]; exact e.symm)))
theorem Wt.drew {lo g : Nat} {W : World} {s : ByteArray} {b : Bool} (h : Wt lo W g s b) : Wt lo W.drew g s b := h.below (below_drew (Below.refl _ _))
def Wp.hello (W : Wp) (r s : ByteArray) : Wp := (((W.num 771 2).need ((r.size : Int) == 32)).add r).vec s 1 0 32
set_option maxRecDepth 100000 in
set_option maxHeartbeats 8000000 in
theorem hello_w (lo g gm : Nat) (cs : Array Value) (W : Wp) (w : World) (h : WS lo w g W) (hb : w.heap[gm]? = some (.cells cs 49 (0,0))) (hne : gm ≠ g) (r s : ByteArray) (hr : cs[1]? = some (.string r)) (hs : cs[2]? = some (.string s)) (hn : W.s.size + 16 + r.size + s.size ≤ 140737488355328) :
  Calls Try.prog 78 #[.pointer (some ⟨g,0,none⟩),.pointer (some ⟨gm,0,none⟩)] w fun ex w' => ex = .returned (.tuple #[]) ∧ WS lo w' g (W.hello r s) ∧ Fr lo g w w' := by
 have HW := Aq.mk h
 have HB := Aq.mk hb
 have HNE := Aq.mk hne
 have HR := Aq.mk hr
 have HS := Aq.mk hs
 have z1 := W.num_size 771 2 (by omega) (by omega)
 have HN1 := Aq.mk (show W.s.size + 4 ≤ 140737488355328 from by omega)
 have HN2 := Aq.mk (show (W.num 771 2).s.size + r.size ≤ 140737488355328 from by omega)
 have HN3 := Aq.mk (show (((W.num 771 2).need ((r.size : Int) == 32)).add r).s.size + 3 + s.size ≤ 140737488355328 from by rw [Wp.add_size]; show (W.num 771 2).s.size + r.size + 3 + s.size ≤ _; omega)
 clear h hb hne hr hs hn z1
 go_enter Try.func78,Try.ntmps78
 go_wp2_with (first
  | (go_at_call 60; (with_reducible refine (num_w lo g W 771 2 _ HW.out (by omega) (by omega) HN1.out).mono ?_); rintro e1 w1 ⟨rfl,i1,f1⟩; have HB1 := Aq.mk (f1.blk HB.out HNE.out (by decide)); have HW1 := Aq.mk i1; have HF1 := Aq.mk f1; clear i1 f1)
  | ((with_reducible refine gate_dst (N := 10) rfl ?_); refine ld (v := .string r) rfl rfl rfl HB1.out Try.underlying9 rfl HR.out ?_)
  | (go_at_call 61; (with_reducible refine (need_w lo g (W.num 771 2) ((r.size : Int) == 32) _ HW1.out).mono ?_); rintro e2 w2 ⟨rfl,i2,f2⟩; have HB2 := Aq.mk (f2.blk HB1.out HNE.out (by decide)); have HW2 := Aq.mk i2; have HF2 := Aq.mk (HF1.out.trans f2); clear i2 f2))
 obtain ⟨v,h1,h2,h3⟩ := HW2.out.drew
 obtain ⟨A,c,rfl⟩ := own_slice h3
 have HO := Aq.mk h3
 have HL := Aq.mk h2
 have HF3 := Aq.mk (HF2.out.trans (Fr.of_below (g := g) HW2.out.size (below_drew (Below.refl _ _))))
 have hBd := (below_drew (Below.refl w2.heap.size w2)).block gm (blk_lt HB2.out) |>.trans HB2.out
 have HSd := Aq.mk (And.intro h1 hBd)
 clear h3 h2
 refine start_ (n := 13) (S := fun w' => w'.heap[g]? = some (.cells #[.slice A ((W.num 771 2).need ((r.size : Int) == 32)).s.size c,.bool ((W.num 771 2).need ((r.size : Int) == 32)).b] 83 (0,0)) ∧ w'.heap[gm]? = some (.cells cs 49 (0,0))) (ds := [12]) #[false,false,false,false,false,false,false,false,false,false,false,false,false] (by kernel_rfl) rfl rfl ⟨h1,hBd⟩ (fun hHeld => ?_)
 clear h1 hBd
 generalize w2.drew = w3 at HO HF3 HSd hHeld ⊢
 refine pure_ (i := 0) (N := (some 14)) (v := ?_) (a' := ?_) #[true,false,false,false,false,false,false,false,false,false,false,false,false] rfl rfl (by kernel_rfl) (fun _ _ _ h => h) (Or.inl ⟨by rfl,?_⟩) ?_ ?_
 rotate_left
 ·intro w'
  go_simp
  with_reducible rfl
 rotate_left
 ·simp only [Act.put,LS_]
  rfl
 refine pure_ (i := 1) (N := (some 15)) (v := ?_) (a' := ?_) #[true,true,false,false,false,false,false,false,false,false,false,false,false] rfl rfl (by kernel_rfl) (fun _ _ _ h => h) (Or.inl ⟨by rfl,?_⟩) ?_ ?_
 rotate_left
 ·intro w'
  go_simp
  with_reducible rfl
 rotate_left
 ·simp only [Act.put,LS_]
  rfl
 refine pure_ (i := 2) (N := (some 16)) (v := ?_) (a' := ?_) #[true,true,true,false,false,false,false,false,false,false,false,false,false] rfl rfl (by kernel_rfl) (fun _ _ _ h => h) (Or.inl ⟨by rfl,?_⟩) ?_ ?_
 rotate_left
 ·intro w'
  go_simp
  with_reducible rfl
 rotate_left
 ·simp only [Act.put,LS_]
  rfl
 refine pure_ (i := 3) (N := (some 17)) (v := ?_) (a' := ?_) #[true,true,true,true,false,false,false,false,false,false,false,false,false] rfl rfl (by kernel_rfl) (fun _ _ _ h => h) (Or.inl ⟨by rfl,?_⟩) ?_ ?_
 rotate_left
 ·intro w'
  go_simp
  with_reducible rfl
 rotate_left
 ·simp only [Act.put,LS_]
  rfl
 refine take_ (i := 4) (N := (some 18)) (v := ?_) (a' := ?_) #[true,true,true,true,true,false,false,false,false,false,false,false,false] rfl rfl (by kernel_rfl) (fun _ _ _ h => h) (Or.inl ⟨by rfl,?_⟩) hHeld ?_ ?_
 rotate_left
 ·rintro w' hS
  have hc := cell0 hS.1
  go_simp
  with_reducible rfl
 rotate_left
 ·simp only [Act.put,LS_]
  rfl
 refine pure_ (i := 5) (N := (some 19)) (v := ?_) (a' := ?_) #[true,true,true,true,true,true,false,false,false,false,false,false,false] rfl rfl (by kernel_rfl) (fun _ _ _ h => h) (Or.inl ⟨by rfl,?_⟩) ?_ ?_
 rotate_left
 ·intro w'
  go_simp
  with_reducible rfl
 rotate_left
 ·simp only [Act.put,LS_]
  rfl
 refine pure_ (i := 6) (N := (some 20)) (v := ?_) (a' := ?_) #[true,true,true,true,true,true,true,false,false,false,false,false,false] rfl rfl (by kernel_rfl) (fun _ _ _ h => h) (Or.inl ⟨by rfl,?_⟩) ?_ ?_
 rotate_left
 ·intro w'
  go_simp
  with_reducible rfl
 rotate_left
 ·simp only [Act.put,LS_]
  rfl
 refine pure_ (i := 7) (N := (some 21)) (v := ?_) (a' := ?_) #[true,true,true,true,true,true,true,true,false,false,false,false,false] rfl rfl (by kernel_rfl) (fun _ _ _ h => h) (Or.inl ⟨by rfl,?_⟩) ?_ ?_
 rotate_left
 ·intro w'
  go_simp
  with_reducible rfl
 rotate_left
 ·simp only [Act.put,LS_]
  rfl
 refine take_ (i := 8) (N := (some 22)) (v := ?_) (a' := ?_) #[true,true,true,true,true,true,true,true,true,false,false,false,false] rfl rfl (by kernel_rfl) (fun _ _ _ h => h) (Or.inl ⟨by rfl,?_⟩) hHeld ?_ ?_
 rotate_left
 ·rintro w' hS
  have hc := (blk_cell hS.2 1).trans HR.out
  go_simp
  with_reducible rfl
 rotate_left
 ·simp only [Act.put,LS_]
  rfl
 refine one_ (i := 9) (N := (some 23)) #[true,true,true,true,true,true,true,true,true,true,false,false,false] rfl rfl (by kernel_rfl) (by decide) (fun K hK => ?_)
 refine app_step (by rfl) rfl (.tmp 18) (.tmp 22) rfl lo g ((W.num 771 2).need ((r.size : Int) == 32)).s r _ _ rfl rfl HSd.out.1 HL.out HO.out HN2.out ?_
 intro v4 w4 m4 f4 g4
 obtain ⟨A4,c4,rfl⟩ := own_slice m4.own
 have HM4 := Aq.mk m4
 have HF4 := Aq.mk (HF3.out.trans f4)
 have HB4 := Aq.mk (f4.blk HSd.out.2 HNE.out (by decide))
 have HH4 := Aq.mk (And.intro g4 HB4.out)
 clear m4 f4 g4
 refine hK.out _ _ (HH4.out) (fun hHeld => ?_)
 clear hK K
 refine norm_ (a' := ?_) ?_ ?_
 rotate_left
 ·show Act.put _ (some 23) _ = _
  simp only [Act.put,LS_]
  rfl
 refine pure_ (i := 10) (N := (some 24)) (v := ?_) (a' := ?_) #[true,true,true,true,true,true,true,true,true,true,true,false,false] rfl rfl (by kernel_rfl) (fun _ _ _ h => h) (Or.inl ⟨by rfl,?_⟩) ?_ ?_
 rotate_left
 ·intro w'
  go_simp
  with_reducible rfl
 rotate_left
 ·simp only [Act.put,LS_]
  rfl
 refine pure_ (i := 11) (N := (some 25)) (v := ?_) (a' := ?_) #[true,true,true,true,true,true,true,true,true,true,true,true,false] rfl rfl (by kernel_rfl) (fun _ _ _ h => h) (Or.inl ⟨by rfl,?_⟩) ?_ ?_
 rotate_left
 ·intro w'
  go_simp
  with_reducible rfl
 rotate_left
 ·simp only [Act.put,LS_]
  rfl
 refine last_ (i := 12) (N := none) #[true,true,true,true,true,true,true,true,true,true,true,true,true] rfl rfl (by kernel_rfl) (by decide) (fun K hK => ?_)
 refine stM (g := g) (i := 0) (by rfl) rfl rfl rfl HH4.out.1 sz39w rfl rfl rfl (by simp) ?_
 intro w5 h5 b5 k5
 have HB5 := Aq.mk ((k5.2 gm (blk_lt HB4.out) HNE.out (by simp)).trans HB4.out)
 have HW5 := Aq.mk (show WS lo w5 g (((W.num 771 2).need ((r.size : Int) == 32)).add r) from ⟨_,h5,HL.out,own_keep HM4.out k5 (b5 _ HL.out)⟩)
 have HF5 := Aq.mk (HF4.out.trans (Fr.of_keep (b5 _ HL.out) k5))
 clear h5 b5 k5
 refine hK.out _ _ ?_
 clear hK K
 refine done_ (by kernel_rfl) ?_
 go_wp2_with (first
  | ((with_reducible refine gate_dst (N := 30) rfl ?_); refine ld (v := .string s) rfl rfl rfl HB5.out Try.underlying9 rfl HS.out ?_)
  | (go_at_call 57; (with_reducible refine (vec_w lo g (((W.num 771 2).need ((r.size : Int) == 32)).add r) s 1 0 32 _ HW5.out (by omega) (by omega) HN3.out).mono ?_); rintro e6 w6 ⟨rfl,i6,f6⟩; have HW6 := Aq.mk i6; have HF6 := Aq.mk (HF5.out.trans f6); clear i6 f6))
 first | go_end0 | ((try simp only [Exit.inBlock,Exit.then]); refine bodyPost_ret (results_none rfl _ _ _) rfl ?_)
 exact ⟨rfl,HW6.out,HF6.out⟩
end Go.Proofs.Ytlkebjkpmiehcaa.Ms
end
section
namespace Go.Proofs.Ytlkebjkpmiehcaa.Ms
open Go.RowKit Go.Proofs.YtlkebjkpmiehcaaW.PrintWords Go.Proofs.YtlkebjkpmiehcaaW.PrintLast Go.Proofs.YtlkebjkpmiehcaaW.PrintMore Go.Proofs.Ytlkebjkpmiehcaa.X
set_option linter.unusedVariables false
set_option linter.unusedSimpArgs false
def XS (x g : Nat) (w : World) (l : List E.S41) : Prop :=
 ∃ v,w.heap[x]? = some (.cells #[.pointer (some ⟨g,0,none⟩),v] 115 (0,0)) ∧ Kd.R E.k41 41 w x (fun _ => True) v l
structure Fx (lo g x : Nat) (w w' : World) : Prop where
 below : Below lo w w'
 keep : ∀ k cs t,w.heap[k]? = some (.cells cs t (0,0)) → k ≠ g → k < x → t ≠ 5 → w'.heap[k]? = some (.cells cs t (0,0))
theorem Fx.refl (lo g x : Nat) (w : World) : Fx lo g x w w := ⟨Below.refl _ _,fun _ _ _ h _ _ _ => h⟩
theorem Fx.trans {lo g x : Nat} {a b c : World} (h : Fx lo g x a b) (k : Fx lo g x b c) : Fx lo g x a c := ⟨h.below.trans k.below,fun i cs t hi hg hx ht => k.keep i cs t (h.keep i cs t hi hg hx ht) hg hx ht⟩
theorem Fx.of_fr {lo g x : Nat} {w w' : World} (h : Fr lo g w w') : Fx lo g x w w' := ⟨h.below,fun i cs t hi hg _ ht => h.keep i cs t hi hg ht⟩
theorem k41_E : (E.k41).E = [] := rfl
theorem k41_ty {t : TypeId} (ht : t ≠ 41) : ∀ q,q ∈ 41 :: (E.k41).E → q ≠ t := by
 intro q hq
 rw [k41_E] at hq
 simp only [List.mem_cons,List.not_mem_nil,or_false] at hq
 rw [hq]
 exact fun e => ht e.symm
theorem XS.below {x g : Nat} {w w' : World} {l : List E.S41} (h : XS x g w l) (b : Below w.heap.size w w') : XS x g w' l := by
 obtain ⟨v,h1,h3⟩ := h
 exact ⟨v,(b.block x (blk_lt h1)).trans h1,Kd.R_below h3 b⟩
theorem ty_ne {w : World} {x g : Nat} {cs ds : Array Value} {s t : TypeId} (h : w.heap[x]? = some (.cells cs s (0,0))) (k : w.heap[g]? = some (.cells ds t (0,0))) (hne : s ≠ t) : x ≠ g := by
 intro e
 subst e
 rw [h] at k
 injection k with k
 injection k with _ k
 exact hne k
theorem XS.keep {x g : Nat} {w w' : World} {l : List E.S41} (h : XS x g w l) {cs : Array Value} {k : Nat} {t : TypeId} (hk : w.heap[k]? = some (.cells cs t (0,0))) (ht : t ≠ 41) (ht2 : t ≠ 115) (kb : KeepBut w w' k none) : XS x g w' l := by
 obtain ⟨v,h1,h3⟩ := h
 refine ⟨v,(kb.2 x (blk_lt h1) (ty_ne h1 hk (fun e => ht2 e.symm)) (by simp)).trans h1,?_⟩
 exact Kd.R_mono (Kd.R_keep (Kd.R_types h3 hk (k41_ty ht)) kb (fun _ hk => hk.2)) (fun _ _ => trivial)
theorem XS.fr {lo x g : Nat} {w w' : World} {l : List E.S41} {W : Wp} (h : XS x g w l) (hw : WS lo w g W) (f : Fr lo g w w') : XS x g w' l := by
 obtain ⟨v,h1,h3⟩ := h
 obtain ⟨u,k1,_,_⟩ := hw
 refine ⟨v,f.blk h1 (ty_ne h1 k1 (by decide)) (by decide),?_⟩
 refine Kd.R_mono (Kd.R_step (Kd.R_bound h3) (fun k hk _ => ?_)) (fun _ _ => trivial)
 obtain ⟨_,_,_,q,hq,cells,hc⟩ := hk
 have hq1 : q = 41 := by
  rw [k41_E] at hq
  simpa using hq
 subst hq1
 rw [f.blk hc (ty_ne hc k1 (by decide)) (by decide),hc]
theorem own5_ne {w : World} {lo lo2 n : Nat} {u v : Value} {xs : List Value} {l : List E.S41} (h3 : w.ownsRow lo2 5 1 u n xs) (r : Kd.R E.k41 41 w lo (fun _ => True) v l) : u.ownBlock = none ∨ v.ownBlock ≠ u.ownBlock := by
 rcases h3.2 with ⟨rfl,_⟩ | ⟨k,cap,cur,rfl,_,hh,_⟩
 ·exact .inl rfl
 ·exact .inr (fun e => Kd.R_ne r hh (by decide) (by rw [e]; rfl))
theorem Wt.grown41 {lo lo2 g : Nat} {w w1 : World} {s : ByteArray} {b : Bool} {v : Value} {l : List E.S41} (h : Wt lo2 w g s b) (r : Kd.R E.k41 41 w lo (fun _ => True) v l) (hg : w.grownBy w1 v.ownBlock) : Wt lo2 w1 g s b := by
 obtain ⟨u,h1,h2,h3⟩ := h
 exact ⟨u,blk_grown h1 hg (Kd.R_ne r h1 (by decide)),h2,h3.kept hg (by first | exact own5_ne h3 r | (rcases own5_ne h3 r with e | e; exact .inl e; exact .inr (fun e2 => e e2.symm)))⟩
theorem Wt.keep1 {lo g k : Nat} {w w1 : World} {s : ByteArray} {b : Bool} {cs : Array Value} {t : TypeId} (h : Wt lo w g s b) (hk : w.heap[k]? = some (.cells cs t (0,0))) (ht : t ≠ 5) (ht2 : t ≠ 83) (bl : Below lo w w1) (kb : KeepBut w w1 k none) : Wt lo w1 g s b := by
 obtain ⟨u,h1,h2,h3⟩ := h
 refine ⟨u,(kb.2 g (blk_lt h1) (ty_ne h1 hk (fun e => ht2 e.symm)) (by simp)).trans h1,h2,?_⟩
 exact h3.kept (row := some k) ⟨bl.os,bl.tape,bl.output,kb.1,fun i hi hg => kb.2 i hi (by simpa using hg) (by simp)⟩ (by
  cases hv : u.ownBlock with
  | none => exact .inl rfl
  | some q => exact .inr (fun e => row_ne ht hk h3 (by first | exact e.symm | rw [hv]; exact e | rw [hv]; exact e.symm)))
theorem built41 (k : Int) (s : ByteArray) : Try.prog.built 41 [(0,.int .i64 k),(1,.string s)] = some #[.int .i64 k,.string s] := by kernel_rfl
theorem run41 {oi : Oper} {a : Act} {w : World} {x y : Operand} {k : Int} {s : ByteArray} (ho : oi.op = .build 41 #[(0,x),(1,y)]) (hx : a.eval x = .int .i64 k) (hy : a.eval y = .string s) : (execOp a.eval oi).run Try.prog w = .ok (.value (.agg #[.int .i64 k,.string s])) w := by
 have hr := run_build (P := Try.prog) w 41 #[(0,.int .i64 k),(1,.string s)] _ (built41 k s)
 have he : (#[(0,x),(1,y)] : Array (Nat × Operand)).map (fun x => (x.fst,a.eval x.snd)) = #[(0,.int .i64 k),(1,.string s)] := by simp [hx,hy]
 unfold execOp
 simp only [ho,Sem.run_bind]
 rw [he,hr]
 rfl
theorem runCv {oi : Oper} {a : Act} {w : World} {x : Operand} {v : Value} {s : ByteArray} (ho : oi.op = .convert 39 9 x) (hx : a.eval x = v) (hc : (convert 39 9 v).run Try.prog w = .ok (.string s) w) : (execOp a.eval oi).run Try.prog w = .ok (.value (.string s)) w := by
 unfold execOp
 simp only [ho,hx]
 rw [Sem.run_bind,hc]
 rfl
theorem sz22 : (Try.prog.info? 22).map (·.size) = some 1 := by kernel_rfl
def xPut (is : Bool) (W U : Wp) : Wp := if is then W.need (!U.b) else W
def xPutL (is : Bool) (kind : Int) (U : Wp) (l : List E.S41) : List E.S41 := if is then l ++ [⟨kind,U.s⟩] else l
set_option maxRecDepth 100000 in
set_option maxHeartbeats 8000000 in
theorem xput_w (lo x g k : Nat) (cap : Array Value) (W U : Wp) (l : List E.S41) (is : Bool) (kind : Int) (w : World) (h : WS lo w g W) (hlx : lo ≤ x) (hx : XS x g w l) (hu : is = true → Writes k cap w U.s U.b)
  (eg : ∀ args w,(callFunc k args).run Try.prog w = .ok (.enter k args) w) (hl : l.length ≤ 1000000000) :
  Calls Try.prog 80 #[.pointer (some ⟨x,0,none⟩),.bool is,.int .i64 kind,.func (.func k) #[] cap] w fun ex w' => ex = .returned (.tuple #[]) ∧ WS lo w' g (xPut is W U) ∧ XS x g w' (xPutL is kind U l) ∧ Fx lo g x w w' := by
 have HW := Aq.mk h
 have HX := Aq.mk hx
 have HXL := Aq.mk hlx
 have HLE := Aq.mk hl
 have hu41 := Try.underlying41
 cases is with
 | false =>
  clear h hx hu hl hlx
  go_enter Try.func80,Try.ntmps80
  go_wp2
  first | go_end0 | ((try simp only [Exit.inBlock,Exit.then]); refine bodyPost_ret (results_none rfl _ _ _) rfl ?_)
  exact ⟨rfl,HW.out,HX.out,Fx.refl _ _ _ _⟩
 | true =>
 have HC := Aq.mk (hu rfl)
 clear h hx hu hl hlx
 go_enter Try.func80,Try.ntmps80
 go_wp2_with (first
  | ((with_reducible refine gate_dst (N := 10) rfl ?_); refine build83 rfl rfl ?_)
  | ((with_reducible refine gate_dst (N := 11) rfl ?_); refine box83 rfl _ rfl rfl ?_; intro g1 eg1 w1 i1 b1; have HE1 := Aq.mk eg1; have HI1 := Aq.mk i1; have HB1 := Aq.mk b1; clear i1 b1 eg1)
  | ((refine (HC.out _ _ HB1.out HI1.out).mono ?_); rintro e2 w2 ⟨rfl,i2,f2⟩; have HB2 := Aq.mk (HB1.out.trans f2.below); have HI2 := Aq.mk i2; clear i2 f2))
 have HW2 := Aq.mk (HW.out.below HB2.out)
 have HX2 := Aq.mk (HX.out.below HB2.out)
 have HW3 := Aq.mk (HW2.out.drew)
 have HB3 := Aq.mk (below_step HB2.out (below_drew (Below.refl _ _)))
 have HX3 := Aq.mk (HX2.out.below (below_drew (Below.refl _ _)))
 have HI3 := Aq.mk (HI2.out.drew)
 obtain ⟨v,hx1,hx3⟩ := HX3.out
 obtain ⟨u,hi1,hi2,hi3⟩ := HI3.out
 have HSd := Aq.mk (And.intro hx1 hi1)
 clear hx3 hi2 hi3
 refine start_ (n := 10) (S := fun w' => w'.heap[x]? = some (.cells #[.pointer (some ⟨g,0,none⟩),v] 115 (0,0)) ∧ w'.heap[g1]? = some (.cells #[u,.bool U.b] 83 (0,0))) (ds := [9]) T43 (by kernel_rfl) rfl rfl ⟨hx1,hi1⟩ (fun hHeld => ?_)
 clear hx1 hi1
 generalize w2.drew = w3 at HW3 HB3 HX3 HI3 HSd hHeld ⊢
 refine pure_ (i := 0) (N := (some 15)) (v := ?_) (a' := ?_) T47 rfl rfl (by kernel_rfl) (fun _ _ _ h => h) (Or.inl ⟨by rfl,?_⟩) ?_ ?_
 rotate_left
 ·intro w'
  go_simp
  with_reducible rfl
 rotate_left
 ·simp only [Act.put,LS_]
  rfl
 refine pure_ (i := 1) (N := (some 16)) (v := ?_) (a' := ?_) T411 rfl rfl (by kernel_rfl) (fun _ _ _ h => h) (Or.inl ⟨by rfl,?_⟩) ?_ ?_
 rotate_left
 ·intro w'
  go_simp
  with_reducible rfl
 rotate_left
 ·simp only [Act.put,LS_]
  rfl
 refine pure_ (i := 2) (N := (some 17)) (v := ?_) (a' := ?_) T415 rfl rfl (by kernel_rfl) (fun _ _ _ h => h) (Or.inl ⟨by rfl,?_⟩) ?_ ?_
 rotate_left
 ·intro w'
  go_simp
  with_reducible rfl
 rotate_left
 ·simp only [Act.put,LS_]
  rfl
 refine take_ (i := 3) (N := (some 18)) (v := ?_) (a' := ?_) T429 rfl rfl (by kernel_rfl) (fun _ _ _ h => h) (Or.inl ⟨by rfl,?_⟩) hHeld ?_ ?_
 rotate_left
 ·rintro w' hS
  have hc := (blk_cell hS.1 0).trans rfl
  go_simp
  with_reducible rfl
 rotate_left
 ·simp only [Act.put,LS_]
  rfl
 refine pure_ (i := 4) (N := (some 19)) (v := ?_) (a' := ?_) T434 rfl rfl (by kernel_rfl) (fun _ _ _ h => h) (Or.inl ⟨by rfl,?_⟩) ?_ ?_
 rotate_left
 ·intro w'
  go_simp
  with_reducible rfl
 rotate_left
 ·simp only [Act.put,LS_]
  rfl
 refine pure_ (i := 5) (N := (some 20)) (v := ?_) (a' := ?_) T437 rfl rfl (by kernel_rfl) (fun _ _ _ h => h) (Or.inl ⟨by rfl,?_⟩) ?_ ?_
 rotate_left
 ·intro w'
  go_simp
  with_reducible rfl
 rotate_left
 ·simp only [Act.put,LS_]
  rfl
 refine pure_ (i := 6) (N := (some 21)) (v := ?_) (a' := ?_) T440 rfl rfl (by kernel_rfl) (fun _ _ _ h => h) (Or.inl ⟨by rfl,?_⟩) ?_ ?_
 rotate_left
 ·intro w'
  go_simp
  with_reducible rfl
 rotate_left
 ·simp only [Act.put,LS_]
  rfl
 refine take_ (i := 7) (N := (some 22)) (v := ?_) (a' := ?_) T443 rfl rfl (by kernel_rfl) (fun _ _ _ h => h) (Or.inl ⟨by rfl,?_⟩) hHeld ?_ ?_
 rotate_left
 ·rintro w' hS
  have hc := cell1 hS.2
  go_simp
  with_reducible rfl
 rotate_left
 ·simp only [Act.put,LS_]
  rfl
 refine pure_ (i := 8) (N := (some 23)) (v := ?_) (a' := ?_) T446 rfl rfl (by kernel_rfl) (fun _ _ _ h => h) (Or.inl ⟨by rfl,?_⟩) ?_ ?_
 rotate_left
 ·intro w'
  go_simp
  with_reducible rfl
 rotate_left
 ·simp only [Act.put,LS_]
  rfl
 refine last_ (i := 9) (N := (some 24)) T465 rfl rfl (by kernel_rfl) (by decide) (fun K hK => ?_)
 refine goes_ (f := 61) Try.func61 (by kernel_rfl) rfl #[.pointer (some ⟨g,0,none⟩),.bool (!U.b)] (by rfl) rfl rfl (by (try simp only [List.map_toArray,List.map_cons,List.map_nil]); first | done | rfl) ?_
 refine (need_calls lo g W.s W.b (!U.b) _ HW3.out).mono ?_
 rintro e w4 ⟨rfl,i4,b4,k4⟩
 refine ⟨_,rfl,?_⟩
 have HW4 := Aq.mk (show WS lo w4 g (W.need (!U.b)) from i4)
 have hgg : ∃ cs,w3.heap[g]? = some (.cells cs 83 (0,0)) := by obtain ⟨q,q1,_⟩ := HW3.out; exact ⟨_,q1⟩
 obtain ⟨csg,hgg⟩ := hgg
 have HX4 := Aq.mk (HX3.out.keep hgg (by decide) (by decide) k4)
 have HG1 := Aq.mk (show g1 ≠ g from by
  obtain ⟨q,q1,q2,q3⟩ := HI3.out
  have h1 := HW.out.lt
  omega)
 have HI4 := Aq.mk (show Wt w.heap.size w4 g1 U.s U.b from by
  obtain ⟨q,q1,q2,q3⟩ := HI3.out
  refine ⟨q,(k4.2 g1 (blk_lt q1) HG1.out (by simp)).trans q1,q2,?_⟩
  refine q3.kept (row := some g) ⟨b4.os,b4.tape,b4.output,k4.1,fun i hi hg => k4.2 i hi (by simpa using hg) (by simp)⟩ (by
   rcases q3.lt with hl
   cases hv : q.ownBlock with
   | none => exact .inl rfl
   | some z => exact .inr (by intro e; injection e with e; have := (hl z hv).1; have := HW.out.lt; omega)))
 have HF4 := Aq.mk (Fr.trans (Fr.of_below (g := g) HW.out.size HB3.out) (Fr.of_keep b4 k4))
 clear i4 b4 k4 hgg
 refine hK.out _ _ ?_
 clear hK K
 refine norm_ (a' := ?_) ?_ ?_
 rotate_left
 ·show Act.put _ (some 24) _ = _
  simp only [Act.put,LS_]
  rfl
 refine done_ (by kernel_rfl) ?_
 go_wp2
 have HW5 := Aq.mk (HW4.out.drew)
 have HX5 := Aq.mk (HX4.out.below (below_drew (Below.refl _ _)))
 have HI5 := Aq.mk (HI4.out.drew)
 have HF5 := Aq.mk (HF4.out.trans (Fr.of_below (g := g) HW4.out.size (below_drew (Below.refl _ _))))
 obtain ⟨v5,hx1,hx3⟩ := HX5.out
 obtain ⟨A5,c5,rfl⟩ := Kd.R_slice hx3
 obtain ⟨u5,hi1,hi2,hi3⟩ := HI5.out
 obtain ⟨B5,d5,rfl⟩ := own_slice hi3
 have HSd := Aq.mk (And.intro hx1 hi1)
 have HO5 := Aq.mk hi3
 have HR5 := Aq.mk hx3
 clear hx3 hi2 hi3
 refine start_ (n := 17) (S := fun w' => w'.heap[x]? = some (.cells #[.pointer (some ⟨g,0,none⟩),.slice A5 l.length c5] 115 (0,0)) ∧ w'.heap[g1]? = some (.cells #[.slice B5 U.s.size d5,.bool U.b] 83 (0,0))) (ds := [16]) #[false,false,false,false,false,false,false,false,false,false,false,false,false,false,false,false,false] (by kernel_rfl) rfl rfl ⟨hx1,hi1⟩ (fun hHeld => ?_)
 clear hx1 hi1
 generalize w4.drew = w5 at HW5 HX5 HI5 HF5 HO5 HR5 HSd hHeld ⊢
 refine pure_ (i := 0) (N := (some 25)) (v := ?_) (a' := ?_) #[true,false,false,false,false,false,false,false,false,false,false,false,false,false,false,false,false] rfl rfl (by kernel_rfl) (fun _ _ _ h => h) (Or.inl ⟨by rfl,?_⟩) ?_ ?_
 rotate_left
 ·intro w'
  go_simp
  with_reducible rfl
 rotate_left
 ·simp only [Act.put,LS_]
  rfl
 refine pure_ (i := 1) (N := (some 26)) (v := ?_) (a' := ?_) #[true,true,false,false,false,false,false,false,false,false,false,false,false,false,false,false,false] rfl rfl (by kernel_rfl) (fun _ _ _ h => h) (Or.inl ⟨by rfl,?_⟩) ?_ ?_
 rotate_left
 ·intro w'
  go_simp
  with_reducible rfl
 rotate_left
 ·simp only [Act.put,LS_]
  rfl
 refine pure_ (i := 2) (N := (some 27)) (v := ?_) (a' := ?_) #[true,true,true,false,false,false,false,false,false,false,false,false,false,false,false,false,false] rfl rfl (by kernel_rfl) (fun _ _ _ h => h) (Or.inl ⟨by rfl,?_⟩) ?_ ?_
 rotate_left
 ·intro w'
  go_simp
  with_reducible rfl
 rotate_left
 ·simp only [Act.put,LS_]
  rfl
 refine pure_ (i := 3) (N := (some 28)) (v := ?_) (a' := ?_) #[true,true,true,true,false,false,false,false,false,false,false,false,false,false,false,false,false] rfl rfl (by kernel_rfl) (fun _ _ _ h => h) (Or.inl ⟨by rfl,?_⟩) ?_ ?_
 rotate_left
 ·intro w'
  go_simp
  with_reducible rfl
 rotate_left
 ·simp only [Act.put,LS_]
  rfl
 refine take_ (i := 4) (N := (some 29)) (v := ?_) (a' := ?_) #[true,true,true,true,true,false,false,false,false,false,false,false,false,false,false,false,false] rfl rfl (by kernel_rfl) (fun _ _ _ h => h) (Or.inl ⟨by rfl,?_⟩) hHeld ?_ ?_
 rotate_left
 ·rintro w' hS
  have hc := (blk_cell hS.1 1).trans rfl
  go_simp
  with_reducible rfl
 rotate_left
 ·simp only [Act.put,LS_]
  rfl
 refine pure_ (i := 5) (N := (some 30)) (v := ?_) (a' := ?_) #[true,true,true,true,true,true,false,false,false,false,false,false,false,false,false,false,false] rfl rfl (by kernel_rfl) (fun _ _ _ h => h) (Or.inl ⟨by rfl,?_⟩) ?_ ?_
 rotate_left
 ·intro w'
  go_simp
  with_reducible rfl
 rotate_left
 ·simp only [Act.put,LS_]
  rfl
 refine pure_ (i := 6) (N := (some 31)) (v := ?_) (a' := ?_) #[true,true,true,true,true,true,true,false,false,false,false,false,false,false,false,false,false] rfl rfl (by kernel_rfl) (fun _ _ _ h => h) (Or.inl ⟨by rfl,?_⟩) ?_ ?_
 rotate_left
 ·intro w'
  go_simp
  with_reducible rfl
 rotate_left
 ·simp only [Act.put,LS_]
  rfl
 refine pure_ (i := 7) (N := (some 32)) (v := ?_) (a' := ?_) #[true,true,true,true,true,true,true,true,false,false,false,false,false,false,false,false,false] rfl rfl (by kernel_rfl) (fun _ _ _ h => h) (Or.inl ⟨by rfl,?_⟩) ?_ ?_
 rotate_left
 ·intro w'
  go_simp
  with_reducible rfl
 rotate_left
 ·simp only [Act.put,LS_]
  rfl
 refine pure_ (i := 8) (N := (some 33)) (v := ?_) (a' := ?_) #[true,true,true,true,true,true,true,true,true,false,false,false,false,false,false,false,false] rfl rfl (by kernel_rfl) (fun _ _ _ h => h) (Or.inl ⟨by rfl,?_⟩) ?_ ?_
 rotate_left
 ·intro w'
  go_simp
  with_reducible rfl
 rotate_left
 ·simp only [Act.put,LS_]
  rfl
 refine take_ (i := 9) (N := (some 34)) (v := ?_) (a' := ?_) #[true,true,true,true,true,true,true,true,true,true,false,false,false,false,false,false,false] rfl rfl (by kernel_rfl) (fun _ _ _ h => h) (Or.inl ⟨by rfl,?_⟩) hHeld ?_ ?_
 rotate_left
 ·rintro w' hS
  have hc := cell0 hS.2
  go_simp
  with_reducible rfl
 rotate_left
 ·simp only [Act.put,LS_]
  rfl
 refine one_ (i := 10) (N := (some 35)) #[true,true,true,true,true,true,true,true,true,true,true,false,false,false,false,false,false] rfl rfl (by kernel_rfl) (by decide) (fun K hK => ?_)
 refine run_step (by rfl) rfl (runCv rfl rfl (own_bytes HO5.out)) ?_
 refine hK.out _ _ (HSd.out) (fun hHeld => ?_)
 clear hK K
 refine norm_ (a' := ?_) ?_ ?_
 rotate_left
 ·show Act.put _ (some 35) _ = _
  simp only [Act.put,LS_]
  rfl
 refine one_ (i := 11) (N := (some 36)) #[true,true,true,true,true,true,true,true,true,true,true,true,false,false,false,false,false] rfl rfl (by kernel_rfl) (by decide) (fun K hK => ?_)
 refine run_step (by rfl) rfl (run41 rfl rfl rfl) ?_
 refine hK.out _ _ (HSd.out) (fun hHeld => ?_)
 clear hK K
 refine norm_ (a' := ?_) ?_ ?_
 rotate_left
 ·show Act.put _ (some 36) _ = _
  simp only [Act.put,LS_]
  rfl
 refine one_ (i := 12) (N := (some 37)) #[true,true,true,true,true,true,true,true,true,true,true,true,true,false,false,false,false] rfl rfl (by kernel_rfl) (by decide) (fun K hK => ?_)
 refine run_step (v := .slice (some ⟨w5.heap.size,0,none⟩) 1 1) (w' := w5.alloc (.cells #[.int .i64 kind,.string U.s] 41)) (by rfl) rfl (by first | (go_simp; done) | (go_simp; rfl)) ?_
 have HA := Aq.mk (below_alloc (Below.refl w5.heap.size w5) (.cells #[.int .i64 kind,.string U.s] 41))
 have HSa := Aq.mk (And.intro ((HA.out.block x (blk_lt HSd.out.1)).trans HSd.out.1) ((HA.out.block g1 (blk_lt HSd.out.2)).trans HSd.out.2))
 refine hK.out _ _ (HSa.out) (fun hHeld => ?_)
 clear hK K
 refine norm_ (a' := ?_) ?_ ?_
 rotate_left
 ·show Act.put _ (some 37) _ = _
  simp only [Act.put,LS_]
  rfl
 refine one_ (i := 13) (N := (some 38)) #[true,true,true,true,true,true,true,true,true,true,true,true,true,true,false,false,false] rfl rfl (by kernel_rfl) (by decide) (fun K hK => ?_)
 refine Kd.R_append_step E.k41 (w0 := w5) x (by rfl) (.tmp 29) (.tmp 37) 22 41 (.agg #[(.int .i64 0),(.string ⟨#[]⟩)]) 24 rfl Try.underlying22 E.info41 rfl (by decide) (by omega) (.slice A5 l.length c5) l ⟨kind,U.s⟩ [.int .i64 kind,.string U.s] (fun _ => True) (fun _ => False) rfl rfl (E.k41_mkM _ _ _ ⟨kind,U.s⟩) (fun _ hk => hk.elim) (fun _ _ => trivial) HR5.out (Below.refl _ _) (Nat.le_of_lt (blk_lt HSd.out.1)) (by have := HLE.out; omega) ?_
 intro v6 w6 r6 b6 g6 a6
 have HR6 := Aq.mk r6
 have HS6 := Aq.mk (And.intro (blk_grown HSd.out.1 g6 (Kd.R_ne HR5.out HSd.out.1 (by decide))) (blk_grown HSd.out.2 g6 (Kd.R_ne HR5.out HSd.out.2 (by decide))))
 have HW6 := Aq.mk (HW5.out.grown41 HR5.out g6)
 have HF6 := Aq.mk (show Fx lo g x w w6 from (Fx.of_fr HF5.out).trans ⟨b6.mono HXL.out,fun i cs t hi hg hx ht => (b6.block i hx).trans hi⟩)
 clear r6 b6 g6 a6
 refine hK.out _ _ (HS6.out) (fun hHeld => ?_)
 clear hK K
 refine norm_ (a' := ?_) ?_ ?_
 rotate_left
 ·show Act.put _ (some 38) _ = _
  simp only [Act.put,LS_]
  rfl
 refine pure_ (i := 14) (N := (some 39)) (v := ?_) (a' := ?_) #[true,true,true,true,true,true,true,true,true,true,true,true,true,true,true,false,false] rfl rfl (by kernel_rfl) (fun _ _ _ h => h) (Or.inl ⟨by rfl,?_⟩) ?_ ?_
 rotate_left
 ·intro w'
  go_simp
  with_reducible rfl
 rotate_left
 ·simp only [Act.put,LS_]
  rfl
 refine pure_ (i := 15) (N := (some 40)) (v := ?_) (a' := ?_) #[true,true,true,true,true,true,true,true,true,true,true,true,true,true,true,true,false] rfl rfl (by kernel_rfl) (fun _ _ _ h => h) (Or.inl ⟨by rfl,?_⟩) ?_ ?_
 rotate_left
 ·intro w'
  go_simp
  with_reducible rfl
 rotate_left
 ·simp only [Act.put,LS_]
  rfl
 refine last_ (i := 16) (N := none) #[true,true,true,true,true,true,true,true,true,true,true,true,true,true,true,true,true] rfl rfl (by kernel_rfl) (by decide) (fun K hK => ?_)
 refine stM (g := x) (i := 1) (v := v6) (by rfl) rfl rfl rfl HS6.out.1 sz22 rfl (by obtain ⟨A_,c_,rfl⟩ := Kd.R_slice HR6.out; rfl) (by obtain ⟨A_,c_,rfl⟩ := Kd.R_slice HR6.out; rfl) (by simp) ?_
 intro w7 h7 b7 k7
 have HW7 := Aq.mk (HW6.out.keep1 HS6.out.1 (by decide) (by decide) (b7 _ HXL.out) k7)
 have HX7 := Aq.mk (show XS x g w7 (l ++ [⟨kind,U.s⟩]) from ⟨v6,h7,Kd.R_mono (Kd.R_keep (Kd.R_types HR6.out HS6.out.1 (k41_ty (by decide))) k7 (fun _ hk => hk.2)) (fun _ _ => trivial)⟩)
 have HF7 := Aq.mk (HF6.out.trans ⟨b7 _ HXL.out,fun i cs t hi hg hx ht => (k7.2 i (blk_lt hi) (Nat.ne_of_lt hx) (by simp)).trans hi⟩)
 clear h7 b7 k7
 refine hK.out _ _ ?_
 clear hK K
 refine done_ (by kernel_rfl) ?_
 first | go_end0 | ((try simp only [Exit.inBlock,Exit.then]); refine bodyPost_ret (results_none rfl _ _ _) rfl ?_)
 exact ⟨rfl,HW7.out,HX7.out,HF7.out⟩
def Wp.ends (W : Wp) (l : List E.S41) : Wp := (W.need ((Go.Proofs.Ytlkebjkpmiehcaa.Pure.putL [] l).2 == 0)).vec (Go.Proofs.Ytlkebjkpmiehcaa.Pure.putL [] l).1 2 0 65536
set_option maxRecDepth 100000 in
set_option maxHeartbeats 8000000 in
theorem xend_w (lo x g : Nat) (W : Wp) (l : List E.S41) (w : World) (h : WS lo w g W) (hx : XS x g w l) (hl : l.length ≤ 16777216) (hb : ∀ y ∈ l,y.f1.size ≤ 140737488351232) (hn : W.s.size + 3 + (Go.Proofs.Ytlkebjkpmiehcaa.Pure.putL [] l).1.size ≤ 140737488355328) :
  Calls Try.prog 87 #[.pointer (some ⟨x,0,none⟩)] w fun ex w' => ex = .returned (.tuple #[]) ∧ WS lo w' g (W.ends l) ∧ Fr lo g w w' := by
 obtain ⟨kp,hk⟩ := ev_at (Go.Proofs.Ytlkebjkpmiehcaa.Pure.put_any l hl hb)
 obtain ⟨v,h1,h3⟩ := hx
 obtain ⟨A,c,rfl,hlc,hC⟩ := Kd.R_reads h3
 have HW := Aq.mk h
 have HC := Aq.mk hC
 have HL := Aq.mk hlc
 have HB := Aq.mk h1
 have HK := Aq.mk hk
 have HN := Aq.mk (show (W.need ((Go.Proofs.Ytlkebjkpmiehcaa.Pure.putL [] l).2 == 0)).s.size + 3 + (Go.Proofs.Ytlkebjkpmiehcaa.Pure.putL [] l).1.size ≤ 140737488355328 from hn)
 have HNE := Aq.mk (show x ≠ g from by obtain ⟨q,q1,_⟩ := h; exact ty_ne h1 q1 (by decide))
 clear h h1 h3 hC hlc hk hn hl hb
 go_enter Try.func87,Try.ntmps87
 go_wp2_with (first
  | ((with_reducible refine gate_dst (N := 8) rfl ?_); refine ld (v := .slice A l.length c) rfl rfl rfl HB.out Try.underlying22 rfl rfl ?_)
  | (go_at_call 15; (with_reducible refine (E.ext_Put.calls kp A c l _ _ _ HC.out HL.out HK.out).mono ?_); rintro e1 w1 ⟨rfl,b1⟩; have HW1 := Aq.mk (HW.out.below b1); have HF1 := Aq.mk (Fr.of_below (g := g) HW.out.size b1); have HB1 := Aq.mk ((b1.block x (blk_lt HB.out)).trans HB.out); clear b1)
  | ((with_reducible refine gate_dst (N := 15) rfl ?_); refine ld (v := .pointer (some ⟨g,0,none⟩)) rfl rfl rfl HB1.out Try.underlying81 rfl rfl ?_)
  | (go_at_call 61; (with_reducible refine (need_w lo g W ((Go.Proofs.Ytlkebjkpmiehcaa.Pure.putL [] l).2 == 0) _ HW1.out).mono ?_); rintro e2 w2 ⟨rfl,i2,f2⟩; have HW2 := Aq.mk i2; have HB2 := Aq.mk (f2.blk HB1.out HNE.out (by decide)); have HF2 := Aq.mk (HF1.out.trans f2); clear i2 f2)
  | ((with_reducible refine gate_dst (N := 22) rfl ?_); refine ld (v := .pointer (some ⟨g,0,none⟩)) rfl rfl rfl HB2.out Try.underlying81 rfl rfl ?_)
  | (go_at_call 57; (with_reducible refine (vec_w lo g (W.need ((Go.Proofs.Ytlkebjkpmiehcaa.Pure.putL [] l).2 == 0)) (Go.Proofs.Ytlkebjkpmiehcaa.Pure.putL [] l).1 2 0 65536 _ HW2.out (by omega) (by omega) HN.out).mono ?_); rintro e3 w3 ⟨rfl,i3,f3⟩; have HW3 := Aq.mk i3; have HF3 := Aq.mk (HF2.out.trans f3); clear i3 f3))
 first | go_end0 | ((try simp only [Exit.inBlock,Exit.then]); refine bodyPost_ret (results_none rfl _ _ _) rfl ?_)
 exact ⟨rfl,HW3.out,HF3.out⟩
theorem pv_small (v : ByteArray) (n : Int) (h1 : 1 ≤ n) (h3 : n ≤ 3) (hv : v.size ≤ 140737488351232) : (pv v n).1.size ≤ 16777218 := by
 obtain ⟨k,rfl⟩ := Int.eq_ofNat_of_zero_le (show 0 ≤ n by omega)
 have e : wire_PutVec.f = E.wire_PutVec.f := by kernel_rfl
 unfold pv
 rw [e,Go.Proofs.Ytlkebjkpmiehcaa.Pure.putVec_ok v k (by omega) (by omega) hv]
 unfold Go.Proofs.Ytlkebjkpmiehcaa.Pure.putVecOf
 have hk : k = 1 ∨ k = 2 ∨ k = 3 := by omega
 split
 ·next h =>
  show (strOfNums (Go.Proofs.Ytlkebjkpmiehcaa.Pure.beL k v.size) ++ v).size ≤ _
  rw [ByteArray.size_append,Go.Proofs.Ytlkebjkpmiehcaa.Pure.strOf_size,Go.Proofs.Ytlkebjkpmiehcaa.Pure.beL_length]
  rcases hk with rfl | rfl | rfl <;> simp at h <;> omega
 ·show (0 : Nat) ≤ _
  omega
theorem Wp.vec_small (W : Wp) (v : ByteArray) (n lo hi : Int) (h1 : 1 ≤ n) (h3 : n ≤ 3) (hv : v.size ≤ 140737488351232) : (W.vec v n lo hi).s.size ≤ W.s.size + 16777218 := by
 have := pv_small v n h1 h3 hv
 show (W.s ++ (pv v n).1).size ≤ _
 rw [ByteArray.size_append]
 omega
theorem Wp.within_small (W U : Wp) (n : Int) (h1 : 1 ≤ n) (h3 : n ≤ 3) (hv : U.s.size ≤ 140737488351232) : (W.within U n).s.size ≤ W.s.size + 16777218 := by
 have := pv_small U.s n h1 h3 hv
 show (W.s ++ (pv U.s n).1).size ≤ _
 rw [ByteArray.size_append]
 omega
def fw {α : Type} (f : Wp → α → Wp) (l : List α) : Wp := l.foldl f W0
theorem fw_step {α : Type} (f : Wp → α → Wp) (d : α) (l : List α) (i : Nat) (h : i < l.length) : fw f (l.take (i + 1)) = f (fw f (l.take i)) (l.getD i d) := by
 unfold fw
 rw [List.take_add_one,List.foldl_append,List.getD_eq_getElem?_getD,List.getElem?_eq_getElem h]
 simp
theorem fw_size {α : Type} (f : Wp → α → Wp) (l : List α) (hf : ∀ W a,a ∈ l → (f W a).s.size ≤ W.s.size + 4194304) : (fw f l).s.size ≤ l.length * 4194304 := by
 have key : ∀ (r : List α) (W : Wp),(∀ a,a ∈ r → a ∈ l) → (r.foldl f W).s.size ≤ W.s.size + r.length * 4194304 := by
  intro r
  induction r with
  | nil => intro W _; simp
  | cons a r ih =>
   intro W hr
   have h1 := hf W a (hr a List.mem_cons_self)
   have h2 := ih (f W a) (fun b hb => hr b (List.mem_cons_of_mem _ hb))
   rw [List.foldl_cons,List.length_cons]
   omega
 have := key l W0 (fun a h => h)
 have h0 : W0.s.size = 0 := rfl
 unfold fw
 omega
theorem fw_take {α : Type} (f : Wp → α → Wp) (l : List α) (hl : l.length ≤ 16777216) (hf : ∀ W a,a ∈ l → (f W a).s.size ≤ W.s.size + 4194304) (i : Nat) : (fw f (l.take i)).s.size ≤ 70368744177664 := by
 have h1 := fw_size f (l.take i) (fun W a h => hf W a (List.mem_of_mem_take h))
 have h2 : (l.take i).length ≤ l.length := by rw [List.length_take]; omega
 omega
theorem fw_all {α : Type} (f : Wp → α → Wp) (l : List α) (hl : l.length ≤ 16777216) (hf : ∀ W a,a ∈ l → (f W a).s.size ≤ W.s.size + 4194304) : (fw f l).s.size ≤ 70368744177664 := by
 have := fw_take f l hl hf l.length
 rwa [List.take_length] at this
def wN (n : Int) (W : Wp) (x : Int) : Wp := W.num x n
def wS (W : Wp) (s : S66) : Wp := (W.num s.f0 2).vec s.f1 2 1 65536
def wI (W : Wp) (s : S111) : Wp := (W.vec s.f0 2 1 65536).num s.f1 4
def wB (W : Wp) (s : ByteArray) : Wp := W.vec s 1 32 255
theorem wN_size (n : Int) (h1 : 1 ≤ n) (h4 : n ≤ 4) (W : Wp) (x : Int) : (wN n W x).s.size ≤ W.s.size + 4194304 := by
 have := W.num_size x n h1 h4
 unfold wN
 omega
theorem wS_size (W : Wp) (s : S66) (hs : s.f1.size ≤ 2097152) : (wS W s).s.size ≤ W.s.size + 4194304 := by
 have h1 := W.num_size s.f0 2 (by omega) (by omega)
 have h2 := (W.num s.f0 2).vec_size s.f1 2 1 65536 (by omega) (by omega) (by omega)
 unfold wS
 omega
theorem wI_size (W : Wp) (s : S111) (hs : s.f0.size ≤ 2097152) : (wI W s).s.size ≤ W.s.size + 4194304 := by
 have h1 := (W.vec s.f0 2 1 65536).num_size s.f1 4 (by omega) (by omega)
 have h2 := W.vec_size s.f0 2 1 65536 (by omega) (by omega) (by omega)
 unfold wI
 omega
theorem wB_size (W : Wp) (s : ByteArray) (hs : s.size ≤ 2097152) : (wB W s).s.size ≤ W.s.size + 4194304 := by
 have h2 := W.vec_size s 1 32 255 (by omega) (by omega) (by omega)
 unfold wB
 omega
theorem boxT {ops : Array Oper} {rest : List Oper} {o : Oper} {a : Act} {Q : Exit → Act → World → Prop} {w : World} {t : TypeId} {x : Operand} (hgd : o.guard = none) (ho : o.op = .box t x) {v : Value} {cs : Array Value} (hx : a.eval x = v) (hv : v.cells = cs)
  (H : ∀ g,g = w.heap.size → ∀ w1,w1.heap[g]? = some (.cells cs t (0,0)) → Below w.heap.size w w1 → wpList Try.prog ops Q rest (a.put o.dst (.pointer (some ⟨g,0,none⟩))) w1) : wpList Try.prog ops Q (o :: rest) a w := by
 subst hv
 refine Kd.event_run hgd ?_ (H _ rfl _ (blk_new w _) (below_alloc (Below.refl _ _) _))
 unfold execOp
 simp only [ho,hx]
 rfl
theorem zero66w : (Try.prog.info? 66).map (·.zero) = some (some (.agg #[.int .i64 0,.string ⟨#[]⟩])) := by kernel_rfl
theorem zero111w : (Try.prog.info? 111).map (·.zero) = some (some (.agg #[.string ⟨#[]⟩,.int .i64 0])) := by kernel_rfl
set_option maxRecDepth 100000 in
set_option maxHeartbeats 8000000 in
theorem share_w (lo g : Nat) (W : Wp) (s : S66) (w : World) (h : WS lo w g W) (hn : W.s.size + 8 + s.f1.size ≤ 140737488355328) :
  Calls Try.prog 85 #[.pointer (some ⟨g,0,none⟩),.agg #[.int .i64 s.f0,.string s.f1]] w fun ex w' => ex = .returned (.tuple #[]) ∧ WS lo w' g (wS W s) ∧ Fr lo g w w' := by
 have HW := Aq.mk h
 have z1 := W.num_size s.f0 2 (by omega) (by omega)
 have HN1 := Aq.mk (show W.s.size + 4 ≤ 140737488355328 from by omega)
 have HN2 := Aq.mk (show (W.num s.f0 2).s.size + 3 + s.f1.size ≤ 140737488355328 from by omega)
 clear h hn z1
 go_enter Try.func85,Try.ntmps85
 go_wp2_with (first
  | ((with_reducible refine gate_dst (N := 3) rfl ?_); refine boxT rfl rfl rfl rfl ?_; intro gb eb w1 h1 b1; have HB := Aq.mk h1; have HNE := Aq.mk (show gb ≠ g from by have := HW.out.lt; omega); have HW1 := Aq.mk (HW.out.below b1); have HF1 := Aq.mk (Fr.of_below (g := g) HW.out.size b1); clear h1 b1 eb)
  | ((with_reducible refine gate_dst (N := 6) rfl ?_); refine ld (v := .int .i64 s.f0) rfl rfl rfl HB.out Try.underlying3 rfl rfl ?_)
  | (go_at_call 60; (with_reducible refine (num_w lo g W s.f0 2 _ HW1.out (by omega) (by omega) HN1.out).mono ?_); rintro e2 w2 ⟨rfl,i2,f2⟩; have HW2 := Aq.mk i2; have HB2 := Aq.mk (f2.blk HB.out HNE.out (by decide)); have HF2 := Aq.mk (HF1.out.trans f2); clear i2 f2)
  | ((with_reducible refine gate_dst (N := 10) rfl ?_); refine ld (v := .string s.f1) rfl rfl rfl HB2.out Try.underlying9 rfl rfl ?_)
  | (go_at_call 57; (with_reducible refine (vec_w lo g (W.num s.f0 2) s.f1 2 1 65536 _ HW2.out (by omega) (by omega) HN2.out).mono ?_); rintro e3 w3 ⟨rfl,i3,f3⟩; have HW3 := Aq.mk (show WS lo w3 g (wS W s) from i3); have HF3 := Aq.mk (HF2.out.trans f3); clear i3 f3))
 first | go_end0 | ((try simp only [Exit.inBlock,Exit.then]); refine bodyPost_ret (results_none rfl _ _ _) rfl ?_)
 exact ⟨rfl,HW3.out,HF3.out⟩
set_option maxRecDepth 100000 in
set_option maxHeartbeats 8000000 in
theorem nums2_w (bx bw : Nat) (n : Int) (hn1 : 1 ≤ n) (hn4 : n ≤ 4) (A : Option Addr) (c : Nat) (l : List Int) (w : World) (hx : w.heap[bx]? = some (.cells #[.slice A l.length c] 44 (0,0))) (hw : w.heap[bw]? = some (.cells #[.int .i64 n] 3 (0,0))) (hr : Kd.C (Kd.int .i64) w A l.length l) (hlc : l.length ≤ c) (hl : l.length ≤ 16777216) :
  Writes 107 #[.pointer (some ⟨bx,0,none⟩),.pointer (some ⟨bw,0,none⟩)] w (fw (wN n) l).s (fw (wN n) l).b := by
 intro w0 g hb0 h
 have HW := Aq.mk h
 have HSZ := Aq.mk (show ∀ W a,a ∈ l → ((wN n) W a).s.size ≤ W.s.size + 4194304 from (fun W a _ => wN_size n hn1 hn4 W a))
 have HLM := Aq.mk hl
 have HR := Aq.mk hr
 have HB0 := Aq.mk hb0
 have HGE := Aq.mk h.lt
 have HX := Aq.mk ((hb0.block bx (blk_lt hx)).trans hx)
 have HX1 := Aq.mk (show bx ≠ g from by have := blk_lt hx; have := h.lt; omega)
 have HY := Aq.mk ((hb0.block bw (blk_lt hw)).trans hw)
 have HY1 := Aq.mk (show bw ≠ g from by have := blk_lt hw; have := h.lt; omega)
 clear hx hw
 clear h hr hl hb0
 show Calls Try.prog 107 _ w0 _
 go_enter Try.func107,Try.ntmps107
 go_wp2_with (first
  | ((with_reducible refine gate_dst (N := 6) rfl ?_); refine ld (v := .slice A l.length c) rfl rfl rfl HX.out Try.underlying44 rfl rfl ?_))
 go_loopw [8] (fun v wr => ∃ i : Nat,i ≤ l.length ∧ v = .int .i64 i ∧ Aq (WS w.heap.size wr g (fw (wN n) (l.take i))) ∧ Aq (Fr w.heap.size g w0 wr)) (fun v _ => l.length - (intOf v).toNat)
 case atStart => exact ⟨0,by omega,rfl,HW,⟨Fr.refl _ _ _⟩⟩
 case round =>
 obtain ⟨i,hi,rfl,HWi,HFi⟩ := hrel
 by_cases hlt : i < l.length
 ·have t1 : decide ((i : Int) < (l.length : Int)) = true := decide_eq_true (by omega)
  have p : (0 : Int) ≤ (i : Int) := by omega
  have q : (i : Int) < (l.length : Int) := by omega
  have HCi := Aq.mk (Kd.C_below HR.out (HB0.out.trans HFi.out.below))
  obtain ⟨ad,e0,hx⟩ := Kd.at_int HCi.out (i : Int) p q
  cases e0
  have hsi := fw_take (wN n) l HLM.out HSZ.out i
  obtain ⟨s,hs⟩ : ∃ s,s = rd l (i : Int) := ⟨_,rfl⟩
  have hmem : s ∈ l := by
   rw [hs]
   unfold rd
   rw [Int.toNat_natCast,List.getD_eq_getElem?_getD,List.getElem?_eq_getElem hlt]
   exact List.getElem_mem hlt
  rw [← hs,Int.toNat_natCast] at hx
  have HSE := Aq.mk (show s = l.getD i (0 : Int) from by rw [hs]; unfold rd; rw [Int.toNat_natCast])
  have HNS := Aq.mk (show (fw (wN n) (l.take i)).s.size + 4 ≤ 140737488355328 from by omega)
  have HYi := Aq.mk (HFi.out.blk HY.out HY1.out (by decide))
  have HN1 := Aq.mk hn1
  have HN4 := Aq.mk hn4
  have p' := eq_true p
  have q' := eq_true q
  have z1 : IntKind.i64.wrap ((i : Int) + 1) = (i : Int) + 1 := IntWalk.i64_in _ (by have := HLM.out; omega)
  clear hs hsi p q hmem
  go_wp2_with (first
   | ((with_reducible refine gate_dst (N := 14) rfl ?_); refine ld (v := .int .i64 n) rfl rfl rfl HYi.out Try.underlying3 rfl rfl ?_)
   | (go_at_call 60; (with_reducible refine (num_w w.heap.size g _ s n _ HWi.out HN1.out HN4.out HNS.out).mono ?_); rintro e1 w1 ⟨rfl,i1,f1⟩; have HWz := Aq.mk i1; have HFz := Aq.mk (HFi.out.trans f1); clear i1 f1 hx))
  go_roundw
  case rel => first | exact ⟨i + 1,by omega,by go_num,⟨by rw [fw_step (wN n) (0 : Int) l i hlt,← HSE.out]; exact HWz.out⟩,HFz⟩ | ((repeat apply Exists.intro); exact ⟨⟨i + 1,by omega,by go_num,⟨by rw [fw_step (wN n) (0 : Int) l i hlt,← HSE.out]; exact HWz.out⟩,HFz⟩,rfl⟩)
  case measure => simp [intOf]; omega
 ·have t1 : decide ((i : Int) < (l.length : Int)) = false := decide_eq_false (by omega)
  have hie : l.take i = l := List.take_of_length_le (by omega)
  rw [hie] at HWi
  clear hie
  go_wp2
  first | go_end0 | ((try simp only [Exit.inBlock,Exit.then]); refine bodyPost_ret (results_none rfl _ _ _) rfl ?_)
  exact ⟨rfl,HWi.out,HFi.out⟩
set_option maxRecDepth 100000 in
set_option maxHeartbeats 8000000 in
theorem binders_w (gb gm : Nat) (cs : Array Value) (A : Option Addr) (c : Nat) (l : List ByteArray) (w : World) (hcb : w.heap[gb]? = some (.cells #[.pointer (some ⟨gm,0,none⟩)] 85 (0,0))) (hcm : w.heap[gm]? = some (.cells cs 49 (0,0))) (hcv : cs[11]? = some (.slice A l.length c)) (hr : Kd.C Kd.string w A l.length l) (hlc : l.length ≤ c) (hl : l.length ≤ 16777216) (hs_ : ∀ a,a ∈ l → a.size ≤ 2097152) :
  Writes 110 #[.pointer (some ⟨gb,0,none⟩)] w (fw wB l).s (fw wB l).b := by
 intro w0 g hb0 h
 have HW := Aq.mk h
 have HSZ := Aq.mk (show ∀ W a,a ∈ l → (wB W a).s.size ≤ W.s.size + 4194304 from (fun W a ha => wB_size W a (hs_ a ha)))
 have HLM := Aq.mk hl
 have HR := Aq.mk hr
 have HB0 := Aq.mk hb0
 have HGE := Aq.mk h.lt
 have HX := Aq.mk ((hb0.block gb (blk_lt hcb)).trans hcb)
 have HX1 := Aq.mk (show gb ≠ g from by have := blk_lt hcb; have := h.lt; omega)
 have HY := Aq.mk ((hb0.block gm (blk_lt hcm)).trans hcm)
 have HY1 := Aq.mk (show gm ≠ g from by have := blk_lt hcm; have := h.lt; omega)
 have HV := Aq.mk hcv
 clear hcb hcm hcv
 clear h hr hl hb0
 show Calls Try.prog 110 _ w0 _
 go_enter Try.func110,Try.ntmps110
 go_wp2_with (first
  | ((with_reducible refine gate_dst (N := 5) rfl ?_); refine ld (v := .pointer (some ⟨gm,0,none⟩)) rfl rfl rfl HX.out Try.underlying85 rfl rfl ?_)
  | ((with_reducible refine gate_dst (N := 8) rfl ?_); refine ld (v := .slice A l.length c) rfl rfl rfl HY.out Try.underlying47 rfl HV.out ?_))
 go_loopw [10] (fun v wr => ∃ i : Nat,i ≤ l.length ∧ v = .int .i64 i ∧ Aq (WS w.heap.size wr g (fw wB (l.take i))) ∧ Aq (Fr w.heap.size g w0 wr)) (fun v _ => l.length - (intOf v).toNat)
 case atStart => exact ⟨0,by omega,rfl,HW,⟨Fr.refl _ _ _⟩⟩
 case round =>
 obtain ⟨i,hi,rfl,HWi,HFi⟩ := hrel
 by_cases hlt : i < l.length
 ·have t1 : decide ((i : Int) < (l.length : Int)) = true := decide_eq_true (by omega)
  have p : (0 : Int) ≤ (i : Int) := by omega
  have q : (i : Int) < (l.length : Int) := by omega
  have HCi := Aq.mk (Kd.C_below HR.out (HB0.out.trans HFi.out.below))
  obtain ⟨ad,e0,hx⟩ := Kd.at_string HCi.out (i : Int) p q
  cases e0
  have hsi := fw_take wB l HLM.out HSZ.out i
  obtain ⟨s,hs⟩ : ∃ s,s = rdOf ByteArray.empty l (i : Int) := ⟨_,rfl⟩
  have hmem : s ∈ l := by
   rw [hs]
   unfold rdOf
   rw [Int.toNat_natCast,List.getD_eq_getElem?_getD,List.getElem?_eq_getElem hlt]
   exact List.getElem_mem hlt
  have hmz := hs_ s hmem
  rw [← hs,Int.toNat_natCast] at hx
  have HSE := Aq.mk (show s = l.getD i ByteArray.empty from by rw [hs]; unfold rdOf; rw [Int.toNat_natCast])
  have HNS := Aq.mk (show (fw wB (l.take i)).s.size + 3 + s.size ≤ 140737488355328 from by omega)
  clear hmz
  have p' := eq_true p
  have q' := eq_true q
  have z1 : IntKind.i64.wrap ((i : Int) + 1) = (i : Int) + 1 := IntWalk.i64_in _ (by have := HLM.out; omega)
  clear hs hsi p q hmem
  go_wp2_with (first
   | (go_at_call 57; (with_reducible refine (vec_w w.heap.size g _ s 1 32 255 _ HWi.out (by omega) (by omega) HNS.out).mono ?_); rintro e1 w1 ⟨rfl,i1,f1⟩; have HWz := Aq.mk i1; have HFz := Aq.mk (HFi.out.trans f1); clear i1 f1 hx))
  go_roundw
  case rel => first | exact ⟨i + 1,by omega,by go_num,⟨by rw [fw_step wB ByteArray.empty l i hlt,← HSE.out]; exact HWz.out⟩,HFz⟩ | ((repeat apply Exists.intro); exact ⟨⟨i + 1,by omega,by go_num,⟨by rw [fw_step wB ByteArray.empty l i hlt,← HSE.out]; exact HWz.out⟩,HFz⟩,rfl⟩)
  case measure => simp [intOf]; omega
 ·have t1 : decide ((i : Int) < (l.length : Int)) = false := decide_eq_false (by omega)
  have hie : l.take i = l := List.take_of_length_le (by omega)
  rw [hie] at HWi
  clear hie
  go_wp2
  first | go_end0 | ((try simp only [Exit.inBlock,Exit.then]); refine bodyPost_ret (results_none rfl _ _ _) rfl ?_)
  exact ⟨rfl,HWi.out,HFi.out⟩
set_option maxRecDepth 100000 in
set_option maxHeartbeats 8000000 in
theorem shares_w (gb gm : Nat) (cs : Array Value) (A : Option Addr) (c : Nat) (l : List S66) (w : World) (hcb : w.heap[gb]? = some (.cells #[.pointer (some ⟨gm,0,none⟩)] 85 (0,0))) (hcm : w.heap[gm]? = some (.cells cs 49 (0,0))) (hcv : cs[9]? = some (.slice A l.length c)) (hr : Kd.C k66 w A l.length l) (hlc : l.length ≤ c) (hl : l.length ≤ 16777216) (hs_ : ∀ a,a ∈ l → a.f1.size ≤ 2097152) :
  Writes 84 #[.pointer (some ⟨gb,0,none⟩)] w (fw wS l).s (fw wS l).b := by
 intro w0 g hb0 h
 have HW := Aq.mk h
 have HSZ := Aq.mk (show ∀ W a,a ∈ l → (wS W a).s.size ≤ W.s.size + 4194304 from (fun W a ha => wS_size W a (hs_ a ha)))
 have HLM := Aq.mk hl
 have HR := Aq.mk hr
 have HB0 := Aq.mk hb0
 have HGE := Aq.mk h.lt
 have HX := Aq.mk ((hb0.block gb (blk_lt hcb)).trans hcb)
 have HX1 := Aq.mk (show gb ≠ g from by have := blk_lt hcb; have := h.lt; omega)
 have HY := Aq.mk ((hb0.block gm (blk_lt hcm)).trans hcm)
 have HY1 := Aq.mk (show gm ≠ g from by have := blk_lt hcm; have := h.lt; omega)
 have HV := Aq.mk hcv
 clear hcb hcm hcv
 have hu66 := Try.underlying66
 have hu111 := Try.underlying111
 clear h hr hl hb0
 show Calls Try.prog 84 _ w0 _
 go_enter Try.func84,Try.ntmps84
 go_wp2_with (first
  | ((with_reducible refine gate_dst (N := 5) rfl ?_); refine ld (v := .pointer (some ⟨gm,0,none⟩)) rfl rfl rfl HX.out Try.underlying85 rfl rfl ?_)
  | ((with_reducible refine gate_dst (N := 8) rfl ?_); refine ld (v := .slice A l.length c) rfl rfl rfl HY.out Try.underlying45 rfl HV.out ?_))
 go_loopw [10] (fun v wr => ∃ i : Nat,i ≤ l.length ∧ v = .int .i64 i ∧ Aq (WS w.heap.size wr g (fw wS (l.take i))) ∧ Aq (Fr w.heap.size g w0 wr)) (fun v _ => l.length - (intOf v).toNat)
 case atStart => exact ⟨0,by omega,rfl,HW,⟨Fr.refl _ _ _⟩⟩
 case round =>
 obtain ⟨i,hi,rfl,HWi,HFi⟩ := hrel
 by_cases hlt : i < l.length
 ·have t1 : decide ((i : Int) < (l.length : Int)) = true := decide_eq_true (by omega)
  have p : (0 : Int) ≤ (i : Int) := by omega
  have q : (i : Int) < (l.length : Int) := by omega
  have HCi := Aq.mk (Kd.C_below HR.out (HB0.out.trans HFi.out.below))
  obtain ⟨ad,e0,hx,hx2⟩ := at_T66 HCi.out (i : Int) p q
  cases e0
  have hsi := fw_take wS l HLM.out HSZ.out i
  obtain ⟨s,hs⟩ : ∃ s,s = rd_T66 l (i : Int) := ⟨_,rfl⟩
  have hmem : s ∈ l := by
   rw [hs]
   unfold rd_T66
   rw [Int.toNat_natCast,List.getD_eq_getElem?_getD,List.getElem?_eq_getElem hlt]
   exact List.getElem_mem hlt
  have hmz := hs_ s hmem
  rw [← hs,Int.toNat_natCast] at hx hx2
  have HSE := Aq.mk (show s = l.getD i z66 from by rw [hs]; unfold rd_T66; rw [Int.toNat_natCast])
  have HNS := Aq.mk (show (fw wS (l.take i)).s.size + 8 + s.f1.size ≤ 140737488355328 from by omega)
  clear hmz
  have p' := eq_true p
  have q' := eq_true q
  have z1 : IntKind.i64.wrap ((i : Int) + 1) = (i : Int) + 1 := IntWalk.i64_in _ (by have := HLM.out; omega)
  clear hs hsi p q hmem
  go_wp2_with (first
   | ((with_reducible refine gate_dst (N := 4) rfl ?_); refine allocT zero66w rfl rfl ?_; intro g2 eg w1 h1 b1; have HG1 := Aq.mk h1; have HGN := Aq.mk (show g2 ≠ g from by have := HWi.out.lt; omega); have HGL := Aq.mk (show w.heap.size ≤ g2 from by have := HWi.out.size; omega); have HW1 := Aq.mk (HWi.out.below b1); have HB1 := Aq.mk b1; have HEG := Aq.mk eg; clear h1 b1 eg hx hx2)
   | ((with_reducible refine gate_store (p := 4) rfl ?_); refine stRow2 (cs := #[.int .i64 s.f0,.string s.f1]) wsz66 rfl rfl rfl rfl HG1.out rfl rfl rfl ?_; intro w2 h2 b2 k2; have HG2 := Aq.mk h2; have HW2 := Aq.mk (HW1.out.keep1 HG1.out (by decide) (by decide) (b2 _ HGL.out) k2); have HF2 := Aq.mk (HFi.out.trans ⟨(HB1.out.mono HWi.out.size).trans (b2 _ HGL.out),fun k cs t hk hkg ht => (k2.2 k (Nat.lt_of_lt_of_le (blk_lt hk) HB1.out.size) (by have := blk_lt hk; have := HEG.out; omega) (by simp)).trans ((HB1.out.block k (blk_lt hk)).trans hk)⟩); clear h2 b2 k2)
   | ((with_reducible refine gate_dst (N := 15) rfl ?_); refine wpList_load_row rfl 66 _ rfl g2 rfl 66 _ (0,0) _ HG2.out Try.underlying66 rfl wsz66 ?_)
   | (go_at_call 85; (with_reducible refine (share_w w.heap.size g _ s _ HW2.out HNS.out).mono ?_); rintro e3 w3 ⟨rfl,i3,f3⟩; have HWz := Aq.mk i3; have HFz := Aq.mk (HF2.out.trans f3); clear i3 f3))
  go_roundw
  case rel => first | exact ⟨i + 1,by omega,by go_num,⟨by rw [fw_step wS z66 l i hlt,← HSE.out]; exact HWz.out⟩,HFz⟩ | ((repeat apply Exists.intro); exact ⟨⟨i + 1,by omega,by go_num,⟨by rw [fw_step wS z66 l i hlt,← HSE.out]; exact HWz.out⟩,HFz⟩,rfl⟩)
  case measure => simp [intOf]; omega
 ·have t1 : decide ((i : Int) < (l.length : Int)) = false := decide_eq_false (by omega)
  have hie : l.take i = l := List.take_of_length_le (by omega)
  rw [hie] at HWi
  clear hie
  go_wp2
  first | go_end0 | ((try simp only [Exit.inBlock,Exit.then]); refine bodyPost_ret (results_none rfl _ _ _) rfl ?_)
  exact ⟨rfl,HWi.out,HFi.out⟩
set_option maxRecDepth 100000 in
set_option maxHeartbeats 8000000 in
theorem idents_w (gb gm : Nat) (cs : Array Value) (A : Option Addr) (c : Nat) (l : List S111) (w : World) (hcb : w.heap[gb]? = some (.cells #[.pointer (some ⟨gm,0,none⟩)] 85 (0,0))) (hcm : w.heap[gm]? = some (.cells cs 49 (0,0))) (hcv : cs[10]? = some (.slice A l.length c)) (hr : Kd.C k111 w A l.length l) (hlc : l.length ≤ c) (hl : l.length ≤ 16777216) (hs_ : ∀ a,a ∈ l → a.f0.size ≤ 2097152) :
  Writes 109 #[.pointer (some ⟨gb,0,none⟩)] w (fw wI l).s (fw wI l).b := by
 intro w0 g hb0 h
 have HW := Aq.mk h
 have HSZ := Aq.mk (show ∀ W a,a ∈ l → (wI W a).s.size ≤ W.s.size + 4194304 from (fun W a ha => wI_size W a (hs_ a ha)))
 have HLM := Aq.mk hl
 have HR := Aq.mk hr
 have HB0 := Aq.mk hb0
 have HGE := Aq.mk h.lt
 have HX := Aq.mk ((hb0.block gb (blk_lt hcb)).trans hcb)
 have HX1 := Aq.mk (show gb ≠ g from by have := blk_lt hcb; have := h.lt; omega)
 have HY := Aq.mk ((hb0.block gm (blk_lt hcm)).trans hcm)
 have HY1 := Aq.mk (show gm ≠ g from by have := blk_lt hcm; have := h.lt; omega)
 have HV := Aq.mk hcv
 clear hcb hcm hcv
 have hu66 := Try.underlying66
 have hu111 := Try.underlying111
 clear h hr hl hb0
 show Calls Try.prog 109 _ w0 _
 go_enter Try.func109,Try.ntmps109
 go_wp2_with (first
  | ((with_reducible refine gate_dst (N := 5) rfl ?_); refine ld (v := .pointer (some ⟨gm,0,none⟩)) rfl rfl rfl HX.out Try.underlying85 rfl rfl ?_)
  | ((with_reducible refine gate_dst (N := 8) rfl ?_); refine ld (v := .slice A l.length c) rfl rfl rfl HY.out Try.underlying46 rfl HV.out ?_))
 go_loopw [10] (fun v wr => ∃ i : Nat,i ≤ l.length ∧ v = .int .i64 i ∧ Aq (WS w.heap.size wr g (fw wI (l.take i))) ∧ Aq (Fr w.heap.size g w0 wr)) (fun v _ => l.length - (intOf v).toNat)
 case atStart => exact ⟨0,by omega,rfl,HW,⟨Fr.refl _ _ _⟩⟩
 case round =>
 obtain ⟨i,hi,rfl,HWi,HFi⟩ := hrel
 by_cases hlt : i < l.length
 ·have t1 : decide ((i : Int) < (l.length : Int)) = true := decide_eq_true (by omega)
  have p : (0 : Int) ≤ (i : Int) := by omega
  have q : (i : Int) < (l.length : Int) := by omega
  have HCi := Aq.mk (Kd.C_below HR.out (HB0.out.trans HFi.out.below))
  obtain ⟨ad,e0,hx,hx2⟩ := at_T111 HCi.out (i : Int) p q
  cases e0
  have hsi := fw_take wI l HLM.out HSZ.out i
  obtain ⟨s,hs⟩ : ∃ s,s = rd_T111 l (i : Int) := ⟨_,rfl⟩
  have hmem : s ∈ l := by
   rw [hs]
   unfold rd_T111
   rw [Int.toNat_natCast,List.getD_eq_getElem?_getD,List.getElem?_eq_getElem hlt]
   exact List.getElem_mem hlt
  have hmz := hs_ s hmem
  rw [← hs,Int.toNat_natCast] at hx hx2
  have HSE := Aq.mk (show s = l.getD i z111 from by rw [hs]; unfold rd_T111; rw [Int.toNat_natCast])
  have HNS := Aq.mk (show (fw wI (l.take i)).s.size + 3 + s.f0.size ≤ 140737488355328 from by omega)
  have HNT := Aq.mk (show ((fw wI (l.take i)).vec s.f0 2 1 65536).s.size + 4 ≤ 140737488355328 from by
   have := (fw wI (l.take i)).vec_size s.f0 2 1 65536 (by omega) (by omega) (by omega)
   omega)
  clear hmz
  have p' := eq_true p
  have q' := eq_true q
  have z1 : IntKind.i64.wrap ((i : Int) + 1) = (i : Int) + 1 := IntWalk.i64_in _ (by have := HLM.out; omega)
  clear hs hsi p q hmem
  go_wp2_with (first
   | ((with_reducible refine gate_dst (N := 4) rfl ?_); refine allocT zero111w rfl rfl ?_; intro g2 eg w1 h1 b1; have HG1 := Aq.mk h1; have HGN := Aq.mk (show g2 ≠ g from by have := HWi.out.lt; omega); have HGL := Aq.mk (show w.heap.size ≤ g2 from by have := HWi.out.size; omega); have HW1 := Aq.mk (HWi.out.below b1); have HB1 := Aq.mk b1; have HEG := Aq.mk eg; clear h1 b1 eg hx hx2)
   | ((with_reducible refine gate_store (p := 4) rfl ?_); refine stRow2 (cs := #[.string s.f0,.int .i64 s.f1]) wsz111 rfl rfl rfl rfl HG1.out rfl rfl rfl ?_; intro w2 h2 b2 k2; have HG2 := Aq.mk h2; have HW2 := Aq.mk (HW1.out.keep1 HG1.out (by decide) (by decide) (b2 _ HGL.out) k2); have HF2 := Aq.mk (HFi.out.trans ⟨(HB1.out.mono HWi.out.size).trans (b2 _ HGL.out),fun k cs t hk hkg ht => (k2.2 k (Nat.lt_of_lt_of_le (blk_lt hk) HB1.out.size) (by have := blk_lt hk; have := HEG.out; omega) (by simp)).trans ((HB1.out.block k (blk_lt hk)).trans hk)⟩); clear h2 b2 k2)
   | ((with_reducible refine gate_dst (N := 16) rfl ?_); refine ld (v := .string s.f0) rfl rfl rfl HG2.out Try.underlying9 rfl rfl ?_)
   | (go_at_call 57; (with_reducible refine (vec_w w.heap.size g _ s.f0 2 1 65536 _ HW2.out (by omega) (by omega) HNS.out).mono ?_); rintro e3 w3 ⟨rfl,i3,f3⟩; have HW3 := Aq.mk i3; have HG3 := Aq.mk (f3.blk HG2.out HGN.out (by decide)); have HF3 := Aq.mk (HF2.out.trans f3); clear i3 f3)
   | ((with_reducible refine gate_dst (N := 20) rfl ?_); refine ld (v := .int .i64 s.f1) rfl rfl rfl HG3.out Try.underlying3 rfl rfl ?_)
   | (go_at_call 60; (with_reducible refine (num_w w.heap.size g _ s.f1 4 _ HW3.out (by omega) (by omega) HNT.out).mono ?_); rintro e4 w4 ⟨rfl,i4,f4⟩; have HWz := Aq.mk i4; have HFz := Aq.mk (HF3.out.trans f4); clear i4 f4))
  go_roundw
  case rel => first | exact ⟨i + 1,by omega,by go_num,⟨by rw [fw_step wI z111 l i hlt,← HSE.out]; exact HWz.out⟩,HFz⟩ | ((repeat apply Exists.intro); exact ⟨⟨i + 1,by omega,by go_num,⟨by rw [fw_step wI z111 l i hlt,← HSE.out]; exact HWz.out⟩,HFz⟩,rfl⟩)
  case measure => simp [intOf]; omega
 ·have t1 : decide ((i : Int) < (l.length : Int)) = false := decide_eq_false (by omega)
  have hie : l.take i = l := List.take_of_length_le (by omega)
  rw [hie] at HWi
  clear hie
  go_wp2
  first | go_end0 | ((try simp only [Exit.inBlock,Exit.then]); refine bodyPost_ret (results_none rfl _ _ _) rfl ?_)
  exact ⟨rfl,HWi.out,HFi.out⟩
theorem enters81 : ∀ args w,(callFunc 81 args).run Try.prog w = .ok (.enter 81 args) w := fun args w => enters_ Try.func81 (by kernel_rfl) rfl args w
theorem enters82 : ∀ args w,(callFunc 82 args).run Try.prog w = .ok (.enter 82 args) w := fun args w => enters_ Try.func82 (by kernel_rfl) rfl args w
theorem enters83 : ∀ args w,(callFunc 83 args).run Try.prog w = .ok (.enter 83 args) w := fun args w => enters_ Try.func83 (by kernel_rfl) rfl args w
theorem enters84 : ∀ args w,(callFunc 84 args).run Try.prog w = .ok (.enter 84 args) w := fun args w => enters_ Try.func84 (by kernel_rfl) rfl args w
theorem enters88 : ∀ args w,(callFunc 88 args).run Try.prog w = .ok (.enter 88 args) w := fun args w => enters_ Try.func88 (by kernel_rfl) rfl args w
theorem enters89 : ∀ args w,(callFunc 89 args).run Try.prog w = .ok (.enter 89 args) w := fun args w => enters_ Try.func89 (by kernel_rfl) rfl args w
theorem enters90 : ∀ args w,(callFunc 90 args).run Try.prog w = .ok (.enter 90 args) w := fun args w => enters_ Try.func90 (by kernel_rfl) rfl args w
theorem enters91 : ∀ args w,(callFunc 91 args).run Try.prog w = .ok (.enter 91 args) w := fun args w => enters_ Try.func91 (by kernel_rfl) rfl args w
theorem enters106 : ∀ args w,(callFunc 106 args).run Try.prog w = .ok (.enter 106 args) w := fun args w => enters_ Try.func106 (by kernel_rfl) rfl args w
theorem enters107 : ∀ args w,(callFunc 107 args).run Try.prog w = .ok (.enter 107 args) w := fun args w => enters_ Try.func107 (by kernel_rfl) rfl args w
theorem enters108 : ∀ args w,(callFunc 108 args).run Try.prog w = .ok (.enter 108 args) w := fun args w => enters_ Try.func108 (by kernel_rfl) rfl args w
theorem enters109 : ∀ args w,(callFunc 109 args).run Try.prog w = .ok (.enter 109 args) w := fun args w => enters_ Try.func109 (by kernel_rfl) rfl args w
theorem enters110 : ∀ args w,(callFunc 110 args).run Try.prog w = .ok (.enter 110 args) w := fun args w => enters_ Try.func110 (by kernel_rfl) rfl args w
theorem mkf : ∀ fn first cap w,(Instr.makeFunc fn first cap).run Try.prog w = .ok (.func fn first cap) w := fun _ _ _ _ => rfl
section
variable {ops : Array Oper} {rest : List Oper} {o : Oper} {a : Act} {Q : Exit → Act → World → Prop} {w : World}
theorem ldQ {ty : TypeId} {x : Operand} (hgd : o.guard = none) (ho : o.op = .load ty x) {p : Addr} (hx : a.eval x = .pointer (some p))
  {d : TypeDesc} (hu : Try.prog.underlying ty = some d) (hd : (match d with | .struct _ | .array _ _ => true | _ => false) = false) {v : Value} (hc : w.cell? p = some v) (H : wpList Try.prog ops Q rest (a.put o.dst v) w) : wpList Try.prog ops Q (o :: rest) a w := by
 refine Kd.event_run hgd ?_ H
 unfold execOp
 simp [ho,hx,Instr.loadAt,Instr.sureAddr,Sem.run_bind,loadVar,isAgg_no hu hd,load,Sem.run,hc]
end
theorem W0_size : W0.s.size = 0 := rfl
set_option maxRecDepth 100000 in
set_option maxHeartbeats 8000000 in
theorem nums1_w (bs bx bw : Nat) (z n : Int) (hz1 : 1 ≤ z) (hz3 : z ≤ 3) (hn1 : 1 ≤ n) (hn4 : n ≤ 4) (A : Option Addr) (c : Nat) (l : List Int) (w : World) (hs : w.heap[bs]? = some (.cells #[.int .i64 z] 3 (0,0))) (hx : w.heap[bx]? = some (.cells #[.slice A l.length c] 44 (0,0))) (hw : w.heap[bw]? = some (.cells #[.int .i64 n] 3 (0,0))) (hr : Kd.C (Kd.int .i64) w A l.length l) (hlc : l.length ≤ c) (hl : l.length ≤ 16777216) :
  Writes 106 #[.pointer (some ⟨bs,0,none⟩),.pointer (some ⟨bx,0,none⟩),.pointer (some ⟨bw,0,none⟩)] w (W0.within (fw (wN n) l) z).s (W0.within (fw (wN n) l) z).b := by
 intro w0 g hb0 h
 have HW := Aq.mk (show WS w.heap.size w0 g W0 from h)
 have HB0 := Aq.mk hb0
 have HGE := Aq.mk h.lt
 have hmf := mkf
 have hz0 := W0_size
 have HS := Aq.mk ((hb0.block bs (blk_lt hs)).trans hs)
 have HS1 := Aq.mk (show bs ≠ g from by have := blk_lt hs; have := h.lt; omega)
 have HX := Aq.mk ((hb0.block bx (blk_lt hx)).trans hx)
 have HX1 := Aq.mk (show bx ≠ g from by have := blk_lt hx; have := h.lt; omega)
 have HY := Aq.mk ((hb0.block bw (blk_lt hw)).trans hw)
 have HY1 := Aq.mk (show bw ≠ g from by have := blk_lt hw; have := h.lt; omega)
 have HR := Aq.mk (Kd.C_below hr hb0)
 have HLC := Aq.mk hlc
 have HLL := Aq.mk hl
 have hfa := fw_all (wN n) l hl (fun W a _ => wN_size n hn1 hn4 W a)
 have HN := Aq.mk (show W0.s.size + 3 + (fw (wN n) l).s.size ≤ 140737488355328 from by omega)
 have HZ1 := Aq.mk hz1
 have HZ3 := Aq.mk hz3
 have HN1 := Aq.mk hn1
 have HN4 := Aq.mk hn4
 clear hs hx hw hr hfa
 clear h hb0 hz0
 show Calls Try.prog 106 _ w0 _
 go_enter Try.func106,Try.ntmps106
 go_wp2_with (first
  | ((with_reducible refine gate_dst (N := 6) rfl ?_); refine ld (v := .int .i64 z) rfl rfl rfl HS.out Try.underlying3 rfl rfl ?_)
  | (go_at_call 58; (refine (within_w w.heap.size g 107 _ W0 (fw (wN n) l) z _ HW.out enters107 (nums2_w bx bw n HN1.out HN4.out A c l _ HX.out HY.out HR.out HLC.out HLL.out) HZ1.out HZ3.out HN.out).mono ?_); rintro e1 w1 ⟨rfl,i1,f1⟩; have HWz := Aq.mk i1; have HFz := Aq.mk (f1); clear i1 f1))
 first | go_end0 | ((try simp only [Exit.inBlock,Exit.then]); refine bodyPost_ret (results_none rfl _ _ _) rfl ?_)
 exact ⟨rfl,HWz.out,HFz.out⟩
set_option maxRecDepth 100000 in
set_option maxHeartbeats 8000000 in
theorem nums_w (A : Option Addr) (c : Nat) (l : List Int) (z n : Int) (w : World) :
  Calls Try.prog 79 #[.slice A l.length c,.int .i64 z,.int .i64 n] w fun ex w' => ∃ bs bx bw,ex = .returned (.func (.func 106) #[] #[.pointer (some ⟨bs,0,none⟩),.pointer (some ⟨bx,0,none⟩),.pointer (some ⟨bw,0,none⟩)]) ∧ w'.heap[bs]? = some (.cells #[.int .i64 z] 3 (0,0)) ∧ w'.heap[bx]? = some (.cells #[.slice A l.length c] 44 (0,0)) ∧ w'.heap[bw]? = some (.cells #[.int .i64 n] 3 (0,0)) ∧ Below w.heap.size w w' := by
 have hmf := mkf
 go_enter Try.func79,Try.ntmps79
 go_wp2_with (first
  | ((with_reducible refine gate_dst (N := 3) rfl ?_); refine boxT rfl rfl rfl rfl ?_; intro bx eb w1 h1 b1; have H1 := Aq.mk h1; have B1 := Aq.mk b1; clear h1 b1 eb)
  | ((with_reducible refine gate_dst (N := 4) rfl ?_); refine boxT rfl rfl rfl rfl ?_; intro bs eb w2 h2 b2; have H2 := Aq.mk h2; have H12 := Aq.mk ((b2.block bx (blk_lt H1.out)).trans H1.out); have B2 := Aq.mk (below_step B1.out b2); clear h2 b2 eb)
  | ((with_reducible refine gate_dst (N := 5) rfl ?_); refine boxT rfl rfl rfl rfl ?_; intro bw eb w3 h3 b3; have H3 := Aq.mk h3; have H13 := Aq.mk ((b3.block bx (blk_lt H12.out)).trans H12.out); have H23 := Aq.mk ((b3.block bs (blk_lt H2.out)).trans H2.out); have B3 := Aq.mk (below_step B2.out b3); clear h3 b3 eb))
 go_ret
 exact ⟨bs,bx,bw,rfl,H23.out,H13.out,H3.out,B3.out⟩
set_option maxRecDepth 100000 in
set_option maxHeartbeats 8000000 in
theorem name2_w (gb gm : Nat) (cs : Array Value) (s : ByteArray) (w : World) (hcb : w.heap[gb]? = some (.cells #[.pointer (some ⟨gm,0,none⟩)] 85 (0,0))) (hcm : w.heap[gm]? = some (.cells cs 49 (0,0))) (hv : cs[4]? = some (.string s)) (hsz : s.size ≤ 2097152) :
  Writes 82 #[.pointer (some ⟨gb,0,none⟩)] w ((W0.num 0 1).vec s 2 1 64).s ((W0.num 0 1).vec s 2 1 64).b := by
 intro w0 g hb0 h
 have HW := Aq.mk (show WS w.heap.size w0 g W0 from h)
 have HB0 := Aq.mk hb0
 have HGE := Aq.mk h.lt
 have hmf := mkf
 have hz0 := W0_size
 have HX := Aq.mk ((hb0.block gb (blk_lt hcb)).trans hcb)
 have HX1 := Aq.mk (show gb ≠ g from by have := blk_lt hcb; have := h.lt; omega)
 have HY := Aq.mk ((hb0.block gm (blk_lt hcm)).trans hcm)
 have HY1 := Aq.mk (show gm ≠ g from by have := blk_lt hcm; have := h.lt; omega)
 have HV := Aq.mk hv
 have z1 := W0.num_size 0 1 (by omega) (by omega)
 have HN1 := Aq.mk (show W0.s.size + 4 ≤ 140737488355328 from by omega)
 have HN2 := Aq.mk (show (W0.num 0 1).s.size + 3 + s.size ≤ 140737488355328 from by omega)
 clear hcb hcm hv z1
 clear h hb0 hz0
 show Calls Try.prog 82 _ w0 _
 go_enter Try.func82,Try.ntmps82
 go_wp2_with (first
  | (go_at_call 60; (with_reducible refine (num_w w.heap.size g W0 0 1 _ HW.out (by omega) (by omega) HN1.out).mono ?_); rintro e1 w1 ⟨rfl,i1,f1⟩; have HW1 := Aq.mk i1; have HF1 := Aq.mk f1; have n_ := Aq.mk (f1.blk HX.out HX1.out (by decide)); clear HX; have HX := n_; clear n_; have n_ := Aq.mk (f1.blk HY.out HY1.out (by decide)); clear HY; have HY := n_; clear n_; clear i1 f1)
  | ((with_reducible refine gate_dst (N := 6) rfl ?_); refine ld (v := .pointer (some ⟨gm,0,none⟩)) rfl rfl rfl HX.out Try.underlying85 rfl rfl ?_)
  | ((with_reducible refine gate_dst (N := 9) rfl ?_); refine ld (v := .string s) rfl rfl rfl HY.out Try.underlying9 rfl HV.out ?_)
  | (go_at_call 57; (with_reducible refine (vec_w w.heap.size g (W0.num 0 1) s 2 1 64 _ HW1.out (by omega) (by omega) HN2.out).mono ?_); rintro e2 w2 ⟨rfl,i2,f2⟩; have HWz := Aq.mk i2; have HFz := Aq.mk (HF1.out.trans f2); clear i2 f2))
 first | go_end0 | ((try simp only [Exit.inBlock,Exit.then]); refine bodyPost_ret (results_none rfl _ _ _) rfl ?_)
 exact ⟨rfl,HWz.out,HFz.out⟩
set_option maxRecDepth 100000 in
set_option maxHeartbeats 8000000 in
theorem name1_w (gb gm : Nat) (cs : Array Value) (s : ByteArray) (w : World) (hcb : w.heap[gb]? = some (.cells #[.pointer (some ⟨gm,0,none⟩)] 85 (0,0))) (hcm : w.heap[gm]? = some (.cells cs 49 (0,0))) (hv : cs[4]? = some (.string s)) (hsz : s.size ≤ 2097152) :
  Writes 81 #[.pointer (some ⟨gb,0,none⟩)] w (W0.within ((W0.num 0 1).vec s 2 1 64) 2).s (W0.within ((W0.num 0 1).vec s 2 1 64) 2).b := by
 intro w0 g hb0 h
 have HW := Aq.mk (show WS w.heap.size w0 g W0 from h)
 have HB0 := Aq.mk hb0
 have HGE := Aq.mk h.lt
 have hmf := mkf
 have hz0 := W0_size
 have HX := Aq.mk ((hb0.block gb (blk_lt hcb)).trans hcb)
 have HX1 := Aq.mk (show gb ≠ g from by have := blk_lt hcb; have := h.lt; omega)
 have HY := Aq.mk ((hb0.block gm (blk_lt hcm)).trans hcm)
 have HY1 := Aq.mk (show gm ≠ g from by have := blk_lt hcm; have := h.lt; omega)
 have HV := Aq.mk hv
 have HSZ := Aq.mk hsz
 have z1 := W0.num_size 0 1 (by omega) (by omega)
 have z2 := (W0.num 0 1).vec_size s 2 1 64 (by omega) (by omega) (by omega)
 have HN := Aq.mk (show W0.s.size + 3 + ((W0.num 0 1).vec s 2 1 64).s.size ≤ 140737488355328 from by omega)
 clear hcb hcm hv z1 z2
 clear h hb0 hz0
 show Calls Try.prog 81 _ w0 _
 go_enter Try.func81,Try.ntmps81
 go_wp2_with (first
  | (go_at_call 58; (refine (within_w w.heap.size g 82 _ W0 ((W0.num 0 1).vec s 2 1 64) 2 _ HW.out enters82 (name2_w gb gm cs s _ HX.out HY.out HV.out HSZ.out) (by omega) (by omega) HN.out).mono ?_); rintro e1 w1 ⟨rfl,i1,f1⟩; have HWz := Aq.mk i1; have HFz := Aq.mk (f1); clear i1 f1))
 first | go_end0 | ((try simp only [Exit.inBlock,Exit.then]); refine bodyPost_ret (results_none rfl _ _ _) rfl ?_)
 exact ⟨rfl,HWz.out,HFz.out⟩
set_option maxRecDepth 100000 in
set_option maxHeartbeats 8000000 in
theorem shares1_w (gb gm : Nat) (cs : Array Value) (A : Option Addr) (c : Nat) (l : List S66) (w : World) (hcb : w.heap[gb]? = some (.cells #[.pointer (some ⟨gm,0,none⟩)] 85 (0,0))) (hcm : w.heap[gm]? = some (.cells cs 49 (0,0))) (hv : cs[9]? = some (.slice A l.length c)) (hr : Kd.C k66 w A l.length l) (hlc : l.length ≤ c) (hl : l.length ≤ 16777216) (hs : ∀ a,a ∈ l → a.f1.size ≤ 2097152) :
  Writes 83 #[.pointer (some ⟨gb,0,none⟩)] w (W0.within (fw wS l) 2).s (W0.within (fw wS l) 2).b := by
 intro w0 g hb0 h
 have HW := Aq.mk (show WS w.heap.size w0 g W0 from h)
 have HB0 := Aq.mk hb0
 have HGE := Aq.mk h.lt
 have hmf := mkf
 have hz0 := W0_size
 have HX := Aq.mk ((hb0.block gb (blk_lt hcb)).trans hcb)
 have HX1 := Aq.mk (show gb ≠ g from by have := blk_lt hcb; have := h.lt; omega)
 have HY := Aq.mk ((hb0.block gm (blk_lt hcm)).trans hcm)
 have HY1 := Aq.mk (show gm ≠ g from by have := blk_lt hcm; have := h.lt; omega)
 have HV := Aq.mk hv
 have HR := Aq.mk (Kd.C_below hr hb0)
 have HLC := Aq.mk hlc
 have HLL := Aq.mk hl
 have HBD := Aq.mk hs
 have hfa := fw_all wS l hl (fun W a ha => wS_size W a (hs a ha))
 have HN := Aq.mk (show W0.s.size + 3 + (fw wS l).s.size ≤ 140737488355328 from by omega)
 clear hcb hcm hv hr hfa
 clear h hb0 hz0
 show Calls Try.prog 83 _ w0 _
 go_enter Try.func83,Try.ntmps83
 go_wp2_with (first
  | (go_at_call 58; (refine (within_w w.heap.size g 84 _ W0 (fw wS l) 2 _ HW.out enters84 (shares_w gb gm cs A c l _ HX.out HY.out HV.out HR.out HLC.out HLL.out HBD.out) (by omega) (by omega) HN.out).mono ?_); rintro e1 w1 ⟨rfl,i1,f1⟩; have HWz := Aq.mk i1; have HFz := Aq.mk (f1); clear i1 f1))
 first | go_end0 | ((try simp only [Exit.inBlock,Exit.then]); refine bodyPost_ret (results_none rfl _ _ _) rfl ?_)
 exact ⟨rfl,HWz.out,HFz.out⟩
set_option maxRecDepth 100000 in
set_option maxHeartbeats 8000000 in
theorem psk1_w (gb gm : Nat) (cs : Array Value) (A1 : Option Addr) (c1 : Nat) (l1 : List S111) (A2 : Option Addr) (c2 : Nat) (l2 : List ByteArray) (w : World) (hcb : w.heap[gb]? = some (.cells #[.pointer (some ⟨gm,0,none⟩)] 85 (0,0))) (hcm : w.heap[gm]? = some (.cells cs 49 (0,0))) (hv1 : cs[10]? = some (.slice A1 l1.length c1)) (hr1 : Kd.C k111 w A1 l1.length l1) (hlc1 : l1.length ≤ c1) (hl1 : l1.length ≤ 16777216) (hs1 : ∀ a,a ∈ l1 → a.f0.size ≤ 2097152) (hv2 : cs[11]? = some (.slice A2 l2.length c2)) (hr2 : Kd.C Kd.string w A2 l2.length l2) (hlc2 : l2.length ≤ c2) (hl2 : l2.length ≤ 16777216) (hs2 : ∀ a,a ∈ l2 → a.size ≤ 2097152) :
  Writes 108 #[.pointer (some ⟨gb,0,none⟩)] w ((W0.within (fw wI l1) 2).within (fw wB l2) 2).s ((W0.within (fw wI l1) 2).within (fw wB l2) 2).b := by
 intro w0 g hb0 h
 have HW := Aq.mk (show WS w.heap.size w0 g W0 from h)
 have HB0 := Aq.mk hb0
 have HGE := Aq.mk h.lt
 have hmf := mkf
 have hz0 := W0_size
 have HX := Aq.mk ((hb0.block gb (blk_lt hcb)).trans hcb)
 have HX1 := Aq.mk (show gb ≠ g from by have := blk_lt hcb; have := h.lt; omega)
 have HY := Aq.mk ((hb0.block gm (blk_lt hcm)).trans hcm)
 have HY1 := Aq.mk (show gm ≠ g from by have := blk_lt hcm; have := h.lt; omega)
 have HV1 := Aq.mk hv1
 have HR1 := Aq.mk (Kd.C_below hr1 hb0)
 have HLC1 := Aq.mk hlc1
 have HLL1 := Aq.mk hl1
 have HBD1 := Aq.mk hs1
 have HRr := Aq.mk hr2
 have HV2 := Aq.mk hv2
 have HR2 := Aq.mk (Kd.C_below hr2 hb0)
 have HLC2 := Aq.mk hlc2
 have HLL2 := Aq.mk hl2
 have HBD2 := Aq.mk hs2
 have hf1 := fw_all wI l1 hl1 (fun W a ha => wI_size W a (hs1 a ha))
 have hf2 := fw_all wB l2 hl2 (fun W a ha => wB_size W a (hs2 a ha))
 have hf3 := W0.within_small (fw wI l1) 2 (by omega) (by omega) (by omega)
 have HN := Aq.mk (show W0.s.size + 3 + (fw wI l1).s.size ≤ 140737488355328 from by omega)
 have HN2 := Aq.mk (show (W0.within (fw wI l1) 2).s.size + 3 + (fw wB l2).s.size ≤ 140737488355328 from by omega)
 clear hcb hcm hv1 hr1 hv2 hr2 hf1 hf2 hf3
 clear h hb0 hz0
 show Calls Try.prog 108 _ w0 _
 go_enter Try.func108,Try.ntmps108
 go_wp2_with (first
  | ((with_reducible refine gate_callee (f := 58) rfl ?_); refine goesL_ (some 5) rfl rfl Try.func58 (by kernel_rfl) rfl #[.pointer (some ⟨g,0,none⟩),.int .i64 2,.func (.func 109) #[] #[.pointer (some ⟨gb,0,none⟩)]] rfl (by (try simp only [List.map_toArray,List.map_cons,List.map_nil]); first | done | rfl) ?_; (refine (within_w w.heap.size g 109 _ W0 (fw wI l1) 2 _ HW.out enters109 (idents_w gb gm cs A1 c1 l1 _ HX.out HY.out HV1.out HR1.out HLC1.out HLL1.out HBD1.out) (by omega) (by omega) HN.out).mono ?_); rintro e1 w1 ⟨rfl,i1,f1⟩; refine ⟨_,rfl,?_⟩; have HW1 := Aq.mk i1; have HF1 := Aq.mk (f1); have HX2 := Aq.mk (f1.blk HX.out HX1.out (by decide)); have HY2 := Aq.mk (f1.blk HY.out HY1.out (by decide)); have HR3 := Aq.mk (Kd.C_below HRr.out (HB0.out.trans f1.below)); clear i1 f1)
  | ((with_reducible refine gate_callee (f := 58) rfl ?_); refine goesL_ (some 8) rfl rfl Try.func58 (by kernel_rfl) rfl #[.pointer (some ⟨g,0,none⟩),.int .i64 2,.func (.func 110) #[] #[.pointer (some ⟨gb,0,none⟩)]] rfl (by (try simp only [List.map_toArray,List.map_cons,List.map_nil]); first | done | rfl) ?_; (refine (within_w w.heap.size g 110 _ (W0.within (fw wI l1) 2) (fw wB l2) 2 _ HW1.out enters110 (binders_w gb gm cs A2 c2 l2 _ HX2.out HY2.out HV2.out HR3.out HLC2.out HLL2.out HBD2.out) (by omega) (by omega) HN2.out).mono ?_); rintro e2 w2 ⟨rfl,i2,f2⟩; refine ⟨_,rfl,?_⟩; have HWz := Aq.mk i2; have HFz := Aq.mk (HF1.out.trans f2); clear i2 f2))
 first | go_end0 | ((try simp only [Exit.inBlock,Exit.then]); refine bodyPost_ret (results_none rfl _ _ _) rfl ?_)
 exact ⟨rfl,HWz.out,HFz.out⟩
set_option maxRecDepth 100000 in
set_option maxHeartbeats 8000000 in
theorem psk_w (gm : Nat) (w : World) :
  Calls Try.prog 86 #[.pointer (some ⟨gm,0,none⟩)] w fun ex w' => ∃ gb,ex = .returned (.func (.func 108) #[] #[.pointer (some ⟨gb,0,none⟩)]) ∧ w'.heap[gb]? = some (.cells #[.pointer (some ⟨gm,0,none⟩)] 85 (0,0)) ∧ Below w.heap.size w w' := by
 have hmf := mkf
 go_enter Try.func86,Try.ntmps86
 go_wp2_with (first
  | ((with_reducible refine gate_dst (N := 1) rfl ?_); refine boxT rfl rfl rfl rfl ?_; intro gb eb w1 h1 b1; have H1 := Aq.mk h1; have B1 := Aq.mk b1; clear h1 b1 eb))
 go_ret
 exact ⟨gb,rfl,H1.out,B1.out⟩
set_option maxRecDepth 100000 in
set_option maxHeartbeats 8000000 in
theorem sv1_w (gb gm : Nat) (cs : Array Value) (A : Option Addr) (c : Nat) (l : List Int) (w : World) (hcb : w.heap[gb]? = some (.cells #[.pointer (some ⟨gm,0,none⟩)] 85 (0,0))) (hcm : w.heap[gm]? = some (.cells cs 49 (0,0))) (hv : cs[5]? = some (.slice A l.length c)) (hr : Kd.C (Kd.int .i64) w A l.length l) (hp : 0 < l.length) :
  Writes 88 #[.pointer (some ⟨gb,0,none⟩)] w (W0.num (rd l 0) 2).s (W0.num (rd l 0) 2).b := by
 intro w0 g hb0 h
 have HW := Aq.mk (show WS w.heap.size w0 g W0 from h)
 have HB0 := Aq.mk hb0
 have HGE := Aq.mk h.lt
 have hmf := mkf
 have hz0 := W0_size
 have HX := Aq.mk ((hb0.block gb (blk_lt hcb)).trans hcb)
 have HX1 := Aq.mk (show gb ≠ g from by have := blk_lt hcb; have := h.lt; omega)
 have HY := Aq.mk ((hb0.block gm (blk_lt hcm)).trans hcm)
 have HY1 := Aq.mk (show gm ≠ g from by have := blk_lt hcm; have := h.lt; omega)
 have HN1 := Aq.mk (show W0.s.size + 4 ≤ 140737488355328 from by omega)
 have q : (0 : Int) < (l.length : Int) := by omega
 obtain ⟨ad,e0,hx⟩ := Kd.at_int (Kd.C_below hr hb0) 0 (by omega) q
 subst e0
 have e3 : ad.add (Int.toNat 0) = ad := by simp [Addr.add]
 rw [e3] at hx
 have HC := Aq.mk hx
 have HV := Aq.mk hv
 have q1 := eq_true q
 have q2 := eq_true hp
 clear hcb hcm hv hr e3 hx q
 clear h hb0 hz0
 show Calls Try.prog 88 _ w0 _
 go_enter Try.func88,Try.ntmps88
 go_wp2_with (first
  | ((with_reducible refine gate_dst (N := 4) rfl ?_); refine ld (v := .pointer (some ⟨gm,0,none⟩)) rfl rfl rfl HX.out Try.underlying85 rfl rfl ?_)
  | ((with_reducible refine gate_dst (N := 7) rfl ?_); refine ld (v := .slice (some ad) l.length c) rfl rfl rfl HY.out Try.underlying44 rfl HV.out ?_)
  | ((with_reducible refine gate_dst (N := 9) rfl ?_); refine ldQ (v := .int .i64 (rd l 0)) rfl rfl rfl Try.underlying3 rfl HC.out ?_)
  | (go_at_call 60; (with_reducible refine (num_w w.heap.size g W0 (rd l 0) 2 _ HW.out (by omega) (by omega) HN1.out).mono ?_); rintro e1 w1 ⟨rfl,i1,f1⟩; have HWz := Aq.mk i1; have HFz := Aq.mk f1; clear i1 f1))
 first | go_end0 | ((try simp only [Exit.inBlock,Exit.then]); refine bodyPost_ret (results_none rfl _ _ _) rfl ?_)
 exact ⟨rfl,HWz.out,HFz.out⟩
set_option maxRecDepth 100000 in
set_option maxHeartbeats 8000000 in
theorem sv2_w (gb gm : Nat) (cs : Array Value) (A : Option Addr) (c : Nat) (l : List Int) (w : World) (hcb : w.heap[gb]? = some (.cells #[.pointer (some ⟨gm,0,none⟩)] 85 (0,0))) (hcm : w.heap[gm]? = some (.cells cs 49 (0,0))) (hv : cs[6]? = some (.slice A l.length c)) (hr : Kd.C (Kd.int .i64) w A l.length l) (hp : 0 < l.length) :
  Writes 89 #[.pointer (some ⟨gb,0,none⟩)] w (W0.num (rd l 0) 2).s (W0.num (rd l 0) 2).b := by
 intro w0 g hb0 h
 have HW := Aq.mk (show WS w.heap.size w0 g W0 from h)
 have HB0 := Aq.mk hb0
 have HGE := Aq.mk h.lt
 have hmf := mkf
 have hz0 := W0_size
 have HX := Aq.mk ((hb0.block gb (blk_lt hcb)).trans hcb)
 have HX1 := Aq.mk (show gb ≠ g from by have := blk_lt hcb; have := h.lt; omega)
 have HY := Aq.mk ((hb0.block gm (blk_lt hcm)).trans hcm)
 have HY1 := Aq.mk (show gm ≠ g from by have := blk_lt hcm; have := h.lt; omega)
 have HN1 := Aq.mk (show W0.s.size + 4 ≤ 140737488355328 from by omega)
 have q : (0 : Int) < (l.length : Int) := by omega
 obtain ⟨ad,e0,hx⟩ := Kd.at_int (Kd.C_below hr hb0) 0 (by omega) q
 subst e0
 have e3 : ad.add (Int.toNat 0) = ad := by simp [Addr.add]
 rw [e3] at hx
 have HC := Aq.mk hx
 have HV := Aq.mk hv
 have q1 := eq_true q
 have q2 := eq_true hp
 clear hcb hcm hv hr e3 hx q
 clear h hb0 hz0
 show Calls Try.prog 89 _ w0 _
 go_enter Try.func89,Try.ntmps89
 go_wp2_with (first
  | ((with_reducible refine gate_dst (N := 4) rfl ?_); refine ld (v := .pointer (some ⟨gm,0,none⟩)) rfl rfl rfl HX.out Try.underlying85 rfl rfl ?_)
  | ((with_reducible refine gate_dst (N := 7) rfl ?_); refine ld (v := .slice (some ad) l.length c) rfl rfl rfl HY.out Try.underlying44 rfl HV.out ?_)
  | ((with_reducible refine gate_dst (N := 9) rfl ?_); refine ldQ (v := .int .i64 (rd l 0)) rfl rfl rfl Try.underlying3 rfl HC.out ?_)
  | (go_at_call 60; (with_reducible refine (num_w w.heap.size g W0 (rd l 0) 2 _ HW.out (by omega) (by omega) HN1.out).mono ?_); rintro e1 w1 ⟨rfl,i1,f1⟩; have HWz := Aq.mk i1; have HFz := Aq.mk f1; clear i1 f1))
 first | go_end0 | ((try simp only [Exit.inBlock,Exit.then]); refine bodyPost_ret (results_none rfl _ _ _) rfl ?_)
 exact ⟨rfl,HWz.out,HFz.out⟩
set_option maxRecDepth 100000 in
set_option maxHeartbeats 8000000 in
theorem sv3_w (gb gm : Nat) (cs : Array Value) (A : Option Addr) (c : Nat) (l : List S66) (w : World) (hcb : w.heap[gb]? = some (.cells #[.pointer (some ⟨gm,0,none⟩)] 85 (0,0))) (hcm : w.heap[gm]? = some (.cells cs 49 (0,0))) (hv : cs[9]? = some (.slice A l.length c)) (hr : Kd.C k66 w A l.length l) (hp : 0 < l.length) (hsz : (rd_T66 l 0).f1.size ≤ 2097152) :
  Writes 90 #[.pointer (some ⟨gb,0,none⟩)] w (wS W0 (rd_T66 l 0)).s (wS W0 (rd_T66 l 0)).b := by
 intro w0 g hb0 h
 have HW := Aq.mk (show WS w.heap.size w0 g W0 from h)
 have HB0 := Aq.mk hb0
 have HGE := Aq.mk h.lt
 have hmf := mkf
 have hz0 := W0_size
 have HX := Aq.mk ((hb0.block gb (blk_lt hcb)).trans hcb)
 have HX1 := Aq.mk (show gb ≠ g from by have := blk_lt hcb; have := h.lt; omega)
 have HY := Aq.mk ((hb0.block gm (blk_lt hcm)).trans hcm)
 have HY1 := Aq.mk (show gm ≠ g from by have := blk_lt hcm; have := h.lt; omega)
 have hu66 := Try.underlying66
 have HN1 := Aq.mk (show W0.s.size + 8 + (rd_T66 l 0).f1.size ≤ 140737488355328 from by omega)
 have q : (0 : Int) < (l.length : Int) := by omega
 obtain ⟨ad,e0,hx,hx2⟩ := at_T66 (Kd.C_below hr hb0) 0 (by omega) q
 subst e0
 have e3 : ad.add (Int.toNat 0 * 2) = ad := by simp [Addr.add]
 rw [e3] at hx hx2
 have HV := Aq.mk hv
 have q1 := eq_true q
 have q2 := eq_true hp
 generalize rd_T66 l 0 = s at *
 clear hcb hcm hv hr e3 q hsz
 clear h hb0 hz0
 show Calls Try.prog 90 _ w0 _
 go_enter Try.func90,Try.ntmps90
 go_wp2_with (first
  | ((with_reducible refine gate_dst (N := 4) rfl ?_); refine ld (v := .pointer (some ⟨gm,0,none⟩)) rfl rfl rfl HX.out Try.underlying85 rfl rfl ?_)
  | ((with_reducible refine gate_dst (N := 7) rfl ?_); refine ld (v := .slice (some ad) l.length c) rfl rfl rfl HY.out Try.underlying45 rfl HV.out ?_)
  | (go_at_call 85; (with_reducible refine (share_w w.heap.size g W0 s _ HW.out HN1.out).mono ?_); rintro e1 w1 ⟨rfl,i1,f1⟩; have HWz := Aq.mk i1; have HFz := Aq.mk f1; clear i1 f1))
 first | go_end0 | ((try simp only [Exit.inBlock,Exit.then]); refine bodyPost_ret (results_none rfl _ _ _) rfl ?_)
 exact ⟨rfl,HWz.out,HFz.out⟩
set_option maxRecDepth 100000 in
set_option maxHeartbeats 8000000 in
theorem sv4_w (gb gm : Nat) (cs : Array Value) (k : Int) (w : World) (hcb : w.heap[gb]? = some (.cells #[.pointer (some ⟨gm,0,none⟩)] 85 (0,0))) (hcm : w.heap[gm]? = some (.cells cs 49 (0,0))) (hv : cs[12]? = some (.int .i64 k)) :
  Writes 91 #[.pointer (some ⟨gb,0,none⟩)] w (W0.num (wrap64 (k - 1)) 2).s (W0.num (wrap64 (k - 1)) 2).b := by
 intro w0 g hb0 h
 have HW := Aq.mk (show WS w.heap.size w0 g W0 from h)
 have HB0 := Aq.mk hb0
 have HGE := Aq.mk h.lt
 have hmf := mkf
 have hz0 := W0_size
 have HX := Aq.mk ((hb0.block gb (blk_lt hcb)).trans hcb)
 have HX1 := Aq.mk (show gb ≠ g from by have := blk_lt hcb; have := h.lt; omega)
 have HY := Aq.mk ((hb0.block gm (blk_lt hcm)).trans hcm)
 have HY1 := Aq.mk (show gm ≠ g from by have := blk_lt hcm; have := h.lt; omega)
 have HN1 := Aq.mk (show W0.s.size + 4 ≤ 140737488355328 from by omega)
 have HV := Aq.mk hv
 clear hcb hcm hv
 clear h hb0 hz0
 show Calls Try.prog 91 _ w0 _
 go_enter Try.func91,Try.ntmps91
 go_wp2_with (first
  | ((with_reducible refine gate_dst (N := 4) rfl ?_); refine ld (v := .pointer (some ⟨gm,0,none⟩)) rfl rfl rfl HX.out Try.underlying85 rfl rfl ?_)
  | ((with_reducible refine gate_dst (N := 7) rfl ?_); refine ld (v := .int .i64 k) rfl rfl rfl HY.out Try.underlying3 rfl HV.out ?_)
  | (go_at_call 60; (with_reducible refine (num_w w.heap.size g W0 (wrap64 (k - 1)) 2 _ HW.out (by omega) (by omega) HN1.out).mono ?_); rintro e1 w1 ⟨rfl,i1,f1⟩; have HWz := Aq.mk i1; have HFz := Aq.mk f1; clear i1 f1))
 first | go_end0 | ((try simp only [Exit.inBlock,Exit.then]); refine bodyPost_ret (results_none rfl _ _ _) rfl ?_)
 exact ⟨rfl,HWz.out,HFz.out⟩
end Go.Proofs.Ytlkebjkpmiehcaa.Ms
end
