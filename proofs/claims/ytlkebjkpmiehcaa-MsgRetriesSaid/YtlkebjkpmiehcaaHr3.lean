/- Words, contracts and lemmas that the claim needs, in the order in which they build. Conditions: each lemma's own. -/
import Derived.Laws.Tables
import Derived.Test.YtlkebjkpmiehcaaHr2
section
namespace Go.Proofs.Ytlkebjkpmiehcaa.Ms
open Go.RowKit Go.Proofs.YtlkebjkpmiehcaaW.PrintWords Go.Proofs.YtlkebjkpmiehcaaW.PrintLast Go.Proofs.YtlkebjkpmiehcaaW.PrintMore Go.Proofs.Ytlkebjkpmiehcaa.X
open Go.Proofs.Ytlkebjkpmiehcaa.Pure (nv numOf vecOf nv_bd nv_bd4 number_any vec_ok)
set_option linter.unusedVariables false
structure Mov (w w1 : World) (ts : List Nat) : Prop where
  cells : ∀ (k : Nat) (cs : Array Value) (t : TypeId), w.heap[k]? = some (.cells cs t (0, 0)) → t ∉ ts → w1.heap[k]? = some (.cells cs t (0, 0))
  maps : ∀ (k : Nat) (es : Array MapEntry) (c : Nat), w.heap[k]? = some (Obj.map es c) → w1.heap[k]? = some (Obj.map es c)
theorem Mov.of_below {w w1 : World} (b : Below w.heap.size w w1) (ts : List Nat) : Mov w w1 ts := ⟨fun k _ _ h _ => (b.block k (blk_lt h)).trans h, fun k _ _ h => (b.block k (blk_lt h)).trans h⟩
theorem Mov.of_kf {lo r f : Nat} {w w1 : World} {R : Rp} (h : RS w r f R) (k : Kf lo r f w w1) : Mov w w1 [92, 90] := ⟨kf_types h k, fun j es c hj => k.keep j _ hj (map_ne hj h.rd) (map_ne hj h.ft)⟩
theorem Mov.of_kh {ok : Nat → Prop} {lo r rb f gm : Nat} {w w1 : World} {R B : Rp} {m : Mv} (h : RS w r f R) (hb : RS w rb f B) (hm : MO ok w gm m) (k : Kh lo r rb f gm w w1) : Mov w w1 [92, 90, 49] := by
  obtain ⟨_, a⟩ := hm
  exact ⟨fun j cs t hj ht => k.keep j _ hj (blk_ne hj h.rd (by intro e; exact ht (by simp [e]))) (blk_ne hj hb.rd (by intro e; exact ht (by simp [e]))) (blk_ne hj h.ft (by intro e; exact ht (by simp [e]))) (blk_ne hj a.box (by intro e; exact ht (by simp [e]))),
    fun j es c hj => k.keep j _ hj (map_ne hj h.rd) (map_ne hj hb.rd) (map_ne hj h.ft) (map_ne hj a.box)⟩
theorem Mov.of_map {w w1 : World} (hm : MapTurn w w1) : ∀ (k : Nat) (cs : Array Value) (t : TypeId), w.heap[k]? = some (.cells cs t (0, 0)) → t ∉ ([] : List Nat) → w1.heap[k]? = some (.cells cs t (0, 0)) := fun k cs t h _ => blk_map h hm
theorem Mov.row {w w1 : World} {ts : List Nat} (a : Mov w w1 ts) {α : Type} {d : Kd α} {e base : Nat} {ok : Nat → Prop} {v : Value} {xs : List α} (h : d.R e w base ok v xs) (ht : ∀ q, q ∈ e :: d.E → q ∉ ts) : d.R e w1 base ok v xs :=
  Kd.R_mono (Kd.R_move (Kd.R_bound h) (fun i hi => by
    obtain ⟨_, _, h3, q, hq, cells, hc⟩ := hi
    rw [hc]
    exact a.cells i _ _ hc (ht q hq))) (fun _ hk => hk.1)
theorem Mov.set {w w1 : World} {ts : List Nat} (a : Mov w w1 ts) {d : Kd Int} {e : TypeId} {base : Nat} {ok : Nat → Prop} {v : Value} {xs : List Int} (h : Kd.Y d e w base ok v xs) : Kd.Y d e w1 base ok v xs := Y_gen h a.maps
theorem MO.map {ok : Nat → Prop} {gm : Nat} {w w1 : World} {m : Mv} (a : MO ok w gm m) (hm : MapTurn w w1) : MO ok w1 gm m := by
  obtain ⟨hd, a⟩ := a
  exact ⟨hd, a.move (blk_map a.box hm) [] (Mov.of_map hm) (by decide) (by decide) (by decide) (by decide)⟩
theorem Rs.map {w w1 : World} {r f : Nat} {s : ByteArray} {p c : Int} {t l : Bool} (h : Rs w r f s p c t l) (hm : MapTurn w w1) : Rs w1 r f s p c t l := ⟨blk_map h.rd hm, blk_map h.ft hm⟩
theorem Kg.over {lo r f g B : Nat} {w W w1 : World} (h : Kg lo r f g w W) (hb : Below B W w1) (hl : lo ≤ B) (hB : w.heap.size ≤ B) : Kg lo r f g w w1 :=
  ⟨h.below.trans (hb.mono hl), fun i o hi hr hf hg => (hb.block i (Nat.lt_of_lt_of_le (blk_lt hi) hB)).trans (h.keep i o hi hr hf hg)⟩
theorem R_lt {α : Type} {d : Kd α} {e base : Nat} {W : World} {ok : Nat → Prop} {v : Value} {xs : List α} (h : d.R e W base ok v xs) : ∀ j, W.heap.size ≤ j → some j ≠ v.ownBlock := by
  intro j hj e
  obtain ⟨inner, ho⟩ := Kd.R_own h
  have := own_lt ho j e.symm
  omega
theorem R_app {α : Type} {d : Kd α} {e base : Nat} {W w1 : World} {u v : Value} {x : Value} {xs : List α} (h : d.R e W base (fun j => some j ≠ u.ownBlock) x xs) (hg : W.grownBy w1 u.ownBlock) (hat : v.ownBlock = u.ownBlock ∨ ∃ b, v.ownBlock = some b ∧ W.heap.size ≤ b) : d.R e w1 base (fun j => some j ≠ v.ownBlock) x xs :=
  Kd.R_mono (Kd.R_grown (Kd.R_bound h) hg (fun k hk => hk.1)) (fun k hk => by
    rcases hat with h1 | ⟨b, h1, h2⟩
    · rw [h1]
      exact hk.1
    · rw [h1]
      intro e
      have := hk.2.2.1
      injection e with e
      omega)
theorem MO.app {gm : Nat} {W w1 : World} {u v : Value} {m : Mv} {base : Nat} {ys : List Int} {ok : Nat → Prop} (a : MO (fun j => some j ≠ u.ownBlock) W gm m) (hu : Kd.R (Kd.int .i64) 3 W base ok u ys) (hg : W.grownBy w1 u.ownBlock) (hat : v.ownBlock = u.ownBlock ∨ ∃ b, v.ownBlock = some b ∧ W.heap.size ≤ b) : MO (fun j => some j ≠ v.ownBlock) w1 gm m := by
  obtain ⟨hd, a⟩ := a
  exact ⟨hd, (hg.block gm (blk_lt a.box) (Kd.R_ne hu a.box (by decide))).trans a.box, R_app a.r3 hg hat, R_app a.r5 hg hat, R_app a.r6 hg hat, R_app a.r7 hg hat, R_app a.r8 hg hat, R_app a.r9 hg hat, R_app a.r10 hg hat, R_app a.r11 hg hat, R_app a.r13 hg hat, R_app a.r14 hg hat⟩
theorem Rs.app {W w1 : World} {r f : Nat} {s : ByteArray} {p c : Int} {t l : Bool} {base : Nat} {u : Value} {ys : List Int} {ok : Nat → Prop} (h : Rs W r f s p c t l) (hu : Kd.R (Kd.int .i64) 3 W base ok u ys) (hg : W.grownBy w1 u.ownBlock) : Rs w1 r f s p c t l :=
  ⟨(hg.block r (blk_lt h.rd) (Kd.R_ne hu h.rd (by decide))).trans h.rd, (hg.block f (blk_lt h.ft) (Kd.R_ne hu h.ft (by decide))).trans h.ft⟩
theorem Y_app {d : Kd Int} {e : TypeId} {W w1 : World} {base b2 : Nat} {ok ok2 : Nat → Prop} {v u : Value} {xs ys : List Int} (h : Kd.Y d e W base ok v xs) (hu : Kd.R (Kd.int .i64) 3 W b2 ok2 u ys) (hg : W.grownBy w1 u.ownBlock) : Kd.Y d e w1 base ok v xs :=
  Y_gen h fun k es c hk => (hg.block k (blk_lt hk) (fun e => by
    obtain ⟨inner, ho⟩ := Kd.R_own hu
    obtain ⟨cells, hc⟩ := own_typed ho k e.symm
    rw [hk] at hc
    cases hc)).trans hk
theorem MO.weaken {ok ok' : Nat → Prop} {w : World} {gm : Nat} {m : Mv} (a : MO ok w gm m) (h : ∀ k, ok k → ok' k) : MO ok' w gm m := by
  obtain ⟨hd, a⟩ := a
  exact ⟨hd, a.box, Kd.R_mono a.r3 h, Kd.R_mono a.r5 h, Kd.R_mono a.r6 h, Kd.R_mono a.r7 h, Kd.R_mono a.r8 h, Kd.R_mono a.r9 h, Kd.R_mono a.r10 h, Kd.R_mono a.r11 h, Kd.R_mono a.r13 h, Kd.R_mono a.r14 h⟩
theorem exK_c (lo r f : Nat) (R : Rp) (w : World) (hl : lo ≤ f) (hl2 : lo ≤ r) (h : RS w r f R.exA) (ho : R.Ok) :
    Calls Try.prog 70 #[.pointer (some ⟨r, 0, none⟩)] w fun ex w' => ex = .returned (.int .i64 R.exK) ∧ RS w' r f R.exB ∧ Kf lo r f w w' := u16_c lo r f R.exA w hl hl2 h ho.exA
theorem not3 : ∀ q, q ∈ 3 :: (Kd.int .i64).E → q ∉ [92, 90] := by intro q hq; rw [List.mem_singleton.1 hq]; decide
theorem not3' : ∀ q, q ∈ 3 :: (Kd.int .i64).E → q ∉ [92, 90, 49] := by intro q hq; rw [List.mem_singleton.1 hq]; decide
theorem not3'' : ∀ q, q ∈ 3 :: (Kd.int .i64).E → q ∉ ([] : List Nat) := by intro q hq; simp
set_option maxRecDepth 100000 in
set_option maxHeartbeats 8000000 in
theorem exts_c (k : Nat) (cap : Array Value) (lo r f gm : Nat) (take : Int → Mv → Rp → Bool × Mv × Rp) (lastf : Int → Bool → Bool) (R : Rp) (m : Mv) (w : World) (hT : TakeC k cap lo r f gm w take lastf) (hl : lo ≤ f) (hl2 : lo ≤ r) (h : RS w r f R) (ho : R.Ok) (hm : MO (fun _ => True) w gm m) :
    Calls Try.prog 67 #[.pointer (some ⟨r, 0, none⟩), .func (.func k) #[] cap] w fun ex w' => ∃ v, ex = .returned v ∧ Kd.R (Kd.int .i64) 3 w' 0 (fun _ => True) v (exts take lastf R.s.size [] m R).1 ∧ MO (fun _ => True) w' gm (exts take lastf R.s.size [] m R).2.1 ∧ RS w' r f (exts take lastf R.s.size [] m R).2.2 ∧ Kg lo r f gm w w' := by
  have H := Aside0.mk h
  have HL := Aside0.mk hl
  have HL2 := Aside0.mk hl2
  have HO := Aside0.mk ho
  have M := Aside0.mk hm
  have HLW := Aside0.mk (h.wsz hl)
  have HT := Aside0.mk hT
  have eg := hT.enters
  obtain ⟨F, hF⟩ : ∃ F, exts take lastf R.s.size [] m R = F := ⟨_, rfl⟩
  rw [hF]
  have HF := Aside0.mk hF
  clear h hl hl2 ho hm hT hF
  go_enter Try.func67, Try.ntmps67
  go_wp2_with ((with_reducible refine gate_dst (N := 9) rfl ?_); refine Kd.Y_make (Kd.int .i64) 3 rfl (N := 9) rfl 68 rfl (ok := fun _ => True) trivial ?_; intro vm w0 ho0 hb0; have Y0 := Aside0.mk ho0; have H0 := Aside0.mk (show RS w0 r f R from H.out.below hb0); have M0 := Aside0.mk (M.out.below hb0); have K0 := Aside0.mk ((Kg.of_kf (g := gm) (Kf.refl lo r f w)).over hb0 HLW.out (Nat.le_refl _)); clear ho0 hb0)
  go_loopg [6] R.s.size (fun gk v wr => ∃ (xs : List Int) (m' : Mv) (R' : Rp) (seen : List Int), Aside0 (RS wr r f R') ∧ Aside0 R'.Ok ∧ Aside0 (MO (fun j => some j ≠ v.ownBlock) wr gm m') ∧ Aside0 (Kd.R (Kd.int .i64) 3 wr w.heap.size (fun _ => True) v xs) ∧ Aside0 (Kd.Y (Kd.int .i64) 3 wr w.heap.size (fun _ => True) vm seen) ∧ Aside0 (Kg lo r f gm w wr) ∧ Aside0 (R'.mu ≤ gk ∧ seen.length + R'.mu ≤ 65536 ∧ xs.length + R'.mu ≤ 65536) ∧ Aside0 (xs ++ (exts take lastf gk seen m' R').1 = F.1 ∧ (exts take lastf gk seen m' R').2 = F.2))
  case atStart => exact ⟨[], m, R, [], H0, HO, ⟨M0.out.weaken (fun _ _ e => by simp [Value.ownBlock] at e)⟩, ⟨Kd.R_nil _ _ _ _ _⟩, Y0, K0, ⟨mu_le R, by have := mu_le R; have := HO.out.sz; simp only [List.length_nil]; omega⟩, ⟨by rw [HF.out]; rfl, by rw [HF.out]⟩⟩
  case round =>
  obtain ⟨xs, m', R', seen, Hi, Oi, Mi, Ri, Yi, Ki, Bi, Ei⟩ := hrel
  have HLi := Aside0.mk (show lo ≤ wr.heap.size from Nat.le_trans HLW.out Ki.out.below.size)
  have HBi := Aside0.mk (show w.heap.size ≤ wr.heap.size from Ki.out.below.size)
  have HWF := Aside0.mk (wfk (exK_bd R').1 (exK_bd R').2)
  by_cases hm : R'.more = true
  · have HMo := Aside0.mk hm
    obtain ⟨gk', hgk⟩ : ∃ g, gk = g + 1 := ⟨gk - 1, by have := mu_pos Oi.out.lo hm; have := Bi.out.1; omega⟩
    subst hgk
    have E3 := Aside0.mk (show xs ++ (exO take lastf R' seen m' ++ (exts take lastf gk' (seen ++ [R'.exK]) (exX take R' seen m').2.1 (exN take lastf R' seen m')).1) = F.1 ∧ (exts take lastf gk' (seen ++ [R'.exK]) (exX take R' seen m').2.1 (exN take lastf R' seen m')).2 = F.2 from by
      have := Ei.out
      unfold exts at this
      rw [if_pos HMo.out] at this
      exact this)
    have B3 := Aside0.mk (show (exN take lastf R' seen m').mu ≤ gk' ∧ (seen ++ [R'.exK]).length + (exN take lastf R' seen m').mu ≤ 65536 ∧ xs.length + 1 + (exN take lastf R' seen m').mu ≤ 65536 from by
      have h1 := exN_mu HT.out.st Oi.out seen m' hm (lastf := lastf)
      have h2 := Bi.out
      rw [List.length_append, List.length_singleton]
      omega)
    have O3 := Aside0.mk (Oi.out.exN take lastf seen m')
    by_cases ht : R'.t = true
    · skip
      have HTT := Aside0.mk ht
      by_cases hx : (exX take R' seen m').1 = true
      · have HX := Aside0.mk hx
        unfold exX at hx
        go_wp2_with (first
            | (go_at_call 99; (with_reducible refine (more_c r f R' _ Hi.out).mono ?_); rintro e1 w1 ⟨rfl, b1⟩; have V_ := Mov.of_below b1 []; have H1 := Aside0.mk (show RS w1 r f R' from Hi.out.below b1); have M1 := Aside0.mk (Mi.out.below b1); have R1 := Aside0.mk (V_.row Ri.out not3''); have Y1 := Aside0.mk (V_.set Yi.out); have K1 := Aside0.mk (Ki.out.over (b1.mono HBi.out) HLW.out (Nat.le_refl _)); clear b1 V_)
            | ((with_reducible refine gate_dst (N := 16) rfl ?_); refine ld (v := .bool R'.l) rfl rfl rfl H1.out.rd Try.underlying4 rfl rfl ?_)
            | (go_at_call 76; (with_reducible refine (allow_c lo r f R' _ (!R'.l) HL.out H1.out).mono ?_); rintro e2 w2 ⟨rfl, i2, k2⟩; have V2_ := Mov.of_kf H1.out k2; have M2 := Aside0.mk (M1.out.kf H1.out k2); have R2 := Aside0.mk (V2_.row R1.out not3); have Y2 := Aside0.mk (V2_.set Y1.out); clear V2_; have H2 := Aside0.mk (show RS w2 r f R'.exA from i2); have K2 := Aside0.mk (K1.out.trans (Kg.of_kf k2)); clear i2 k2)
            | (go_at_call 70; (with_reducible refine (exK_c lo r f R' _ HL.out HL2.out H2.out Oi.out).mono ?_); rintro e3 w3 ⟨rfl, i3, k3⟩; have V3_ := Mov.of_kf H2.out k3; have M3 := Aside0.mk (M2.out.kf H2.out k3); have R3 := Aside0.mk (V3_.row R2.out not3); have Y3 := Aside0.mk (V3_.set Y2.out); clear V3_; have H3 := Aside0.mk i3; have K3 := Aside0.mk (K2.out.trans (Kg.of_kf k3)); clear i3 k3)
            | (go_at_call 66; (with_reducible refine (rwithin_c lo r f R'.exB _ 2 2 rfl (by omega) (by omega) HL.out HL2.out H3.out Oi.out.exB).mono ?_); rintro e4 w4 ⟨r2, rfl, n4, i4, j4, k4⟩; have V4_ := Mov.of_kf H3.out k4; have M4 := Aside0.mk (M3.out.kf H3.out k4); have R4 := Aside0.mk (V4_.row R3.out not3); have Y4 := Aside0.mk (V4_.set Y3.out); clear V4_; have HN := Aside0.mk (Nat.le_trans K3.out.below.size n4); have H4 := Aside0.mk i4; have I4 := Aside0.mk j4; have K4 := Aside0.mk (K3.out.trans (Kg.of_kf k4)); have HNE := Aside0.mk (show r ≠ r2 from by have := H3.out.sz; omega); have HL3 := Aside0.mk (show lo ≤ r2 from Nat.le_trans (H3.out.wsz HL.out) n4); clear n4 i4 j4 k4))
        refine start_ (n := 19) (S := fun w' => Below w4.heap.size w4 w') (ds := [18]) #[false, false, false, false, false, false, false, false, false, false, false, false, false, false, false, false, false, false, false] (by kernel_rfl) rfl rfl (Below.refl w4.heap.size w4).drew (fun hHeld => ?_)
        have HS := Aside0.mk (Below.refl w4.heap.size w4).drew
        generalize w4.drew = w5 at HS hHeld ⊢
        refine pure_ (i := 0) (N := (some 23)) (v := ?_) (a' := ?_) #[true, false, false, false, false, false, false, false, false, false, false, false, false, false, false, false, false, false, false] rfl rfl (by kernel_rfl) (fun _ _ _ h => h) (Or.inl ⟨by rfl, ?_⟩) ?_ ?_
        rotate_left
        · intro w'
          go_simp
          with_reducible rfl
        rotate_left
        · simp only [Act.put, List.setIfInBounds_toArray, List.set_cons_zero, List.set_cons_succ]
          rfl
        refine pure_ (i := 1) (N := (some 24)) (v := ?_) (a' := ?_) #[true, true, false, false, false, false, false, false, false, false, false, false, false, false, false, false, false, false, false] rfl rfl (by kernel_rfl) (fun _ _ _ h => h) (Or.inl ⟨by rfl, ?_⟩) ?_ ?_
        rotate_left
        · intro w'
          go_simp
          with_reducible rfl
        rotate_left
        · simp only [Act.put, List.setIfInBounds_toArray, List.set_cons_zero, List.set_cons_succ]
          rfl
        refine pure_ (i := 2) (N := (some 25)) (v := ?_) (a' := ?_) #[true, true, true, false, false, false, false, false, false, false, false, false, false, false, false, false, false, false, false] rfl rfl (by kernel_rfl) (fun _ _ _ h => h) (Or.inl ⟨by rfl, ?_⟩) ?_ ?_
        rotate_left
        · intro w'
          go_simp
          with_reducible rfl
        rotate_left
        · simp only [Act.put, List.setIfInBounds_toArray, List.set_cons_zero, List.set_cons_succ]
          rfl
        refine take_ (i := 3) (N := (some 26)) (v := ?_) (a' := ?_) #[true, true, true, true, false, false, false, false, false, false, false, false, false, false, false, false, false, false, false] rfl rfl (by kernel_rfl) (fun _ _ _ h => h) (Or.inl ⟨by rfl, ?_⟩) hHeld ?_ ?_
        rotate_left
        · rintro w' hS
          have hq := rcell H4.out.rd hS
          obtain ⟨hc1, hc2, hc3⟩ := hq
          go_simp
          with_reducible rfl
        rotate_left
        · simp only [Act.put, List.setIfInBounds_toArray, List.set_cons_zero, List.set_cons_succ]
          rfl
        refine pure_ (i := 4) (N := (some 27)) (v := ?_) (a' := ?_) #[true, true, true, true, true, false, false, false, false, false, false, false, false, false, false, false, false, false, false] rfl rfl (by kernel_rfl) (fun _ _ _ h => h) (Or.inl ⟨by rfl, ?_⟩) ?_ ?_
        rotate_left
        · intro w'
          go_simp
          with_reducible rfl
        rotate_left
        · simp only [Act.put, List.setIfInBounds_toArray, List.set_cons_zero, List.set_cons_succ]
          rfl
        refine pure_ (i := 5) (N := (some 28)) (v := ?_) (a' := ?_) #[true, true, true, true, true, true, false, false, false, false, false, false, false, false, false, false, false, false, false] rfl rfl (by kernel_rfl) (fun _ _ _ h => h) (Or.inl ⟨by rfl, ?_⟩) ?_ ?_
        rotate_left
        · intro w'
          go_simp
          with_reducible rfl
        rotate_left
        · simp only [Act.put, List.setIfInBounds_toArray, List.set_cons_zero, List.set_cons_succ]
          rfl
        refine pure_ (i := 6) (N := (some 29)) (v := ?_) (a' := ?_) #[true, true, true, true, true, true, true, false, false, false, false, false, false, false, false, false, false, false, false] rfl rfl (by kernel_rfl) (fun _ _ _ h => h) (Or.inl ⟨by rfl, ?_⟩) ?_ ?_
        rotate_left
        · intro w'
          go_simp
          with_reducible rfl
        rotate_left
        · simp only [Act.put, List.setIfInBounds_toArray, List.set_cons_zero, List.set_cons_succ]
          rfl
        refine take_ (i := 7) (N := (some 30)) (v := ?_) (a' := ?_) #[true, true, true, true, true, true, true, true, false, false, false, false, false, false, false, false, false, false, false] rfl rfl (by kernel_rfl) (fun _ _ _ h => h) (Or.inl ⟨by rfl, ?_⟩) hHeld ?_ ?_
        rotate_left
        · rintro w' hS
          have hq := rcell H4.out.rd hS
          obtain ⟨hc1, hc2, hc3⟩ := hq
          go_simp
          with_reducible rfl
        rotate_left
        · simp only [Act.put, List.setIfInBounds_toArray, List.set_cons_zero, List.set_cons_succ]
          rfl
        refine pure_ (i := 8) (N := (some 31)) (v := ?_) (a' := ?_) #[true, true, true, true, true, true, true, true, true, false, false, false, false, false, false, false, false, false, false] rfl rfl (by kernel_rfl) (fun _ _ _ h => h) (Or.inl ⟨by rfl, ?_⟩) ?_ ?_
        rotate_left
        · intro w'
          go_simp
          with_reducible rfl
        rotate_left
        · simp only [Act.put, List.setIfInBounds_toArray, List.set_cons_zero, List.set_cons_succ]
          rfl
        refine pure_ (i := 9) (N := (some 32)) (v := ?_) (a' := ?_) #[true, true, true, true, true, true, true, true, true, true, false, false, false, false, false, false, false, false, false] rfl rfl (by kernel_rfl) (fun _ _ _ h => h) (Or.inl ⟨by rfl, ?_⟩) ?_ ?_
        rotate_left
        · intro w'
          go_simp
          with_reducible rfl
        rotate_left
        · simp only [Act.put, List.setIfInBounds_toArray, List.set_cons_zero, List.set_cons_succ]
          rfl
        refine take_ (i := 10) (N := (some 33)) (v := ?_) (a' := ?_) #[true, true, true, true, true, true, true, true, true, true, true, false, false, false, false, false, false, false, false] rfl rfl (by kernel_rfl) (fun _ _ _ h => h) (Or.inl ⟨by rfl, ?_⟩) hHeld ?_ ?_
        rotate_left
        · rintro w' hS
          have hc4 : w'.cell? ⟨f, 1, none⟩ = some (.bool R'.t) := (blk_cell ((hS.block f (blk_lt H4.out.ft)).trans H4.out.ft) 1).trans rfl
          go_simp
          with_reducible rfl
        rotate_left
        · simp only [Act.put, List.setIfInBounds_toArray, List.set_cons_zero, List.set_cons_succ]
          rfl
        refine pure_ (i := 11) (N := (some 34)) (v := ?_) (a' := ?_) #[true, true, true, true, true, true, true, true, true, true, true, true, false, false, false, false, false, false, false] rfl rfl (by kernel_rfl) (fun _ _ _ h => h) (Or.inl ⟨by rfl, ?_⟩) ?_ ?_
        rotate_left
        · intro w'
          go_simp
          with_reducible rfl
        rotate_left
        · simp only [Act.put, List.setIfInBounds_toArray, List.set_cons_zero, List.set_cons_succ]
          rfl
        refine pure_ (i := 12) (N := (some 35)) (v := undef) (a' := ?_) #[true, true, true, true, true, true, true, true, true, true, true, true, true, false, false, false, false, false, false] rfl rfl (by kernel_rfl) (fun _ _ _ h => h) (Or.inr ⟨by rfl, by rfl⟩) ?_ ?_
        rotate_left
        · simp only [Act.put, List.setIfInBounds_toArray, List.set_cons_zero, List.set_cons_succ]
          rfl
        refine pure_ (i := 13) (N := (some 36)) (v := undef) (a' := ?_) #[true, true, true, true, true, true, true, true, true, true, true, true, true, true, false, false, false, false, false] rfl rfl (by kernel_rfl) (fun _ _ _ h => h) (Or.inr ⟨by rfl, by rfl⟩) ?_ ?_
        rotate_left
        · simp only [Act.put, List.setIfInBounds_toArray, List.set_cons_zero, List.set_cons_succ]
          rfl
        refine pure_ (i := 14) (N := (some 37)) (v := undef) (a' := ?_) #[true, true, true, true, true, true, true, true, true, true, true, true, true, true, true, false, false, false, false] rfl rfl (by kernel_rfl) (fun _ _ _ h => h) (Or.inr ⟨by rfl, by rfl⟩) ?_ ?_
        rotate_left
        · simp only [Act.put, List.setIfInBounds_toArray, List.set_cons_zero, List.set_cons_succ]
          rfl
        refine pure_ (i := 15) (N := (some 38)) (v := ?_) (a' := ?_) #[true, true, true, true, true, true, true, true, true, true, true, true, true, true, true, true, false, false, false] rfl rfl (by kernel_rfl) (fun _ _ _ h => h) (Or.inl ⟨by rfl, ?_⟩) ?_ ?_
        rotate_left
        · intro w'
          go_simp
          with_reducible rfl
        rotate_left
        · simp only [Act.put, List.setIfInBounds_toArray, List.set_cons_zero, List.set_cons_succ]
          rfl
        refine pure_ (i := 16) (N := (some 39)) (v := ?_) (a' := ?_) #[true, true, true, true, true, true, true, true, true, true, true, true, true, true, true, true, true, false, false] rfl rfl (by kernel_rfl) (fun _ _ _ h => h) (Or.inl ⟨by rfl, ?_⟩) ?_ ?_
        rotate_left
        · intro w'
          go_simp
          with_reducible rfl
        rotate_left
        · simp only [Act.put, List.setIfInBounds_toArray, List.set_cons_zero, List.set_cons_succ]
          rfl
        refine pure_ (i := 17) (N := (some 40)) (v := ?_) (a' := ?_) #[true, true, true, true, true, true, true, true, true, true, true, true, true, true, true, true, true, true, false] rfl rfl (by kernel_rfl) (fun _ _ _ h => h) (Or.inl ⟨by rfl, ?_⟩) ?_ ?_
        rotate_left
        · intro w'
          go_simp
          with_reducible rfl
        rotate_left
        · simp only [Act.put, List.setIfInBounds_toArray, List.set_cons_zero, List.set_cons_succ]
          rfl
        refine last_ (i := 18) (N := none) #[true, true, true, true, true, true, true, true, true, true, true, true, true, true, true, true, true, true, true] rfl rfl (by kernel_rfl) (by decide) (fun K hK => ?_)
        refine stM (v := .bool true) (by rfl) rfl rfl rfl (H4.out.below HS.out).ft sz4 rfl rfl rfl (by simp) ?_
        intro w7 h7 b7 k7
        have kf7 := (Kf.of_below (r := r) (f := f) (H4.out.wsz HL.out) HS.out).trans (Kf.of_keep (r := r) (.inr rfl) (b7 _ HL.out) k7)
        have HT7 : R'.exT seen = true := by unfold Rp.exT; rw [ht]; rfl
        have H7 := Aside0.mk (show RS w7 r f (R'.exP seen) from ⟨(k7.2 r (blk_lt (H4.out.below HS.out).rd) H4.out.ne (by simp)).trans (H4.out.below HS.out).rd, by show w7.heap[f]? = some (.cells #[.int .i64 (R'.exB.outR 2).c, .bool (R'.exT seen)] 90 (0, 0)); rw [HT7]; exact h7⟩)
        have I7 := Aside0.mk (show RS w7 r2 f (R'.exI seen) from ⟨(k7.2 r2 (blk_lt (I4.out.below HS.out).rd) I4.out.ne (by simp)).trans (I4.out.below HS.out).rd, H7.out.ft⟩)
        have V7 := Mov.of_kf H4.out kf7
        have M7 := Aside0.mk (M4.out.kf H4.out kf7)
        have R7 := Aside0.mk (V7.row R4.out not3)
        have Y7 := Aside0.mk (V7.set Y4.out)
        have K7 := Aside0.mk (K4.out.trans (Kg.of_kf kf7))
        clear h7 b7 k7 kf7 HT7 V7
        refine hK.out _ _ ?_
        clear hK K
        refine done_ (by kernel_rfl) ?_
        go_wp2_with (first
            | (at_mapUpdate; refine Kd.Y_put (Kd.int .i64) (w0 := w7) w.heap.size 3 rfl 68 _ _ _ rfl Try.underlying68 Try.underlying3 Try.underlying4 vm seen R'.exK (ok := fun _ => True) rfl rfl rfl HWF.out (by have := Bi.out.2.1; simp only [maxLen]; omega) Y7.out (Below.refl _ _) K7.out.below.size ?_; intro w8 ho8 hb8 hm8; have M8 := Aside0.mk (M7.out.map hm8); have R8 := Aside0.mk (Kd.R_map R7.out hm8); have Y8 := Aside0.mk ho8; have H8 := Aside0.mk (show RS w8 r f (R'.exP seen) from H7.out.map hm8); have I8 := Aside0.mk (show RS w8 r2 f (R'.exI seen) from I7.out.map hm8); have K8 := Aside0.mk (K7.out.over hb8 HLW.out (Nat.le_refl _)); clear ho8 hb8 hm8)
            | ((refine (HT.out.calls (fun j => some j ≠ u6.ownBlock) R'.exK m' (R'.exP seen) (R'.exI seen) r2 _ K8.out HN.out H8.out I8.out (Oi.out.exI seen) M8.out (R_lt R8.out)).mono ?_); rintro e9 w9 ⟨rfl, i9, m9, j9, k9⟩; have V_ := Mov.of_kh H8.out I8.out M8.out k9; have M9 := Aside0.mk m9; have R9 := Aside0.mk (V_.row R8.out not3'); have Y9 := Aside0.mk (V_.set Y8.out); have I9 := Aside0.mk i9; have H9 := Aside0.mk (show RS w9 r f (exQ take lastf R' seen m') from j9); have K9 := Aside0.mk (Kh.inner K8.out HN.out k9); clear i9 m9 j9 k9 V_)
            | (go_at_call 77; (with_reducible refine (done_c lo r2 f (exX take R' seen m').2.2 _ HL.out I9.out).mono ?_); rintro e10 w10 ⟨rfl, i10, k10⟩; have V10_ := Mov.of_kf I9.out k10; have M10 := Aside0.mk (M9.out.kf I9.out k10); have R10 := Aside0.mk (V10_.row R9.out not3); have Y10 := Aside0.mk (V10_.set Y9.out); clear V10_; have H10 := Aside0.mk (show RS w10 r f ((exQ take lastf R' seen m').back (exX take R' seen m').2.2.done) from H9.out.back (I := R') HNE.out k10 i10); have K10 := Aside0.mk (Kg.inner K9.out HN.out (Kg.of_kf k10)); clear i10 k10))
        go_roundg gk'
        case rel => exact ⟨xs, (exX take R' seen m').2.1, exN take lastf R' seen m', seen ++ [R'.exK], ⟨by unfold exN; rw [if_pos HX.out]; exact H10.out⟩, O3, M10, R10, Y10, K10, ⟨B3.out.1, B3.out.2.1, by have := B3.out.2.2; omega⟩, ⟨by rw [← E3.out.1]; unfold exO; rw [if_pos HX.out]; simp, E3.out.2⟩⟩
        case measure => omega
      · replace hx : (exX take R' seen m').1 = false := by simpa using hx
        have HX := Aside0.mk hx
        by_cases hc : (exQ take lastf R' seen m').c = 0
        · have hc' : ((exQ take lastf R' seen m').c == 0) = true := beq_iff_eq.mpr hc
          have HC := Aside0.mk hc
          clear hc
          unfold exX at hx
          go_wp2_with (first
              | (go_at_call 99; (with_reducible refine (more_c r f R' _ Hi.out).mono ?_); rintro e1 w1 ⟨rfl, b1⟩; have V_ := Mov.of_below b1 []; have H1 := Aside0.mk (show RS w1 r f R' from Hi.out.below b1); have M1 := Aside0.mk (Mi.out.below b1); have R1 := Aside0.mk (V_.row Ri.out not3''); have Y1 := Aside0.mk (V_.set Yi.out); have K1 := Aside0.mk (Ki.out.over (b1.mono HBi.out) HLW.out (Nat.le_refl _)); clear b1 V_)
              | ((with_reducible refine gate_dst (N := 16) rfl ?_); refine ld (v := .bool R'.l) rfl rfl rfl H1.out.rd Try.underlying4 rfl rfl ?_)
              | (go_at_call 76; (with_reducible refine (allow_c lo r f R' _ (!R'.l) HL.out H1.out).mono ?_); rintro e2 w2 ⟨rfl, i2, k2⟩; have V2_ := Mov.of_kf H1.out k2; have M2 := Aside0.mk (M1.out.kf H1.out k2); have R2 := Aside0.mk (V2_.row R1.out not3); have Y2 := Aside0.mk (V2_.set Y1.out); clear V2_; have H2 := Aside0.mk (show RS w2 r f R'.exA from i2); have K2 := Aside0.mk (K1.out.trans (Kg.of_kf k2)); clear i2 k2)
              | (go_at_call 70; (with_reducible refine (exK_c lo r f R' _ HL.out HL2.out H2.out Oi.out).mono ?_); rintro e3 w3 ⟨rfl, i3, k3⟩; have V3_ := Mov.of_kf H2.out k3; have M3 := Aside0.mk (M2.out.kf H2.out k3); have R3 := Aside0.mk (V3_.row R2.out not3); have Y3 := Aside0.mk (V3_.set Y2.out); clear V3_; have H3 := Aside0.mk i3; have K3 := Aside0.mk (K2.out.trans (Kg.of_kf k3)); clear i3 k3)
              | (go_at_call 66; (with_reducible refine (rwithin_c lo r f R'.exB _ 2 2 rfl (by omega) (by omega) HL.out HL2.out H3.out Oi.out.exB).mono ?_); rintro e4 w4 ⟨r2, rfl, n4, i4, j4, k4⟩; have V4_ := Mov.of_kf H3.out k4; have M4 := Aside0.mk (M3.out.kf H3.out k4); have R4 := Aside0.mk (V4_.row R3.out not3); have Y4 := Aside0.mk (V4_.set Y3.out); clear V4_; have HN := Aside0.mk (Nat.le_trans K3.out.below.size n4); have H4 := Aside0.mk i4; have I4 := Aside0.mk j4; have K4 := Aside0.mk (K3.out.trans (Kg.of_kf k4)); have HNE := Aside0.mk (show r ≠ r2 from by have := H3.out.sz; omega); have HL3 := Aside0.mk (show lo ≤ r2 from Nat.le_trans (H3.out.wsz HL.out) n4); clear n4 i4 j4 k4))
          refine start_ (n := 19) (S := fun w' => Below w4.heap.size w4 w') (ds := [18]) #[false, false, false, false, false, false, false, false, false, false, false, false, false, false, false, false, false, false, false] (by kernel_rfl) rfl rfl (Below.refl w4.heap.size w4).drew (fun hHeld => ?_)
          have HS := Aside0.mk (Below.refl w4.heap.size w4).drew
          generalize w4.drew = w5 at HS hHeld ⊢
          refine pure_ (i := 0) (N := (some 23)) (v := ?_) (a' := ?_) #[true, false, false, false, false, false, false, false, false, false, false, false, false, false, false, false, false, false, false] rfl rfl (by kernel_rfl) (fun _ _ _ h => h) (Or.inl ⟨by rfl, ?_⟩) ?_ ?_
          rotate_left
          · intro w'
            go_simp
            with_reducible rfl
          rotate_left
          · simp only [Act.put, List.setIfInBounds_toArray, List.set_cons_zero, List.set_cons_succ]
            rfl
          refine pure_ (i := 1) (N := (some 24)) (v := ?_) (a' := ?_) #[true, true, false, false, false, false, false, false, false, false, false, false, false, false, false, false, false, false, false] rfl rfl (by kernel_rfl) (fun _ _ _ h => h) (Or.inl ⟨by rfl, ?_⟩) ?_ ?_
          rotate_left
          · intro w'
            go_simp
            with_reducible rfl
          rotate_left
          · simp only [Act.put, List.setIfInBounds_toArray, List.set_cons_zero, List.set_cons_succ]
            rfl
          refine pure_ (i := 2) (N := (some 25)) (v := ?_) (a' := ?_) #[true, true, true, false, false, false, false, false, false, false, false, false, false, false, false, false, false, false, false] rfl rfl (by kernel_rfl) (fun _ _ _ h => h) (Or.inl ⟨by rfl, ?_⟩) ?_ ?_
          rotate_left
          · intro w'
            go_simp
            with_reducible rfl
          rotate_left
          · simp only [Act.put, List.setIfInBounds_toArray, List.set_cons_zero, List.set_cons_succ]
            rfl
          refine take_ (i := 3) (N := (some 26)) (v := ?_) (a' := ?_) #[true, true, true, true, false, false, false, false, false, false, false, false, false, false, false, false, false, false, false] rfl rfl (by kernel_rfl) (fun _ _ _ h => h) (Or.inl ⟨by rfl, ?_⟩) hHeld ?_ ?_
          rotate_left
          · rintro w' hS
            have hq := rcell H4.out.rd hS
            obtain ⟨hc1, hc2, hc3⟩ := hq
            go_simp
            with_reducible rfl
          rotate_left
          · simp only [Act.put, List.setIfInBounds_toArray, List.set_cons_zero, List.set_cons_succ]
            rfl
          refine pure_ (i := 4) (N := (some 27)) (v := ?_) (a' := ?_) #[true, true, true, true, true, false, false, false, false, false, false, false, false, false, false, false, false, false, false] rfl rfl (by kernel_rfl) (fun _ _ _ h => h) (Or.inl ⟨by rfl, ?_⟩) ?_ ?_
          rotate_left
          · intro w'
            go_simp
            with_reducible rfl
          rotate_left
          · simp only [Act.put, List.setIfInBounds_toArray, List.set_cons_zero, List.set_cons_succ]
            rfl
          refine pure_ (i := 5) (N := (some 28)) (v := ?_) (a' := ?_) #[true, true, true, true, true, true, false, false, false, false, false, false, false, false, false, false, false, false, false] rfl rfl (by kernel_rfl) (fun _ _ _ h => h) (Or.inl ⟨by rfl, ?_⟩) ?_ ?_
          rotate_left
          · intro w'
            go_simp
            with_reducible rfl
          rotate_left
          · simp only [Act.put, List.setIfInBounds_toArray, List.set_cons_zero, List.set_cons_succ]
            rfl
          refine pure_ (i := 6) (N := (some 29)) (v := ?_) (a' := ?_) #[true, true, true, true, true, true, true, false, false, false, false, false, false, false, false, false, false, false, false] rfl rfl (by kernel_rfl) (fun _ _ _ h => h) (Or.inl ⟨by rfl, ?_⟩) ?_ ?_
          rotate_left
          · intro w'
            go_simp
            with_reducible rfl
          rotate_left
          · simp only [Act.put, List.setIfInBounds_toArray, List.set_cons_zero, List.set_cons_succ]
            rfl
          refine take_ (i := 7) (N := (some 30)) (v := ?_) (a' := ?_) #[true, true, true, true, true, true, true, true, false, false, false, false, false, false, false, false, false, false, false] rfl rfl (by kernel_rfl) (fun _ _ _ h => h) (Or.inl ⟨by rfl, ?_⟩) hHeld ?_ ?_
          rotate_left
          · rintro w' hS
            have hq := rcell H4.out.rd hS
            obtain ⟨hc1, hc2, hc3⟩ := hq
            go_simp
            with_reducible rfl
          rotate_left
          · simp only [Act.put, List.setIfInBounds_toArray, List.set_cons_zero, List.set_cons_succ]
            rfl
          refine pure_ (i := 8) (N := (some 31)) (v := ?_) (a' := ?_) #[true, true, true, true, true, true, true, true, true, false, false, false, false, false, false, false, false, false, false] rfl rfl (by kernel_rfl) (fun _ _ _ h => h) (Or.inl ⟨by rfl, ?_⟩) ?_ ?_
          rotate_left
          · intro w'
            go_simp
            with_reducible rfl
          rotate_left
          · simp only [Act.put, List.setIfInBounds_toArray, List.set_cons_zero, List.set_cons_succ]
            rfl
          refine pure_ (i := 9) (N := (some 32)) (v := ?_) (a' := ?_) #[true, true, true, true, true, true, true, true, true, true, false, false, false, false, false, false, false, false, false] rfl rfl (by kernel_rfl) (fun _ _ _ h => h) (Or.inl ⟨by rfl, ?_⟩) ?_ ?_
          rotate_left
          · intro w'
            go_simp
            with_reducible rfl
          rotate_left
          · simp only [Act.put, List.setIfInBounds_toArray, List.set_cons_zero, List.set_cons_succ]
            rfl
          refine take_ (i := 10) (N := (some 33)) (v := ?_) (a' := ?_) #[true, true, true, true, true, true, true, true, true, true, true, false, false, false, false, false, false, false, false] rfl rfl (by kernel_rfl) (fun _ _ _ h => h) (Or.inl ⟨by rfl, ?_⟩) hHeld ?_ ?_
          rotate_left
          · rintro w' hS
            have hc4 : w'.cell? ⟨f, 1, none⟩ = some (.bool R'.t) := (blk_cell ((hS.block f (blk_lt H4.out.ft)).trans H4.out.ft) 1).trans rfl
            go_simp
            with_reducible rfl
          rotate_left
          · simp only [Act.put, List.setIfInBounds_toArray, List.set_cons_zero, List.set_cons_succ]
            rfl
          refine pure_ (i := 11) (N := (some 34)) (v := ?_) (a' := ?_) #[true, true, true, true, true, true, true, true, true, true, true, true, false, false, false, false, false, false, false] rfl rfl (by kernel_rfl) (fun _ _ _ h => h) (Or.inl ⟨by rfl, ?_⟩) ?_ ?_
          rotate_left
          · intro w'
            go_simp
            with_reducible rfl
          rotate_left
          · simp only [Act.put, List.setIfInBounds_toArray, List.set_cons_zero, List.set_cons_succ]
            rfl
          refine pure_ (i := 12) (N := (some 35)) (v := undef) (a' := ?_) #[true, true, true, true, true, true, true, true, true, true, true, true, true, false, false, false, false, false, false] rfl rfl (by kernel_rfl) (fun _ _ _ h => h) (Or.inr ⟨by rfl, by rfl⟩) ?_ ?_
          rotate_left
          · simp only [Act.put, List.setIfInBounds_toArray, List.set_cons_zero, List.set_cons_succ]
            rfl
          refine pure_ (i := 13) (N := (some 36)) (v := undef) (a' := ?_) #[true, true, true, true, true, true, true, true, true, true, true, true, true, true, false, false, false, false, false] rfl rfl (by kernel_rfl) (fun _ _ _ h => h) (Or.inr ⟨by rfl, by rfl⟩) ?_ ?_
          rotate_left
          · simp only [Act.put, List.setIfInBounds_toArray, List.set_cons_zero, List.set_cons_succ]
            rfl
          refine pure_ (i := 14) (N := (some 37)) (v := undef) (a' := ?_) #[true, true, true, true, true, true, true, true, true, true, true, true, true, true, true, false, false, false, false] rfl rfl (by kernel_rfl) (fun _ _ _ h => h) (Or.inr ⟨by rfl, by rfl⟩) ?_ ?_
          rotate_left
          · simp only [Act.put, List.setIfInBounds_toArray, List.set_cons_zero, List.set_cons_succ]
            rfl
          refine pure_ (i := 15) (N := (some 38)) (v := ?_) (a' := ?_) #[true, true, true, true, true, true, true, true, true, true, true, true, true, true, true, true, false, false, false] rfl rfl (by kernel_rfl) (fun _ _ _ h => h) (Or.inl ⟨by rfl, ?_⟩) ?_ ?_
          rotate_left
          · intro w'
            go_simp
            with_reducible rfl
          rotate_left
          · simp only [Act.put, List.setIfInBounds_toArray, List.set_cons_zero, List.set_cons_succ]
            rfl
          refine pure_ (i := 16) (N := (some 39)) (v := ?_) (a' := ?_) #[true, true, true, true, true, true, true, true, true, true, true, true, true, true, true, true, true, false, false] rfl rfl (by kernel_rfl) (fun _ _ _ h => h) (Or.inl ⟨by rfl, ?_⟩) ?_ ?_
          rotate_left
          · intro w'
            go_simp
            with_reducible rfl
          rotate_left
          · simp only [Act.put, List.setIfInBounds_toArray, List.set_cons_zero, List.set_cons_succ]
            rfl
          refine pure_ (i := 17) (N := (some 40)) (v := ?_) (a' := ?_) #[true, true, true, true, true, true, true, true, true, true, true, true, true, true, true, true, true, true, false] rfl rfl (by kernel_rfl) (fun _ _ _ h => h) (Or.inl ⟨by rfl, ?_⟩) ?_ ?_
          rotate_left
          · intro w'
            go_simp
            with_reducible rfl
          rotate_left
          · simp only [Act.put, List.setIfInBounds_toArray, List.set_cons_zero, List.set_cons_succ]
            rfl
          refine last_ (i := 18) (N := none) #[true, true, true, true, true, true, true, true, true, true, true, true, true, true, true, true, true, true, true] rfl rfl (by kernel_rfl) (by decide) (fun K hK => ?_)
          refine stM (v := .bool true) (by rfl) rfl rfl rfl (H4.out.below HS.out).ft sz4 rfl rfl rfl (by simp) ?_
          intro w7 h7 b7 k7
          have kf7 := (Kf.of_below (r := r) (f := f) (H4.out.wsz HL.out) HS.out).trans (Kf.of_keep (r := r) (.inr rfl) (b7 _ HL.out) k7)
          have HT7 : R'.exT seen = true := by unfold Rp.exT; rw [ht]; rfl
          have H7 := Aside0.mk (show RS w7 r f (R'.exP seen) from ⟨(k7.2 r (blk_lt (H4.out.below HS.out).rd) H4.out.ne (by simp)).trans (H4.out.below HS.out).rd, by show w7.heap[f]? = some (.cells #[.int .i64 (R'.exB.outR 2).c, .bool (R'.exT seen)] 90 (0, 0)); rw [HT7]; exact h7⟩)
          have I7 := Aside0.mk (show RS w7 r2 f (R'.exI seen) from ⟨(k7.2 r2 (blk_lt (I4.out.below HS.out).rd) I4.out.ne (by simp)).trans (I4.out.below HS.out).rd, H7.out.ft⟩)
          have V7 := Mov.of_kf H4.out kf7
          have M7 := Aside0.mk (M4.out.kf H4.out kf7)
          have R7 := Aside0.mk (V7.row R4.out not3)
          have Y7 := Aside0.mk (V7.set Y4.out)
          have K7 := Aside0.mk (K4.out.trans (Kg.of_kf kf7))
          clear h7 b7 k7 kf7 HT7 V7
          refine hK.out _ _ ?_
          clear hK K
          refine done_ (by kernel_rfl) ?_
          go_wp2_with (first
              | (at_mapUpdate; refine Kd.Y_put (Kd.int .i64) (w0 := w7) w.heap.size 3 rfl 68 _ _ _ rfl Try.underlying68 Try.underlying3 Try.underlying4 vm seen R'.exK (ok := fun _ => True) rfl rfl rfl HWF.out (by have := Bi.out.2.1; simp only [maxLen]; omega) Y7.out (Below.refl _ _) K7.out.below.size ?_; intro w8 ho8 hb8 hm8; have M8 := Aside0.mk (M7.out.map hm8); have R8 := Aside0.mk (Kd.R_map R7.out hm8); have Y8 := Aside0.mk ho8; have H8 := Aside0.mk (show RS w8 r f (R'.exP seen) from H7.out.map hm8); have I8 := Aside0.mk (show RS w8 r2 f (R'.exI seen) from I7.out.map hm8); have K8 := Aside0.mk (K7.out.over hb8 HLW.out (Nat.le_refl _)); clear ho8 hb8 hm8)
              | ((refine (HT.out.calls (fun j => some j ≠ u6.ownBlock) R'.exK m' (R'.exP seen) (R'.exI seen) r2 _ K8.out HN.out H8.out I8.out (Oi.out.exI seen) M8.out (R_lt R8.out)).mono ?_); rintro e9 w9 ⟨rfl, i9, m9, j9, k9⟩; have V_ := Mov.of_kh H8.out I8.out M8.out k9; have M9 := Aside0.mk m9; have R9 := Aside0.mk (V_.row R8.out not3'); have Y9 := Aside0.mk (V_.set Y8.out); have I9 := Aside0.mk i9; have H9 := Aside0.mk (show RS w9 r f (exQ take lastf R' seen m') from j9); have K9 := Aside0.mk (Kh.inner K8.out HN.out k9); clear i9 m9 j9 k9 V_)
              | (go_at_call 51; (with_reducible refine (ok_c r f (exQ take lastf R' seen m') _ H9.out).mono ?_); rintro e10 w10 ⟨rfl, rfl⟩)
              | ((with_reducible refine gate_builtin (b := .append) (xs := #[.tmp 51, .tmp 53]) rfl ?_); at_builtin; refine Kd.R_append (Kd.int .i64) (w0 := w10) w.heap.size rfl (.tmp 51) (.tmp 53) 44 3 (.int .i64 0) 8 rfl Try.underlying44 info3 rfl (by decide) (by omega) u6 xs R'.exK [.int .i64 R'.exK] (fun _ => True) (fun _ => False) rfl rfl rfl (fun _ hk => hk.elim) (fun _ _ => trivial) R9.out (Below.refl _ _) K9.out.below.size (len_bd Bi.out.2.2 (mu_pos Oi.out.lo HMo.out) (by omega)) ?_; intro v11 w11 ho11 hb11 hg11 hat11; have M11 := Aside0.mk (M9.out.app R9.out hg11 hat11); have R11 := Aside0.mk ho11; have Y11 := Aside0.mk (Y_app Y9.out R9.out hg11); have H11 := Aside0.mk (show RS w11 r f (exQ take lastf R' seen m') from H9.out.app R9.out hg11); have K11 := Aside0.mk (K9.out.over hb11 HLW.out (Nat.le_refl _)); clear ho11 hb11 hg11 hat11))
          go_roundg gk'
          case rel => exact ⟨xs ++ [R'.exK], (exX take R' seen m').2.1, exN take lastf R' seen m', seen ++ [R'.exK], ⟨by unfold exN; rw [if_neg (by rw [HX.out]; decide)]; exact H11.out⟩, O3, M11, R11, Y11, K11, ⟨B3.out.1, B3.out.2.1, by have := B3.out.2.2; rw [List.length_append, List.length_singleton]; omega⟩, ⟨by rw [← E3.out.1]; unfold exO; rw [if_neg (by rw [HX.out]; decide), if_pos HC.out]; simp, E3.out.2⟩⟩
          case measure => omega
        · have hc' : ((exQ take lastf R' seen m').c == 0) = false := beq_eq_false_iff_ne.mpr hc
          have HC := Aside0.mk hc
          clear hc
          unfold exX at hx
          go_wp2_with (first
              | (go_at_call 99; (with_reducible refine (more_c r f R' _ Hi.out).mono ?_); rintro e1 w1 ⟨rfl, b1⟩; have V_ := Mov.of_below b1 []; have H1 := Aside0.mk (show RS w1 r f R' from Hi.out.below b1); have M1 := Aside0.mk (Mi.out.below b1); have R1 := Aside0.mk (V_.row Ri.out not3''); have Y1 := Aside0.mk (V_.set Yi.out); have K1 := Aside0.mk (Ki.out.over (b1.mono HBi.out) HLW.out (Nat.le_refl _)); clear b1 V_)
              | ((with_reducible refine gate_dst (N := 16) rfl ?_); refine ld (v := .bool R'.l) rfl rfl rfl H1.out.rd Try.underlying4 rfl rfl ?_)
              | (go_at_call 76; (with_reducible refine (allow_c lo r f R' _ (!R'.l) HL.out H1.out).mono ?_); rintro e2 w2 ⟨rfl, i2, k2⟩; have V2_ := Mov.of_kf H1.out k2; have M2 := Aside0.mk (M1.out.kf H1.out k2); have R2 := Aside0.mk (V2_.row R1.out not3); have Y2 := Aside0.mk (V2_.set Y1.out); clear V2_; have H2 := Aside0.mk (show RS w2 r f R'.exA from i2); have K2 := Aside0.mk (K1.out.trans (Kg.of_kf k2)); clear i2 k2)
              | (go_at_call 70; (with_reducible refine (exK_c lo r f R' _ HL.out HL2.out H2.out Oi.out).mono ?_); rintro e3 w3 ⟨rfl, i3, k3⟩; have V3_ := Mov.of_kf H2.out k3; have M3 := Aside0.mk (M2.out.kf H2.out k3); have R3 := Aside0.mk (V3_.row R2.out not3); have Y3 := Aside0.mk (V3_.set Y2.out); clear V3_; have H3 := Aside0.mk i3; have K3 := Aside0.mk (K2.out.trans (Kg.of_kf k3)); clear i3 k3)
              | (go_at_call 66; (with_reducible refine (rwithin_c lo r f R'.exB _ 2 2 rfl (by omega) (by omega) HL.out HL2.out H3.out Oi.out.exB).mono ?_); rintro e4 w4 ⟨r2, rfl, n4, i4, j4, k4⟩; have V4_ := Mov.of_kf H3.out k4; have M4 := Aside0.mk (M3.out.kf H3.out k4); have R4 := Aside0.mk (V4_.row R3.out not3); have Y4 := Aside0.mk (V4_.set Y3.out); clear V4_; have HN := Aside0.mk (Nat.le_trans K3.out.below.size n4); have H4 := Aside0.mk i4; have I4 := Aside0.mk j4; have K4 := Aside0.mk (K3.out.trans (Kg.of_kf k4)); have HNE := Aside0.mk (show r ≠ r2 from by have := H3.out.sz; omega); have HL3 := Aside0.mk (show lo ≤ r2 from Nat.le_trans (H3.out.wsz HL.out) n4); clear n4 i4 j4 k4))
          refine start_ (n := 19) (S := fun w' => Below w4.heap.size w4 w') (ds := [18]) #[false, false, false, false, false, false, false, false, false, false, false, false, false, false, false, false, false, false, false] (by kernel_rfl) rfl rfl (Below.refl w4.heap.size w4).drew (fun hHeld => ?_)
          have HS := Aside0.mk (Below.refl w4.heap.size w4).drew
          generalize w4.drew = w5 at HS hHeld ⊢
          refine pure_ (i := 0) (N := (some 23)) (v := ?_) (a' := ?_) #[true, false, false, false, false, false, false, false, false, false, false, false, false, false, false, false, false, false, false] rfl rfl (by kernel_rfl) (fun _ _ _ h => h) (Or.inl ⟨by rfl, ?_⟩) ?_ ?_
          rotate_left
          · intro w'
            go_simp
            with_reducible rfl
          rotate_left
          · simp only [Act.put, List.setIfInBounds_toArray, List.set_cons_zero, List.set_cons_succ]
            rfl
          refine pure_ (i := 1) (N := (some 24)) (v := ?_) (a' := ?_) #[true, true, false, false, false, false, false, false, false, false, false, false, false, false, false, false, false, false, false] rfl rfl (by kernel_rfl) (fun _ _ _ h => h) (Or.inl ⟨by rfl, ?_⟩) ?_ ?_
          rotate_left
          · intro w'
            go_simp
            with_reducible rfl
          rotate_left
          · simp only [Act.put, List.setIfInBounds_toArray, List.set_cons_zero, List.set_cons_succ]
            rfl
          refine pure_ (i := 2) (N := (some 25)) (v := ?_) (a' := ?_) #[true, true, true, false, false, false, false, false, false, false, false, false, false, false, false, false, false, false, false] rfl rfl (by kernel_rfl) (fun _ _ _ h => h) (Or.inl ⟨by rfl, ?_⟩) ?_ ?_
          rotate_left
          · intro w'
            go_simp
            with_reducible rfl
          rotate_left
          · simp only [Act.put, List.setIfInBounds_toArray, List.set_cons_zero, List.set_cons_succ]
            rfl
          refine take_ (i := 3) (N := (some 26)) (v := ?_) (a' := ?_) #[true, true, true, true, false, false, false, false, false, false, false, false, false, false, false, false, false, false, false] rfl rfl (by kernel_rfl) (fun _ _ _ h => h) (Or.inl ⟨by rfl, ?_⟩) hHeld ?_ ?_
          rotate_left
          · rintro w' hS
            have hq := rcell H4.out.rd hS
            obtain ⟨hc1, hc2, hc3⟩ := hq
            go_simp
            with_reducible rfl
          rotate_left
          · simp only [Act.put, List.setIfInBounds_toArray, List.set_cons_zero, List.set_cons_succ]
            rfl
          refine pure_ (i := 4) (N := (some 27)) (v := ?_) (a' := ?_) #[true, true, true, true, true, false, false, false, false, false, false, false, false, false, false, false, false, false, false] rfl rfl (by kernel_rfl) (fun _ _ _ h => h) (Or.inl ⟨by rfl, ?_⟩) ?_ ?_
          rotate_left
          · intro w'
            go_simp
            with_reducible rfl
          rotate_left
          · simp only [Act.put, List.setIfInBounds_toArray, List.set_cons_zero, List.set_cons_succ]
            rfl
          refine pure_ (i := 5) (N := (some 28)) (v := ?_) (a' := ?_) #[true, true, true, true, true, true, false, false, false, false, false, false, false, false, false, false, false, false, false] rfl rfl (by kernel_rfl) (fun _ _ _ h => h) (Or.inl ⟨by rfl, ?_⟩) ?_ ?_
          rotate_left
          · intro w'
            go_simp
            with_reducible rfl
          rotate_left
          · simp only [Act.put, List.setIfInBounds_toArray, List.set_cons_zero, List.set_cons_succ]
            rfl
          refine pure_ (i := 6) (N := (some 29)) (v := ?_) (a' := ?_) #[true, true, true, true, true, true, true, false, false, false, false, false, false, false, false, false, false, false, false] rfl rfl (by kernel_rfl) (fun _ _ _ h => h) (Or.inl ⟨by rfl, ?_⟩) ?_ ?_
          rotate_left
          · intro w'
            go_simp
            with_reducible rfl
          rotate_left
          · simp only [Act.put, List.setIfInBounds_toArray, List.set_cons_zero, List.set_cons_succ]
            rfl
          refine take_ (i := 7) (N := (some 30)) (v := ?_) (a' := ?_) #[true, true, true, true, true, true, true, true, false, false, false, false, false, false, false, false, false, false, false] rfl rfl (by kernel_rfl) (fun _ _ _ h => h) (Or.inl ⟨by rfl, ?_⟩) hHeld ?_ ?_
          rotate_left
          · rintro w' hS
            have hq := rcell H4.out.rd hS
            obtain ⟨hc1, hc2, hc3⟩ := hq
            go_simp
            with_reducible rfl
          rotate_left
          · simp only [Act.put, List.setIfInBounds_toArray, List.set_cons_zero, List.set_cons_succ]
            rfl
          refine pure_ (i := 8) (N := (some 31)) (v := ?_) (a' := ?_) #[true, true, true, true, true, true, true, true, true, false, false, false, false, false, false, false, false, false, false] rfl rfl (by kernel_rfl) (fun _ _ _ h => h) (Or.inl ⟨by rfl, ?_⟩) ?_ ?_
          rotate_left
          · intro w'
            go_simp
            with_reducible rfl
          rotate_left
          · simp only [Act.put, List.setIfInBounds_toArray, List.set_cons_zero, List.set_cons_succ]
            rfl
          refine pure_ (i := 9) (N := (some 32)) (v := ?_) (a' := ?_) #[true, true, true, true, true, true, true, true, true, true, false, false, false, false, false, false, false, false, false] rfl rfl (by kernel_rfl) (fun _ _ _ h => h) (Or.inl ⟨by rfl, ?_⟩) ?_ ?_
          rotate_left
          · intro w'
            go_simp
            with_reducible rfl
          rotate_left
          · simp only [Act.put, List.setIfInBounds_toArray, List.set_cons_zero, List.set_cons_succ]
            rfl
          refine take_ (i := 10) (N := (some 33)) (v := ?_) (a' := ?_) #[true, true, true, true, true, true, true, true, true, true, true, false, false, false, false, false, false, false, false] rfl rfl (by kernel_rfl) (fun _ _ _ h => h) (Or.inl ⟨by rfl, ?_⟩) hHeld ?_ ?_
          rotate_left
          · rintro w' hS
            have hc4 : w'.cell? ⟨f, 1, none⟩ = some (.bool R'.t) := (blk_cell ((hS.block f (blk_lt H4.out.ft)).trans H4.out.ft) 1).trans rfl
            go_simp
            with_reducible rfl
          rotate_left
          · simp only [Act.put, List.setIfInBounds_toArray, List.set_cons_zero, List.set_cons_succ]
            rfl
          refine pure_ (i := 11) (N := (some 34)) (v := ?_) (a' := ?_) #[true, true, true, true, true, true, true, true, true, true, true, true, false, false, false, false, false, false, false] rfl rfl (by kernel_rfl) (fun _ _ _ h => h) (Or.inl ⟨by rfl, ?_⟩) ?_ ?_
          rotate_left
          · intro w'
            go_simp
            with_reducible rfl
          rotate_left
          · simp only [Act.put, List.setIfInBounds_toArray, List.set_cons_zero, List.set_cons_succ]
            rfl
          refine pure_ (i := 12) (N := (some 35)) (v := undef) (a' := ?_) #[true, true, true, true, true, true, true, true, true, true, true, true, true, false, false, false, false, false, false] rfl rfl (by kernel_rfl) (fun _ _ _ h => h) (Or.inr ⟨by rfl, by rfl⟩) ?_ ?_
          rotate_left
          · simp only [Act.put, List.setIfInBounds_toArray, List.set_cons_zero, List.set_cons_succ]
            rfl
          refine pure_ (i := 13) (N := (some 36)) (v := undef) (a' := ?_) #[true, true, true, true, true, true, true, true, true, true, true, true, true, true, false, false, false, false, false] rfl rfl (by kernel_rfl) (fun _ _ _ h => h) (Or.inr ⟨by rfl, by rfl⟩) ?_ ?_
          rotate_left
          · simp only [Act.put, List.setIfInBounds_toArray, List.set_cons_zero, List.set_cons_succ]
            rfl
          refine pure_ (i := 14) (N := (some 37)) (v := undef) (a' := ?_) #[true, true, true, true, true, true, true, true, true, true, true, true, true, true, true, false, false, false, false] rfl rfl (by kernel_rfl) (fun _ _ _ h => h) (Or.inr ⟨by rfl, by rfl⟩) ?_ ?_
          rotate_left
          · simp only [Act.put, List.setIfInBounds_toArray, List.set_cons_zero, List.set_cons_succ]
            rfl
          refine pure_ (i := 15) (N := (some 38)) (v := ?_) (a' := ?_) #[true, true, true, true, true, true, true, true, true, true, true, true, true, true, true, true, false, false, false] rfl rfl (by kernel_rfl) (fun _ _ _ h => h) (Or.inl ⟨by rfl, ?_⟩) ?_ ?_
          rotate_left
          · intro w'
            go_simp
            with_reducible rfl
          rotate_left
          · simp only [Act.put, List.setIfInBounds_toArray, List.set_cons_zero, List.set_cons_succ]
            rfl
          refine pure_ (i := 16) (N := (some 39)) (v := ?_) (a' := ?_) #[true, true, true, true, true, true, true, true, true, true, true, true, true, true, true, true, true, false, false] rfl rfl (by kernel_rfl) (fun _ _ _ h => h) (Or.inl ⟨by rfl, ?_⟩) ?_ ?_
          rotate_left
          · intro w'
            go_simp
            with_reducible rfl
          rotate_left
          · simp only [Act.put, List.setIfInBounds_toArray, List.set_cons_zero, List.set_cons_succ]
            rfl
          refine pure_ (i := 17) (N := (some 40)) (v := ?_) (a' := ?_) #[true, true, true, true, true, true, true, true, true, true, true, true, true, true, true, true, true, true, false] rfl rfl (by kernel_rfl) (fun _ _ _ h => h) (Or.inl ⟨by rfl, ?_⟩) ?_ ?_
          rotate_left
          · intro w'
            go_simp
            with_reducible rfl
          rotate_left
          · simp only [Act.put, List.setIfInBounds_toArray, List.set_cons_zero, List.set_cons_succ]
            rfl
          refine last_ (i := 18) (N := none) #[true, true, true, true, true, true, true, true, true, true, true, true, true, true, true, true, true, true, true] rfl rfl (by kernel_rfl) (by decide) (fun K hK => ?_)
          refine stM (v := .bool true) (by rfl) rfl rfl rfl (H4.out.below HS.out).ft sz4 rfl rfl rfl (by simp) ?_
          intro w7 h7 b7 k7
          have kf7 := (Kf.of_below (r := r) (f := f) (H4.out.wsz HL.out) HS.out).trans (Kf.of_keep (r := r) (.inr rfl) (b7 _ HL.out) k7)
          have HT7 : R'.exT seen = true := by unfold Rp.exT; rw [ht]; rfl
          have H7 := Aside0.mk (show RS w7 r f (R'.exP seen) from ⟨(k7.2 r (blk_lt (H4.out.below HS.out).rd) H4.out.ne (by simp)).trans (H4.out.below HS.out).rd, by show w7.heap[f]? = some (.cells #[.int .i64 (R'.exB.outR 2).c, .bool (R'.exT seen)] 90 (0, 0)); rw [HT7]; exact h7⟩)
          have I7 := Aside0.mk (show RS w7 r2 f (R'.exI seen) from ⟨(k7.2 r2 (blk_lt (I4.out.below HS.out).rd) I4.out.ne (by simp)).trans (I4.out.below HS.out).rd, H7.out.ft⟩)
          have V7 := Mov.of_kf H4.out kf7
          have M7 := Aside0.mk (M4.out.kf H4.out kf7)
          have R7 := Aside0.mk (V7.row R4.out not3)
          have Y7 := Aside0.mk (V7.set Y4.out)
          have K7 := Aside0.mk (K4.out.trans (Kg.of_kf kf7))
          clear h7 b7 k7 kf7 HT7 V7
          refine hK.out _ _ ?_
          clear hK K
          refine done_ (by kernel_rfl) ?_
          go_wp2_with (first
              | (at_mapUpdate; refine Kd.Y_put (Kd.int .i64) (w0 := w7) w.heap.size 3 rfl 68 _ _ _ rfl Try.underlying68 Try.underlying3 Try.underlying4 vm seen R'.exK (ok := fun _ => True) rfl rfl rfl HWF.out (by have := Bi.out.2.1; simp only [maxLen]; omega) Y7.out (Below.refl _ _) K7.out.below.size ?_; intro w8 ho8 hb8 hm8; have M8 := Aside0.mk (M7.out.map hm8); have R8 := Aside0.mk (Kd.R_map R7.out hm8); have Y8 := Aside0.mk ho8; have H8 := Aside0.mk (show RS w8 r f (R'.exP seen) from H7.out.map hm8); have I8 := Aside0.mk (show RS w8 r2 f (R'.exI seen) from I7.out.map hm8); have K8 := Aside0.mk (K7.out.over hb8 HLW.out (Nat.le_refl _)); clear ho8 hb8 hm8)
              | ((refine (HT.out.calls (fun j => some j ≠ u6.ownBlock) R'.exK m' (R'.exP seen) (R'.exI seen) r2 _ K8.out HN.out H8.out I8.out (Oi.out.exI seen) M8.out (R_lt R8.out)).mono ?_); rintro e9 w9 ⟨rfl, i9, m9, j9, k9⟩; have V_ := Mov.of_kh H8.out I8.out M8.out k9; have M9 := Aside0.mk m9; have R9 := Aside0.mk (V_.row R8.out not3'); have Y9 := Aside0.mk (V_.set Y8.out); have I9 := Aside0.mk i9; have H9 := Aside0.mk (show RS w9 r f (exQ take lastf R' seen m') from j9); have K9 := Aside0.mk (Kh.inner K8.out HN.out k9); clear i9 m9 j9 k9 V_)
              | (go_at_call 51; (with_reducible refine (ok_c r f (exQ take lastf R' seen m') _ H9.out).mono ?_); rintro e10 w10 ⟨rfl, rfl⟩))
          go_roundg gk'
          case rel => exact ⟨xs, (exX take R' seen m').2.1, exN take lastf R' seen m', seen ++ [R'.exK], ⟨by unfold exN; rw [if_neg (by rw [HX.out]; decide)]; exact H9.out⟩, O3, M9, R9, Y9, K9, ⟨B3.out.1, B3.out.2.1, by have := B3.out.2.2; omega⟩, ⟨by rw [← E3.out.1]; unfold exO; rw [if_neg (by rw [HX.out]; decide), if_neg HC.out]; simp, E3.out.2⟩⟩
          case measure => omega
    · replace ht : R'.t = false := by simpa using ht
      have HTT := Aside0.mk ht
      by_cases hx : (exX take R' seen m').1 = true
      · have HX := Aside0.mk hx
        unfold exX at hx
        go_wp2_with (first
            | (go_at_call 99; (with_reducible refine (more_c r f R' _ Hi.out).mono ?_); rintro e1 w1 ⟨rfl, b1⟩; have V_ := Mov.of_below b1 []; have H1 := Aside0.mk (show RS w1 r f R' from Hi.out.below b1); have M1 := Aside0.mk (Mi.out.below b1); have R1 := Aside0.mk (V_.row Ri.out not3''); have Y1 := Aside0.mk (V_.set Yi.out); have K1 := Aside0.mk (Ki.out.over (b1.mono HBi.out) HLW.out (Nat.le_refl _)); clear b1 V_)
            | ((with_reducible refine gate_dst (N := 16) rfl ?_); refine ld (v := .bool R'.l) rfl rfl rfl H1.out.rd Try.underlying4 rfl rfl ?_)
            | (go_at_call 76; (with_reducible refine (allow_c lo r f R' _ (!R'.l) HL.out H1.out).mono ?_); rintro e2 w2 ⟨rfl, i2, k2⟩; have V2_ := Mov.of_kf H1.out k2; have M2 := Aside0.mk (M1.out.kf H1.out k2); have R2 := Aside0.mk (V2_.row R1.out not3); have Y2 := Aside0.mk (V2_.set Y1.out); clear V2_; have H2 := Aside0.mk (show RS w2 r f R'.exA from i2); have K2 := Aside0.mk (K1.out.trans (Kg.of_kf k2)); clear i2 k2)
            | (go_at_call 70; (with_reducible refine (exK_c lo r f R' _ HL.out HL2.out H2.out Oi.out).mono ?_); rintro e3 w3 ⟨rfl, i3, k3⟩; have V3_ := Mov.of_kf H2.out k3; have M3 := Aside0.mk (M2.out.kf H2.out k3); have R3 := Aside0.mk (V3_.row R2.out not3); have Y3 := Aside0.mk (V3_.set Y2.out); clear V3_; have H3 := Aside0.mk i3; have K3 := Aside0.mk (K2.out.trans (Kg.of_kf k3)); clear i3 k3)
            | (go_at_call 66; (with_reducible refine (rwithin_c lo r f R'.exB _ 2 2 rfl (by omega) (by omega) HL.out HL2.out H3.out Oi.out.exB).mono ?_); rintro e4 w4 ⟨r2, rfl, n4, i4, j4, k4⟩; have V4_ := Mov.of_kf H3.out k4; have M4 := Aside0.mk (M3.out.kf H3.out k4); have R4 := Aside0.mk (V4_.row R3.out not3); have Y4 := Aside0.mk (V4_.set Y3.out); clear V4_; have HN := Aside0.mk (Nat.le_trans K3.out.below.size n4); have H4 := Aside0.mk i4; have I4 := Aside0.mk j4; have K4 := Aside0.mk (K3.out.trans (Kg.of_kf k4)); have HNE := Aside0.mk (show r ≠ r2 from by have := H3.out.sz; omega); have HL3 := Aside0.mk (show lo ≤ r2 from Nat.le_trans (H3.out.wsz HL.out) n4); clear n4 i4 j4 k4))
        refine start_ (n := 19) (S := fun w' => Below w4.heap.size w4 w') (ds := [18]) #[false, false, false, false, false, false, false, false, false, false, false, false, false, false, false, false, false, false, false] (by kernel_rfl) rfl rfl (Below.refl w4.heap.size w4).drew (fun hHeld => ?_)
        have HS := Aside0.mk (Below.refl w4.heap.size w4).drew
        generalize w4.drew = w5 at HS hHeld ⊢
        refine pure_ (i := 0) (N := (some 23)) (v := ?_) (a' := ?_) #[true, false, false, false, false, false, false, false, false, false, false, false, false, false, false, false, false, false, false] rfl rfl (by kernel_rfl) (fun _ _ _ h => h) (Or.inl ⟨by rfl, ?_⟩) ?_ ?_
        rotate_left
        · intro w'
          go_simp
          with_reducible rfl
        rotate_left
        · simp only [Act.put, List.setIfInBounds_toArray, List.set_cons_zero, List.set_cons_succ]
          rfl
        refine pure_ (i := 1) (N := (some 24)) (v := ?_) (a' := ?_) #[true, true, false, false, false, false, false, false, false, false, false, false, false, false, false, false, false, false, false] rfl rfl (by kernel_rfl) (fun _ _ _ h => h) (Or.inl ⟨by rfl, ?_⟩) ?_ ?_
        rotate_left
        · intro w'
          go_simp
          with_reducible rfl
        rotate_left
        · simp only [Act.put, List.setIfInBounds_toArray, List.set_cons_zero, List.set_cons_succ]
          rfl
        refine pure_ (i := 2) (N := (some 25)) (v := ?_) (a' := ?_) #[true, true, true, false, false, false, false, false, false, false, false, false, false, false, false, false, false, false, false] rfl rfl (by kernel_rfl) (fun _ _ _ h => h) (Or.inl ⟨by rfl, ?_⟩) ?_ ?_
        rotate_left
        · intro w'
          go_simp
          with_reducible rfl
        rotate_left
        · simp only [Act.put, List.setIfInBounds_toArray, List.set_cons_zero, List.set_cons_succ]
          rfl
        refine take_ (i := 3) (N := (some 26)) (v := ?_) (a' := ?_) #[true, true, true, true, false, false, false, false, false, false, false, false, false, false, false, false, false, false, false] rfl rfl (by kernel_rfl) (fun _ _ _ h => h) (Or.inl ⟨by rfl, ?_⟩) hHeld ?_ ?_
        rotate_left
        · rintro w' hS
          have hq := rcell H4.out.rd hS
          obtain ⟨hc1, hc2, hc3⟩ := hq
          go_simp
          with_reducible rfl
        rotate_left
        · simp only [Act.put, List.setIfInBounds_toArray, List.set_cons_zero, List.set_cons_succ]
          rfl
        refine pure_ (i := 4) (N := (some 27)) (v := ?_) (a' := ?_) #[true, true, true, true, true, false, false, false, false, false, false, false, false, false, false, false, false, false, false] rfl rfl (by kernel_rfl) (fun _ _ _ h => h) (Or.inl ⟨by rfl, ?_⟩) ?_ ?_
        rotate_left
        · intro w'
          go_simp
          with_reducible rfl
        rotate_left
        · simp only [Act.put, List.setIfInBounds_toArray, List.set_cons_zero, List.set_cons_succ]
          rfl
        refine pure_ (i := 5) (N := (some 28)) (v := ?_) (a' := ?_) #[true, true, true, true, true, true, false, false, false, false, false, false, false, false, false, false, false, false, false] rfl rfl (by kernel_rfl) (fun _ _ _ h => h) (Or.inl ⟨by rfl, ?_⟩) ?_ ?_
        rotate_left
        · intro w'
          go_simp
          with_reducible rfl
        rotate_left
        · simp only [Act.put, List.setIfInBounds_toArray, List.set_cons_zero, List.set_cons_succ]
          rfl
        refine pure_ (i := 6) (N := (some 29)) (v := ?_) (a' := ?_) #[true, true, true, true, true, true, true, false, false, false, false, false, false, false, false, false, false, false, false] rfl rfl (by kernel_rfl) (fun _ _ _ h => h) (Or.inl ⟨by rfl, ?_⟩) ?_ ?_
        rotate_left
        · intro w'
          go_simp
          with_reducible rfl
        rotate_left
        · simp only [Act.put, List.setIfInBounds_toArray, List.set_cons_zero, List.set_cons_succ]
          rfl
        refine take_ (i := 7) (N := (some 30)) (v := ?_) (a' := ?_) #[true, true, true, true, true, true, true, true, false, false, false, false, false, false, false, false, false, false, false] rfl rfl (by kernel_rfl) (fun _ _ _ h => h) (Or.inl ⟨by rfl, ?_⟩) hHeld ?_ ?_
        rotate_left
        · rintro w' hS
          have hq := rcell H4.out.rd hS
          obtain ⟨hc1, hc2, hc3⟩ := hq
          go_simp
          with_reducible rfl
        rotate_left
        · simp only [Act.put, List.setIfInBounds_toArray, List.set_cons_zero, List.set_cons_succ]
          rfl
        refine pure_ (i := 8) (N := (some 31)) (v := ?_) (a' := ?_) #[true, true, true, true, true, true, true, true, true, false, false, false, false, false, false, false, false, false, false] rfl rfl (by kernel_rfl) (fun _ _ _ h => h) (Or.inl ⟨by rfl, ?_⟩) ?_ ?_
        rotate_left
        · intro w'
          go_simp
          with_reducible rfl
        rotate_left
        · simp only [Act.put, List.setIfInBounds_toArray, List.set_cons_zero, List.set_cons_succ]
          rfl
        refine pure_ (i := 9) (N := (some 32)) (v := ?_) (a' := ?_) #[true, true, true, true, true, true, true, true, true, true, false, false, false, false, false, false, false, false, false] rfl rfl (by kernel_rfl) (fun _ _ _ h => h) (Or.inl ⟨by rfl, ?_⟩) ?_ ?_
        rotate_left
        · intro w'
          go_simp
          with_reducible rfl
        rotate_left
        · simp only [Act.put, List.setIfInBounds_toArray, List.set_cons_zero, List.set_cons_succ]
          rfl
        refine take_ (i := 10) (N := (some 33)) (v := ?_) (a' := ?_) #[true, true, true, true, true, true, true, true, true, true, true, false, false, false, false, false, false, false, false] rfl rfl (by kernel_rfl) (fun _ _ _ h => h) (Or.inl ⟨by rfl, ?_⟩) hHeld ?_ ?_
        rotate_left
        · rintro w' hS
          have hc4 : w'.cell? ⟨f, 1, none⟩ = some (.bool R'.t) := (blk_cell ((hS.block f (blk_lt H4.out.ft)).trans H4.out.ft) 1).trans rfl
          go_simp
          with_reducible rfl
        rotate_left
        · simp only [Act.put, List.setIfInBounds_toArray, List.set_cons_zero, List.set_cons_succ]
          rfl
        refine pure_ (i := 11) (N := (some 34)) (v := ?_) (a' := ?_) #[true, true, true, true, true, true, true, true, true, true, true, true, false, false, false, false, false, false, false] rfl rfl (by kernel_rfl) (fun _ _ _ h => h) (Or.inl ⟨by rfl, ?_⟩) ?_ ?_
        rotate_left
        · intro w'
          go_simp
          with_reducible rfl
        rotate_left
        · simp only [Act.put, List.setIfInBounds_toArray, List.set_cons_zero, List.set_cons_succ]
          rfl
        refine pure_ (i := 12) (N := (some 35)) (v := ?_) (a' := ?_) #[true, true, true, true, true, true, true, true, true, true, true, true, true, false, false, false, false, false, false] rfl rfl (by kernel_rfl) (fun _ _ _ h => h) (Or.inl ⟨by rfl, ?_⟩) ?_ ?_
        rotate_left
        · intro w'
          go_simp
          with_reducible rfl
        rotate_left
        · simp only [Act.put, List.setIfInBounds_toArray, List.set_cons_zero, List.set_cons_succ]
          rfl
        refine pure_ (i := 13) (N := (some 36)) (v := ?_) (a' := ?_) #[true, true, true, true, true, true, true, true, true, true, true, true, true, true, false, false, false, false, false] rfl rfl (by kernel_rfl) (fun _ _ _ h => h) (Or.inl ⟨by rfl, ?_⟩) ?_ ?_
        rotate_left
        · intro w'
          go_simp
          with_reducible rfl
        rotate_left
        · simp only [Act.put, List.setIfInBounds_toArray, List.set_cons_zero, List.set_cons_succ]
          rfl
        refine take_ (i := 14) (N := (some 37)) (v := .bool (decide (R'.exK ∈ seen))) (a' := ?_) #[true, true, true, true, true, true, true, true, true, true, true, true, true, true, true, false, false, false, false] rfl rfl (by kernel_rfl) (fun _ _ _ h => h) (Or.inl ⟨by rfl, ?_⟩) hHeld ?_ ?_
        · rintro w' hS
          exact Y_exec (d := Kd.int .i64) (v := vm) (k := R'.exK) (base := w.heap.size) (ok := fun _ => True) (xs := seen) rfl rfl rfl HWF.out (Kd.Y_below Y4.out hS)
        rotate_left
        · simp only [Act.put, List.setIfInBounds_toArray, List.set_cons_zero, List.set_cons_succ]
          rfl
        refine pure_ (i := 15) (N := (some 38)) (v := ?_) (a' := ?_) #[true, true, true, true, true, true, true, true, true, true, true, true, true, true, true, true, false, false, false] rfl rfl (by kernel_rfl) (fun _ _ _ h => h) (Or.inl ⟨by rfl, ?_⟩) ?_ ?_
        rotate_left
        · intro w'
          go_simp
          with_reducible rfl
        rotate_left
        · simp only [Act.put, List.setIfInBounds_toArray, List.set_cons_zero, List.set_cons_succ]
          rfl
        refine pure_ (i := 16) (N := (some 39)) (v := ?_) (a' := ?_) #[true, true, true, true, true, true, true, true, true, true, true, true, true, true, true, true, true, false, false] rfl rfl (by kernel_rfl) (fun _ _ _ h => h) (Or.inl ⟨by rfl, ?_⟩) ?_ ?_
        rotate_left
        · intro w'
          go_simp
          with_reducible rfl
        rotate_left
        · simp only [Act.put, List.setIfInBounds_toArray, List.set_cons_zero, List.set_cons_succ]
          rfl
        refine pure_ (i := 17) (N := (some 40)) (v := ?_) (a' := ?_) #[true, true, true, true, true, true, true, true, true, true, true, true, true, true, true, true, true, true, false] rfl rfl (by kernel_rfl) (fun _ _ _ h => h) (Or.inl ⟨by rfl, ?_⟩) ?_ ?_
        rotate_left
        · intro w'
          go_simp
          with_reducible rfl
        rotate_left
        · simp only [Act.put, List.setIfInBounds_toArray, List.set_cons_zero, List.set_cons_succ]
          rfl
        refine last_ (i := 18) (N := none) #[true, true, true, true, true, true, true, true, true, true, true, true, true, true, true, true, true, true, true] rfl rfl (by kernel_rfl) (by decide) (fun K hK => ?_)
        refine stM (v := .bool (decide (R'.exK ∈ seen))) (by rfl) rfl rfl rfl (H4.out.below HS.out).ft sz4 rfl rfl rfl (by simp) ?_
        intro w7 h7 b7 k7
        have kf7 := (Kf.of_below (r := r) (f := f) (H4.out.wsz HL.out) HS.out).trans (Kf.of_keep (r := r) (.inr rfl) (b7 _ HL.out) k7)
        have HT7 : R'.exT seen = (decide (R'.exK ∈ seen)) := by unfold Rp.exT; rw [ht]; exact Bool.false_or _
        have H7 := Aside0.mk (show RS w7 r f (R'.exP seen) from ⟨(k7.2 r (blk_lt (H4.out.below HS.out).rd) H4.out.ne (by simp)).trans (H4.out.below HS.out).rd, by show w7.heap[f]? = some (.cells #[.int .i64 (R'.exB.outR 2).c, .bool (R'.exT seen)] 90 (0, 0)); rw [HT7]; exact h7⟩)
        have I7 := Aside0.mk (show RS w7 r2 f (R'.exI seen) from ⟨(k7.2 r2 (blk_lt (I4.out.below HS.out).rd) I4.out.ne (by simp)).trans (I4.out.below HS.out).rd, H7.out.ft⟩)
        have V7 := Mov.of_kf H4.out kf7
        have M7 := Aside0.mk (M4.out.kf H4.out kf7)
        have R7 := Aside0.mk (V7.row R4.out not3)
        have Y7 := Aside0.mk (V7.set Y4.out)
        have K7 := Aside0.mk (K4.out.trans (Kg.of_kf kf7))
        clear h7 b7 k7 kf7 HT7 V7
        refine hK.out _ _ ?_
        clear hK K
        refine done_ (by kernel_rfl) ?_
        go_wp2_with (first
            | (at_mapUpdate; refine Kd.Y_put (Kd.int .i64) (w0 := w7) w.heap.size 3 rfl 68 _ _ _ rfl Try.underlying68 Try.underlying3 Try.underlying4 vm seen R'.exK (ok := fun _ => True) rfl rfl rfl HWF.out (by have := Bi.out.2.1; simp only [maxLen]; omega) Y7.out (Below.refl _ _) K7.out.below.size ?_; intro w8 ho8 hb8 hm8; have M8 := Aside0.mk (M7.out.map hm8); have R8 := Aside0.mk (Kd.R_map R7.out hm8); have Y8 := Aside0.mk ho8; have H8 := Aside0.mk (show RS w8 r f (R'.exP seen) from H7.out.map hm8); have I8 := Aside0.mk (show RS w8 r2 f (R'.exI seen) from I7.out.map hm8); have K8 := Aside0.mk (K7.out.over hb8 HLW.out (Nat.le_refl _)); clear ho8 hb8 hm8)
            | ((refine (HT.out.calls (fun j => some j ≠ u6.ownBlock) R'.exK m' (R'.exP seen) (R'.exI seen) r2 _ K8.out HN.out H8.out I8.out (Oi.out.exI seen) M8.out (R_lt R8.out)).mono ?_); rintro e9 w9 ⟨rfl, i9, m9, j9, k9⟩; have V_ := Mov.of_kh H8.out I8.out M8.out k9; have M9 := Aside0.mk m9; have R9 := Aside0.mk (V_.row R8.out not3'); have Y9 := Aside0.mk (V_.set Y8.out); have I9 := Aside0.mk i9; have H9 := Aside0.mk (show RS w9 r f (exQ take lastf R' seen m') from j9); have K9 := Aside0.mk (Kh.inner K8.out HN.out k9); clear i9 m9 j9 k9 V_)
            | (go_at_call 77; (with_reducible refine (done_c lo r2 f (exX take R' seen m').2.2 _ HL.out I9.out).mono ?_); rintro e10 w10 ⟨rfl, i10, k10⟩; have V10_ := Mov.of_kf I9.out k10; have M10 := Aside0.mk (M9.out.kf I9.out k10); have R10 := Aside0.mk (V10_.row R9.out not3); have Y10 := Aside0.mk (V10_.set Y9.out); clear V10_; have H10 := Aside0.mk (show RS w10 r f ((exQ take lastf R' seen m').back (exX take R' seen m').2.2.done) from H9.out.back (I := R') HNE.out k10 i10); have K10 := Aside0.mk (Kg.inner K9.out HN.out (Kg.of_kf k10)); clear i10 k10))
        go_roundg gk'
        case rel => exact ⟨xs, (exX take R' seen m').2.1, exN take lastf R' seen m', seen ++ [R'.exK], ⟨by unfold exN; rw [if_pos HX.out]; exact H10.out⟩, O3, M10, R10, Y10, K10, ⟨B3.out.1, B3.out.2.1, by have := B3.out.2.2; omega⟩, ⟨by rw [← E3.out.1]; unfold exO; rw [if_pos HX.out]; simp, E3.out.2⟩⟩
        case measure => omega
      · replace hx : (exX take R' seen m').1 = false := by simpa using hx
        have HX := Aside0.mk hx
        by_cases hc : (exQ take lastf R' seen m').c = 0
        · have hc' : ((exQ take lastf R' seen m').c == 0) = true := beq_iff_eq.mpr hc
          have HC := Aside0.mk hc
          clear hc
          unfold exX at hx
          go_wp2_with (first
              | (go_at_call 99; (with_reducible refine (more_c r f R' _ Hi.out).mono ?_); rintro e1 w1 ⟨rfl, b1⟩; have V_ := Mov.of_below b1 []; have H1 := Aside0.mk (show RS w1 r f R' from Hi.out.below b1); have M1 := Aside0.mk (Mi.out.below b1); have R1 := Aside0.mk (V_.row Ri.out not3''); have Y1 := Aside0.mk (V_.set Yi.out); have K1 := Aside0.mk (Ki.out.over (b1.mono HBi.out) HLW.out (Nat.le_refl _)); clear b1 V_)
              | ((with_reducible refine gate_dst (N := 16) rfl ?_); refine ld (v := .bool R'.l) rfl rfl rfl H1.out.rd Try.underlying4 rfl rfl ?_)
              | (go_at_call 76; (with_reducible refine (allow_c lo r f R' _ (!R'.l) HL.out H1.out).mono ?_); rintro e2 w2 ⟨rfl, i2, k2⟩; have V2_ := Mov.of_kf H1.out k2; have M2 := Aside0.mk (M1.out.kf H1.out k2); have R2 := Aside0.mk (V2_.row R1.out not3); have Y2 := Aside0.mk (V2_.set Y1.out); clear V2_; have H2 := Aside0.mk (show RS w2 r f R'.exA from i2); have K2 := Aside0.mk (K1.out.trans (Kg.of_kf k2)); clear i2 k2)
              | (go_at_call 70; (with_reducible refine (exK_c lo r f R' _ HL.out HL2.out H2.out Oi.out).mono ?_); rintro e3 w3 ⟨rfl, i3, k3⟩; have V3_ := Mov.of_kf H2.out k3; have M3 := Aside0.mk (M2.out.kf H2.out k3); have R3 := Aside0.mk (V3_.row R2.out not3); have Y3 := Aside0.mk (V3_.set Y2.out); clear V3_; have H3 := Aside0.mk i3; have K3 := Aside0.mk (K2.out.trans (Kg.of_kf k3)); clear i3 k3)
              | (go_at_call 66; (with_reducible refine (rwithin_c lo r f R'.exB _ 2 2 rfl (by omega) (by omega) HL.out HL2.out H3.out Oi.out.exB).mono ?_); rintro e4 w4 ⟨r2, rfl, n4, i4, j4, k4⟩; have V4_ := Mov.of_kf H3.out k4; have M4 := Aside0.mk (M3.out.kf H3.out k4); have R4 := Aside0.mk (V4_.row R3.out not3); have Y4 := Aside0.mk (V4_.set Y3.out); clear V4_; have HN := Aside0.mk (Nat.le_trans K3.out.below.size n4); have H4 := Aside0.mk i4; have I4 := Aside0.mk j4; have K4 := Aside0.mk (K3.out.trans (Kg.of_kf k4)); have HNE := Aside0.mk (show r ≠ r2 from by have := H3.out.sz; omega); have HL3 := Aside0.mk (show lo ≤ r2 from Nat.le_trans (H3.out.wsz HL.out) n4); clear n4 i4 j4 k4))
          refine start_ (n := 19) (S := fun w' => Below w4.heap.size w4 w') (ds := [18]) #[false, false, false, false, false, false, false, false, false, false, false, false, false, false, false, false, false, false, false] (by kernel_rfl) rfl rfl (Below.refl w4.heap.size w4).drew (fun hHeld => ?_)
          have HS := Aside0.mk (Below.refl w4.heap.size w4).drew
          generalize w4.drew = w5 at HS hHeld ⊢
          refine pure_ (i := 0) (N := (some 23)) (v := ?_) (a' := ?_) #[true, false, false, false, false, false, false, false, false, false, false, false, false, false, false, false, false, false, false] rfl rfl (by kernel_rfl) (fun _ _ _ h => h) (Or.inl ⟨by rfl, ?_⟩) ?_ ?_
          rotate_left
          · intro w'
            go_simp
            with_reducible rfl
          rotate_left
          · simp only [Act.put, List.setIfInBounds_toArray, List.set_cons_zero, List.set_cons_succ]
            rfl
          refine pure_ (i := 1) (N := (some 24)) (v := ?_) (a' := ?_) #[true, true, false, false, false, false, false, false, false, false, false, false, false, false, false, false, false, false, false] rfl rfl (by kernel_rfl) (fun _ _ _ h => h) (Or.inl ⟨by rfl, ?_⟩) ?_ ?_
          rotate_left
          · intro w'
            go_simp
            with_reducible rfl
          rotate_left
          · simp only [Act.put, List.setIfInBounds_toArray, List.set_cons_zero, List.set_cons_succ]
            rfl
          refine pure_ (i := 2) (N := (some 25)) (v := ?_) (a' := ?_) #[true, true, true, false, false, false, false, false, false, false, false, false, false, false, false, false, false, false, false] rfl rfl (by kernel_rfl) (fun _ _ _ h => h) (Or.inl ⟨by rfl, ?_⟩) ?_ ?_
          rotate_left
          · intro w'
            go_simp
            with_reducible rfl
          rotate_left
          · simp only [Act.put, List.setIfInBounds_toArray, List.set_cons_zero, List.set_cons_succ]
            rfl
          refine take_ (i := 3) (N := (some 26)) (v := ?_) (a' := ?_) #[true, true, true, true, false, false, false, false, false, false, false, false, false, false, false, false, false, false, false] rfl rfl (by kernel_rfl) (fun _ _ _ h => h) (Or.inl ⟨by rfl, ?_⟩) hHeld ?_ ?_
          rotate_left
          · rintro w' hS
            have hq := rcell H4.out.rd hS
            obtain ⟨hc1, hc2, hc3⟩ := hq
            go_simp
            with_reducible rfl
          rotate_left
          · simp only [Act.put, List.setIfInBounds_toArray, List.set_cons_zero, List.set_cons_succ]
            rfl
          refine pure_ (i := 4) (N := (some 27)) (v := ?_) (a' := ?_) #[true, true, true, true, true, false, false, false, false, false, false, false, false, false, false, false, false, false, false] rfl rfl (by kernel_rfl) (fun _ _ _ h => h) (Or.inl ⟨by rfl, ?_⟩) ?_ ?_
          rotate_left
          · intro w'
            go_simp
            with_reducible rfl
          rotate_left
          · simp only [Act.put, List.setIfInBounds_toArray, List.set_cons_zero, List.set_cons_succ]
            rfl
          refine pure_ (i := 5) (N := (some 28)) (v := ?_) (a' := ?_) #[true, true, true, true, true, true, false, false, false, false, false, false, false, false, false, false, false, false, false] rfl rfl (by kernel_rfl) (fun _ _ _ h => h) (Or.inl ⟨by rfl, ?_⟩) ?_ ?_
          rotate_left
          · intro w'
            go_simp
            with_reducible rfl
          rotate_left
          · simp only [Act.put, List.setIfInBounds_toArray, List.set_cons_zero, List.set_cons_succ]
            rfl
          refine pure_ (i := 6) (N := (some 29)) (v := ?_) (a' := ?_) #[true, true, true, true, true, true, true, false, false, false, false, false, false, false, false, false, false, false, false] rfl rfl (by kernel_rfl) (fun _ _ _ h => h) (Or.inl ⟨by rfl, ?_⟩) ?_ ?_
          rotate_left
          · intro w'
            go_simp
            with_reducible rfl
          rotate_left
          · simp only [Act.put, List.setIfInBounds_toArray, List.set_cons_zero, List.set_cons_succ]
            rfl
          refine take_ (i := 7) (N := (some 30)) (v := ?_) (a' := ?_) #[true, true, true, true, true, true, true, true, false, false, false, false, false, false, false, false, false, false, false] rfl rfl (by kernel_rfl) (fun _ _ _ h => h) (Or.inl ⟨by rfl, ?_⟩) hHeld ?_ ?_
          rotate_left
          · rintro w' hS
            have hq := rcell H4.out.rd hS
            obtain ⟨hc1, hc2, hc3⟩ := hq
            go_simp
            with_reducible rfl
          rotate_left
          · simp only [Act.put, List.setIfInBounds_toArray, List.set_cons_zero, List.set_cons_succ]
            rfl
          refine pure_ (i := 8) (N := (some 31)) (v := ?_) (a' := ?_) #[true, true, true, true, true, true, true, true, true, false, false, false, false, false, false, false, false, false, false] rfl rfl (by kernel_rfl) (fun _ _ _ h => h) (Or.inl ⟨by rfl, ?_⟩) ?_ ?_
          rotate_left
          · intro w'
            go_simp
            with_reducible rfl
          rotate_left
          · simp only [Act.put, List.setIfInBounds_toArray, List.set_cons_zero, List.set_cons_succ]
            rfl
          refine pure_ (i := 9) (N := (some 32)) (v := ?_) (a' := ?_) #[true, true, true, true, true, true, true, true, true, true, false, false, false, false, false, false, false, false, false] rfl rfl (by kernel_rfl) (fun _ _ _ h => h) (Or.inl ⟨by rfl, ?_⟩) ?_ ?_
          rotate_left
          · intro w'
            go_simp
            with_reducible rfl
          rotate_left
          · simp only [Act.put, List.setIfInBounds_toArray, List.set_cons_zero, List.set_cons_succ]
            rfl
          refine take_ (i := 10) (N := (some 33)) (v := ?_) (a' := ?_) #[true, true, true, true, true, true, true, true, true, true, true, false, false, false, false, false, false, false, false] rfl rfl (by kernel_rfl) (fun _ _ _ h => h) (Or.inl ⟨by rfl, ?_⟩) hHeld ?_ ?_
          rotate_left
          · rintro w' hS
            have hc4 : w'.cell? ⟨f, 1, none⟩ = some (.bool R'.t) := (blk_cell ((hS.block f (blk_lt H4.out.ft)).trans H4.out.ft) 1).trans rfl
            go_simp
            with_reducible rfl
          rotate_left
          · simp only [Act.put, List.setIfInBounds_toArray, List.set_cons_zero, List.set_cons_succ]
            rfl
          refine pure_ (i := 11) (N := (some 34)) (v := ?_) (a' := ?_) #[true, true, true, true, true, true, true, true, true, true, true, true, false, false, false, false, false, false, false] rfl rfl (by kernel_rfl) (fun _ _ _ h => h) (Or.inl ⟨by rfl, ?_⟩) ?_ ?_
          rotate_left
          · intro w'
            go_simp
            with_reducible rfl
          rotate_left
          · simp only [Act.put, List.setIfInBounds_toArray, List.set_cons_zero, List.set_cons_succ]
            rfl
          refine pure_ (i := 12) (N := (some 35)) (v := ?_) (a' := ?_) #[true, true, true, true, true, true, true, true, true, true, true, true, true, false, false, false, false, false, false] rfl rfl (by kernel_rfl) (fun _ _ _ h => h) (Or.inl ⟨by rfl, ?_⟩) ?_ ?_
          rotate_left
          · intro w'
            go_simp
            with_reducible rfl
          rotate_left
          · simp only [Act.put, List.setIfInBounds_toArray, List.set_cons_zero, List.set_cons_succ]
            rfl
          refine pure_ (i := 13) (N := (some 36)) (v := ?_) (a' := ?_) #[true, true, true, true, true, true, true, true, true, true, true, true, true, true, false, false, false, false, false] rfl rfl (by kernel_rfl) (fun _ _ _ h => h) (Or.inl ⟨by rfl, ?_⟩) ?_ ?_
          rotate_left
          · intro w'
            go_simp
            with_reducible rfl
          rotate_left
          · simp only [Act.put, List.setIfInBounds_toArray, List.set_cons_zero, List.set_cons_succ]
            rfl
          refine take_ (i := 14) (N := (some 37)) (v := .bool (decide (R'.exK ∈ seen))) (a' := ?_) #[true, true, true, true, true, true, true, true, true, true, true, true, true, true, true, false, false, false, false] rfl rfl (by kernel_rfl) (fun _ _ _ h => h) (Or.inl ⟨by rfl, ?_⟩) hHeld ?_ ?_
          · rintro w' hS
            exact Y_exec (d := Kd.int .i64) (v := vm) (k := R'.exK) (base := w.heap.size) (ok := fun _ => True) (xs := seen) rfl rfl rfl HWF.out (Kd.Y_below Y4.out hS)
          rotate_left
          · simp only [Act.put, List.setIfInBounds_toArray, List.set_cons_zero, List.set_cons_succ]
            rfl
          refine pure_ (i := 15) (N := (some 38)) (v := ?_) (a' := ?_) #[true, true, true, true, true, true, true, true, true, true, true, true, true, true, true, true, false, false, false] rfl rfl (by kernel_rfl) (fun _ _ _ h => h) (Or.inl ⟨by rfl, ?_⟩) ?_ ?_
          rotate_left
          · intro w'
            go_simp
            with_reducible rfl
          rotate_left
          · simp only [Act.put, List.setIfInBounds_toArray, List.set_cons_zero, List.set_cons_succ]
            rfl
          refine pure_ (i := 16) (N := (some 39)) (v := ?_) (a' := ?_) #[true, true, true, true, true, true, true, true, true, true, true, true, true, true, true, true, true, false, false] rfl rfl (by kernel_rfl) (fun _ _ _ h => h) (Or.inl ⟨by rfl, ?_⟩) ?_ ?_
          rotate_left
          · intro w'
            go_simp
            with_reducible rfl
          rotate_left
          · simp only [Act.put, List.setIfInBounds_toArray, List.set_cons_zero, List.set_cons_succ]
            rfl
          refine pure_ (i := 17) (N := (some 40)) (v := ?_) (a' := ?_) #[true, true, true, true, true, true, true, true, true, true, true, true, true, true, true, true, true, true, false] rfl rfl (by kernel_rfl) (fun _ _ _ h => h) (Or.inl ⟨by rfl, ?_⟩) ?_ ?_
          rotate_left
          · intro w'
            go_simp
            with_reducible rfl
          rotate_left
          · simp only [Act.put, List.setIfInBounds_toArray, List.set_cons_zero, List.set_cons_succ]
            rfl
          refine last_ (i := 18) (N := none) #[true, true, true, true, true, true, true, true, true, true, true, true, true, true, true, true, true, true, true] rfl rfl (by kernel_rfl) (by decide) (fun K hK => ?_)
          refine stM (v := .bool (decide (R'.exK ∈ seen))) (by rfl) rfl rfl rfl (H4.out.below HS.out).ft sz4 rfl rfl rfl (by simp) ?_
          intro w7 h7 b7 k7
          have kf7 := (Kf.of_below (r := r) (f := f) (H4.out.wsz HL.out) HS.out).trans (Kf.of_keep (r := r) (.inr rfl) (b7 _ HL.out) k7)
          have HT7 : R'.exT seen = (decide (R'.exK ∈ seen)) := by unfold Rp.exT; rw [ht]; exact Bool.false_or _
          have H7 := Aside0.mk (show RS w7 r f (R'.exP seen) from ⟨(k7.2 r (blk_lt (H4.out.below HS.out).rd) H4.out.ne (by simp)).trans (H4.out.below HS.out).rd, by show w7.heap[f]? = some (.cells #[.int .i64 (R'.exB.outR 2).c, .bool (R'.exT seen)] 90 (0, 0)); rw [HT7]; exact h7⟩)
          have I7 := Aside0.mk (show RS w7 r2 f (R'.exI seen) from ⟨(k7.2 r2 (blk_lt (I4.out.below HS.out).rd) I4.out.ne (by simp)).trans (I4.out.below HS.out).rd, H7.out.ft⟩)
          have V7 := Mov.of_kf H4.out kf7
          have M7 := Aside0.mk (M4.out.kf H4.out kf7)
          have R7 := Aside0.mk (V7.row R4.out not3)
          have Y7 := Aside0.mk (V7.set Y4.out)
          have K7 := Aside0.mk (K4.out.trans (Kg.of_kf kf7))
          clear h7 b7 k7 kf7 HT7 V7
          refine hK.out _ _ ?_
          clear hK K
          refine done_ (by kernel_rfl) ?_
          go_wp2_with (first
              | (at_mapUpdate; refine Kd.Y_put (Kd.int .i64) (w0 := w7) w.heap.size 3 rfl 68 _ _ _ rfl Try.underlying68 Try.underlying3 Try.underlying4 vm seen R'.exK (ok := fun _ => True) rfl rfl rfl HWF.out (by have := Bi.out.2.1; simp only [maxLen]; omega) Y7.out (Below.refl _ _) K7.out.below.size ?_; intro w8 ho8 hb8 hm8; have M8 := Aside0.mk (M7.out.map hm8); have R8 := Aside0.mk (Kd.R_map R7.out hm8); have Y8 := Aside0.mk ho8; have H8 := Aside0.mk (show RS w8 r f (R'.exP seen) from H7.out.map hm8); have I8 := Aside0.mk (show RS w8 r2 f (R'.exI seen) from I7.out.map hm8); have K8 := Aside0.mk (K7.out.over hb8 HLW.out (Nat.le_refl _)); clear ho8 hb8 hm8)
              | ((refine (HT.out.calls (fun j => some j ≠ u6.ownBlock) R'.exK m' (R'.exP seen) (R'.exI seen) r2 _ K8.out HN.out H8.out I8.out (Oi.out.exI seen) M8.out (R_lt R8.out)).mono ?_); rintro e9 w9 ⟨rfl, i9, m9, j9, k9⟩; have V_ := Mov.of_kh H8.out I8.out M8.out k9; have M9 := Aside0.mk m9; have R9 := Aside0.mk (V_.row R8.out not3'); have Y9 := Aside0.mk (V_.set Y8.out); have I9 := Aside0.mk i9; have H9 := Aside0.mk (show RS w9 r f (exQ take lastf R' seen m') from j9); have K9 := Aside0.mk (Kh.inner K8.out HN.out k9); clear i9 m9 j9 k9 V_)
              | (go_at_call 51; (with_reducible refine (ok_c r f (exQ take lastf R' seen m') _ H9.out).mono ?_); rintro e10 w10 ⟨rfl, rfl⟩)
              | ((with_reducible refine gate_builtin (b := .append) (xs := #[.tmp 51, .tmp 53]) rfl ?_); at_builtin; refine Kd.R_append (Kd.int .i64) (w0 := w10) w.heap.size rfl (.tmp 51) (.tmp 53) 44 3 (.int .i64 0) 8 rfl Try.underlying44 info3 rfl (by decide) (by omega) u6 xs R'.exK [.int .i64 R'.exK] (fun _ => True) (fun _ => False) rfl rfl rfl (fun _ hk => hk.elim) (fun _ _ => trivial) R9.out (Below.refl _ _) K9.out.below.size (len_bd Bi.out.2.2 (mu_pos Oi.out.lo HMo.out) (by omega)) ?_; intro v11 w11 ho11 hb11 hg11 hat11; have M11 := Aside0.mk (M9.out.app R9.out hg11 hat11); have R11 := Aside0.mk ho11; have Y11 := Aside0.mk (Y_app Y9.out R9.out hg11); have H11 := Aside0.mk (show RS w11 r f (exQ take lastf R' seen m') from H9.out.app R9.out hg11); have K11 := Aside0.mk (K9.out.over hb11 HLW.out (Nat.le_refl _)); clear ho11 hb11 hg11 hat11))
          go_roundg gk'
          case rel => exact ⟨xs ++ [R'.exK], (exX take R' seen m').2.1, exN take lastf R' seen m', seen ++ [R'.exK], ⟨by unfold exN; rw [if_neg (by rw [HX.out]; decide)]; exact H11.out⟩, O3, M11, R11, Y11, K11, ⟨B3.out.1, B3.out.2.1, by have := B3.out.2.2; rw [List.length_append, List.length_singleton]; omega⟩, ⟨by rw [← E3.out.1]; unfold exO; rw [if_neg (by rw [HX.out]; decide), if_pos HC.out]; simp, E3.out.2⟩⟩
          case measure => omega
        · have hc' : ((exQ take lastf R' seen m').c == 0) = false := beq_eq_false_iff_ne.mpr hc
          have HC := Aside0.mk hc
          clear hc
          unfold exX at hx
          go_wp2_with (first
              | (go_at_call 99; (with_reducible refine (more_c r f R' _ Hi.out).mono ?_); rintro e1 w1 ⟨rfl, b1⟩; have V_ := Mov.of_below b1 []; have H1 := Aside0.mk (show RS w1 r f R' from Hi.out.below b1); have M1 := Aside0.mk (Mi.out.below b1); have R1 := Aside0.mk (V_.row Ri.out not3''); have Y1 := Aside0.mk (V_.set Yi.out); have K1 := Aside0.mk (Ki.out.over (b1.mono HBi.out) HLW.out (Nat.le_refl _)); clear b1 V_)
              | ((with_reducible refine gate_dst (N := 16) rfl ?_); refine ld (v := .bool R'.l) rfl rfl rfl H1.out.rd Try.underlying4 rfl rfl ?_)
              | (go_at_call 76; (with_reducible refine (allow_c lo r f R' _ (!R'.l) HL.out H1.out).mono ?_); rintro e2 w2 ⟨rfl, i2, k2⟩; have V2_ := Mov.of_kf H1.out k2; have M2 := Aside0.mk (M1.out.kf H1.out k2); have R2 := Aside0.mk (V2_.row R1.out not3); have Y2 := Aside0.mk (V2_.set Y1.out); clear V2_; have H2 := Aside0.mk (show RS w2 r f R'.exA from i2); have K2 := Aside0.mk (K1.out.trans (Kg.of_kf k2)); clear i2 k2)
              | (go_at_call 70; (with_reducible refine (exK_c lo r f R' _ HL.out HL2.out H2.out Oi.out).mono ?_); rintro e3 w3 ⟨rfl, i3, k3⟩; have V3_ := Mov.of_kf H2.out k3; have M3 := Aside0.mk (M2.out.kf H2.out k3); have R3 := Aside0.mk (V3_.row R2.out not3); have Y3 := Aside0.mk (V3_.set Y2.out); clear V3_; have H3 := Aside0.mk i3; have K3 := Aside0.mk (K2.out.trans (Kg.of_kf k3)); clear i3 k3)
              | (go_at_call 66; (with_reducible refine (rwithin_c lo r f R'.exB _ 2 2 rfl (by omega) (by omega) HL.out HL2.out H3.out Oi.out.exB).mono ?_); rintro e4 w4 ⟨r2, rfl, n4, i4, j4, k4⟩; have V4_ := Mov.of_kf H3.out k4; have M4 := Aside0.mk (M3.out.kf H3.out k4); have R4 := Aside0.mk (V4_.row R3.out not3); have Y4 := Aside0.mk (V4_.set Y3.out); clear V4_; have HN := Aside0.mk (Nat.le_trans K3.out.below.size n4); have H4 := Aside0.mk i4; have I4 := Aside0.mk j4; have K4 := Aside0.mk (K3.out.trans (Kg.of_kf k4)); have HNE := Aside0.mk (show r ≠ r2 from by have := H3.out.sz; omega); have HL3 := Aside0.mk (show lo ≤ r2 from Nat.le_trans (H3.out.wsz HL.out) n4); clear n4 i4 j4 k4))
          refine start_ (n := 19) (S := fun w' => Below w4.heap.size w4 w') (ds := [18]) #[false, false, false, false, false, false, false, false, false, false, false, false, false, false, false, false, false, false, false] (by kernel_rfl) rfl rfl (Below.refl w4.heap.size w4).drew (fun hHeld => ?_)
          have HS := Aside0.mk (Below.refl w4.heap.size w4).drew
          generalize w4.drew = w5 at HS hHeld ⊢
          refine pure_ (i := 0) (N := (some 23)) (v := ?_) (a' := ?_) #[true, false, false, false, false, false, false, false, false, false, false, false, false, false, false, false, false, false, false] rfl rfl (by kernel_rfl) (fun _ _ _ h => h) (Or.inl ⟨by rfl, ?_⟩) ?_ ?_
          rotate_left
          · intro w'
            go_simp
            with_reducible rfl
          rotate_left
          · simp only [Act.put, List.setIfInBounds_toArray, List.set_cons_zero, List.set_cons_succ]
            rfl
          refine pure_ (i := 1) (N := (some 24)) (v := ?_) (a' := ?_) #[true, true, false, false, false, false, false, false, false, false, false, false, false, false, false, false, false, false, false] rfl rfl (by kernel_rfl) (fun _ _ _ h => h) (Or.inl ⟨by rfl, ?_⟩) ?_ ?_
          rotate_left
          · intro w'
            go_simp
            with_reducible rfl
          rotate_left
          · simp only [Act.put, List.setIfInBounds_toArray, List.set_cons_zero, List.set_cons_succ]
            rfl
          refine pure_ (i := 2) (N := (some 25)) (v := ?_) (a' := ?_) #[true, true, true, false, false, false, false, false, false, false, false, false, false, false, false, false, false, false, false] rfl rfl (by kernel_rfl) (fun _ _ _ h => h) (Or.inl ⟨by rfl, ?_⟩) ?_ ?_
          rotate_left
          · intro w'
            go_simp
            with_reducible rfl
          rotate_left
          · simp only [Act.put, List.setIfInBounds_toArray, List.set_cons_zero, List.set_cons_succ]
            rfl
          refine take_ (i := 3) (N := (some 26)) (v := ?_) (a' := ?_) #[true, true, true, true, false, false, false, false, false, false, false, false, false, false, false, false, false, false, false] rfl rfl (by kernel_rfl) (fun _ _ _ h => h) (Or.inl ⟨by rfl, ?_⟩) hHeld ?_ ?_
          rotate_left
          · rintro w' hS
            have hq := rcell H4.out.rd hS
            obtain ⟨hc1, hc2, hc3⟩ := hq
            go_simp
            with_reducible rfl
          rotate_left
          · simp only [Act.put, List.setIfInBounds_toArray, List.set_cons_zero, List.set_cons_succ]
            rfl
          refine pure_ (i := 4) (N := (some 27)) (v := ?_) (a' := ?_) #[true, true, true, true, true, false, false, false, false, false, false, false, false, false, false, false, false, false, false] rfl rfl (by kernel_rfl) (fun _ _ _ h => h) (Or.inl ⟨by rfl, ?_⟩) ?_ ?_
          rotate_left
          · intro w'
            go_simp
            with_reducible rfl
          rotate_left
          · simp only [Act.put, List.setIfInBounds_toArray, List.set_cons_zero, List.set_cons_succ]
            rfl
          refine pure_ (i := 5) (N := (some 28)) (v := ?_) (a' := ?_) #[true, true, true, true, true, true, false, false, false, false, false, false, false, false, false, false, false, false, false] rfl rfl (by kernel_rfl) (fun _ _ _ h => h) (Or.inl ⟨by rfl, ?_⟩) ?_ ?_
          rotate_left
          · intro w'
            go_simp
            with_reducible rfl
          rotate_left
          · simp only [Act.put, List.setIfInBounds_toArray, List.set_cons_zero, List.set_cons_succ]
            rfl
          refine pure_ (i := 6) (N := (some 29)) (v := ?_) (a' := ?_) #[true, true, true, true, true, true, true, false, false, false, false, false, false, false, false, false, false, false, false] rfl rfl (by kernel_rfl) (fun _ _ _ h => h) (Or.inl ⟨by rfl, ?_⟩) ?_ ?_
          rotate_left
          · intro w'
            go_simp
            with_reducible rfl
          rotate_left
          · simp only [Act.put, List.setIfInBounds_toArray, List.set_cons_zero, List.set_cons_succ]
            rfl
          refine take_ (i := 7) (N := (some 30)) (v := ?_) (a' := ?_) #[true, true, true, true, true, true, true, true, false, false, false, false, false, false, false, false, false, false, false] rfl rfl (by kernel_rfl) (fun _ _ _ h => h) (Or.inl ⟨by rfl, ?_⟩) hHeld ?_ ?_
          rotate_left
          · rintro w' hS
            have hq := rcell H4.out.rd hS
            obtain ⟨hc1, hc2, hc3⟩ := hq
            go_simp
            with_reducible rfl
          rotate_left
          · simp only [Act.put, List.setIfInBounds_toArray, List.set_cons_zero, List.set_cons_succ]
            rfl
          refine pure_ (i := 8) (N := (some 31)) (v := ?_) (a' := ?_) #[true, true, true, true, true, true, true, true, true, false, false, false, false, false, false, false, false, false, false] rfl rfl (by kernel_rfl) (fun _ _ _ h => h) (Or.inl ⟨by rfl, ?_⟩) ?_ ?_
          rotate_left
          · intro w'
            go_simp
            with_reducible rfl
          rotate_left
          · simp only [Act.put, List.setIfInBounds_toArray, List.set_cons_zero, List.set_cons_succ]
            rfl
          refine pure_ (i := 9) (N := (some 32)) (v := ?_) (a' := ?_) #[true, true, true, true, true, true, true, true, true, true, false, false, false, false, false, false, false, false, false] rfl rfl (by kernel_rfl) (fun _ _ _ h => h) (Or.inl ⟨by rfl, ?_⟩) ?_ ?_
          rotate_left
          · intro w'
            go_simp
            with_reducible rfl
          rotate_left
          · simp only [Act.put, List.setIfInBounds_toArray, List.set_cons_zero, List.set_cons_succ]
            rfl
          refine take_ (i := 10) (N := (some 33)) (v := ?_) (a' := ?_) #[true, true, true, true, true, true, true, true, true, true, true, false, false, false, false, false, false, false, false] rfl rfl (by kernel_rfl) (fun _ _ _ h => h) (Or.inl ⟨by rfl, ?_⟩) hHeld ?_ ?_
          rotate_left
          · rintro w' hS
            have hc4 : w'.cell? ⟨f, 1, none⟩ = some (.bool R'.t) := (blk_cell ((hS.block f (blk_lt H4.out.ft)).trans H4.out.ft) 1).trans rfl
            go_simp
            with_reducible rfl
          rotate_left
          · simp only [Act.put, List.setIfInBounds_toArray, List.set_cons_zero, List.set_cons_succ]
            rfl
          refine pure_ (i := 11) (N := (some 34)) (v := ?_) (a' := ?_) #[true, true, true, true, true, true, true, true, true, true, true, true, false, false, false, false, false, false, false] rfl rfl (by kernel_rfl) (fun _ _ _ h => h) (Or.inl ⟨by rfl, ?_⟩) ?_ ?_
          rotate_left
          · intro w'
            go_simp
            with_reducible rfl
          rotate_left
          · simp only [Act.put, List.setIfInBounds_toArray, List.set_cons_zero, List.set_cons_succ]
            rfl
          refine pure_ (i := 12) (N := (some 35)) (v := ?_) (a' := ?_) #[true, true, true, true, true, true, true, true, true, true, true, true, true, false, false, false, false, false, false] rfl rfl (by kernel_rfl) (fun _ _ _ h => h) (Or.inl ⟨by rfl, ?_⟩) ?_ ?_
          rotate_left
          · intro w'
            go_simp
            with_reducible rfl
          rotate_left
          · simp only [Act.put, List.setIfInBounds_toArray, List.set_cons_zero, List.set_cons_succ]
            rfl
          refine pure_ (i := 13) (N := (some 36)) (v := ?_) (a' := ?_) #[true, true, true, true, true, true, true, true, true, true, true, true, true, true, false, false, false, false, false] rfl rfl (by kernel_rfl) (fun _ _ _ h => h) (Or.inl ⟨by rfl, ?_⟩) ?_ ?_
          rotate_left
          · intro w'
            go_simp
            with_reducible rfl
          rotate_left
          · simp only [Act.put, List.setIfInBounds_toArray, List.set_cons_zero, List.set_cons_succ]
            rfl
          refine take_ (i := 14) (N := (some 37)) (v := .bool (decide (R'.exK ∈ seen))) (a' := ?_) #[true, true, true, true, true, true, true, true, true, true, true, true, true, true, true, false, false, false, false] rfl rfl (by kernel_rfl) (fun _ _ _ h => h) (Or.inl ⟨by rfl, ?_⟩) hHeld ?_ ?_
          · rintro w' hS
            exact Y_exec (d := Kd.int .i64) (v := vm) (k := R'.exK) (base := w.heap.size) (ok := fun _ => True) (xs := seen) rfl rfl rfl HWF.out (Kd.Y_below Y4.out hS)
          rotate_left
          · simp only [Act.put, List.setIfInBounds_toArray, List.set_cons_zero, List.set_cons_succ]
            rfl
          refine pure_ (i := 15) (N := (some 38)) (v := ?_) (a' := ?_) #[true, true, true, true, true, true, true, true, true, true, true, true, true, true, true, true, false, false, false] rfl rfl (by kernel_rfl) (fun _ _ _ h => h) (Or.inl ⟨by rfl, ?_⟩) ?_ ?_
          rotate_left
          · intro w'
            go_simp
            with_reducible rfl
          rotate_left
          · simp only [Act.put, List.setIfInBounds_toArray, List.set_cons_zero, List.set_cons_succ]
            rfl
          refine pure_ (i := 16) (N := (some 39)) (v := ?_) (a' := ?_) #[true, true, true, true, true, true, true, true, true, true, true, true, true, true, true, true, true, false, false] rfl rfl (by kernel_rfl) (fun _ _ _ h => h) (Or.inl ⟨by rfl, ?_⟩) ?_ ?_
          rotate_left
          · intro w'
            go_simp
            with_reducible rfl
          rotate_left
          · simp only [Act.put, List.setIfInBounds_toArray, List.set_cons_zero, List.set_cons_succ]
            rfl
          refine pure_ (i := 17) (N := (some 40)) (v := ?_) (a' := ?_) #[true, true, true, true, true, true, true, true, true, true, true, true, true, true, true, true, true, true, false] rfl rfl (by kernel_rfl) (fun _ _ _ h => h) (Or.inl ⟨by rfl, ?_⟩) ?_ ?_
          rotate_left
          · intro w'
            go_simp
            with_reducible rfl
          rotate_left
          · simp only [Act.put, List.setIfInBounds_toArray, List.set_cons_zero, List.set_cons_succ]
            rfl
          refine last_ (i := 18) (N := none) #[true, true, true, true, true, true, true, true, true, true, true, true, true, true, true, true, true, true, true] rfl rfl (by kernel_rfl) (by decide) (fun K hK => ?_)
          refine stM (v := .bool (decide (R'.exK ∈ seen))) (by rfl) rfl rfl rfl (H4.out.below HS.out).ft sz4 rfl rfl rfl (by simp) ?_
          intro w7 h7 b7 k7
          have kf7 := (Kf.of_below (r := r) (f := f) (H4.out.wsz HL.out) HS.out).trans (Kf.of_keep (r := r) (.inr rfl) (b7 _ HL.out) k7)
          have HT7 : R'.exT seen = (decide (R'.exK ∈ seen)) := by unfold Rp.exT; rw [ht]; exact Bool.false_or _
          have H7 := Aside0.mk (show RS w7 r f (R'.exP seen) from ⟨(k7.2 r (blk_lt (H4.out.below HS.out).rd) H4.out.ne (by simp)).trans (H4.out.below HS.out).rd, by show w7.heap[f]? = some (.cells #[.int .i64 (R'.exB.outR 2).c, .bool (R'.exT seen)] 90 (0, 0)); rw [HT7]; exact h7⟩)
          have I7 := Aside0.mk (show RS w7 r2 f (R'.exI seen) from ⟨(k7.2 r2 (blk_lt (I4.out.below HS.out).rd) I4.out.ne (by simp)).trans (I4.out.below HS.out).rd, H7.out.ft⟩)
          have V7 := Mov.of_kf H4.out kf7
          have M7 := Aside0.mk (M4.out.kf H4.out kf7)
          have R7 := Aside0.mk (V7.row R4.out not3)
          have Y7 := Aside0.mk (V7.set Y4.out)
          have K7 := Aside0.mk (K4.out.trans (Kg.of_kf kf7))
          clear h7 b7 k7 kf7 HT7 V7
          refine hK.out _ _ ?_
          clear hK K
          refine done_ (by kernel_rfl) ?_
          go_wp2_with (first
              | (at_mapUpdate; refine Kd.Y_put (Kd.int .i64) (w0 := w7) w.heap.size 3 rfl 68 _ _ _ rfl Try.underlying68 Try.underlying3 Try.underlying4 vm seen R'.exK (ok := fun _ => True) rfl rfl rfl HWF.out (by have := Bi.out.2.1; simp only [maxLen]; omega) Y7.out (Below.refl _ _) K7.out.below.size ?_; intro w8 ho8 hb8 hm8; have M8 := Aside0.mk (M7.out.map hm8); have R8 := Aside0.mk (Kd.R_map R7.out hm8); have Y8 := Aside0.mk ho8; have H8 := Aside0.mk (show RS w8 r f (R'.exP seen) from H7.out.map hm8); have I8 := Aside0.mk (show RS w8 r2 f (R'.exI seen) from I7.out.map hm8); have K8 := Aside0.mk (K7.out.over hb8 HLW.out (Nat.le_refl _)); clear ho8 hb8 hm8)
              | ((refine (HT.out.calls (fun j => some j ≠ u6.ownBlock) R'.exK m' (R'.exP seen) (R'.exI seen) r2 _ K8.out HN.out H8.out I8.out (Oi.out.exI seen) M8.out (R_lt R8.out)).mono ?_); rintro e9 w9 ⟨rfl, i9, m9, j9, k9⟩; have V_ := Mov.of_kh H8.out I8.out M8.out k9; have M9 := Aside0.mk m9; have R9 := Aside0.mk (V_.row R8.out not3'); have Y9 := Aside0.mk (V_.set Y8.out); have I9 := Aside0.mk i9; have H9 := Aside0.mk (show RS w9 r f (exQ take lastf R' seen m') from j9); have K9 := Aside0.mk (Kh.inner K8.out HN.out k9); clear i9 m9 j9 k9 V_)
              | (go_at_call 51; (with_reducible refine (ok_c r f (exQ take lastf R' seen m') _ H9.out).mono ?_); rintro e10 w10 ⟨rfl, rfl⟩))
          go_roundg gk'
          case rel => exact ⟨xs, (exX take R' seen m').2.1, exN take lastf R' seen m', seen ++ [R'.exK], ⟨by unfold exN; rw [if_neg (by rw [HX.out]; decide)]; exact H9.out⟩, O3, M9, R9, Y9, K9, ⟨B3.out.1, B3.out.2.1, by have := B3.out.2.2; omega⟩, ⟨by rw [← E3.out.1]; unfold exO; rw [if_neg (by rw [HX.out]; decide), if_neg HC.out]; simp, E3.out.2⟩⟩
          case measure => omega
  · have hmf : R'.more = false := by simpa using hm
    have E1 := Aside0.mk (show xs = F.1 ∧ m' = F.2.1 ∧ R' = F.2.2 from by
      have h0 := Ei.out
      have h2 : exts take lastf gk seen m' R' = ([], m', R') := by
        cases gk with
        | zero => rfl
        | succ n => unfold exts; rw [if_neg hm]
      rw [h2] at h0
      exact ⟨by simpa using h0.1, congrArg Prod.fst h0.2, congrArg Prod.snd h0.2⟩)
    clear hm
    go_wp2_with (first
    | (go_at_call 99; (with_reducible refine (more_c r f R' _ Hi.out).mono ?_); rintro e1 w1 ⟨rfl, b1⟩; have V_ := Mov.of_below b1 []; have H1 := Aside0.mk (show RS w1 r f R' from Hi.out.below b1); have M1 := Aside0.mk (Mi.out.below b1); have R1 := Aside0.mk (V_.row Ri.out not3''); have Y1 := Aside0.mk (V_.set Yi.out); have K1 := Aside0.mk (Ki.out.over (b1.mono HBi.out) HLW.out (Nat.le_refl _)); clear b1 V_))
    go_ret
    exact ⟨u6, rfl, by rw [← E1.out.1]; exact Kd.R_lower R1.out (Nat.zero_le _), by rw [← E1.out.2.1]; exact M1.out.weaken (fun _ _ => trivial), by rw [← E1.out.2.2]; exact H1.out, K1.out⟩
end Go.Proofs.Ytlkebjkpmiehcaa.Ms
end
section
namespace Go.Proofs.Ytlkebjkpmiehcaa.Ms
open Go.RowKit Go.Proofs.YtlkebjkpmiehcaaW.PrintWords Go.Proofs.YtlkebjkpmiehcaaW.PrintLast Go.Proofs.YtlkebjkpmiehcaaW.PrintMore Go.Proofs.Ytlkebjkpmiehcaa.X
open Go.Proofs.Ytlkebjkpmiehcaa.Pure (nv numOf vecOf nv_bd nv_bd4 number_any vec_ok)
set_option linter.unusedVariables false
section
variable {ops : Array Oper} {rest : List Oper} {o : Oper} {a : Act} {Q : Exit → Act → World → Prop} {w : World}
theorem boxP {t : TypeId} (hgd : o.guard = none) {x : Operand} (ho : o.op = .box t x) {q : Option Addr} (hx : a.eval x = .pointer q)
    (H : ∀ g, g = w.heap.size → ∀ w1, w1.heap[g]? = some (.cells #[.pointer q] t (0, 0)) → Below w.heap.size w w1 → wpList Try.prog ops Q rest (a.put o.dst (.pointer (some ⟨g, 0, none⟩))) w1) : wpList Try.prog ops Q (o :: rest) a w := by
  refine Kd.event_run hgd ?_ (H _ rfl _ (blk_new w _) (below_alloc (Below.refl _ _) _))
  unfold execOp
  simp only [ho, hx]
  rfl
end
def Rp.ceR (R : Rp) : Rp := (R.vecR 1 0 255).allow ((R.vecV 1 0 255).toList.isEmpty)
def Rp.ceV (R : Rp) : List ByteArray := allV oneCer (R.ceR.inR 3)
def Rp.ceN (R : Rp) : Rp := (R.ceR.outR 3).back (allR oneCer (R.ceR.inR 3))
theorem Rp.Ok.ceR {R : Rp} (h : R.Ok) : R.ceR.Ok := (h.vecR _ _ _).allow _
theorem Rp.Ok.ceN {R : Rp} (h : R.Ok) : R.ceN.Ok := (h.ceR.outR 3).back _
def Rp.ti1 (R : Rp) : Rp := R.numR 4
def Rp.ti2 (R : Rp) : Rp := R.ti1.numR 4
def Rp.ti3 (R : Rp) : Rp := R.ti2.vecR 1 0 255
def Rp.ti4 (R : Rp) : Rp := R.ti3.vecR 2 1 65536
def Rp.tiM (R : Rp) (m : Mv) : Mv := { m with f17 := R.numV 4, f18 := R.ti1.numV 4, f19 := R.ti2.vecV 1 0 255, f16 := R.ti3.vecV 2 1 65536 }
theorem Rp.Ok.ti1 {R : Rp} (h : R.Ok) : R.ti1.Ok := h.numR 4
theorem Rp.Ok.ti2 {R : Rp} (h : R.Ok) : R.ti2.Ok := h.ti1.numR 4
theorem Rp.Ok.ti3 {R : Rp} (h : R.Ok) : R.ti3.Ok := h.ti2.vecR _ _ _
theorem Rp.Ok.ti4 {R : Rp} (h : R.Ok) : R.ti4.Ok := h.ti3.vecR _ _ _
def Rp.h1 (R : Rp) : Rp := R.verR
def Rp.h2 (R : Rp) : Rp := R.h1.bytR 32
def Rp.h3 (R : Rp) : Rp := R.h2.vecR 1 0 32
def Rp.hM (R : Rp) (m : Mv) : Mv := { m with f1 := R.h1.bytV 32, f2 := R.h2.vecV 1 0 32 }
def Rp.c4 (R : Rp) : Rp := lstR (oneNum 2) R.h3 2
def Rp.c5 (R : Rp) : Rp := R.c4.vecR 1 0 255
def Rp.c6 (R : Rp) : Rp := R.c5.allow ((R.c4.vecV 1 0 255).toList == ([0] : List UInt8))
def Rp.cM (R : Rp) (m : Mv) : Mv := { R.hM m with f3 := lstV (oneNum 2) R.h3 2 }
def Rp.cX (R : Rp) (m : Mv) : List Int × Mv × Rp := exts cli pskL (R.c6.inR 2).s.size [] (R.cM m) (R.c6.inR 2)
def Rp.chM (R : Rp) (m : Mv) : Mv := { (R.cX m).2.1 with f13 := (R.cX m).1 }
def Rp.chR (R : Rp) (m : Mv) : Rp := (R.c6.outR 2).back (R.cX m).2.2
def Rp.s4 (R : Rp) : Rp := R.h3.numR 2
def Rp.s5 (R : Rp) : Rp := R.s4.numR 1
def Rp.s6 (R : Rp) : Rp := R.s5.allow (R.s4.numV 1 == 0)
def Rp.sM (R : Rp) (m : Mv) : Mv := { R.hM m with f3 := [R.h3.numV 2] }
def Rp.sX (R : Rp) (m : Mv) : List Int × Mv × Rp := exts srv sameL (R.s6.inR 2).s.size [] (R.sM m) (R.s6.inR 2)
def Rp.shM (R : Rp) (m : Mv) : Mv := { (R.sX m).2.1 with f13 := (R.sX m).1 }
def Rp.shR (R : Rp) (m : Mv) : Rp := (R.s6.outR 2).back (R.sX m).2.2
theorem Rp.Ok.h1 {R : Rp} (h : R.Ok) : R.h1.Ok := h.verR
theorem Rp.Ok.h2 {R : Rp} (h : R.Ok) : R.h2.Ok := h.h1.bytR (by omega)
theorem Rp.Ok.h3 {R : Rp} (h : R.Ok) : R.h3.Ok := h.h2.vecR _ _ _
theorem Rp.Ok.c4 {R : Rp} (h : R.Ok) : R.c4.Ok := h.h3.lstR 2
theorem Rp.Ok.c5 {R : Rp} (h : R.Ok) : R.c5.Ok := h.c4.vecR _ _ _
theorem Rp.Ok.c6 {R : Rp} (h : R.Ok) : R.c6.Ok := h.c5.allow _
theorem Rp.Ok.chR {R : Rp} (h : R.Ok) (m : Mv) : (R.chR m).Ok := (h.c6.outR 2).back _
theorem Rp.Ok.s4 {R : Rp} (h : R.Ok) : R.s4.Ok := h.h3.numR _
theorem Rp.Ok.s5 {R : Rp} (h : R.Ok) : R.s5.Ok := h.s4.numR _
theorem Rp.Ok.s6 {R : Rp} (h : R.Ok) : R.s6.Ok := h.s5.allow _
theorem Rp.Ok.shR {R : Rp} (h : R.Ok) (m : Mv) : (R.shR m).Ok := (h.s6.outR 2).back _
set_option maxRecDepth 100000 in
set_option maxHeartbeats 8000000 in
theorem serverHello_c (lo r f gm : Nat) (R : Rp) (m : Mv) (w : World) (hl : lo ≤ f) (hl2 : lo ≤ r) (hg : lo ≤ gm) (h : RS w r f R) (ho : R.Ok) (hm : MO (fun _ => True) w gm m) :
    Calls Try.prog 65 #[.pointer (some ⟨r, 0, none⟩), .pointer (some ⟨gm, 0, none⟩)] w fun ex w' => ex = .returned (.tuple #[]) ∧ RS w' r f (R.shR m) ∧ MO (fun _ => True) w' gm (R.shM m) ∧ Kg lo r f gm w w' := by
  have H := Aside0.mk h
  have HL := Aside0.mk hl
  have HL2 := Aside0.mk hl2
  have HG := Aside0.mk hg
  have HO := Aside0.mk ho
  have HWL := Aside0.mk (h.wsz hl)
  have M := Aside0.mk hm
  have K := Aside0.mk (Kg.of_kf (g := gm) (Kf.refl lo r f w))
  clear h hl hl2 hg ho hm
  go_enter Try.func65, Try.ntmps65
  go_wp2_with (first
    | ((with_reducible refine gate_dst (N := 3) rfl ?_); refine boxP rfl rfl rfl ?_; intro gb eb w0 h0_ b0_; have X0 := Aside0.mk h0_; have H0 := Aside0.mk (show RS w0 r f R from H.out.below b0_); have M0 := Aside0.mk (M.out.below b0_); have K0 := Aside0.mk (K.out.trans (Kg.of_kf (Kf.of_below (r := r) (f := f) HWL.out b0_))); clear h0_ b0_ eb)
    | (go_at_call 93; (with_reducible refine (version_c lo r f R _ HL.out HL2.out H0.out HO.out).mono ?_); rintro e1 w1 ⟨rfl, i1, k1⟩; have X1 := Aside0.mk (k1.keep gb _ X0.out (blk_ne X0.out H0.out.rd (by decide)) (blk_ne X0.out H0.out.ft (by decide))); have M1 := Aside0.mk (M0.out.kf H0.out k1); have H1 := Aside0.mk (show RS w1 r f R.h1 from i1); have K1 := Aside0.mk (K0.out.trans (Kg.of_kf k1)); clear i1 k1))
  refine start_ (n := 6) (S := fun w' => w'.heap[gb]? = some (.cells #[.pointer (some ⟨gm, 0, none⟩)] 85 (0, 0))) (ds := [5]) #[false, false, false, false, false, false] (by kernel_rfl) rfl rfl (((Below.refl w1.heap.size w1).drew.block gb (blk_lt X1.out)).trans X1.out) (fun hHeld => ?_)
  have HS1 := Aside0.mk (Below.refl w1.heap.size w1).drew
  generalize w1.drew = w1d at HS1 hHeld ⊢
  have XD1 := Aside0.mk hHeld
  have HD1 := Aside0.mk (H1.out.below HS1.out)
  have MD1 := Aside0.mk (M1.out.below HS1.out)
  have KD1 := Aside0.mk (K1.out.trans (Kg.of_kf (Kf.of_below (r := r) (f := f) (H1.out.wsz HL.out) HS1.out)))
  refine take_ (i := 0) (N := (some 7)) (v := ?_) (a' := ?_) #[true, false, false, false, false, false] rfl rfl (by kernel_rfl) (fun _ _ _ h => h) (Or.inl ⟨by rfl, ?_⟩) hHeld ?_ ?_
  rotate_left
  · rintro w' hS
    have hc : w'.cell? ⟨gb, 0, none⟩ = some (.pointer (some ⟨gm, 0, none⟩)) := (blk_cell hS 0).trans rfl
    go_simp
    with_reducible rfl
  rotate_left
  · simp only [Act.put, List.setIfInBounds_toArray, List.set_cons_zero, List.set_cons_succ]
    rfl
  refine pure_ (i := 1) (N := (some 8)) (v := ?_) (a' := ?_) #[true, true, false, false, false, false] rfl rfl (by kernel_rfl) (fun _ _ _ h => h) (Or.inl ⟨by rfl, ?_⟩) ?_ ?_
  rotate_left
  · intro w'
    go_simp
    with_reducible rfl
  rotate_left
  · simp only [Act.put, List.setIfInBounds_toArray, List.set_cons_zero, List.set_cons_succ]
    rfl
  refine one_ (i := 2) (N := (some 9)) #[true, true, true, false, false, false] rfl rfl (by kernel_rfl) (by decide) (fun K hK => ?_)
  refine goes_ (f := 73) Try.func73 (by kernel_rfl) rfl #[.pointer (some ⟨r, 0, none⟩), .int .i64 32] (by rfl) rfl rfl (by (try simp only [List.map_toArray, List.map_cons, List.map_nil]); first | done | rfl) ?_
  refine (bytes_c lo r f R.h1 _ 32 (by omega) (by omega) HL.out HL2.out HD1.out HO.out.h1).mono ?_
  rintro e w1c ⟨rfl, i_, k_⟩
  refine ⟨_, rfl, ?_⟩
  have XC1 := Aside0.mk (k_.keep gb _ XD1.out (blk_ne XD1.out HD1.out.rd (by decide)) (blk_ne XD1.out HD1.out.ft (by decide)))
  have MC1 := Aside0.mk (MD1.out.kf HD1.out k_)
  have HC1 := Aside0.mk (show RS w1c r f R.h2 from i_)
  have KC1 := Aside0.mk (KD1.out.trans (Kg.of_kf k_))
  clear i_ k_
  refine hK.out _ _ (XC1.out) (fun hHeld => ?_)
  clear hK K
  refine norm_ (a' := ?_) ?_ ?_
  rotate_left
  · show Act.put _ (some 9) _ = _
    simp only [Act.put, List.setIfInBounds_toArray, List.set_cons_zero, List.set_cons_succ]
    rfl
  refine pure_ (i := 3) (N := (some 10)) (v := ?_) (a' := ?_) #[true, true, true, true, false, false] rfl rfl (by kernel_rfl) (fun _ _ _ h => h) (Or.inl ⟨by rfl, ?_⟩) ?_ ?_
  rotate_left
  · intro w'
    go_simp
    with_reducible rfl
  rotate_left
  · simp only [Act.put, List.setIfInBounds_toArray, List.set_cons_zero, List.set_cons_succ]
    rfl
  refine pure_ (i := 4) (N := (some 11)) (v := ?_) (a' := ?_) #[true, true, true, true, true, false] rfl rfl (by kernel_rfl) (fun _ _ _ h => h) (Or.inl ⟨by rfl, ?_⟩) ?_ ?_
  rotate_left
  · intro w'
    go_simp
    with_reducible rfl
  rotate_left
  · simp only [Act.put, List.setIfInBounds_toArray, List.set_cons_zero, List.set_cons_succ]
    rfl
  refine last_ (i := 5) (N := none) #[true, true, true, true, true, true] rfl rfl (by kernel_rfl) (by decide) (fun K hK => ?_)
  obtain ⟨hd_, hm_⟩ := MC1.out
  refine stM (v := .string (R.h1.bytV 32)) (by rfl) rfl rfl rfl hm_.box sz9 rfl rfl rfl (by rw [cells_size]; omega) ?_
  intro w2 h3_ b3_ k3_
  have X2 := Aside0.mk ((k3_.2 gb (blk_lt XC1.out) (blk_ne XC1.out hm_.box (by decide)) (by simp)).trans XC1.out)
  have M2 := Aside0.mk (hm_.s1 _ h3_ k3_)
  have H2 := Aside0.mk (show RS w2 r f R.h2 from HC1.out.store hm_ k3_)
  have K2 := Aside0.mk (KC1.out.trans (Kg.of_store (b3_ _ HG.out) k3_))
  clear h3_ b3_ k3_ hm_
  refine hK.out _ _ ?_
  clear hK K
  refine done_ (by kernel_rfl) ?_
  go_wp2
  refine start_ (n := 6) (S := fun w' => w'.heap[gb]? = some (.cells #[.pointer (some ⟨gm, 0, none⟩)] 85 (0, 0))) (ds := [5]) #[false, false, false, false, false, false] (by kernel_rfl) rfl rfl (((Below.refl w2.heap.size w2).drew.block gb (blk_lt X2.out)).trans X2.out) (fun hHeld => ?_)
  have HS2 := Aside0.mk (Below.refl w2.heap.size w2).drew
  generalize w2.drew = w2d at HS2 hHeld ⊢
  have XD2 := Aside0.mk hHeld
  have HD2 := Aside0.mk (H2.out.below HS2.out)
  have MD2 := Aside0.mk (M2.out.below HS2.out)
  have KD2 := Aside0.mk (K2.out.trans (Kg.of_kf (Kf.of_below (r := r) (f := f) (H2.out.wsz HL.out) HS2.out)))
  refine take_ (i := 0) (N := (some 12)) (v := ?_) (a' := ?_) #[true, false, false, false, false, false] rfl rfl (by kernel_rfl) (fun _ _ _ h => h) (Or.inl ⟨by rfl, ?_⟩) hHeld ?_ ?_
  rotate_left
  · rintro w' hS
    have hc : w'.cell? ⟨gb, 0, none⟩ = some (.pointer (some ⟨gm, 0, none⟩)) := (blk_cell hS 0).trans rfl
    go_simp
    with_reducible rfl
  rotate_left
  · simp only [Act.put, List.setIfInBounds_toArray, List.set_cons_zero, List.set_cons_succ]
    rfl
  refine pure_ (i := 1) (N := (some 13)) (v := ?_) (a' := ?_) #[true, true, false, false, false, false] rfl rfl (by kernel_rfl) (fun _ _ _ h => h) (Or.inl ⟨by rfl, ?_⟩) ?_ ?_
  rotate_left
  · intro w'
    go_simp
    with_reducible rfl
  rotate_left
  · simp only [Act.put, List.setIfInBounds_toArray, List.set_cons_zero, List.set_cons_succ]
    rfl
  refine one_ (i := 2) (N := (some 14)) #[true, true, true, false, false, false] rfl rfl (by kernel_rfl) (by decide) (fun K hK => ?_)
  refine goes_ (f := 71) Try.func71 (by kernel_rfl) rfl #[.pointer (some ⟨r, 0, none⟩), .int .i64 1, .int .i64 0, .int .i64 32] (by rfl) rfl rfl (by (try simp only [List.map_toArray, List.map_cons, List.map_nil]); first | done | rfl) ?_
  refine (rvec_c lo r f R.h2 _ 1 1 rfl 0 32 (by omega) (by omega) HL.out HL2.out HD2.out HO.out.h2).mono ?_
  rintro e w2c ⟨rfl, i_, k_⟩
  refine ⟨_, rfl, ?_⟩
  have XC2 := Aside0.mk (k_.keep gb _ XD2.out (blk_ne XD2.out HD2.out.rd (by decide)) (blk_ne XD2.out HD2.out.ft (by decide)))
  have MC2 := Aside0.mk (MD2.out.kf HD2.out k_)
  have HC2 := Aside0.mk (show RS w2c r f R.h3 from i_)
  have KC2 := Aside0.mk (KD2.out.trans (Kg.of_kf k_))
  clear i_ k_
  refine hK.out _ _ (XC2.out) (fun hHeld => ?_)
  clear hK K
  refine norm_ (a' := ?_) ?_ ?_
  rotate_left
  · show Act.put _ (some 14) _ = _
    simp only [Act.put, List.setIfInBounds_toArray, List.set_cons_zero, List.set_cons_succ]
    rfl
  refine pure_ (i := 3) (N := (some 15)) (v := ?_) (a' := ?_) #[true, true, true, true, false, false] rfl rfl (by kernel_rfl) (fun _ _ _ h => h) (Or.inl ⟨by rfl, ?_⟩) ?_ ?_
  rotate_left
  · intro w'
    go_simp
    with_reducible rfl
  rotate_left
  · simp only [Act.put, List.setIfInBounds_toArray, List.set_cons_zero, List.set_cons_succ]
    rfl
  refine pure_ (i := 4) (N := (some 16)) (v := ?_) (a' := ?_) #[true, true, true, true, true, false] rfl rfl (by kernel_rfl) (fun _ _ _ h => h) (Or.inl ⟨by rfl, ?_⟩) ?_ ?_
  rotate_left
  · intro w'
    go_simp
    with_reducible rfl
  rotate_left
  · simp only [Act.put, List.setIfInBounds_toArray, List.set_cons_zero, List.set_cons_succ]
    rfl
  refine last_ (i := 5) (N := none) #[true, true, true, true, true, true] rfl rfl (by kernel_rfl) (by decide) (fun K hK => ?_)
  obtain ⟨hd_, hm_⟩ := MC2.out
  refine stM (v := .string (R.h2.vecV 1 0 32)) (by rfl) rfl rfl rfl hm_.box sz9 rfl rfl rfl (by rw [cells_size]; omega) ?_
  intro w3 h3_ b3_ k3_
  have X3 := Aside0.mk ((k3_.2 gb (blk_lt XC2.out) (blk_ne XC2.out hm_.box (by decide)) (by simp)).trans XC2.out)
  have M3 := Aside0.mk (hm_.s2 _ h3_ k3_)
  have H3 := Aside0.mk (show RS w3 r f R.h3 from HC2.out.store hm_ k3_)
  have K3 := Aside0.mk (KC2.out.trans (Kg.of_store (b3_ _ HG.out) k3_))
  clear h3_ b3_ k3_ hm_
  refine hK.out _ _ ?_
  clear hK K
  refine done_ (by kernel_rfl) ?_
  go_wp2
  refine start_ (n := 7) (S := fun w' => w'.heap[gb]? = some (.cells #[.pointer (some ⟨gm, 0, none⟩)] 85 (0, 0))) (ds := [6]) #[false, false, false, false, false, false, false] (by kernel_rfl) rfl rfl (((Below.refl w3.heap.size w3).drew.block gb (blk_lt X3.out)).trans X3.out) (fun hHeld => ?_)
  have HS3 := Aside0.mk (Below.refl w3.heap.size w3).drew
  generalize w3.drew = w3d at HS3 hHeld ⊢
  have XD3 := Aside0.mk hHeld
  have HD3 := Aside0.mk (H3.out.below HS3.out)
  have MD3 := Aside0.mk (M3.out.below HS3.out)
  have KD3 := Aside0.mk (K3.out.trans (Kg.of_kf (Kf.of_below (r := r) (f := f) (H3.out.wsz HL.out) HS3.out)))
  refine take_ (i := 0) (N := (some 17)) (v := ?_) (a' := ?_) #[true, false, false, false, false, false, false] rfl rfl (by kernel_rfl) (fun _ _ _ h => h) (Or.inl ⟨by rfl, ?_⟩) hHeld ?_ ?_
  rotate_left
  · rintro w' hS
    have hc : w'.cell? ⟨gb, 0, none⟩ = some (.pointer (some ⟨gm, 0, none⟩)) := (blk_cell hS 0).trans rfl
    go_simp
    with_reducible rfl
  rotate_left
  · simp only [Act.put, List.setIfInBounds_toArray, List.set_cons_zero, List.set_cons_succ]
    rfl
  refine pure_ (i := 1) (N := (some 18)) (v := ?_) (a' := ?_) #[true, true, false, false, false, false, false] rfl rfl (by kernel_rfl) (fun _ _ _ h => h) (Or.inl ⟨by rfl, ?_⟩) ?_ ?_
  rotate_left
  · intro w'
    go_simp
    with_reducible rfl
  rotate_left
  · simp only [Act.put, List.setIfInBounds_toArray, List.set_cons_zero, List.set_cons_succ]
    rfl
  refine one_ (i := 2) (N := (some 19)) #[true, true, true, false, false, false, false] rfl rfl (by kernel_rfl) (by decide) (fun K hK => ?_)
  refine goes_ (f := 70) Try.func70 (by kernel_rfl) rfl #[.pointer (some ⟨r, 0, none⟩)] (by rfl) rfl rfl (by (try simp only [List.map_toArray, List.map_cons, List.map_nil]); first | done | rfl) ?_
  refine (u16_c lo r f R.h3 _ HL.out HL2.out HD3.out HO.out.h3).mono ?_
  rintro e w3c ⟨rfl, i_, k_⟩
  refine ⟨_, rfl, ?_⟩
  have XC3 := Aside0.mk (k_.keep gb _ XD3.out (blk_ne XD3.out HD3.out.rd (by decide)) (blk_ne XD3.out HD3.out.ft (by decide)))
  have MC3 := Aside0.mk (MD3.out.kf HD3.out k_)
  have HC3 := Aside0.mk (show RS w3c r f R.s4 from i_)
  have KC3 := Aside0.mk (KD3.out.trans (Kg.of_kf k_))
  clear i_ k_
  refine hK.out _ _ (XC3.out) (fun hHeld => ?_)
  clear hK K
  refine norm_ (a' := ?_) ?_ ?_
  rotate_left
  · show Act.put _ (some 19) _ = _
    simp only [Act.put, List.setIfInBounds_toArray, List.set_cons_zero, List.set_cons_succ]
    rfl
  refine one_ (i := 3) (N := (some 20)) #[true, true, true, true, false, false, false] rfl rfl (by kernel_rfl) (by decide) (fun K hK => ?_)
  refine Kd.R_lit_step (Kd.int .i64) _ 3 (by rfl) (N := 20) rfl (xs := [(R.h3.numV 2)]) (inner := [.int .i64 (R.h3.numV 2)]) (ok := fun _ => True) (okp := fun _ => True) ?hr ?hp (fun _ hk => hk) trivial (Below.refl _ _) (Nat.le_refl _) (by simp) ?_
  (case hr => first | (go_simp; done) | (go_simp; rfl))
  (case hp => exact (Reps.one (show Kd.M (Kd.int .i64) _ _ _ (R.h3.numV 2) [.int .i64 (R.h3.numV 2)] from rfl) (Reps.none _ _)))
  intro v4 w3l ho_ hb_ hg_ hnew_
  clear hg_ hnew_
  obtain ⟨A4, c4, rfl⟩ := Kd.R_slice ho_
  have n1_ := Aside0.mk ((hb_.block gb (blk_lt XC3.out)).trans XC3.out)
  have n2_ := Aside0.mk (MC3.out.below hb_)
  have n3_ := Aside0.mk (show RS w3l r f R.s4 from HC3.out.below hb_)
  have n4_ := Aside0.mk (KC3.out.trans (Kg.of_kf (Kf.of_below (r := r) (f := f) (HC3.out.wsz HL.out) hb_)))
  have RC3 := Aside0.mk (Kd.R_lower ho_ (Nat.zero_le _))
  clear XC3 MC3 HC3 KC3 ho_ hb_
  have XC3 := n1_
  have MC3 := n2_
  have HC3 := n3_
  have KC3 := n4_
  clear n1_ n2_ n3_ n4_
  refine hK.out _ _ (XC3.out) (fun hHeld => ?_)
  clear hK K
  refine norm_ (a' := ?_) ?_ ?_
  rotate_left
  · show Act.put _ (some 20) _ = _
    simp only [Act.put, List.setIfInBounds_toArray, List.set_cons_zero, List.set_cons_succ]
    rfl
  refine pure_ (i := 4) (N := (some 21)) (v := ?_) (a' := ?_) #[true, true, true, true, true, false, false] rfl rfl (by kernel_rfl) (fun _ _ _ h => h) (Or.inl ⟨by rfl, ?_⟩) ?_ ?_
  rotate_left
  · intro w'
    go_simp
    with_reducible rfl
  rotate_left
  · simp only [Act.put, List.setIfInBounds_toArray, List.set_cons_zero, List.set_cons_succ]
    rfl
  refine pure_ (i := 5) (N := (some 22)) (v := ?_) (a' := ?_) #[true, true, true, true, true, true, false] rfl rfl (by kernel_rfl) (fun _ _ _ h => h) (Or.inl ⟨by rfl, ?_⟩) ?_ ?_
  rotate_left
  · intro w'
    go_simp
    with_reducible rfl
  rotate_left
  · simp only [Act.put, List.setIfInBounds_toArray, List.set_cons_zero, List.set_cons_succ]
    rfl
  refine last_ (i := 6) (N := none) #[true, true, true, true, true, true, true] rfl rfl (by kernel_rfl) (by decide) (fun K hK => ?_)
  obtain ⟨hd_, hm_⟩ := MC3.out
  refine stM (v := .slice A4 1 c4) (by rfl) rfl rfl rfl hm_.box sz44 rfl rfl rfl (by rw [cells_size]; omega) ?_
  intro w4 h3_ b3_ k3_
  have X4 := Aside0.mk ((k3_.2 gb (blk_lt XC3.out) (blk_ne XC3.out hm_.box (by decide)) (by simp)).trans XC3.out)
  have M4 := Aside0.mk (hm_.s3 RC3.out h3_ k3_)
  have H4 := Aside0.mk (show RS w4 r f R.s4 from HC3.out.store hm_ k3_)
  have K4 := Aside0.mk (KC3.out.trans (Kg.of_store (b3_ _ HG.out) k3_))
  clear h3_ b3_ k3_ hm_
  refine hK.out _ _ ?_
  clear hK K
  refine done_ (by kernel_rfl) ?_
  go_wp2_with (first
    | (go_at_call 75; (with_reducible refine (u8_c lo r f R.s4 _ HL.out HL2.out H4.out HO.out.s4).mono ?_); rintro e5 w5 ⟨rfl, i1, k1⟩; have X5 := Aside0.mk (k1.keep gb _ X4.out (blk_ne X4.out H4.out.rd (by decide)) (blk_ne X4.out H4.out.ft (by decide))); have M5 := Aside0.mk (M4.out.kf H4.out k1); have H5 := Aside0.mk (show RS w5 r f R.s5 from i1); have K5 := Aside0.mk (K4.out.trans (Kg.of_kf k1)); clear i1 k1)
    | (go_at_call 76; (with_reducible refine (allow_c lo r f R.s5 _ (R.s4.numV 1 == 0) HL.out H5.out).mono ?_); rintro e6 w6 ⟨rfl, i1, k1⟩; have X6 := Aside0.mk (k1.keep gb _ X5.out (blk_ne X5.out H5.out.rd (by decide)) (blk_ne X5.out H5.out.ft (by decide))); have M6 := Aside0.mk (M5.out.kf H5.out k1); have H6 := Aside0.mk (show RS w6 r f R.s6 from i1); have K6 := Aside0.mk (K5.out.trans (Kg.of_kf k1)); clear i1 k1))
  refine start_ (n := 8) (S := fun w' => w'.heap[gb]? = some (.cells #[.pointer (some ⟨gm, 0, none⟩)] 85 (0, 0))) (ds := [7]) #[false, false, false, false, false, false, false, false] (by kernel_rfl) rfl rfl (((Below.refl w6.heap.size w6).drew.block gb (blk_lt X6.out)).trans X6.out) (fun hHeld => ?_)
  have HSx := Aside0.mk (Below.refl w6.heap.size w6).drew
  generalize w6.drew = wd at HSx hHeld ⊢
  have XD := Aside0.mk hHeld
  have HD := Aside0.mk (H6.out.below HSx.out)
  have MD := Aside0.mk (M6.out.below HSx.out)
  have KD := Aside0.mk (K6.out.trans (Kg.of_kf (Kf.of_below (r := r) (f := f) (H6.out.wsz HL.out) HSx.out)))
  refine take_ (i := 0) (N := (some 29)) (v := ?_) (a' := ?_) #[true, false, false, false, false, false, false, false] rfl rfl (by kernel_rfl) (fun _ _ _ h => h) (Or.inl ⟨by rfl, ?_⟩) hHeld ?_ ?_
  rotate_left
  · rintro w' hS
    have hc : w'.cell? ⟨gb, 0, none⟩ = some (.pointer (some ⟨gm, 0, none⟩)) := (blk_cell hS 0).trans rfl
    go_simp
    with_reducible rfl
  rotate_left
  · simp only [Act.put, List.setIfInBounds_toArray, List.set_cons_zero, List.set_cons_succ]
    rfl
  refine pure_ (i := 1) (N := (some 30)) (v := ?_) (a' := ?_) #[true, true, false, false, false, false, false, false] rfl rfl (by kernel_rfl) (fun _ _ _ h => h) (Or.inl ⟨by rfl, ?_⟩) ?_ ?_
  rotate_left
  · intro w'
    go_simp
    with_reducible rfl
  rotate_left
  · simp only [Act.put, List.setIfInBounds_toArray, List.set_cons_zero, List.set_cons_succ]
    rfl
  refine pure_ (i := 3) (N := (some 32)) (v := ?_) (a' := ?_) #[true, true, false, true, false, false, false, false] rfl rfl (by kernel_rfl) (fun _ _ _ h => h) (Or.inl ⟨by rfl, ?_⟩) ?_ ?_
  rotate_left
  · intro w'
    go_simp
    with_reducible rfl
  rotate_left
  · simp only [Act.put, List.setIfInBounds_toArray, List.set_cons_zero, List.set_cons_succ]
    rfl
  refine one_ (i := 2) (N := (some 31)) #[true, true, true, true, false, false, false, false] rfl rfl (by kernel_rfl) (by decide) (fun K hK => ?_)
  refine goes_ (f := 66) Try.func66 (by kernel_rfl) rfl #[.pointer (some ⟨r, 0, none⟩), .int .i64 2] (by rfl) rfl rfl (by (try simp only [List.map_toArray, List.map_cons, List.map_nil]); first | done | rfl) ?_
  refine (rwithin_c lo r f R.s6 _ 2 2 rfl (by omega) (by omega) HL.out HL2.out HD.out HO.out.s6).mono ?_
  rintro e wi ⟨r2, rfl, n1_, i1_, j1_, k1_⟩
  refine ⟨_, rfl, ?_⟩
  have HN := Aside0.mk n1_
  have HI := Aside0.mk i1_
  have ID := Aside0.mk j1_
  have XI := Aside0.mk (k1_.keep gb _ XD.out (blk_ne XD.out HD.out.rd (by decide)) (blk_ne XD.out HD.out.ft (by decide)))
  have MI := Aside0.mk (MD.out.kf HD.out k1_)
  have KI := Aside0.mk (KD.out.trans (Kg.of_kf k1_))
  have HNE := Aside0.mk (show r ≠ r2 from by have := HD.out.sz; omega)
  have HL3 := Aside0.mk (show lo ≤ r2 from Nat.le_trans (HD.out.wsz HL.out) n1_)
  clear n1_ i1_ j1_ k1_
  refine hK.out _ _ (XI.out) (fun hHeld => ?_)
  clear hK K
  refine norm_ (a' := ?_) ?_ ?_
  rotate_left
  · show Act.put _ (some 31) _ = _
    simp only [Act.put, List.setIfInBounds_toArray, List.set_cons_zero, List.set_cons_succ]
    rfl
  refine one_ (i := 4) (N := (some 33)) #[true, true, true, true, true, false, false, false] rfl rfl (by kernel_rfl) (by decide) (fun K hK => ?_)
  refine goes_ (f := 67) Try.func67 (by kernel_rfl) rfl #[.pointer (some ⟨r2, 0, none⟩), .func (.func 97) #[] #[.pointer (some ⟨gb, 0, none⟩)]] (by rfl) rfl rfl (by (try simp only [List.map_toArray, List.map_cons, List.map_nil]); first | done | rfl) ?_
  refine (exts_c 97 #[.pointer (some ⟨gb, 0, none⟩)] lo r2 f gm srv sameL (R.s6.inR 2) (R.sM m) _ (srvT_c lo r2 f gm gb wi HL.out HG.out (ID.out.wsz HL.out) XI.out (blk_ne XI.out ID.out.rd (by decide)) (blk_ne XI.out ID.out.ft (by decide)) (by obtain ⟨_, z⟩ := MI.out; exact blk_ne XI.out z.box (by decide)) ID.out.sz.1) HL.out HL3.out ID.out (HO.out.s6.inR 2) MI.out).mono ?_
  rintro e wx ⟨vx, rfl, rx_, mx_, ix_, kx_⟩
  obtain ⟨Ax, cx, rfl⟩ := Kd.R_slice rx_
  refine ⟨_, rfl, ?_⟩
  have RX := Aside0.mk (show Kd.R (Kd.int .i64) 3 wx 0 (fun _ => True) (.slice Ax (R.sX m).1.length cx) (R.sX m).1 from rx_)
  have MX := Aside0.mk (show MO (fun _ => True) wx gm (R.sX m).2.1 from mx_)
  have HGR := Aside0.mk (show r ≠ gm from by obtain ⟨_, z⟩ := MI.out; exact blk_ne HI.out.rd z.box (by decide))
  have HXx := Aside0.mk (show RS wx r f ((R.s6.outR 2).back (R.sX m).2.2) from ⟨kx_.keep r _ HI.out.rd HNE.out HI.out.ne HGR.out, ix_.ft⟩)
  have XX := Aside0.mk (kx_.keep gb _ XI.out (blk_ne XI.out ID.out.rd (by decide)) (blk_ne XI.out ID.out.ft (by decide)) (by obtain ⟨_, z⟩ := MI.out; exact blk_ne XI.out z.box (by decide)))
  have KX := Aside0.mk (Kg.inner KI.out (Nat.le_trans KD.out.below.size HN.out) kx_)
  clear rx_ mx_ ix_ kx_
  refine hK.out _ _ (XX.out) (fun hHeld => ?_)
  clear hK K
  refine norm_ (a' := ?_) ?_ ?_
  rotate_left
  · show Act.put _ (some 33) _ = _
    simp only [Act.put, List.setIfInBounds_toArray, List.set_cons_zero, List.set_cons_succ]
    rfl
  refine pure_ (i := 5) (N := (some 34)) (v := ?_) (a' := ?_) #[true, true, true, true, true, true, false, false] rfl rfl (by kernel_rfl) (fun _ _ _ h => h) (Or.inl ⟨by rfl, ?_⟩) ?_ ?_
  rotate_left
  · intro w'
    go_simp
    with_reducible rfl
  rotate_left
  · simp only [Act.put, List.setIfInBounds_toArray, List.set_cons_zero, List.set_cons_succ]
    rfl
  refine pure_ (i := 6) (N := (some 35)) (v := ?_) (a' := ?_) #[true, true, true, true, true, true, true, false] rfl rfl (by kernel_rfl) (fun _ _ _ h => h) (Or.inl ⟨by rfl, ?_⟩) ?_ ?_
  rotate_left
  · intro w'
    go_simp
    with_reducible rfl
  rotate_left
  · simp only [Act.put, List.setIfInBounds_toArray, List.set_cons_zero, List.set_cons_succ]
    rfl
  refine last_ (i := 7) (N := none) #[true, true, true, true, true, true, true, true] rfl rfl (by kernel_rfl) (by decide) (fun K hK => ?_)
  obtain ⟨hd_, hm_⟩ := MX.out
  refine stM (v := .slice Ax (R.sX m).1.length cx) (by rfl) rfl rfl rfl hm_.box sz44 rfl rfl rfl (by rw [cells_size]; omega) ?_
  intro wy h3_ b3_ k3_
  have MY := Aside0.mk (hm_.s13 RX.out h3_ k3_)
  have HY := Aside0.mk (HXx.out.store hm_ k3_)
  have KY := Aside0.mk (KX.out.trans (Kg.of_store (b3_ _ HG.out) k3_))
  clear h3_ b3_ k3_ hm_
  refine hK.out _ _ ?_
  clear hK K
  refine done_ (by kernel_rfl) ?_
  go_wp2
  first | go_end0 | ((try simp only [Exit.inBlock, Exit.then]); refine bodyPost_ret (results_none rfl _ _ _) rfl ?_)
  exact ⟨rfl, HY.out, MY.out, KY.out⟩
end Go.Proofs.Ytlkebjkpmiehcaa.Ms
end
section
namespace Go.Proofs.Ytlkebjkpmiehcaa.Ms
open Go.RowKit Go.Proofs.YtlkebjkpmiehcaaW.PrintWords Go.Proofs.YtlkebjkpmiehcaaW.PrintLast Go.Proofs.YtlkebjkpmiehcaaW.PrintMore Go.Proofs.Ytlkebjkpmiehcaa.X
open Go.Proofs.Ytlkebjkpmiehcaa.Pure (nv numOf vecOf nv_bd nv_bd4 number_any vec_ok)
set_option linter.unusedVariables false
def fin32 (n : Int) : Bool := n == 32 || n == 48
def Rp.f1 (R : Rp) : Rp := R.need (fin32 (R.s.size : Int))
def Rp.nX (R : Rp) (m : Mv) : List Int × Mv × Rp := exts nonT sameL (R.inR 2).s.size [] m (R.inR 2)
def Rp.u1 (R : Rp) : Rp := (R.numR 1).allow (decide (R.numV 1 ≤ 1))
def bodyP (R : Rp) (m : Mv) : Mv × Rp :=
  if m.f0 = 1 then (R.chM m, R.chR m)
  else if m.f0 = 2 then (R.shM m, R.shR m)
  else if m.f0 = 8 then ({ (R.nX m).2.1 with f13 := (R.nX m).1 }, (R.outR 2).back (R.nX m).2.2)
  else if m.f0 = 11 then ({ m with f14 := R.ceV }, R.ceN)
  else if m.f0 = 15 then ({ m with f15 := R.numV 2, f16 := (R.numR 2).vecV 2 0 65536 }, (R.numR 2).vecR 2 0 65536)
  else if m.f0 = 20 then ({ m with f16 := R.f1.bytV (R.s.size : Int) }, R.f1.bytR (R.s.size : Int))
  else if m.f0 = 4 then (R.tiM m, R.ti4.barR)
  else ({ m with f20 := R.numV 1 + 1 }, R.u1)
theorem Rp.Ok.f1 {R : Rp} (h : R.Ok) : R.f1.Ok := h.need _
theorem Rp.Ok.u1 {R : Rp} (h : R.Ok) : R.u1.Ok := (h.numR 1).allow _
set_option maxRecDepth 100000 in
set_option maxHeartbeats 8000000 in
theorem body_2 (lo r f gm : Nat) (R : Rp) (m : Mv) (w : World) (hk : m.f0 = 2) (hl : lo ≤ f) (hl2 : lo ≤ r) (hg : lo ≤ gm) (h : RS w r f R) (ho : R.Ok) (hm : MO (fun _ => True) w gm m) :
    Calls Try.prog 49 #[.pointer (some ⟨r, 0, none⟩), .pointer (some ⟨gm, 0, none⟩)] w fun ex w' => ex = .returned (.tuple #[]) ∧ RS w' r f (Rp.done (R.shR m)) ∧ MO (fun _ => True) w' gm (R.shM m) ∧ Kg lo r f gm w w' := by
  have HKK := Aside0.mk hk
  clear hk
  have H := Aside0.mk h
  have HL := Aside0.mk hl
  have HL2 := Aside0.mk hl2
  have HG := Aside0.mk hg
  have HO := Aside0.mk ho
  have HWL := Aside0.mk (h.wsz hl)
  have M := Aside0.mk hm
  have K := Aside0.mk (Kg.of_kf (g := gm) (Kf.refl lo r f w))
  clear h hl hl2 hg ho hm
  go_enter Try.func49, Try.ntmps49
  go_wp2_with (first
    | ((with_reducible refine gate_dst (N := 8) rfl ?_); obtain ⟨hd_, hm_⟩ := M.out; refine ld (v := .int .i64 2) rfl rfl rfl hm_.box Try.underlying3 rfl (by show some (Value.int .i64 m.f0) = _; rw [HKK.out]) ?_; clear hm_)
    | (go_at_call 65; (with_reducible refine (serverHello_c lo r f gm R m _ HL.out HL2.out HG.out H.out HO.out M.out).mono ?_); rintro e1 w1 ⟨rfl, i1, m1, k1⟩; have H1 := Aside0.mk i1; have M1 := Aside0.mk m1; have K1 := Aside0.mk k1; clear i1 m1 k1)
    | (go_at_call 77; (with_reducible refine (done_c lo r f (R.shR m) _ HL.out H1.out).mono ?_); rintro e20 w20 ⟨rfl, i20, k20⟩; have M20 := Aside0.mk (M1.out.kf H1.out k20); have H20 := Aside0.mk i20; have K20 := Aside0.mk (K1.out.trans (Kg.of_kf k20)); clear i20 k20))
  first | go_end0 | ((try simp only [Exit.inBlock, Exit.then]); refine bodyPost_ret (results_none rfl _ _ _) rfl ?_)
  exact ⟨rfl, H20.out, M20.out, K20.out⟩
set_option maxRecDepth 100000 in
set_option maxHeartbeats 8000000 in
theorem body_no (lo r f gm : Nat) (R : Rp) (m : Mv) (w : World) (k0 : Int) (hk : m.f0 = k0) (n1 : (k0 == 1) = false) (n2 : (k0 == 2) = false) (n8 : (k0 == 8) = false) (n11 : (k0 == 11) = false) (n15 : (k0 == 15) = false) (n20 : (k0 == 20) = false) (n4 : (k0 == 4) = false) (hl : lo ≤ f) (hl2 : lo ≤ r) (hg : lo ≤ gm) (h : RS w r f R) (ho : R.Ok) (hm : MO (fun _ => True) w gm m) :
    Calls Try.prog 49 #[.pointer (some ⟨r, 0, none⟩), .pointer (some ⟨gm, 0, none⟩)] w fun ex w' => ex = .returned (.tuple #[]) ∧ RS w' r f (Rp.done R.u1) ∧ MO (fun _ => True) w' gm { m with f20 := R.numV 1 + 1 } ∧ Kg lo r f gm w w' := by
  have nb0 := (R.numV_bd 1).1
  have nb1 : R.numV 1 ≤ 255 := by have := (R.numV_bd 1).2; omega
  have HKK := Aside0.mk hk
  clear hk
  have H := Aside0.mk h
  have HL := Aside0.mk hl
  have HL2 := Aside0.mk hl2
  have HG := Aside0.mk hg
  have HO := Aside0.mk ho
  have HWL := Aside0.mk (h.wsz hl)
  have M := Aside0.mk hm
  have K := Aside0.mk (Kg.of_kf (g := gm) (Kf.refl lo r f w))
  clear h hl hl2 hg ho hm
  go_enter Try.func49, Try.ntmps49
  go_wp2_with (first
    | ((with_reducible refine gate_dst (N := 8) rfl ?_); obtain ⟨hd_, hm_⟩ := M.out; refine ld (v := .int .i64 k0) rfl rfl rfl hm_.box Try.underlying3 rfl (by show some (Value.int .i64 m.f0) = _; rw [HKK.out]) ?_; clear hm_)
    | (go_at_call 75; (with_reducible refine (u8_c lo r f R _ HL.out HL2.out H.out HO.out).mono ?_); rintro e1 w1 ⟨rfl, i1, k1⟩; have M1 := Aside0.mk (M.out.kf H.out k1); have H1 := Aside0.mk i1; have K1 := Aside0.mk (K.out.trans (Kg.of_kf k1)); clear i1 k1)
    | (go_at_call 76; (with_reducible refine (allow_c lo r f (R.numR 1) _ (decide (R.numV 1 ≤ 1)) HL.out H1.out).mono ?_); rintro e2 w2 ⟨rfl, i1, k1⟩; have M2 := Aside0.mk (M1.out.kf H1.out k1); have H2 := Aside0.mk (show RS w2 r f R.u1 from i1); have K2 := Aside0.mk (K1.out.trans (Kg.of_kf k1)); clear i1 k1)
    | ((with_reducible refine gate_store (p := 19) rfl ?_); obtain ⟨hd_, hm_⟩ := M2.out; refine st (v := .int .i64 (R.numV 1 + 1)) rfl rfl rfl hm_.box sz3' rfl rfl rfl (by rw [cells_size]; omega) ?_; intro w3 h3_ b3_ k3_; have M3 := Aside0.mk (hm_.s20 _ h3_ k3_); have H3 := Aside0.mk (H2.out.store hm_ k3_); have K3 := Aside0.mk (K2.out.trans (Kg.of_store (b3_ _ HG.out) k3_)); clear h3_ b3_ k3_ hm_)
    | (go_at_call 77; (with_reducible refine (done_c lo r f R.u1 _ HL.out H3.out).mono ?_); rintro e20 w20 ⟨rfl, i20, k20⟩; have M20 := Aside0.mk (M3.out.kf H3.out k20); have H20 := Aside0.mk i20; have K20 := Aside0.mk (K3.out.trans (Kg.of_kf k20)); clear i20 k20))
  first | go_end0 | ((try simp only [Exit.inBlock, Exit.then]); refine bodyPost_ret (results_none rfl _ _ _) rfl ?_)
  exact ⟨rfl, H20.out, M20.out, K20.out⟩
end Go.Proofs.Ytlkebjkpmiehcaa.Ms
end
section
namespace Go.Proofs.Ytlkebjkpmiehcaa.Ms
open Go.RowKit Go.Proofs.YtlkebjkpmiehcaaW.PrintWords Go.Proofs.YtlkebjkpmiehcaaW.PrintLast Go.Proofs.YtlkebjkpmiehcaaW.PrintMore Go.Proofs.Ytlkebjkpmiehcaa.X
open Go.Proofs.Ytlkebjkpmiehcaa.Pure (nv numOf vecOf nv_bd nv_bd4 number_any vec_ok)
set_option linter.unusedVariables false
def zeroM : Mv := ⟨0, ⟨#[]⟩, ⟨#[]⟩, [], ⟨#[]⟩, [], [], [], [], [], [], [], 0, [], [], 0, ⟨#[]⟩, 0, 0, ⟨#[]⟩, 0⟩
def hd0 : Hd := ⟨none, 0, none, 0, none, 0, none, 0, none, 0, none, 0, none, 0, none, 0, none, 0, none, 0⟩
def getR (s : ByteArray) : Rp := ⟨s.extract 4 s.size, 0, 0, false, false⟩
def getB (s : ByteArray) : Mv × Rp := bodyP (getR s) { zeroM with f0 := bt s 0 }
def getF (s : ByteArray) : Rp := if (getB s).2.done.t = true then (getB s).2.done.fail 1702 else (getB s).2.done
def knownB (k : Int) : Bool := (msg_known.f k).getD false
def headed (s : ByteArray) : Bool := (numOf s 1 3).2.2 == 0 && (numOf s 1 3).1 == (s.size : Int) - 4 && decide ((s.size : Int) ≤ 65536)
def getM (s : ByteArray) : Mv × Int :=
  if s.size = 0 then (zeroM, 1701)
  else if knownB (bt s 0) = false then (zeroM, 1701)
  else if headed s = false then (zeroM, 1700)
  else if (getF s).c = 0 then ((getB s).1, 0) else (zeroM, (getF s).c)
theorem known_f (k : Int) : msg_known.f k = some (knownB k) := by
  unfold knownB msg_known.f
  repeat' split
  all_goals rfl
theorem built49 : Try.prog.built 49 [] = some zcells := by kernel_rfl
theorem built90 : Try.prog.built 90 [] = some #[.int .i64 0, .bool false] := by kernel_rfl
section
variable {ops : Array Oper} {rest : List Oper} {o : Oper} {a : Act} {Q : Exit → Act → World → Prop} {w : World}
theorem bld {t : TypeId} {fs : Array (Nat × Operand)} {vs : Array (Nat × Value)} {cs : Array Value} (hgd : o.guard = none) (ho : o.op = .build t fs) (hv : fs.map (fun x => (x.1, a.eval x.2)) = vs) (hb : Try.prog.built t vs.toList = some cs)
    (H : wpList Try.prog ops Q rest (a.put o.dst (.agg cs)) w) : wpList Try.prog ops Q (o :: rest) a w := by
  refine wpList_plain hgd fun K hK => ?_
  unfold Oper.wp execOp
  have hr := run_build (P := Try.prog) w t vs _ hb
  simp only [ho, Sem.run_bind]
  rw [hv, hr]
  exact hK _ _ H
theorem boxA {t : TypeId} (hgd : o.guard = none) {x : Operand} (ho : o.op = .box t x) {cs : Array Value} (hx : a.eval x = .agg cs)
    (H : ∀ g, g = w.heap.size → ∀ w1, w1.heap[g]? = some (.cells cs t (0, 0)) → Below w.heap.size w w1 → wpList Try.prog ops Q rest (a.put o.dst (.pointer (some ⟨g, 0, none⟩))) w1) : wpList Try.prog ops Q (o :: rest) a w := by
  refine Kd.event_run hgd ?_ (H _ rfl _ (blk_new w _) (below_alloc (Below.refl _ _) _))
  unfold execOp
  simp only [ho, hx]
  rfl
theorem alloc49' (hgd : o.guard = none) (ho : o.op = .alloc 49)
    (H : ∀ g, g = w.heap.size → ∀ w1, w1.heap[g]? = some (.cells zcells 49 (0, 0)) → Below w.heap.size w w1 → wpList Try.prog ops Q rest (a.put o.dst (.pointer (some ⟨g, 0, none⟩))) w1) : wpList Try.prog ops Q (o :: rest) a w := by
  refine Kd.event_run hgd ?_ (H _ rfl _ (blk_new w (.cells zcells 49)) (below_alloc (Below.refl _ _) _))
  obtain ⟨i0, hi, hz⟩ := Option.map_eq_some_iff.1 zero49
  unfold execOp
  simp only [ho, Instr.alloc, zeroValue, typeInfo, Sem.run_bind]
  simp [hi, hz]
  rfl
theorem stRowN {n : TypeId} {N : Nat} (hsz : (Try.prog.info? n).map (·.size) = some N) (hgd : o.guard = none) {p x : Operand} (ho : o.op = .store n p x) {g : Nat} (hp : a.eval p = .pointer (some ⟨g, 0, none⟩))
    {cs zs : Array Value} (hx : a.eval x = .agg cs) {t : TypeId} (h : w.heap[g]? = some (.cells zs t (0, 0))) (hz : zs.size = N) (hc : cs.size = N) (h1 : cs.toList.all (·.oneCell') = true)
    (H : ∀ w1, w1.heap[g]? = some (.cells cs t (0, 0)) → (∀ lo, lo ≤ g → Below lo w w1) → KeepBut w w1 g none → wpList Try.prog ops Q rest (a.put o.dst undef) w1) : wpList Try.prog ops Q (o :: rest) a w := by
  refine wpList_plain hgd fun K hK => wp_store_row n p x ho g cs hp hx t zs h (by rw [hc]; exact hsz) (by rw [hz, hc]) (by rw [← Array.all_toList]; exact h1) (hK _ _ (H _ ?_ ?_ ?_))
  · simp [World.setRow, Array.getElem?_modify, h]
  · intro lo hl
    refine ⟨rfl, rfl, rfl, by simp [World.setRow], fun k hk => ?_⟩
    simp only [World.setRow, Array.getElem?_modify]
    rw [if_neg (by omega)]
  · refine ⟨by simp [World.setRow], fun k hk hne _ => ?_⟩
    simp only [World.setRow, Array.getElem?_modify]
    rw [if_neg (Ne.symm hne)]
theorem stRowM {oi : Oper} {K : Act → World → Prop} {n : TypeId} {N : Nat} (hsz : (Try.prog.info? n).map (·.size) = some N) (hw : Region.wanted oi (yielded ops a.tmps) = true) (hN : oi.dst = none) {p x : Operand} (ho : oi.op = .store n p x) {g : Nat} (hp : a.eval p = .pointer (some ⟨g, 0, none⟩))
    {cs zs : Array Value} (hx : a.eval x = .agg cs) {t : TypeId} (h : w.heap[g]? = some (.cells zs t (0, 0))) (hz : zs.size = N) (hc : cs.size = N) (h1 : cs.toList.all (·.oneCell') = true)
    (H : ∀ w1, w1.heap[g]? = some (.cells cs t (0, 0)) → (∀ lo, lo ≤ g → Below lo w w1) → KeepBut w w1 g none → K a w1) : if Region.wanted oi (yielded ops a.tmps) = true then Oper.wp Try.prog oi a w K Q else K (a.put none undef) w := by
  rw [if_pos hw]
  refine wp_store_row n p x ho g cs hp hx t zs h (by rw [hc]; exact hsz) (by rw [hz, hc]) (by rw [← Array.all_toList]; exact h1) ?_
  have hput : a.put oi.dst undef = a := by rw [hN]; rfl
  rw [hput]
  refine H _ ?_ ?_ ?_
  · simp [World.setRow, Array.getElem?_modify, h]
  · intro lo hl
    refine ⟨rfl, rfl, rfl, by simp [World.setRow], fun k hk => ?_⟩
    simp only [World.setRow, Array.getElem?_modify]
    rw [if_neg (by omega)]
  · refine ⟨by simp [World.setRow], fun k hk hne _ => ?_⟩
    simp only [World.setRow, Array.getElem?_modify]
    rw [if_neg (Ne.symm hne)]
end
theorem b0_eq (s : ByteArray) (h : 0 < s.size) : wrap64 ((s[0]'h).toNat : Int) = bt s 0 := by
  have e := bt_at s 0 (by simpa using h)
  have hb := bt_range s 0
  rw [← e]
  show wrap64 ((s[0]'h).toNat : Int) = ((s[0]'h).toNat : Int)
  have : ((s[0]'h).toNat : Int) = bt s 0 := e
  unfold wrap64
  omega
theorem zreads (w : World) : Reads w zeroM hd0 := by
  constructor <;> first | exact C_nil _ _ | exact Nat.le_refl _
theorem cells_one (m : Mv) (h : Hd) : (cells m h).toList.all (·.oneCell') = true := rfl
abbrev BodyC (R : Rp) (m : Mv) : Prop := ∀ (lo r f gm : Nat) (w : World), lo ≤ f → lo ≤ r → lo ≤ gm → RS w r f R → R.Ok → MO (fun _ => True) w gm m → Calls Try.prog 49 #[.pointer (some ⟨r, 0, none⟩), .pointer (some ⟨gm, 0, none⟩)] w fun ex w' => ex = .returned (.tuple #[]) ∧ RS w' r f (Rp.done (bodyP R m).2) ∧ MO (fun _ => True) w' gm (bodyP R m).1 ∧ Kg lo r f gm w w'
set_option maxRecDepth 100000 in
set_option maxHeartbeats 8000000 in
theorem get_empty (s : ByteArray) (w : World) (hs : s.size ≤ 140737488351232) (he : s.size = 0) :
    Calls Try.prog 24 #[.string s] w fun ex w' => ex = .returned (.tuple #[.agg (cells zeroM hd0), .int .i64 1701]) ∧ Below w.heap.size w w' := by
  have e1 : s.toList.isEmpty = true := by rw [ByteArray.toList_eq, List.isEmpty_iff]; exact List.eq_nil_of_length_eq_zero (by simpa using he)
  clear he
  go_enter Try.func24, Try.ntmps24
  go_wp2_with (first
    | ((with_reducible refine gate_dst (N := 2) rfl ?_); refine alloc49' rfl rfl ?_; intro g2 eg w1 h1 b1; have HZ := Aside0.mk h1; have HB := Aside0.mk b1; have HE := Aside0.mk (show w.heap.size ≤ g2 from by omega); clear h1 b1 eg)
    | ((with_reducible refine gate_dst (N := 18) rfl ?_); refine bld rfl rfl (vs := #[]) (by simp) built49 ?_)
    | ((with_reducible refine gate_store (p := 2) rfl ?_); refine stRowN sz49 rfl rfl rfl rfl HZ.out rfl rfl rfl ?_; intro w9 h9 b9 k9; have HZ9 := Aside0.mk h9; have HB9 := Aside0.mk (HB.out.trans (b9 _ HE.out)); clear h9 b9 k9))
  refine bodyPost_ret (results_ct rfl _ _ g2 49 _ (0, 0) _ rfl HZ9.out Try.underlying49 rfl sz49) rfl ?_
  exact ⟨rfl, HB9.out⟩
set_option maxRecDepth 100000 in
set_option maxHeartbeats 8000000 in
theorem get_unknown (s : ByteArray) (w : World) (hs : s.size ≤ 140737488351232) (he : s.size ≠ 0) (hk : knownB (bt s 0) = false) :
    Calls Try.prog 24 #[.string s] w fun ex w' => ex = .returned (.tuple #[.agg (cells zeroM hd0), .int .i64 1701]) ∧ Below w.heap.size w w' := by
  have e1 : s.toList.isEmpty = false := by rw [ByteArray.toList_eq]; rw [List.isEmpty_eq_false_iff]; intro e; exact he (by simpa using congrArg List.length e)
  have HKN := Aside0.mk hk
  have HH := Aside0.mk (Nat.pos_of_ne_zero he)
  have hpos : 0 < s.size := HH.out
  have hb0 := bt_range s 0
  clear he hk
  go_enter Try.func24, Try.ntmps24
  go_wp2_with (first
    | ((with_reducible refine gate_dst (N := 2) rfl ?_); refine alloc49' rfl rfl ?_; intro g2 eg w1 h1 b1; have HZ := Aside0.mk h1; have HB := Aside0.mk b1; have HE := Aside0.mk (show w.heap.size ≤ g2 from by omega); clear h1 b1 eg)
    | (go_at_call 43; rw [b0_eq s HH.out]; (with_reducible refine (msg_known.calls (bt s 0) false _ (by rw [known_f, HKN.out])).mono ?_); rintro e2 w2 ⟨rfl, d2⟩; have HZ2 := Aside0.mk ((d2.below.block g2 (blk_lt HZ.out)).trans HZ.out); have HB2 := Aside0.mk (below_step HB.out d2.below); clear d2)
    | ((with_reducible refine gate_dst (N := 18) rfl ?_); refine bld rfl rfl (vs := #[]) (by simp) built49 ?_)
    | ((with_reducible refine gate_store (p := 2) rfl ?_); refine stRowN sz49 rfl rfl rfl rfl HZ2.out rfl rfl rfl ?_; intro w9 h9 b9 k9; have HZ9 := Aside0.mk h9; have HB9 := Aside0.mk (HB2.out.trans (b9 _ HE.out)); clear h9 b9 k9))
  refine bodyPost_ret (results_ct rfl _ _ g2 49 _ (0, 0) _ rfl HZ9.out Try.underlying49 rfl sz49) rfl ?_
  exact ⟨rfl, HB9.out⟩
theorem u24_at (s : ByteArray) (hs : s.size ≤ 140737488351232) : ∃ k, wire_U24.f k s 1 = some (numOf s 1 3) := by
  obtain ⟨k, hk⟩ := ev_at (number_any s 1 3 (by omega) hs)
  refine ⟨k, ?_⟩
  unfold wire_U24.f
  rw [xe_number, show (3 : Int) = ((3 : Nat) : Int) from rfl, hk]
  rfl
set_option maxRecDepth 100000 in
set_option maxHeartbeats 8000000 in
theorem get_form_a (s : ByteArray) (w : World) (hs : s.size ≤ 140737488351232) (he : s.size ≠ 0) (hk : knownB (bt s 0) = true) (k : Nat) (n q er : Int) (hu : wire_U24.f k s 1 = some (n, q, er)) (hq : er ≠ 0) :
    Calls Try.prog 24 #[.string s] w fun ex w' => ex = .returned (.tuple #[.agg (cells zeroM hd0), .int .i64 1700]) ∧ Below w.heap.size w w' := by
  have f1 : (er != 0) = true := by simpa using hq
  have e1 : s.toList.isEmpty = false := by rw [ByteArray.toList_eq]; rw [List.isEmpty_eq_false_iff]; intro e; exact he (by simpa using congrArg List.length e)
  have HKN := Aside0.mk hk
  have HH := Aside0.mk (Nat.pos_of_ne_zero he)
  have hpos : 0 < s.size := HH.out
  have hb0 := bt_range s 0
  clear he hk
  have HU := Aside0.mk hu
  clear hu
  go_enter Try.func24, Try.ntmps24
  go_wp2_with (first
    | ((with_reducible refine gate_dst (N := 2) rfl ?_); refine alloc49' rfl rfl ?_; intro g2 eg w1 h1 b1; have HZ := Aside0.mk h1; have HB := Aside0.mk b1; have HE := Aside0.mk (show w.heap.size ≤ g2 from by omega); clear h1 b1 eg)
    | (go_at_call 43; rw [b0_eq s HH.out]; (with_reducible refine (msg_known.calls (bt s 0) true _ (by rw [known_f, HKN.out])).mono ?_); rintro e2 w2 ⟨rfl, d2⟩; have HZ2 := Aside0.mk ((d2.below.block g2 (blk_lt HZ.out)).trans HZ.out); have HB2 := Aside0.mk (below_step HB.out d2.below); clear d2)
    | (go_at_call 48; (with_reducible refine (wire_U24.calls k s 1 _ _ _ _ HU.out).mono ?_); rintro e3 w3 ⟨rfl, d3⟩; have HZ3 := Aside0.mk ((d3.below.block g2 (blk_lt HZ2.out)).trans HZ2.out); have HB3 := Aside0.mk (below_step HB2.out d3.below); clear d3)
    | ((with_reducible refine gate_dst (N := 39) rfl ?_); refine bld rfl rfl (vs := #[]) (by simp) built49 ?_)
    | ((with_reducible refine gate_store (p := 2) rfl ?_); refine stRowN sz49 rfl rfl rfl rfl HZ3.out rfl rfl rfl ?_; intro w9 h9 b9 k9; have HZ9 := Aside0.mk h9; have HB9 := Aside0.mk (HB3.out.trans (b9 _ HE.out)); clear h9 b9 k9))
  refine bodyPost_ret (results_ct rfl _ _ g2 49 _ (0, 0) _ rfl HZ9.out Try.underlying49 rfl sz49) rfl ?_
  exact ⟨rfl, HB9.out⟩
set_option maxRecDepth 100000 in
set_option maxHeartbeats 8000000 in
theorem get_form_b (s : ByteArray) (w : World) (hs : s.size ≤ 140737488351232) (he : s.size ≠ 0) (hk : knownB (bt s 0) = true) (k : Nat) (n q er : Int) (hu : wire_U24.f k s 1 = some (n, q, er)) (hq : er = 0) (hn : n ≠ (s.size : Int) - 4) :
    Calls Try.prog 24 #[.string s] w fun ex w' => ex = .returned (.tuple #[.agg (cells zeroM hd0), .int .i64 1700]) ∧ Below w.heap.size w w' := by
  subst hq
  have f2 : (n != (s.size : Int) - 4) = true := by simpa using hn
  have e1 : s.toList.isEmpty = false := by rw [ByteArray.toList_eq]; rw [List.isEmpty_eq_false_iff]; intro e; exact he (by simpa using congrArg List.length e)
  have HKN := Aside0.mk hk
  have HH := Aside0.mk (Nat.pos_of_ne_zero he)
  have hpos : 0 < s.size := HH.out
  have hb0 := bt_range s 0
  clear he hk
  have HU := Aside0.mk hu
  clear hu
  go_enter Try.func24, Try.ntmps24
  go_wp2_with (first
    | ((with_reducible refine gate_dst (N := 2) rfl ?_); refine alloc49' rfl rfl ?_; intro g2 eg w1 h1 b1; have HZ := Aside0.mk h1; have HB := Aside0.mk b1; have HE := Aside0.mk (show w.heap.size ≤ g2 from by omega); clear h1 b1 eg)
    | (go_at_call 43; rw [b0_eq s HH.out]; (with_reducible refine (msg_known.calls (bt s 0) true _ (by rw [known_f, HKN.out])).mono ?_); rintro e2 w2 ⟨rfl, d2⟩; have HZ2 := Aside0.mk ((d2.below.block g2 (blk_lt HZ.out)).trans HZ.out); have HB2 := Aside0.mk (below_step HB.out d2.below); clear d2)
    | (go_at_call 48; (with_reducible refine (wire_U24.calls k s 1 _ _ _ _ HU.out).mono ?_); rintro e3 w3 ⟨rfl, d3⟩; have HZ3 := Aside0.mk ((d3.below.block g2 (blk_lt HZ2.out)).trans HZ2.out); have HB3 := Aside0.mk (below_step HB2.out d3.below); clear d3)
    | ((with_reducible refine gate_dst (N := 39) rfl ?_); refine bld rfl rfl (vs := #[]) (by simp) built49 ?_)
    | ((with_reducible refine gate_store (p := 2) rfl ?_); refine stRowN sz49 rfl rfl rfl rfl HZ3.out rfl rfl rfl ?_; intro w9 h9 b9 k9; have HZ9 := Aside0.mk h9; have HB9 := Aside0.mk (HB3.out.trans (b9 _ HE.out)); clear h9 b9 k9))
  refine bodyPost_ret (results_ct rfl _ _ g2 49 _ (0, 0) _ rfl HZ9.out Try.underlying49 rfl sz49) rfl ?_
  exact ⟨rfl, HB9.out⟩
set_option maxRecDepth 100000 in
set_option maxHeartbeats 8000000 in
theorem get_form_c (s : ByteArray) (w : World) (hs : s.size ≤ 140737488351232) (he : s.size ≠ 0) (hk : knownB (bt s 0) = true) (k : Nat) (n q er : Int) (hu : wire_U24.f k s 1 = some (n, q, er)) (hq : er = 0) (hn : n = (s.size : Int) - 4) (hz : 65536 < s.size) :
    Calls Try.prog 24 #[.string s] w fun ex w' => ex = .returned (.tuple #[.agg (cells zeroM hd0), .int .i64 1700]) ∧ Below w.heap.size w w' := by
  subst hq
  subst hn
  have f3 : decide (65536 < s.size) = true := decide_eq_true hz
  have f3b : decide ((65536 : Int) < (s.size : Int)) = true := decide_eq_true (by omega)
  have e1 : s.toList.isEmpty = false := by rw [ByteArray.toList_eq]; rw [List.isEmpty_eq_false_iff]; intro e; exact he (by simpa using congrArg List.length e)
  have HKN := Aside0.mk hk
  have HH := Aside0.mk (Nat.pos_of_ne_zero he)
  have hpos : 0 < s.size := HH.out
  have hb0 := bt_range s 0
  clear he hk
  have HU := Aside0.mk hu
  clear hu
  go_enter Try.func24, Try.ntmps24
  go_wp2_with (first
    | ((with_reducible refine gate_dst (N := 2) rfl ?_); refine alloc49' rfl rfl ?_; intro g2 eg w1 h1 b1; have HZ := Aside0.mk h1; have HB := Aside0.mk b1; have HE := Aside0.mk (show w.heap.size ≤ g2 from by omega); clear h1 b1 eg)
    | (go_at_call 43; rw [b0_eq s HH.out]; (with_reducible refine (msg_known.calls (bt s 0) true _ (by rw [known_f, HKN.out])).mono ?_); rintro e2 w2 ⟨rfl, d2⟩; have HZ2 := Aside0.mk ((d2.below.block g2 (blk_lt HZ.out)).trans HZ.out); have HB2 := Aside0.mk (below_step HB.out d2.below); clear d2)
    | (go_at_call 48; (with_reducible refine (wire_U24.calls k s 1 _ _ _ _ HU.out).mono ?_); rintro e3 w3 ⟨rfl, d3⟩; have HZ3 := Aside0.mk ((d3.below.block g2 (blk_lt HZ2.out)).trans HZ2.out); have HB3 := Aside0.mk (below_step HB2.out d3.below); clear d3)
    | ((with_reducible refine gate_dst (N := 39) rfl ?_); refine bld rfl rfl (vs := #[]) (by simp) built49 ?_)
    | ((with_reducible refine gate_store (p := 2) rfl ?_); refine stRowN sz49 rfl rfl rfl rfl HZ3.out rfl rfl rfl ?_; intro w9 h9 b9 k9; have HZ9 := Aside0.mk h9; have HB9 := Aside0.mk (HB3.out.trans (b9 _ HE.out)); clear h9 b9 k9))
  refine bodyPost_ret (results_ct rfl _ _ g2 49 _ (0, 0) _ rfl HZ9.out Try.underlying49 rfl sz49) rfl ?_
  exact ⟨rfl, HB9.out⟩
theorem MO.start {w : World} {gm : Nat} {k : Int} (h : w.heap[gm]? = some (.cells (cells { zeroM with f0 := k } hd0) 49 (0, 0))) : MO (fun _ => True) w gm { zeroM with f0 := k } :=
  ⟨hd0, h, Kd.R_nil _ _ _ _ _, Kd.R_nil _ _ _ _ _, Kd.R_nil _ _ _ _ _, Kd.R_nil _ _ _ _ _, Kd.R_nil _ _ _ _ _, Kd.R_nil _ _ _ _ _, Kd.R_nil _ _ _ _ _, Kd.R_nil _ _ _ _ _, Kd.R_nil _ _ _ _ _, Kd.R_nil _ _ _ _ _⟩
theorem getR_ok {s : ByteArray} (h : s.size ≤ 65536) : (getR s).Ok := ⟨Int.le_refl _, by show (0 : Int) ≤ _; omega, by show (s.extract 4 s.size).size ≤ _; rw [ByteArray.size_extract]; omega⟩
set_option maxRecDepth 100000 in
set_option maxHeartbeats 8000000 in
theorem get_t_ok (s : ByteArray) (w : World) (hs : s.size ≤ 140737488351232) (he : s.size ≠ 0) (hk : knownB (bt s 0) = true) (k : Nat) (q : Int) (hu : wire_U24.f k s 1 = some ((s.size : Int) - 4, q, 0)) (h4 : 4 ≤ s.size) (hz : s.size ≤ 65536) (BC : Aside0 (BodyC (getR s) { zeroM with f0 := bt s 0 })) (ht : (getB s).2.done.t = true) (hc : (getF s).c = 0) :
    Calls Try.prog 24 #[.string s] w fun ex w' => ∃ h, ex = .returned (.tuple #[.agg (cells (getB s).1 h), .int .i64 0]) ∧ Reads w' (getB s).1 h ∧ Below w.heap.size w w' := by
  have e1 : s.toList.isEmpty = false := by rw [ByteArray.toList_eq]; rw [List.isEmpty_eq_false_iff]; intro e; exact he (by simpa using congrArg List.length e)
  have HKN := Aside0.mk hk
  have HH := Aside0.mk (Nat.pos_of_ne_zero he)
  have hpos : 0 < s.size := HH.out
  have hb0 := bt_range s 0
  clear he hk
  have f2 : ((s.size : Int) - 4 != (s.size : Int) - 4) = false := by simp
  have f3 : decide (65536 < s.size) = false := decide_eq_false (by omega)
  have f3b : decide ((65536 : Int) < (s.size : Int)) = false := decide_eq_false (by omega)
  have f4 : 4 ≤ s.size := h4
  have HRO := Aside0.mk (getR_ok hz)
  have HU := Aside0.mk hu
  have HT := Aside0.mk ht
  have hcb : ((getF s).c == 0) = true := by simpa using hc
  clear hu hc f4
  have f4 : 4 ≤ s.size := h4
  go_enter Try.func24, Try.ntmps24
  go_wp2_with (first
    | ((with_reducible refine gate_dst (N := 2) rfl ?_); refine alloc49' rfl rfl ?_; intro g2 eg w1 h1 b1; have HZ := Aside0.mk h1; have HB := Aside0.mk b1; have HE := Aside0.mk (show w.heap.size ≤ g2 from by omega); clear h1 b1 eg)
    | (go_at_call 43; rw [b0_eq s HH.out]; (with_reducible refine (msg_known.calls (bt s 0) true _ (by rw [known_f, HKN.out])).mono ?_); rintro e2 w2 ⟨rfl, d2⟩; have HZ2 := Aside0.mk ((d2.below.block g2 (blk_lt HZ.out)).trans HZ.out); have HB2 := Aside0.mk (below_step HB.out d2.below); clear d2)
    | (go_at_call 48; (with_reducible refine (wire_U24.calls k s 1 _ _ _ _ HU.out).mono ?_); rintro e3 w3 ⟨rfl, d3⟩; have HZ3 := Aside0.mk ((d3.below.block g2 (blk_lt HZ2.out)).trans HZ2.out); have HB3 := Aside0.mk (below_step HB2.out d3.below); clear d3)
    | ((with_reducible refine gate_dst (N := 7) rfl ?_); refine alloc49' rfl rfl ?_; intro gm eg w4 h4 b4; have HM4 := Aside0.mk h4; have HZ4 := Aside0.mk ((b4.block g2 (blk_lt HZ3.out)).trans HZ3.out); have HB4 := Aside0.mk (below_step HB3.out b4); have HGM := Aside0.mk (show w.heap.size ≤ gm ∧ g2 ≠ gm from by have := HB3.out.size; have := blk_lt HZ3.out; omega); clear h4 b4 eg)
    | ((with_reducible refine gate_store (p := 7) rfl ?_); refine stRowN (cs := cells { zeroM with f0 := wrap64 ((s[0]'HH.out).toNat : Int) } hd0) sz49 rfl rfl rfl rfl HM4.out rfl rfl (cells_one _ _) ?_; intro w5 h5 b5 k5; rw [b0_eq s HH.out] at h5; have M5 := Aside0.mk (MO.start h5); have HZ5 := Aside0.mk ((k5.2 g2 (blk_lt HZ4.out) HGM.out.2 (by simp)).trans HZ4.out); have HB5 := Aside0.mk (HB4.out.trans (b5 _ HGM.out.1)); clear h5 b5 k5)
    | ((with_reducible refine gate_dst (N := 46) rfl ?_); refine bld rfl rfl (vs := #[]) (by simp) built90 ?_)
    | ((with_reducible refine gate_dst (N := 47) rfl ?_); refine boxA rfl rfl rfl ?_; intro f eg w6 h6 b6; have HF6 := Aside0.mk h6; have M6 := Aside0.mk (M5.out.below b6); have HZ6 := Aside0.mk ((b6.block g2 (blk_lt HZ5.out)).trans HZ5.out); have HB6 := Aside0.mk (below_step HB5.out b6); have HFN := Aside0.mk (show w.heap.size ≤ f ∧ g2 ≠ f from by have := HB5.out.size; have := blk_lt HZ5.out; omega); clear h6 b6 eg)
    | ((with_reducible refine gate_dst (N := 48) rfl ?_); refine bld rfl rfl (vs := #[(0, .string (s.extract 4 s.size)), (2, .pointer (some ⟨f, 0, none⟩))]) (by rfl) (built92 _ _) ?_)
    | ((with_reducible refine gate_dst (N := 49) rfl ?_); refine boxA rfl rfl rfl ?_; intro r eg w7 h7 b7; have H7 := Aside0.mk (show RS w7 r f (getR s) from ⟨h7, (b7.block f (blk_lt HF6.out)).trans HF6.out⟩); have M7 := Aside0.mk (M6.out.below b7); have HZ7 := Aside0.mk ((b7.block g2 (blk_lt HZ6.out)).trans HZ6.out); have HB7 := Aside0.mk (below_step HB6.out b7); have HRN := Aside0.mk (show w.heap.size ≤ r ∧ g2 ≠ r from by have := HB6.out.size; have := blk_lt HZ6.out; omega); clear h7 b7 eg)
    | (go_at_call 49; (with_reducible refine (BC.out w.heap.size r f gm _ HFN.out.1 HRN.out.1 HGM.out.1 H7.out HRO.out M7.out).mono ?_); rintro e8 w8 ⟨rfl, i8, m8, k8⟩; have H8 := Aside0.mk (show RS w8 r f (getB s).2.done from i8); have M8 := Aside0.mk (show MO (fun _ => True) w8 gm (getB s).1 from m8); have HZ8 := Aside0.mk (k8.keep g2 _ HZ7.out HRN.out.2 HFN.out.2 HGM.out.2); have HB8 := Aside0.mk (HB7.out.trans k8.below); clear i8 m8 k8)
    | ((with_reducible refine gate_dst (N := 55) rfl ?_); refine ld (v := .pointer (some ⟨f, 0, none⟩)) rfl rfl rfl H8.out.rd Try.underlying88 rfl rfl ?_)
    | ((with_reducible refine gate_dst (N := 58) rfl ?_); refine ld (v := .bool true) rfl rfl rfl H8.out.ft Try.underlying4 rfl (by show some (Value.bool (getB s).2.done.t) = _; rw [HT.out]) ?_)
    | (go_at_call 50; (with_reducible refine (fail_c w.heap.size r f (getB s).2.done _ 1702 HFN.out.1 H8.out).mono ?_); rintro e9 w9 ⟨rfl, i9, k9⟩; have H9 := Aside0.mk (show RS w9 r f (getF s) from by unfold getF; rw [if_pos HT.out]; exact i9); have M9 := Aside0.mk (M8.out.kf H8.out k9); have HZ9 := Aside0.mk (k9.keep g2 _ HZ8.out HRN.out.2 HFN.out.2); have HB9 := Aside0.mk (HB8.out.trans k9.below); clear i9 k9))
  obtain ⟨hd, hx⟩ := M9.out
  have HX9 := Aside0.mk hx
  clear hx
  go_wp2_with (first
    | (go_at_call 51; (with_reducible refine (ok_c r f (getF s) _ H9.out).mono ?_); rintro e10 w10 ⟨rfl, rfl⟩)
    | ((with_reducible refine gate_dst (N := 72) rfl ?_); refine wpList_load_row rfl 49 _ rfl gm rfl 49 _ (0, 0) _ HX9.out.box Try.underlying49 rfl sz49 ?_)
    | ((with_reducible refine gate_store (p := 2) rfl ?_); refine stRowN sz49 rfl rfl rfl rfl HZ9.out rfl rfl (cells_one _ _) ?_; intro w11 h11 b11 k11; have HZ11 := Aside0.mk h11; have HB11 := Aside0.mk (HB9.out.trans (b11 _ HE.out)); have X11 := Aside0.mk (HX9.out.move ((k11.2 gm (blk_lt HX9.out.box) (Ne.symm HGM.out.2) (by simp)).trans HX9.out.box) [49] (fun j cs t hj ht => (k11.2 j (blk_lt hj) (blk_ne hj HZ9.out (by intro e; exact ht (by simp [e]))) (by simp)).trans hj) (by decide) (by decide) (by decide) (by decide)); clear h11 b11 k11))
  refine bodyPost_ret (results_ct rfl _ _ g2 49 _ (0, 0) _ rfl HZ11.out Try.underlying49 rfl sz49) rfl ?_
  exact ⟨hd, rfl, X11.out.reads, HB11.out⟩
set_option maxRecDepth 100000 in
set_option maxHeartbeats 8000000 in
theorem get_t_no (s : ByteArray) (w : World) (hs : s.size ≤ 140737488351232) (he : s.size ≠ 0) (hk : knownB (bt s 0) = true) (k : Nat) (q : Int) (hu : wire_U24.f k s 1 = some ((s.size : Int) - 4, q, 0)) (h4 : 4 ≤ s.size) (hz : s.size ≤ 65536) (BC : Aside0 (BodyC (getR s) { zeroM with f0 := bt s 0 })) (ht : (getB s).2.done.t = true) (hc : (getF s).c ≠ 0) :
    Calls Try.prog 24 #[.string s] w fun ex w' => ex = .returned (.tuple #[.agg (cells zeroM hd0), .int .i64 (getF s).c]) ∧ Below w.heap.size w w' := by
  have e1 : s.toList.isEmpty = false := by rw [ByteArray.toList_eq]; rw [List.isEmpty_eq_false_iff]; intro e; exact he (by simpa using congrArg List.length e)
  have HKN := Aside0.mk hk
  have HH := Aside0.mk (Nat.pos_of_ne_zero he)
  have hpos : 0 < s.size := HH.out
  have hb0 := bt_range s 0
  clear he hk
  have f2 : ((s.size : Int) - 4 != (s.size : Int) - 4) = false := by simp
  have f3 : decide (65536 < s.size) = false := decide_eq_false (by omega)
  have f3b : decide ((65536 : Int) < (s.size : Int)) = false := decide_eq_false (by omega)
  have f4 : 4 ≤ s.size := h4
  have HRO := Aside0.mk (getR_ok hz)
  have HU := Aside0.mk hu
  have HT := Aside0.mk ht
  have hcb : ((getF s).c == 0) = false := by simpa using hc
  clear hu hc f4
  have f4 : 4 ≤ s.size := h4
  go_enter Try.func24, Try.ntmps24
  go_wp2_with (first
    | ((with_reducible refine gate_dst (N := 2) rfl ?_); refine alloc49' rfl rfl ?_; intro g2 eg w1 h1 b1; have HZ := Aside0.mk h1; have HB := Aside0.mk b1; have HE := Aside0.mk (show w.heap.size ≤ g2 from by omega); clear h1 b1 eg)
    | (go_at_call 43; rw [b0_eq s HH.out]; (with_reducible refine (msg_known.calls (bt s 0) true _ (by rw [known_f, HKN.out])).mono ?_); rintro e2 w2 ⟨rfl, d2⟩; have HZ2 := Aside0.mk ((d2.below.block g2 (blk_lt HZ.out)).trans HZ.out); have HB2 := Aside0.mk (below_step HB.out d2.below); clear d2)
    | (go_at_call 48; (with_reducible refine (wire_U24.calls k s 1 _ _ _ _ HU.out).mono ?_); rintro e3 w3 ⟨rfl, d3⟩; have HZ3 := Aside0.mk ((d3.below.block g2 (blk_lt HZ2.out)).trans HZ2.out); have HB3 := Aside0.mk (below_step HB2.out d3.below); clear d3)
    | ((with_reducible refine gate_dst (N := 7) rfl ?_); refine alloc49' rfl rfl ?_; intro gm eg w4 h4 b4; have HM4 := Aside0.mk h4; have HZ4 := Aside0.mk ((b4.block g2 (blk_lt HZ3.out)).trans HZ3.out); have HB4 := Aside0.mk (below_step HB3.out b4); have HGM := Aside0.mk (show w.heap.size ≤ gm ∧ g2 ≠ gm from by have := HB3.out.size; have := blk_lt HZ3.out; omega); clear h4 b4 eg)
    | ((with_reducible refine gate_store (p := 7) rfl ?_); refine stRowN (cs := cells { zeroM with f0 := wrap64 ((s[0]'HH.out).toNat : Int) } hd0) sz49 rfl rfl rfl rfl HM4.out rfl rfl (cells_one _ _) ?_; intro w5 h5 b5 k5; rw [b0_eq s HH.out] at h5; have M5 := Aside0.mk (MO.start h5); have HZ5 := Aside0.mk ((k5.2 g2 (blk_lt HZ4.out) HGM.out.2 (by simp)).trans HZ4.out); have HB5 := Aside0.mk (HB4.out.trans (b5 _ HGM.out.1)); clear h5 b5 k5)
    | ((with_reducible refine gate_dst (N := 46) rfl ?_); refine bld rfl rfl (vs := #[]) (by simp) built90 ?_)
    | ((with_reducible refine gate_dst (N := 47) rfl ?_); refine boxA rfl rfl rfl ?_; intro f eg w6 h6 b6; have HF6 := Aside0.mk h6; have M6 := Aside0.mk (M5.out.below b6); have HZ6 := Aside0.mk ((b6.block g2 (blk_lt HZ5.out)).trans HZ5.out); have HB6 := Aside0.mk (below_step HB5.out b6); have HFN := Aside0.mk (show w.heap.size ≤ f ∧ g2 ≠ f from by have := HB5.out.size; have := blk_lt HZ5.out; omega); clear h6 b6 eg)
    | ((with_reducible refine gate_dst (N := 48) rfl ?_); refine bld rfl rfl (vs := #[(0, .string (s.extract 4 s.size)), (2, .pointer (some ⟨f, 0, none⟩))]) (by rfl) (built92 _ _) ?_)
    | ((with_reducible refine gate_dst (N := 49) rfl ?_); refine boxA rfl rfl rfl ?_; intro r eg w7 h7 b7; have H7 := Aside0.mk (show RS w7 r f (getR s) from ⟨h7, (b7.block f (blk_lt HF6.out)).trans HF6.out⟩); have M7 := Aside0.mk (M6.out.below b7); have HZ7 := Aside0.mk ((b7.block g2 (blk_lt HZ6.out)).trans HZ6.out); have HB7 := Aside0.mk (below_step HB6.out b7); have HRN := Aside0.mk (show w.heap.size ≤ r ∧ g2 ≠ r from by have := HB6.out.size; have := blk_lt HZ6.out; omega); clear h7 b7 eg)
    | (go_at_call 49; (with_reducible refine (BC.out w.heap.size r f gm _ HFN.out.1 HRN.out.1 HGM.out.1 H7.out HRO.out M7.out).mono ?_); rintro e8 w8 ⟨rfl, i8, m8, k8⟩; have H8 := Aside0.mk (show RS w8 r f (getB s).2.done from i8); have M8 := Aside0.mk (show MO (fun _ => True) w8 gm (getB s).1 from m8); have HZ8 := Aside0.mk (k8.keep g2 _ HZ7.out HRN.out.2 HFN.out.2 HGM.out.2); have HB8 := Aside0.mk (HB7.out.trans k8.below); clear i8 m8 k8)
    | ((with_reducible refine gate_dst (N := 55) rfl ?_); refine ld (v := .pointer (some ⟨f, 0, none⟩)) rfl rfl rfl H8.out.rd Try.underlying88 rfl rfl ?_)
    | ((with_reducible refine gate_dst (N := 58) rfl ?_); refine ld (v := .bool true) rfl rfl rfl H8.out.ft Try.underlying4 rfl (by show some (Value.bool (getB s).2.done.t) = _; rw [HT.out]) ?_)
    | (go_at_call 50; (with_reducible refine (fail_c w.heap.size r f (getB s).2.done _ 1702 HFN.out.1 H8.out).mono ?_); rintro e9 w9 ⟨rfl, i9, k9⟩; have H9 := Aside0.mk (show RS w9 r f (getF s) from by unfold getF; rw [if_pos HT.out]; exact i9); have M9 := Aside0.mk (M8.out.kf H8.out k9); have HZ9 := Aside0.mk (k9.keep g2 _ HZ8.out HRN.out.2 HFN.out.2); have HB9 := Aside0.mk (HB8.out.trans k9.below); clear i9 k9))
  go_wp2_with (first
    | (go_at_call 51; (with_reducible refine (ok_c r f (getF s) _ H9.out).mono ?_); rintro e10 w10 ⟨rfl, rfl⟩))
  refine start_ (n := 10) (S := fun w' => w'.heap[r]? = some (.cells #[.string (getF s).s, .int .i64 (getF s).p, .pointer (some ⟨f, 0, none⟩), .bool (getF s).l] 92 (0, 0)) ∧ w'.heap[f]? = some (.cells #[.int .i64 (getF s).c, .bool (getF s).t] 90 (0, 0))) (ds := []) #[false, false, false, false, false, false, false, false, false, false] (by kernel_rfl) rfl rfl ⟨(((Below.refl w10.heap.size w10).drew.block r (blk_lt H9.out.rd)).trans H9.out.rd), (((Below.refl w10.heap.size w10).drew.block f (blk_lt H9.out.ft)).trans H9.out.ft)⟩ (fun hHeld => ?_)
  have HS := Aside0.mk (Below.refl w10.heap.size w10).drew
  generalize w10.drew = wd at HS hHeld ⊢
  have HHD := Aside0.mk hHeld
  have HZD := Aside0.mk ((HS.out.block g2 (blk_lt HZ9.out)).trans HZ9.out)
  have HBD := Aside0.mk (below_step HB9.out HS.out)
  refine take_ (i := 0) (N := (some 64)) (v := .agg zcells) (a' := ?_) #[true, false, false, false, false, false, false, false, false, false] rfl rfl (by kernel_rfl) (fun _ _ _ h => h) (Or.inl ⟨by rfl, ?_⟩) hHeld ?_ ?_
  · rintro w' hS
    have hb := run_build (P := Try.prog) w' 49 #[] _ built49
    first | (go_simp; done) | (go_simp; rfl) | (simp [execOp, Act.eval, Sem.run_bind, hb]; done)
  rotate_left
  · simp only [Act.put, List.setIfInBounds_toArray, List.set_cons_zero, List.set_cons_succ]
    rfl
  refine pure_ (i := 1) (N := (some 65)) (v := ?_) (a' := ?_) #[true, true, false, false, false, false, false, false, false, false] rfl rfl (by kernel_rfl) (fun _ _ _ h => h) (Or.inl ⟨by rfl, ?_⟩) ?_ ?_
  rotate_left
  · intro w'
    go_simp
    with_reducible rfl
  rotate_left
  · simp only [Act.put, List.setIfInBounds_toArray, List.set_cons_zero, List.set_cons_succ]
    rfl
  refine pure_ (i := 2) (N := (some 66)) (v := ?_) (a' := ?_) #[true, true, true, false, false, false, false, false, false, false] rfl rfl (by kernel_rfl) (fun _ _ _ h => h) (Or.inl ⟨by rfl, ?_⟩) ?_ ?_
  rotate_left
  · intro w'
    go_simp
    with_reducible rfl
  rotate_left
  · simp only [Act.put, List.setIfInBounds_toArray, List.set_cons_zero, List.set_cons_succ]
    rfl
  refine pure_ (i := 3) (N := (some 67)) (v := ?_) (a' := ?_) #[true, true, true, true, false, false, false, false, false, false] rfl rfl (by kernel_rfl) (fun _ _ _ h => h) (Or.inl ⟨by rfl, ?_⟩) ?_ ?_
  rotate_left
  · intro w'
    go_simp
    with_reducible rfl
  rotate_left
  · simp only [Act.put, List.setIfInBounds_toArray, List.set_cons_zero, List.set_cons_succ]
    rfl
  refine take_ (i := 4) (N := (some 68)) (v := ?_) (a' := ?_) #[true, true, true, true, true, false, false, false, false, false] rfl rfl (by kernel_rfl) (fun _ _ _ h => h) (Or.inl ⟨by rfl, ?_⟩) hHeld ?_ ?_
  rotate_left
  · rintro w' hS
    have hc : w'.cell? ⟨r, 2, none⟩ = some (.pointer (some ⟨f, 0, none⟩)) := (blk_cell hS.1 2).trans rfl
    go_simp
    with_reducible rfl
  rotate_left
  · simp only [Act.put, List.setIfInBounds_toArray, List.set_cons_zero, List.set_cons_succ]
    rfl
  refine pure_ (i := 5) (N := (some 69)) (v := ?_) (a' := ?_) #[true, true, true, true, true, true, false, false, false, false] rfl rfl (by kernel_rfl) (fun _ _ _ h => h) (Or.inl ⟨by rfl, ?_⟩) ?_ ?_
  rotate_left
  · intro w'
    go_simp
    with_reducible rfl
  rotate_left
  · simp only [Act.put, List.setIfInBounds_toArray, List.set_cons_zero, List.set_cons_succ]
    rfl
  refine pure_ (i := 6) (N := (some 70)) (v := ?_) (a' := ?_) #[true, true, true, true, true, true, true, false, false, false] rfl rfl (by kernel_rfl) (fun _ _ _ h => h) (Or.inl ⟨by rfl, ?_⟩) ?_ ?_
  rotate_left
  · intro w'
    go_simp
    with_reducible rfl
  rotate_left
  · simp only [Act.put, List.setIfInBounds_toArray, List.set_cons_zero, List.set_cons_succ]
    rfl
  refine take_ (i := 7) (N := (some 71)) (v := ?_) (a' := ?_) #[true, true, true, true, true, true, true, true, false, false] rfl rfl (by kernel_rfl) (fun _ _ _ h => h) (Or.inl ⟨by rfl, ?_⟩) hHeld ?_ ?_
  rotate_left
  · rintro w' hS
    have hc : w'.cell? ⟨f, 0, none⟩ = some (.int .i64 (getF s).c) := (blk_cell hS.2 0).trans rfl
    go_simp
    with_reducible rfl
  rotate_left
  · simp only [Act.put, List.setIfInBounds_toArray, List.set_cons_zero, List.set_cons_succ]
    rfl
  refine one_ (i := 8) (N := none) #[true, true, true, true, true, true, true, true, true, false] rfl rfl (by kernel_rfl) (by decide) (fun K hK => ?_)
  refine stRowM sz49 (by rfl) rfl rfl rfl rfl HZD.out rfl rfl rfl ?_
  intro w11 h11 b11 k11
  have HZ11 := Aside0.mk h11
  have HB11 := Aside0.mk (HBD.out.trans (b11 _ HE.out))
  have HH11 := Aside0.mk (And.intro ((k11.2 r (blk_lt HHD.out.1) (Ne.symm HRN.out.2) (by simp)).trans HHD.out.1) ((k11.2 f (blk_lt HHD.out.2) (Ne.symm HFN.out.2) (by simp)).trans HHD.out.2))
  clear h11 b11 k11
  refine hK.out _ _ (HH11.out) (fun hHeld => ?_)
  clear hK K
  refine pure_ (i := 9) (N := (some 3)) (v := ?_) (a' := ?_) #[true, true, true, true, true, true, true, true, true, true] rfl rfl (by kernel_rfl) (fun _ _ _ h => h) (Or.inl ⟨by rfl, ?_⟩) ?_ ?_
  rotate_left
  · intro w'
    go_simp
    with_reducible rfl
  rotate_left
  · simp only [Act.put, List.setIfInBounds_toArray, List.set_cons_zero, List.set_cons_succ]
    rfl
  refine done_ (by kernel_rfl) ?_
  go_wp2
  refine bodyPost_ret (results_ct rfl _ _ g2 49 _ (0, 0) _ rfl HZ11.out Try.underlying49 rfl sz49) rfl ?_
  exact ⟨rfl, HB11.out⟩
set_option maxRecDepth 100000 in
set_option maxHeartbeats 8000000 in
theorem get_f_ok (s : ByteArray) (w : World) (hs : s.size ≤ 140737488351232) (he : s.size ≠ 0) (hk : knownB (bt s 0) = true) (k : Nat) (q : Int) (hu : wire_U24.f k s 1 = some ((s.size : Int) - 4, q, 0)) (h4 : 4 ≤ s.size) (hz : s.size ≤ 65536) (BC : Aside0 (BodyC (getR s) { zeroM with f0 := bt s 0 })) (ht : (getB s).2.done.t = false) (hc : (getF s).c = 0) :
    Calls Try.prog 24 #[.string s] w fun ex w' => ∃ h, ex = .returned (.tuple #[.agg (cells (getB s).1 h), .int .i64 0]) ∧ Reads w' (getB s).1 h ∧ Below w.heap.size w w' := by
  have e1 : s.toList.isEmpty = false := by rw [ByteArray.toList_eq]; rw [List.isEmpty_eq_false_iff]; intro e; exact he (by simpa using congrArg List.length e)
  have HKN := Aside0.mk hk
  have HH := Aside0.mk (Nat.pos_of_ne_zero he)
  have hpos : 0 < s.size := HH.out
  have hb0 := bt_range s 0
  clear he hk
  have f2 : ((s.size : Int) - 4 != (s.size : Int) - 4) = false := by simp
  have f3 : decide (65536 < s.size) = false := decide_eq_false (by omega)
  have f3b : decide ((65536 : Int) < (s.size : Int)) = false := decide_eq_false (by omega)
  have f4 : 4 ≤ s.size := h4
  have HRO := Aside0.mk (getR_ok hz)
  have HU := Aside0.mk hu
  have HT := Aside0.mk ht
  have hcb : ((getF s).c == 0) = true := by simpa using hc
  clear hu hc f4
  have f4 : 4 ≤ s.size := h4
  go_enter Try.func24, Try.ntmps24
  go_wp2_with (first
    | ((with_reducible refine gate_dst (N := 2) rfl ?_); refine alloc49' rfl rfl ?_; intro g2 eg w1 h1 b1; have HZ := Aside0.mk h1; have HB := Aside0.mk b1; have HE := Aside0.mk (show w.heap.size ≤ g2 from by omega); clear h1 b1 eg)
    | (go_at_call 43; rw [b0_eq s HH.out]; (with_reducible refine (msg_known.calls (bt s 0) true _ (by rw [known_f, HKN.out])).mono ?_); rintro e2 w2 ⟨rfl, d2⟩; have HZ2 := Aside0.mk ((d2.below.block g2 (blk_lt HZ.out)).trans HZ.out); have HB2 := Aside0.mk (below_step HB.out d2.below); clear d2)
    | (go_at_call 48; (with_reducible refine (wire_U24.calls k s 1 _ _ _ _ HU.out).mono ?_); rintro e3 w3 ⟨rfl, d3⟩; have HZ3 := Aside0.mk ((d3.below.block g2 (blk_lt HZ2.out)).trans HZ2.out); have HB3 := Aside0.mk (below_step HB2.out d3.below); clear d3)
    | ((with_reducible refine gate_dst (N := 7) rfl ?_); refine alloc49' rfl rfl ?_; intro gm eg w4 h4 b4; have HM4 := Aside0.mk h4; have HZ4 := Aside0.mk ((b4.block g2 (blk_lt HZ3.out)).trans HZ3.out); have HB4 := Aside0.mk (below_step HB3.out b4); have HGM := Aside0.mk (show w.heap.size ≤ gm ∧ g2 ≠ gm from by have := HB3.out.size; have := blk_lt HZ3.out; omega); clear h4 b4 eg)
    | ((with_reducible refine gate_store (p := 7) rfl ?_); refine stRowN (cs := cells { zeroM with f0 := wrap64 ((s[0]'HH.out).toNat : Int) } hd0) sz49 rfl rfl rfl rfl HM4.out rfl rfl (cells_one _ _) ?_; intro w5 h5 b5 k5; rw [b0_eq s HH.out] at h5; have M5 := Aside0.mk (MO.start h5); have HZ5 := Aside0.mk ((k5.2 g2 (blk_lt HZ4.out) HGM.out.2 (by simp)).trans HZ4.out); have HB5 := Aside0.mk (HB4.out.trans (b5 _ HGM.out.1)); clear h5 b5 k5)
    | ((with_reducible refine gate_dst (N := 46) rfl ?_); refine bld rfl rfl (vs := #[]) (by simp) built90 ?_)
    | ((with_reducible refine gate_dst (N := 47) rfl ?_); refine boxA rfl rfl rfl ?_; intro f eg w6 h6 b6; have HF6 := Aside0.mk h6; have M6 := Aside0.mk (M5.out.below b6); have HZ6 := Aside0.mk ((b6.block g2 (blk_lt HZ5.out)).trans HZ5.out); have HB6 := Aside0.mk (below_step HB5.out b6); have HFN := Aside0.mk (show w.heap.size ≤ f ∧ g2 ≠ f from by have := HB5.out.size; have := blk_lt HZ5.out; omega); clear h6 b6 eg)
    | ((with_reducible refine gate_dst (N := 48) rfl ?_); refine bld rfl rfl (vs := #[(0, .string (s.extract 4 s.size)), (2, .pointer (some ⟨f, 0, none⟩))]) (by rfl) (built92 _ _) ?_)
    | ((with_reducible refine gate_dst (N := 49) rfl ?_); refine boxA rfl rfl rfl ?_; intro r eg w7 h7 b7; have H7 := Aside0.mk (show RS w7 r f (getR s) from ⟨h7, (b7.block f (blk_lt HF6.out)).trans HF6.out⟩); have M7 := Aside0.mk (M6.out.below b7); have HZ7 := Aside0.mk ((b7.block g2 (blk_lt HZ6.out)).trans HZ6.out); have HB7 := Aside0.mk (below_step HB6.out b7); have HRN := Aside0.mk (show w.heap.size ≤ r ∧ g2 ≠ r from by have := HB6.out.size; have := blk_lt HZ6.out; omega); clear h7 b7 eg)
    | (go_at_call 49; (with_reducible refine (BC.out w.heap.size r f gm _ HFN.out.1 HRN.out.1 HGM.out.1 H7.out HRO.out M7.out).mono ?_); rintro e8 w8 ⟨rfl, i8, m8, k8⟩; have H8 := Aside0.mk (show RS w8 r f (getB s).2.done from i8); have M8 := Aside0.mk (show MO (fun _ => True) w8 gm (getB s).1 from m8); have HZ8 := Aside0.mk (k8.keep g2 _ HZ7.out HRN.out.2 HFN.out.2 HGM.out.2); have HB8 := Aside0.mk (HB7.out.trans k8.below); clear i8 m8 k8)
    | ((with_reducible refine gate_dst (N := 55) rfl ?_); refine ld (v := .pointer (some ⟨f, 0, none⟩)) rfl rfl rfl H8.out.rd Try.underlying88 rfl rfl ?_)
    | ((with_reducible refine gate_dst (N := 58) rfl ?_); refine ld (v := .bool false) rfl rfl rfl H8.out.ft Try.underlying4 rfl (by show some (Value.bool (getB s).2.done.t) = _; rw [HT.out]) ?_))
  have H9 := Aside0.mk (show RS w8 r f (getF s) from by unfold getF; rw [if_neg (by rw [HT.out]; decide)]; exact H8.out)
  have M9 := M8
  have HZ9 := HZ8
  have HB9 := HB8
  obtain ⟨hd, hx⟩ := M9.out
  have HX9 := Aside0.mk hx
  clear hx
  go_wp2_with (first
    | (go_at_call 51; (with_reducible refine (ok_c r f (getF s) _ H9.out).mono ?_); rintro e10 w10 ⟨rfl, rfl⟩)
    | ((with_reducible refine gate_dst (N := 72) rfl ?_); refine wpList_load_row rfl 49 _ rfl gm rfl 49 _ (0, 0) _ HX9.out.box Try.underlying49 rfl sz49 ?_)
    | ((with_reducible refine gate_store (p := 2) rfl ?_); refine stRowN sz49 rfl rfl rfl rfl HZ9.out rfl rfl (cells_one _ _) ?_; intro w11 h11 b11 k11; have HZ11 := Aside0.mk h11; have HB11 := Aside0.mk (HB9.out.trans (b11 _ HE.out)); have X11 := Aside0.mk (HX9.out.move ((k11.2 gm (blk_lt HX9.out.box) (Ne.symm HGM.out.2) (by simp)).trans HX9.out.box) [49] (fun j cs t hj ht => (k11.2 j (blk_lt hj) (blk_ne hj HZ9.out (by intro e; exact ht (by simp [e]))) (by simp)).trans hj) (by decide) (by decide) (by decide) (by decide)); clear h11 b11 k11))
  refine bodyPost_ret (results_ct rfl _ _ g2 49 _ (0, 0) _ rfl HZ11.out Try.underlying49 rfl sz49) rfl ?_
  exact ⟨hd, rfl, X11.out.reads, HB11.out⟩
set_option maxRecDepth 100000 in
set_option maxHeartbeats 8000000 in
theorem get_f_no (s : ByteArray) (w : World) (hs : s.size ≤ 140737488351232) (he : s.size ≠ 0) (hk : knownB (bt s 0) = true) (k : Nat) (q : Int) (hu : wire_U24.f k s 1 = some ((s.size : Int) - 4, q, 0)) (h4 : 4 ≤ s.size) (hz : s.size ≤ 65536) (BC : Aside0 (BodyC (getR s) { zeroM with f0 := bt s 0 })) (ht : (getB s).2.done.t = false) (hc : (getF s).c ≠ 0) :
    Calls Try.prog 24 #[.string s] w fun ex w' => ex = .returned (.tuple #[.agg (cells zeroM hd0), .int .i64 (getF s).c]) ∧ Below w.heap.size w w' := by
  have e1 : s.toList.isEmpty = false := by rw [ByteArray.toList_eq]; rw [List.isEmpty_eq_false_iff]; intro e; exact he (by simpa using congrArg List.length e)
  have HKN := Aside0.mk hk
  have HH := Aside0.mk (Nat.pos_of_ne_zero he)
  have hpos : 0 < s.size := HH.out
  have hb0 := bt_range s 0
  clear he hk
  have f2 : ((s.size : Int) - 4 != (s.size : Int) - 4) = false := by simp
  have f3 : decide (65536 < s.size) = false := decide_eq_false (by omega)
  have f3b : decide ((65536 : Int) < (s.size : Int)) = false := decide_eq_false (by omega)
  have f4 : 4 ≤ s.size := h4
  have HRO := Aside0.mk (getR_ok hz)
  have HU := Aside0.mk hu
  have HT := Aside0.mk ht
  have hcb : ((getF s).c == 0) = false := by simpa using hc
  clear hu hc f4
  have f4 : 4 ≤ s.size := h4
  go_enter Try.func24, Try.ntmps24
  go_wp2_with (first
    | ((with_reducible refine gate_dst (N := 2) rfl ?_); refine alloc49' rfl rfl ?_; intro g2 eg w1 h1 b1; have HZ := Aside0.mk h1; have HB := Aside0.mk b1; have HE := Aside0.mk (show w.heap.size ≤ g2 from by omega); clear h1 b1 eg)
    | (go_at_call 43; rw [b0_eq s HH.out]; (with_reducible refine (msg_known.calls (bt s 0) true _ (by rw [known_f, HKN.out])).mono ?_); rintro e2 w2 ⟨rfl, d2⟩; have HZ2 := Aside0.mk ((d2.below.block g2 (blk_lt HZ.out)).trans HZ.out); have HB2 := Aside0.mk (below_step HB.out d2.below); clear d2)
    | (go_at_call 48; (with_reducible refine (wire_U24.calls k s 1 _ _ _ _ HU.out).mono ?_); rintro e3 w3 ⟨rfl, d3⟩; have HZ3 := Aside0.mk ((d3.below.block g2 (blk_lt HZ2.out)).trans HZ2.out); have HB3 := Aside0.mk (below_step HB2.out d3.below); clear d3)
    | ((with_reducible refine gate_dst (N := 7) rfl ?_); refine alloc49' rfl rfl ?_; intro gm eg w4 h4 b4; have HM4 := Aside0.mk h4; have HZ4 := Aside0.mk ((b4.block g2 (blk_lt HZ3.out)).trans HZ3.out); have HB4 := Aside0.mk (below_step HB3.out b4); have HGM := Aside0.mk (show w.heap.size ≤ gm ∧ g2 ≠ gm from by have := HB3.out.size; have := blk_lt HZ3.out; omega); clear h4 b4 eg)
    | ((with_reducible refine gate_store (p := 7) rfl ?_); refine stRowN (cs := cells { zeroM with f0 := wrap64 ((s[0]'HH.out).toNat : Int) } hd0) sz49 rfl rfl rfl rfl HM4.out rfl rfl (cells_one _ _) ?_; intro w5 h5 b5 k5; rw [b0_eq s HH.out] at h5; have M5 := Aside0.mk (MO.start h5); have HZ5 := Aside0.mk ((k5.2 g2 (blk_lt HZ4.out) HGM.out.2 (by simp)).trans HZ4.out); have HB5 := Aside0.mk (HB4.out.trans (b5 _ HGM.out.1)); clear h5 b5 k5)
    | ((with_reducible refine gate_dst (N := 46) rfl ?_); refine bld rfl rfl (vs := #[]) (by simp) built90 ?_)
    | ((with_reducible refine gate_dst (N := 47) rfl ?_); refine boxA rfl rfl rfl ?_; intro f eg w6 h6 b6; have HF6 := Aside0.mk h6; have M6 := Aside0.mk (M5.out.below b6); have HZ6 := Aside0.mk ((b6.block g2 (blk_lt HZ5.out)).trans HZ5.out); have HB6 := Aside0.mk (below_step HB5.out b6); have HFN := Aside0.mk (show w.heap.size ≤ f ∧ g2 ≠ f from by have := HB5.out.size; have := blk_lt HZ5.out; omega); clear h6 b6 eg)
    | ((with_reducible refine gate_dst (N := 48) rfl ?_); refine bld rfl rfl (vs := #[(0, .string (s.extract 4 s.size)), (2, .pointer (some ⟨f, 0, none⟩))]) (by rfl) (built92 _ _) ?_)
    | ((with_reducible refine gate_dst (N := 49) rfl ?_); refine boxA rfl rfl rfl ?_; intro r eg w7 h7 b7; have H7 := Aside0.mk (show RS w7 r f (getR s) from ⟨h7, (b7.block f (blk_lt HF6.out)).trans HF6.out⟩); have M7 := Aside0.mk (M6.out.below b7); have HZ7 := Aside0.mk ((b7.block g2 (blk_lt HZ6.out)).trans HZ6.out); have HB7 := Aside0.mk (below_step HB6.out b7); have HRN := Aside0.mk (show w.heap.size ≤ r ∧ g2 ≠ r from by have := HB6.out.size; have := blk_lt HZ6.out; omega); clear h7 b7 eg)
    | (go_at_call 49; (with_reducible refine (BC.out w.heap.size r f gm _ HFN.out.1 HRN.out.1 HGM.out.1 H7.out HRO.out M7.out).mono ?_); rintro e8 w8 ⟨rfl, i8, m8, k8⟩; have H8 := Aside0.mk (show RS w8 r f (getB s).2.done from i8); have M8 := Aside0.mk (show MO (fun _ => True) w8 gm (getB s).1 from m8); have HZ8 := Aside0.mk (k8.keep g2 _ HZ7.out HRN.out.2 HFN.out.2 HGM.out.2); have HB8 := Aside0.mk (HB7.out.trans k8.below); clear i8 m8 k8)
    | ((with_reducible refine gate_dst (N := 55) rfl ?_); refine ld (v := .pointer (some ⟨f, 0, none⟩)) rfl rfl rfl H8.out.rd Try.underlying88 rfl rfl ?_)
    | ((with_reducible refine gate_dst (N := 58) rfl ?_); refine ld (v := .bool false) rfl rfl rfl H8.out.ft Try.underlying4 rfl (by show some (Value.bool (getB s).2.done.t) = _; rw [HT.out]) ?_))
  have H9 := Aside0.mk (show RS w8 r f (getF s) from by unfold getF; rw [if_neg (by rw [HT.out]; decide)]; exact H8.out)
  have M9 := M8
  have HZ9 := HZ8
  have HB9 := HB8
  go_wp2_with (first
    | (go_at_call 51; (with_reducible refine (ok_c r f (getF s) _ H9.out).mono ?_); rintro e10 w10 ⟨rfl, rfl⟩))
  refine start_ (n := 10) (S := fun w' => w'.heap[r]? = some (.cells #[.string (getF s).s, .int .i64 (getF s).p, .pointer (some ⟨f, 0, none⟩), .bool (getF s).l] 92 (0, 0)) ∧ w'.heap[f]? = some (.cells #[.int .i64 (getF s).c, .bool (getF s).t] 90 (0, 0))) (ds := []) #[false, false, false, false, false, false, false, false, false, false] (by kernel_rfl) rfl rfl ⟨(((Below.refl w10.heap.size w10).drew.block r (blk_lt H9.out.rd)).trans H9.out.rd), (((Below.refl w10.heap.size w10).drew.block f (blk_lt H9.out.ft)).trans H9.out.ft)⟩ (fun hHeld => ?_)
  have HS := Aside0.mk (Below.refl w10.heap.size w10).drew
  generalize w10.drew = wd at HS hHeld ⊢
  have HHD := Aside0.mk hHeld
  have HZD := Aside0.mk ((HS.out.block g2 (blk_lt HZ9.out)).trans HZ9.out)
  have HBD := Aside0.mk (below_step HB9.out HS.out)
  refine take_ (i := 0) (N := (some 64)) (v := .agg zcells) (a' := ?_) #[true, false, false, false, false, false, false, false, false, false] rfl rfl (by kernel_rfl) (fun _ _ _ h => h) (Or.inl ⟨by rfl, ?_⟩) hHeld ?_ ?_
  · rintro w' hS
    have hb := run_build (P := Try.prog) w' 49 #[] _ built49
    first | (go_simp; done) | (go_simp; rfl) | (simp [execOp, Act.eval, Sem.run_bind, hb]; done)
  rotate_left
  · simp only [Act.put, List.setIfInBounds_toArray, List.set_cons_zero, List.set_cons_succ]
    rfl
  refine pure_ (i := 1) (N := (some 65)) (v := ?_) (a' := ?_) #[true, true, false, false, false, false, false, false, false, false] rfl rfl (by kernel_rfl) (fun _ _ _ h => h) (Or.inl ⟨by rfl, ?_⟩) ?_ ?_
  rotate_left
  · intro w'
    go_simp
    with_reducible rfl
  rotate_left
  · simp only [Act.put, List.setIfInBounds_toArray, List.set_cons_zero, List.set_cons_succ]
    rfl
  refine pure_ (i := 2) (N := (some 66)) (v := ?_) (a' := ?_) #[true, true, true, false, false, false, false, false, false, false] rfl rfl (by kernel_rfl) (fun _ _ _ h => h) (Or.inl ⟨by rfl, ?_⟩) ?_ ?_
  rotate_left
  · intro w'
    go_simp
    with_reducible rfl
  rotate_left
  · simp only [Act.put, List.setIfInBounds_toArray, List.set_cons_zero, List.set_cons_succ]
    rfl
  refine pure_ (i := 3) (N := (some 67)) (v := ?_) (a' := ?_) #[true, true, true, true, false, false, false, false, false, false] rfl rfl (by kernel_rfl) (fun _ _ _ h => h) (Or.inl ⟨by rfl, ?_⟩) ?_ ?_
  rotate_left
  · intro w'
    go_simp
    with_reducible rfl
  rotate_left
  · simp only [Act.put, List.setIfInBounds_toArray, List.set_cons_zero, List.set_cons_succ]
    rfl
  refine take_ (i := 4) (N := (some 68)) (v := ?_) (a' := ?_) #[true, true, true, true, true, false, false, false, false, false] rfl rfl (by kernel_rfl) (fun _ _ _ h => h) (Or.inl ⟨by rfl, ?_⟩) hHeld ?_ ?_
  rotate_left
  · rintro w' hS
    have hc : w'.cell? ⟨r, 2, none⟩ = some (.pointer (some ⟨f, 0, none⟩)) := (blk_cell hS.1 2).trans rfl
    go_simp
    with_reducible rfl
  rotate_left
  · simp only [Act.put, List.setIfInBounds_toArray, List.set_cons_zero, List.set_cons_succ]
    rfl
  refine pure_ (i := 5) (N := (some 69)) (v := ?_) (a' := ?_) #[true, true, true, true, true, true, false, false, false, false] rfl rfl (by kernel_rfl) (fun _ _ _ h => h) (Or.inl ⟨by rfl, ?_⟩) ?_ ?_
  rotate_left
  · intro w'
    go_simp
    with_reducible rfl
  rotate_left
  · simp only [Act.put, List.setIfInBounds_toArray, List.set_cons_zero, List.set_cons_succ]
    rfl
  refine pure_ (i := 6) (N := (some 70)) (v := ?_) (a' := ?_) #[true, true, true, true, true, true, true, false, false, false] rfl rfl (by kernel_rfl) (fun _ _ _ h => h) (Or.inl ⟨by rfl, ?_⟩) ?_ ?_
  rotate_left
  · intro w'
    go_simp
    with_reducible rfl
  rotate_left
  · simp only [Act.put, List.setIfInBounds_toArray, List.set_cons_zero, List.set_cons_succ]
    rfl
  refine take_ (i := 7) (N := (some 71)) (v := ?_) (a' := ?_) #[true, true, true, true, true, true, true, true, false, false] rfl rfl (by kernel_rfl) (fun _ _ _ h => h) (Or.inl ⟨by rfl, ?_⟩) hHeld ?_ ?_
  rotate_left
  · rintro w' hS
    have hc : w'.cell? ⟨f, 0, none⟩ = some (.int .i64 (getF s).c) := (blk_cell hS.2 0).trans rfl
    go_simp
    with_reducible rfl
  rotate_left
  · simp only [Act.put, List.setIfInBounds_toArray, List.set_cons_zero, List.set_cons_succ]
    rfl
  refine one_ (i := 8) (N := none) #[true, true, true, true, true, true, true, true, true, false] rfl rfl (by kernel_rfl) (by decide) (fun K hK => ?_)
  refine stRowM sz49 (by rfl) rfl rfl rfl rfl HZD.out rfl rfl rfl ?_
  intro w11 h11 b11 k11
  have HZ11 := Aside0.mk h11
  have HB11 := Aside0.mk (HBD.out.trans (b11 _ HE.out))
  have HH11 := Aside0.mk (And.intro ((k11.2 r (blk_lt HHD.out.1) (Ne.symm HRN.out.2) (by simp)).trans HHD.out.1) ((k11.2 f (blk_lt HHD.out.2) (Ne.symm HFN.out.2) (by simp)).trans HHD.out.2))
  clear h11 b11 k11
  refine hK.out _ _ (HH11.out) (fun hHeld => ?_)
  clear hK K
  refine pure_ (i := 9) (N := (some 3)) (v := ?_) (a' := ?_) #[true, true, true, true, true, true, true, true, true, true] rfl rfl (by kernel_rfl) (fun _ _ _ h => h) (Or.inl ⟨by rfl, ?_⟩) ?_ ?_
  rotate_left
  · intro w'
    go_simp
    with_reducible rfl
  rotate_left
  · simp only [Act.put, List.setIfInBounds_toArray, List.set_cons_zero, List.set_cons_succ]
    rfl
  refine done_ (by kernel_rfl) ?_
  go_wp2
  refine bodyPost_ret (results_ct rfl _ _ g2 49 _ (0, 0) _ rfl HZ11.out Try.underlying49 rfl sz49) rfl ?_
  exact ⟨rfl, HB11.out⟩
end Go.Proofs.Ytlkebjkpmiehcaa.Ms
end
section
namespace Go.Proofs.Ytlkebjkpmiehcaa.Ms
open Go.RowKit Go.Proofs.YtlkebjkpmiehcaaW.PrintWords Go.Proofs.YtlkebjkpmiehcaaW.PrintLast Go.Proofs.YtlkebjkpmiehcaaW.PrintMore Go.Proofs.Ytlkebjkpmiehcaa.X
open Go.Proofs.Ytlkebjkpmiehcaa.Pure (nv numOf vecOf nv_bd nv_bd4 number_any vec_ok)
set_option linter.unusedVariables false
theorem get_of (s : ByteArray) (w : World) (hs : s.size ≤ 140737488351232) (BC : Aside0 (BodyC (getR s) { zeroM with f0 := bt s 0 })) :
    Calls Try.prog 24 #[.string s] w fun ex w' => ∃ h, ex = .returned (.tuple #[.agg (cells (getM s).1 h), .int .i64 (getM s).2]) ∧ Reads w' (getM s).1 h ∧ Below w.heap.size w w' := by
  by_cases he : s.size = 0
  · have e : getM s = (zeroM, 1701) := by unfold getM; rw [if_pos he]
    rw [e]
    exact (get_empty s w hs he).mono fun ex w' ⟨h1, h2⟩ => ⟨hd0, h1, zreads _, h2⟩
  by_cases hk : knownB (bt s 0) = false
  · have e : getM s = (zeroM, 1701) := by unfold getM; rw [if_neg he, if_pos hk]
    rw [e]
    exact (get_unknown s w hs he hk).mono fun ex w' ⟨h1, h2⟩ => ⟨hd0, h1, zreads _, h2⟩
  have hk' : knownB (bt s 0) = true := by simpa using hk
  obtain ⟨k, hk2⟩ := u24_at s hs
  obtain ⟨T, hT⟩ : ∃ T, numOf s 1 3 = T := ⟨_, rfl⟩
  obtain ⟨n, q, er⟩ := T
  rw [hT] at hk2
  by_cases h1 : er = 0
  · by_cases h2 : n = (s.size : Int) - 4
    · by_cases h3 : s.size ≤ 65536
      · subst h1
        subst h2
        have hh : headed s = true := by
          unfold headed
          rw [hT]
          simp only [beq_self_eq_true, Bool.true_and]
          exact decide_eq_true (by omega)
        have h4 : 4 ≤ s.size := by
          rcases num_ok (s := s) (p := 1) (n := 3) (by omega) (by omega) with ⟨_, _, hx⟩ | hx
          · omega
          · rw [hT] at hx
            exact absurd (congrArg (fun x => x.2.2) hx) (by simp)
        have e0 : getM s = if (getF s).c = 0 then ((getB s).1, 0) else (zeroM, (getF s).c) := by
          unfold getM
          rw [if_neg he, if_neg hk, if_neg (by rw [hh]; decide)]
        by_cases hc : (getF s).c = 0
        · rw [e0, if_pos hc]
          by_cases ht : (getB s).2.done.t = true
          · exact get_t_ok s w hs he hk' k q hk2 h4 h3 BC ht hc
          · exact get_f_ok s w hs he hk' k q hk2 h4 h3 BC (by simpa using ht) hc
        · rw [e0, if_neg hc]
          by_cases ht : (getB s).2.done.t = true
          · exact (get_t_no s w hs he hk' k q hk2 h4 h3 BC ht hc).mono fun ex w' ⟨h1, h2⟩ => ⟨hd0, h1, zreads _, h2⟩
          · exact (get_f_no s w hs he hk' k q hk2 h4 h3 BC (by simpa using ht) hc).mono fun ex w' ⟨h1, h2⟩ => ⟨hd0, h1, zreads _, h2⟩
      · have hh : headed s = false := by
          unfold headed
          rw [show decide ((s.size : Int) ≤ 65536) = false from decide_eq_false (by omega)]
          simp
        have e : getM s = (zeroM, 1700) := by unfold getM; rw [if_neg he, if_neg hk, if_pos hh]
        rw [e]
        exact (get_form_c s w hs he hk' k n q er hk2 h1 h2 (by omega)).mono fun ex w' ⟨h1, h2⟩ => ⟨hd0, h1, zreads _, h2⟩
    · have hh : headed s = false := by
        unfold headed
        rw [hT]
        rw [show ((n : Int) == (s.size : Int) - 4) = false from beq_eq_false_iff_ne.mpr h2]
        simp
      have e : getM s = (zeroM, 1700) := by unfold getM; rw [if_neg he, if_neg hk, if_pos hh]
      rw [e]
      exact (get_form_b s w hs he hk' k n q er hk2 h1 h2).mono fun ex w' ⟨h1, h2⟩ => ⟨hd0, h1, zreads _, h2⟩
  · have hh : headed s = false := by
      unfold headed
      rw [hT]
      rw [show ((er : Int) == 0) = false from beq_eq_false_iff_ne.mpr h1]
      simp
    have e : getM s = (zeroM, 1700) := by unfold getM; rw [if_neg he, if_neg hk, if_pos hh]
    rw [e]
    exact (get_form_a s w hs he hk' k n q er hk2 h1).mono fun ex w' ⟨h1, h2⟩ => ⟨hd0, h1, zreads _, h2⟩
theorem bc_no (s : ByteArray) (k : Int) (hk : bt s 0 = k) (n1 : k ≠ 1) (n2 : k ≠ 2) (n8 : k ≠ 8) (n11 : k ≠ 11) (n15 : k ≠ 15) (n20 : k ≠ 20) (n4 : k ≠ 4) : Aside0 (BodyC (getR s) { zeroM with f0 := bt s 0 }) := by
  refine ⟨fun lo r f gm w hl hl2 hg h ho hm => ?_⟩
  rw [hk] at hm ⊢
  have e : bodyP (getR s) { zeroM with f0 := k } = ({ zeroM with f0 := k, f20 := (getR s).numV 1 + 1 }, (getR s).u1) := by
    unfold bodyP
    rw [if_neg n1, if_neg n2, if_neg n8, if_neg n11, if_neg n15, if_neg n20, if_neg n4]
  rw [e]
  exact body_no lo r f gm (getR s) { zeroM with f0 := k } w k rfl (beq_eq_false_iff_ne.mpr n1) (beq_eq_false_iff_ne.mpr n2) (beq_eq_false_iff_ne.mpr n8) (beq_eq_false_iff_ne.mpr n11) (beq_eq_false_iff_ne.mpr n15) (beq_eq_false_iff_ne.mpr n20) (beq_eq_false_iff_ne.mpr n4) hl hl2 hg h ho hm
end Go.Proofs.Ytlkebjkpmiehcaa.Ms
end
section
namespace Go.Proofs.Ytlkebjkpmiehcaa.Ms
open Go.RowKit Go.Proofs.YtlkebjkpmiehcaaW.PrintWords Go.Proofs.YtlkebjkpmiehcaaW.PrintLast Go.Proofs.YtlkebjkpmiehcaaW.PrintMore Go.Proofs.Ytlkebjkpmiehcaa.X
set_option linter.unusedVariables false
theorem stRow49 {ops : Array Oper} {rest : List Oper} {o : Oper} {a : Act} {Q : Exit → Act → World → Prop} {w : World} {p x : Operand} (hgd : o.guard = none) (ho : o.op = .store 49 p x) {g : Nat} (hp : a.eval p = .pointer (some ⟨g, 0, none⟩))
    {cs zs : Array Value} (hx : a.eval x = .agg cs) {t : TypeId} (h : w.heap[g]? = some (.cells zs t (0, 0))) (hz : zs.size = 21) (hc : cs.size = 21) (h1 : cs.toList.all (·.oneCell') = true)
    (H : ∀ w1, w1.heap[g]? = some (.cells cs t (0, 0)) → (∀ lo, lo ≤ g → Below lo w w1) → wpList Try.prog ops Q rest (a.put o.dst undef) w1) : wpList Try.prog ops Q (o :: rest) a w := by
  refine wpList_plain hgd fun K hK => wp_store_row 49 p x ho g cs hp hx t zs h (by rw [hc]; exact sz49) (by rw [hz, hc]) (by rw [← Array.all_toList]; exact h1) (hK _ _ (H _ ?_ ?_))
  · simp [World.setRow, Array.getElem?_modify, h]
  · intro lo hl
    refine ⟨rfl, rfl, rfl, by simp [World.setRow], fun k hk => ?_⟩
    simp only [World.setRow, Array.getElem?_modify]
    rw [if_neg (by omega)]
set_option maxRecDepth 100000 in
set_option maxHeartbeats 8000000 in
theorem un1 (f1 f2 f4 f16 f19 : ByteArray) (f12 f15 f17 f18 f20 : Int) (A3 A5 A6 A7 A8 A9 A10 A11 A13 A14 : Option Addr) (n3 c3 n5 c5 n6 c6 n7 c7 n8 c8 n9 c9 n10 c10 n11 c11 n13 c13 n14 c14 : Nat) (w : World) : Calls Try.prog 46 #[.agg #[.int .i64 1, .string f1, .string f2, .slice A3 n3 c3, .string f4, .slice A5 n5 c5, .slice A6 n6 c6, .slice A7 n7 c7, .slice A8 n8 c8, .slice A9 n9 c9, .slice A10 n10 c10, .slice A11 n11 c11, .int .i64 f12, .slice A13 n13 c13, .slice A14 n14 c14, .int .i64 f15, .string f16, .int .i64 f17, .int .i64 f18, .string f19, .int .i64 f20]] w fun e w' => e = .returned (.agg #[.int .i64 1, .string ⟨#[]⟩, .string ⟨#[]⟩, .slice none 0 0, .string ⟨#[]⟩, .slice none 0 0, .slice none 0 0, .slice none 0 0, .slice none 0 0, .slice none 0 0, .slice none 0 0, .slice none 0 0, .int .i64 f12, .slice A13 n13 c13, .slice A14 n14 c14, .int .i64 f15, .string f16, .int .i64 f17, .int .i64 f18, .string f19, .int .i64 f20]) ∧ Below w.heap.size w w' := by
  go_enter Try.func46, Try.ntmps46
  go_wp2_with (first
    | ((with_reducible refine gate_dst (N := 1) rfl ?_); refine box49 rfl rfl rfl ?_; intro g1 e1 w1 h1 b1; have HM := Aside0.mk h1; have HB := Aside0.mk b1; have HE1 := Aside0.mk e1; clear h1 b1 e1)
    | ((with_reducible refine gate_dst (N := 2) rfl ?_); refine alloc49 rfl rfl ?_; intro g2 e2 zs hzs w2 h2 b2; have HNE := Aside0.mk (show g2 ≠ g1 from by have := blk_lt HM.out; omega); have HZ := Aside0.mk h2; have HL2 := Aside0.mk (show w.heap.size ≤ g2 from by have := HB.out.size; omega); have HZS := Aside0.mk hzs; have n_ := Aside0.mk ((b2.block g1 (blk_lt HM.out)).trans HM.out); clear HM; have HM := n_; clear n_; have n_ := Aside0.mk (below_step HB.out b2); clear HB; have HB := n_; clear n_ h2 b2 e2 hzs)
    | ((with_reducible refine gate_dst (N := 4) rfl ?_); refine ld rfl rfl rfl HM.out Try.underlying3 rfl rfl ?_)
    | ((with_reducible refine gate_dst (N := 25) rfl ?_); refine ld rfl rfl rfl HM.out Try.underlying3 rfl rfl ?_)
    | ((with_reducible refine gate_dst (N := 42) rfl ?_); refine wpList_load_row rfl 49 _ rfl g1 rfl 49 _ (0, 0) _ HM.out Try.underlying49 rfl sz49 ?_)
    | ((with_reducible refine gate_store (p := 2) rfl ?_); refine stRow49 rfl rfl rfl rfl HZ.out HZS.out rfl rfl ?_; intro w3 h3 b3; have HZ3 := Aside0.mk h3; have HB3 := Aside0.mk (HB.out.trans (b3 _ HL2.out)); clear h3 b3)
    | (refine st rfl rfl rfl HM.out (by first | exact sz3 | exact sz9 | exact sz44 | exact sz45 | exact sz46 | exact sz47) rfl rfl rfl (by simp) ?_; intro w3 h3 b3 k3; simp only [List.setIfInBounds_toArray, List.set_cons_succ, List.set_cons_zero, Act.eval] at h3; have n_ := Aside0.mk h3; clear HM; have HM := n_; clear n_; have n_ := Aside0.mk ((k3.2 g2 (blk_lt HZ.out) HNE.out (by simp)).trans HZ.out); clear HZ; have HZ := n_; clear n_; have n_ := Aside0.mk (HB.out.trans (b3 _ (Nat.le_of_eq HE1.out.symm))); clear HB; have HB := n_; clear n_ h3 b3 k3))
  refine bodyPost_ret (results_cell_row rfl _ _ g2 49 _ (0, 0) _ rfl HZ3.out Try.underlying49 rfl sz49) rfl ?_
  exact ⟨rfl, HB3.out⟩
set_option maxRecDepth 100000 in
set_option maxHeartbeats 8000000 in
theorem un2 (f1 f2 f4 f16 f19 : ByteArray) (f12 f15 f17 f18 f20 : Int) (A3 A5 A6 A7 A8 A9 A10 A11 A13 A14 : Option Addr) (n3 c3 n5 c5 n6 c6 n7 c7 n8 c8 n9 c9 n10 c10 n11 c11 n13 c13 n14 c14 : Nat) (w : World) : Calls Try.prog 46 #[.agg #[.int .i64 2, .string f1, .string f2, .slice A3 n3 c3, .string f4, .slice A5 n5 c5, .slice A6 n6 c6, .slice A7 n7 c7, .slice A8 n8 c8, .slice A9 n9 c9, .slice A10 n10 c10, .slice A11 n11 c11, .int .i64 f12, .slice A13 n13 c13, .slice A14 n14 c14, .int .i64 f15, .string f16, .int .i64 f17, .int .i64 f18, .string f19, .int .i64 f20]] w fun e w' => e = .returned (.agg #[.int .i64 2, .string ⟨#[]⟩, .string ⟨#[]⟩, .slice none 0 0, .string f4, .slice none 0 0, .slice none 0 0, .slice A7 n7 c7, .slice A8 n8 c8, .slice none 0 0, .slice A10 n10 c10, .slice A11 n11 c11, .int .i64 0, .slice A13 n13 c13, .slice A14 n14 c14, .int .i64 f15, .string f16, .int .i64 f17, .int .i64 f18, .string f19, .int .i64 f20]) ∧ Below w.heap.size w w' := by
  go_enter Try.func46, Try.ntmps46
  go_wp2_with (first
    | ((with_reducible refine gate_dst (N := 1) rfl ?_); refine box49 rfl rfl rfl ?_; intro g1 e1 w1 h1 b1; have HM := Aside0.mk h1; have HB := Aside0.mk b1; have HE1 := Aside0.mk e1; clear h1 b1 e1)
    | ((with_reducible refine gate_dst (N := 2) rfl ?_); refine alloc49 rfl rfl ?_; intro g2 e2 zs hzs w2 h2 b2; have HNE := Aside0.mk (show g2 ≠ g1 from by have := blk_lt HM.out; omega); have HZ := Aside0.mk h2; have HL2 := Aside0.mk (show w.heap.size ≤ g2 from by have := HB.out.size; omega); have HZS := Aside0.mk hzs; have n_ := Aside0.mk ((b2.block g1 (blk_lt HM.out)).trans HM.out); clear HM; have HM := n_; clear n_; have n_ := Aside0.mk (below_step HB.out b2); clear HB; have HB := n_; clear n_ h2 b2 e2 hzs)
    | ((with_reducible refine gate_dst (N := 4) rfl ?_); refine ld rfl rfl rfl HM.out Try.underlying3 rfl rfl ?_)
    | ((with_reducible refine gate_dst (N := 25) rfl ?_); refine ld rfl rfl rfl HM.out Try.underlying3 rfl rfl ?_)
    | ((with_reducible refine gate_dst (N := 42) rfl ?_); refine wpList_load_row rfl 49 _ rfl g1 rfl 49 _ (0, 0) _ HM.out Try.underlying49 rfl sz49 ?_)
    | ((with_reducible refine gate_store (p := 2) rfl ?_); refine stRow49 rfl rfl rfl rfl HZ.out HZS.out rfl rfl ?_; intro w3 h3 b3; have HZ3 := Aside0.mk h3; have HB3 := Aside0.mk (HB.out.trans (b3 _ HL2.out)); clear h3 b3)
    | (refine st rfl rfl rfl HM.out (by first | exact sz3 | exact sz9 | exact sz44 | exact sz45 | exact sz46 | exact sz47) rfl rfl rfl (by simp) ?_; intro w3 h3 b3 k3; simp only [List.setIfInBounds_toArray, List.set_cons_succ, List.set_cons_zero, Act.eval] at h3; have n_ := Aside0.mk h3; clear HM; have HM := n_; clear n_; have n_ := Aside0.mk ((k3.2 g2 (blk_lt HZ.out) HNE.out (by simp)).trans HZ.out); clear HZ; have HZ := n_; clear n_; have n_ := Aside0.mk (HB.out.trans (b3 _ (Nat.le_of_eq HE1.out.symm))); clear HB; have HB := n_; clear n_ h3 b3 k3))
  refine bodyPost_ret (results_cell_row rfl _ _ g2 49 _ (0, 0) _ rfl HZ3.out Try.underlying49 rfl sz49) rfl ?_
  exact ⟨rfl, HB3.out⟩
set_option maxRecDepth 100000 in
set_option maxHeartbeats 8000000 in
theorem un11 (f1 f2 f4 f16 f19 : ByteArray) (f12 f15 f17 f18 f20 : Int) (A3 A5 A6 A7 A8 A9 A10 A11 A13 A14 : Option Addr) (n3 c3 n5 c5 n6 c6 n7 c7 n8 c8 n9 c9 n10 c10 n11 c11 n13 c13 n14 c14 : Nat) (w : World) : Calls Try.prog 46 #[.agg #[.int .i64 11, .string f1, .string f2, .slice A3 n3 c3, .string f4, .slice A5 n5 c5, .slice A6 n6 c6, .slice A7 n7 c7, .slice A8 n8 c8, .slice A9 n9 c9, .slice A10 n10 c10, .slice A11 n11 c11, .int .i64 f12, .slice A13 n13 c13, .slice A14 n14 c14, .int .i64 f15, .string f16, .int .i64 f17, .int .i64 f18, .string f19, .int .i64 f20]] w fun e w' => e = .returned (.agg #[.int .i64 11, .string f1, .string f2, .slice A3 n3 c3, .string f4, .slice A5 n5 c5, .slice A6 n6 c6, .slice A7 n7 c7, .slice A8 n8 c8, .slice A9 n9 c9, .slice A10 n10 c10, .slice A11 n11 c11, .int .i64 f12, .slice A13 n13 c13, .slice none 0 0, .int .i64 f15, .string f16, .int .i64 f17, .int .i64 f18, .string f19, .int .i64 f20]) ∧ Below w.heap.size w w' := by
  go_enter Try.func46, Try.ntmps46
  go_wp2_with (first
    | ((with_reducible refine gate_dst (N := 1) rfl ?_); refine box49 rfl rfl rfl ?_; intro g1 e1 w1 h1 b1; have HM := Aside0.mk h1; have HB := Aside0.mk b1; have HE1 := Aside0.mk e1; clear h1 b1 e1)
    | ((with_reducible refine gate_dst (N := 2) rfl ?_); refine alloc49 rfl rfl ?_; intro g2 e2 zs hzs w2 h2 b2; have HNE := Aside0.mk (show g2 ≠ g1 from by have := blk_lt HM.out; omega); have HZ := Aside0.mk h2; have HL2 := Aside0.mk (show w.heap.size ≤ g2 from by have := HB.out.size; omega); have HZS := Aside0.mk hzs; have n_ := Aside0.mk ((b2.block g1 (blk_lt HM.out)).trans HM.out); clear HM; have HM := n_; clear n_; have n_ := Aside0.mk (below_step HB.out b2); clear HB; have HB := n_; clear n_ h2 b2 e2 hzs)
    | ((with_reducible refine gate_dst (N := 4) rfl ?_); refine ld rfl rfl rfl HM.out Try.underlying3 rfl rfl ?_)
    | ((with_reducible refine gate_dst (N := 25) rfl ?_); refine ld rfl rfl rfl HM.out Try.underlying3 rfl rfl ?_)
    | ((with_reducible refine gate_dst (N := 42) rfl ?_); refine wpList_load_row rfl 49 _ rfl g1 rfl 49 _ (0, 0) _ HM.out Try.underlying49 rfl sz49 ?_)
    | ((with_reducible refine gate_store (p := 2) rfl ?_); refine stRow49 rfl rfl rfl rfl HZ.out HZS.out rfl rfl ?_; intro w3 h3 b3; have HZ3 := Aside0.mk h3; have HB3 := Aside0.mk (HB.out.trans (b3 _ HL2.out)); clear h3 b3)
    | (refine st rfl rfl rfl HM.out (by first | exact sz3 | exact sz9 | exact sz44 | exact sz45 | exact sz46 | exact sz47) rfl rfl rfl (by simp) ?_; intro w3 h3 b3 k3; simp only [List.setIfInBounds_toArray, List.set_cons_succ, List.set_cons_zero, Act.eval] at h3; have n_ := Aside0.mk h3; clear HM; have HM := n_; clear n_; have n_ := Aside0.mk ((k3.2 g2 (blk_lt HZ.out) HNE.out (by simp)).trans HZ.out); clear HZ; have HZ := n_; clear n_; have n_ := Aside0.mk (HB.out.trans (b3 _ (Nat.le_of_eq HE1.out.symm))); clear HB; have HB := n_; clear n_ h3 b3 k3))
  refine bodyPost_ret (results_cell_row rfl _ _ g2 49 _ (0, 0) _ rfl HZ3.out Try.underlying49 rfl sz49) rfl ?_
  exact ⟨rfl, HB3.out⟩
set_option maxRecDepth 100000 in
set_option maxHeartbeats 8000000 in
theorem un4 (f1 f2 f4 f16 f19 : ByteArray) (f12 f15 f17 f18 f20 : Int) (A3 A5 A6 A7 A8 A9 A10 A11 A13 A14 : Option Addr) (n3 c3 n5 c5 n6 c6 n7 c7 n8 c8 n9 c9 n10 c10 n11 c11 n13 c13 n14 c14 : Nat) (w : World) : Calls Try.prog 46 #[.agg #[.int .i64 4, .string f1, .string f2, .slice A3 n3 c3, .string f4, .slice A5 n5 c5, .slice A6 n6 c6, .slice A7 n7 c7, .slice A8 n8 c8, .slice A9 n9 c9, .slice A10 n10 c10, .slice A11 n11 c11, .int .i64 f12, .slice A13 n13 c13, .slice A14 n14 c14, .int .i64 f15, .string f16, .int .i64 f17, .int .i64 f18, .string f19, .int .i64 f20]] w fun e w' => e = .returned (.agg #[.int .i64 4, .string f1, .string f2, .slice A3 n3 c3, .string f4, .slice A5 n5 c5, .slice A6 n6 c6, .slice A7 n7 c7, .slice A8 n8 c8, .slice A9 n9 c9, .slice A10 n10 c10, .slice A11 n11 c11, .int .i64 f12, .slice A13 n13 c13, .slice A14 n14 c14, .int .i64 f15, .string ⟨#[]⟩, .int .i64 0, .int .i64 0, .string ⟨#[]⟩, .int .i64 f20]) ∧ Below w.heap.size w w' := by
  go_enter Try.func46, Try.ntmps46
  go_wp2_with (first
    | ((with_reducible refine gate_dst (N := 1) rfl ?_); refine box49 rfl rfl rfl ?_; intro g1 e1 w1 h1 b1; have HM := Aside0.mk h1; have HB := Aside0.mk b1; have HE1 := Aside0.mk e1; clear h1 b1 e1)
    | ((with_reducible refine gate_dst (N := 2) rfl ?_); refine alloc49 rfl rfl ?_; intro g2 e2 zs hzs w2 h2 b2; have HNE := Aside0.mk (show g2 ≠ g1 from by have := blk_lt HM.out; omega); have HZ := Aside0.mk h2; have HL2 := Aside0.mk (show w.heap.size ≤ g2 from by have := HB.out.size; omega); have HZS := Aside0.mk hzs; have n_ := Aside0.mk ((b2.block g1 (blk_lt HM.out)).trans HM.out); clear HM; have HM := n_; clear n_; have n_ := Aside0.mk (below_step HB.out b2); clear HB; have HB := n_; clear n_ h2 b2 e2 hzs)
    | ((with_reducible refine gate_dst (N := 4) rfl ?_); refine ld rfl rfl rfl HM.out Try.underlying3 rfl rfl ?_)
    | ((with_reducible refine gate_dst (N := 25) rfl ?_); refine ld rfl rfl rfl HM.out Try.underlying3 rfl rfl ?_)
    | ((with_reducible refine gate_dst (N := 42) rfl ?_); refine wpList_load_row rfl 49 _ rfl g1 rfl 49 _ (0, 0) _ HM.out Try.underlying49 rfl sz49 ?_)
    | ((with_reducible refine gate_store (p := 2) rfl ?_); refine stRow49 rfl rfl rfl rfl HZ.out HZS.out rfl rfl ?_; intro w3 h3 b3; have HZ3 := Aside0.mk h3; have HB3 := Aside0.mk (HB.out.trans (b3 _ HL2.out)); clear h3 b3)
    | (refine st rfl rfl rfl HM.out (by first | exact sz3 | exact sz9 | exact sz44 | exact sz45 | exact sz46 | exact sz47) rfl rfl rfl (by simp) ?_; intro w3 h3 b3 k3; simp only [List.setIfInBounds_toArray, List.set_cons_succ, List.set_cons_zero, Act.eval] at h3; have n_ := Aside0.mk h3; clear HM; have HM := n_; clear n_; have n_ := Aside0.mk ((k3.2 g2 (blk_lt HZ.out) HNE.out (by simp)).trans HZ.out); clear HZ; have HZ := n_; clear n_; have n_ := Aside0.mk (HB.out.trans (b3 _ (Nat.le_of_eq HE1.out.symm))); clear HB; have HB := n_; clear n_ h3 b3 k3))
  refine bodyPost_ret (results_cell_row rfl _ _ g2 49 _ (0, 0) _ rfl HZ3.out Try.underlying49 rfl sz49) rfl ?_
  exact ⟨rfl, HB3.out⟩
set_option maxRecDepth 100000 in
set_option maxHeartbeats 8000000 in
theorem un20 (f1 f2 f4 f16 f19 : ByteArray) (f12 f15 f17 f18 f20 : Int) (A3 A5 A6 A7 A8 A9 A10 A11 A13 A14 : Option Addr) (n3 c3 n5 c5 n6 c6 n7 c7 n8 c8 n9 c9 n10 c10 n11 c11 n13 c13 n14 c14 : Nat) (w : World) : Calls Try.prog 46 #[.agg #[.int .i64 20, .string f1, .string f2, .slice A3 n3 c3, .string f4, .slice A5 n5 c5, .slice A6 n6 c6, .slice A7 n7 c7, .slice A8 n8 c8, .slice A9 n9 c9, .slice A10 n10 c10, .slice A11 n11 c11, .int .i64 f12, .slice A13 n13 c13, .slice A14 n14 c14, .int .i64 f15, .string f16, .int .i64 f17, .int .i64 f18, .string f19, .int .i64 f20]] w fun e w' => e = .returned (.agg #[.int .i64 20, .string f1, .string f2, .slice A3 n3 c3, .string f4, .slice A5 n5 c5, .slice A6 n6 c6, .slice A7 n7 c7, .slice A8 n8 c8, .slice A9 n9 c9, .slice A10 n10 c10, .slice A11 n11 c11, .int .i64 f12, .slice A13 n13 c13, .slice A14 n14 c14, .int .i64 f15, .string ⟨#[]⟩, .int .i64 f17, .int .i64 f18, .string f19, .int .i64 f20]) ∧ Below w.heap.size w w' := by
  go_enter Try.func46, Try.ntmps46
  go_wp2_with (first
    | ((with_reducible refine gate_dst (N := 1) rfl ?_); refine box49 rfl rfl rfl ?_; intro g1 e1 w1 h1 b1; have HM := Aside0.mk h1; have HB := Aside0.mk b1; have HE1 := Aside0.mk e1; clear h1 b1 e1)
    | ((with_reducible refine gate_dst (N := 2) rfl ?_); refine alloc49 rfl rfl ?_; intro g2 e2 zs hzs w2 h2 b2; have HNE := Aside0.mk (show g2 ≠ g1 from by have := blk_lt HM.out; omega); have HZ := Aside0.mk h2; have HL2 := Aside0.mk (show w.heap.size ≤ g2 from by have := HB.out.size; omega); have HZS := Aside0.mk hzs; have n_ := Aside0.mk ((b2.block g1 (blk_lt HM.out)).trans HM.out); clear HM; have HM := n_; clear n_; have n_ := Aside0.mk (below_step HB.out b2); clear HB; have HB := n_; clear n_ h2 b2 e2 hzs)
    | ((with_reducible refine gate_dst (N := 4) rfl ?_); refine ld rfl rfl rfl HM.out Try.underlying3 rfl rfl ?_)
    | ((with_reducible refine gate_dst (N := 25) rfl ?_); refine ld rfl rfl rfl HM.out Try.underlying3 rfl rfl ?_)
    | ((with_reducible refine gate_dst (N := 42) rfl ?_); refine wpList_load_row rfl 49 _ rfl g1 rfl 49 _ (0, 0) _ HM.out Try.underlying49 rfl sz49 ?_)
    | ((with_reducible refine gate_store (p := 2) rfl ?_); refine stRow49 rfl rfl rfl rfl HZ.out HZS.out rfl rfl ?_; intro w3 h3 b3; have HZ3 := Aside0.mk h3; have HB3 := Aside0.mk (HB.out.trans (b3 _ HL2.out)); clear h3 b3)
    | (refine st rfl rfl rfl HM.out (by first | exact sz3 | exact sz9 | exact sz44 | exact sz45 | exact sz46 | exact sz47) rfl rfl rfl (by simp) ?_; intro w3 h3 b3 k3; simp only [List.setIfInBounds_toArray, List.set_cons_succ, List.set_cons_zero, Act.eval] at h3; have n_ := Aside0.mk h3; clear HM; have HM := n_; clear n_; have n_ := Aside0.mk ((k3.2 g2 (blk_lt HZ.out) HNE.out (by simp)).trans HZ.out); clear HZ; have HZ := n_; clear n_; have n_ := Aside0.mk (HB.out.trans (b3 _ (Nat.le_of_eq HE1.out.symm))); clear HB; have HB := n_; clear n_ h3 b3 k3))
  refine bodyPost_ret (results_cell_row rfl _ _ g2 49 _ (0, 0) _ rfl HZ3.out Try.underlying49 rfl sz49) rfl ?_
  exact ⟨rfl, HB3.out⟩
set_option maxRecDepth 100000 in
set_option maxHeartbeats 8000000 in
theorem un15 (f1 f2 f4 f16 f19 : ByteArray) (f12 f15 f17 f18 f20 : Int) (A3 A5 A6 A7 A8 A9 A10 A11 A13 A14 : Option Addr) (n3 c3 n5 c5 n6 c6 n7 c7 n8 c8 n9 c9 n10 c10 n11 c11 n13 c13 n14 c14 : Nat) (w : World) : Calls Try.prog 46 #[.agg #[.int .i64 15, .string f1, .string f2, .slice A3 n3 c3, .string f4, .slice A5 n5 c5, .slice A6 n6 c6, .slice A7 n7 c7, .slice A8 n8 c8, .slice A9 n9 c9, .slice A10 n10 c10, .slice A11 n11 c11, .int .i64 f12, .slice A13 n13 c13, .slice A14 n14 c14, .int .i64 f15, .string f16, .int .i64 f17, .int .i64 f18, .string f19, .int .i64 f20]] w fun e w' => e = .returned (.agg #[.int .i64 15, .string f1, .string f2, .slice A3 n3 c3, .string f4, .slice A5 n5 c5, .slice A6 n6 c6, .slice A7 n7 c7, .slice A8 n8 c8, .slice A9 n9 c9, .slice A10 n10 c10, .slice A11 n11 c11, .int .i64 f12, .slice A13 n13 c13, .slice A14 n14 c14, .int .i64 0, .string ⟨#[]⟩, .int .i64 f17, .int .i64 f18, .string f19, .int .i64 f20]) ∧ Below w.heap.size w w' := by
  go_enter Try.func46, Try.ntmps46
  go_wp2_with (first
    | ((with_reducible refine gate_dst (N := 1) rfl ?_); refine box49 rfl rfl rfl ?_; intro g1 e1 w1 h1 b1; have HM := Aside0.mk h1; have HB := Aside0.mk b1; have HE1 := Aside0.mk e1; clear h1 b1 e1)
    | ((with_reducible refine gate_dst (N := 2) rfl ?_); refine alloc49 rfl rfl ?_; intro g2 e2 zs hzs w2 h2 b2; have HNE := Aside0.mk (show g2 ≠ g1 from by have := blk_lt HM.out; omega); have HZ := Aside0.mk h2; have HL2 := Aside0.mk (show w.heap.size ≤ g2 from by have := HB.out.size; omega); have HZS := Aside0.mk hzs; have n_ := Aside0.mk ((b2.block g1 (blk_lt HM.out)).trans HM.out); clear HM; have HM := n_; clear n_; have n_ := Aside0.mk (below_step HB.out b2); clear HB; have HB := n_; clear n_ h2 b2 e2 hzs)
    | ((with_reducible refine gate_dst (N := 4) rfl ?_); refine ld rfl rfl rfl HM.out Try.underlying3 rfl rfl ?_)
    | ((with_reducible refine gate_dst (N := 25) rfl ?_); refine ld rfl rfl rfl HM.out Try.underlying3 rfl rfl ?_)
    | ((with_reducible refine gate_dst (N := 42) rfl ?_); refine wpList_load_row rfl 49 _ rfl g1 rfl 49 _ (0, 0) _ HM.out Try.underlying49 rfl sz49 ?_)
    | ((with_reducible refine gate_store (p := 2) rfl ?_); refine stRow49 rfl rfl rfl rfl HZ.out HZS.out rfl rfl ?_; intro w3 h3 b3; have HZ3 := Aside0.mk h3; have HB3 := Aside0.mk (HB.out.trans (b3 _ HL2.out)); clear h3 b3)
    | (refine st rfl rfl rfl HM.out (by first | exact sz3 | exact sz9 | exact sz44 | exact sz45 | exact sz46 | exact sz47) rfl rfl rfl (by simp) ?_; intro w3 h3 b3 k3; simp only [List.setIfInBounds_toArray, List.set_cons_succ, List.set_cons_zero, Act.eval] at h3; have n_ := Aside0.mk h3; clear HM; have HM := n_; clear n_; have n_ := Aside0.mk ((k3.2 g2 (blk_lt HZ.out) HNE.out (by simp)).trans HZ.out); clear HZ; have HZ := n_; clear n_; have n_ := Aside0.mk (HB.out.trans (b3 _ (Nat.le_of_eq HE1.out.symm))); clear HB; have HB := n_; clear n_ h3 b3 k3))
  refine bodyPost_ret (results_cell_row rfl _ _ g2 49 _ (0, 0) _ rfl HZ3.out Try.underlying49 rfl sz49) rfl ?_
  exact ⟨rfl, HB3.out⟩
set_option maxRecDepth 100000 in
set_option maxHeartbeats 8000000 in
theorem un24 (f1 f2 f4 f16 f19 : ByteArray) (f12 f15 f17 f18 f20 : Int) (A3 A5 A6 A7 A8 A9 A10 A11 A13 A14 : Option Addr) (n3 c3 n5 c5 n6 c6 n7 c7 n8 c8 n9 c9 n10 c10 n11 c11 n13 c13 n14 c14 : Nat) (w : World) : Calls Try.prog 46 #[.agg #[.int .i64 24, .string f1, .string f2, .slice A3 n3 c3, .string f4, .slice A5 n5 c5, .slice A6 n6 c6, .slice A7 n7 c7, .slice A8 n8 c8, .slice A9 n9 c9, .slice A10 n10 c10, .slice A11 n11 c11, .int .i64 f12, .slice A13 n13 c13, .slice A14 n14 c14, .int .i64 f15, .string f16, .int .i64 f17, .int .i64 f18, .string f19, .int .i64 f20]] w fun e w' => e = .returned (.agg #[.int .i64 24, .string f1, .string f2, .slice A3 n3 c3, .string f4, .slice A5 n5 c5, .slice A6 n6 c6, .slice A7 n7 c7, .slice A8 n8 c8, .slice A9 n9 c9, .slice A10 n10 c10, .slice A11 n11 c11, .int .i64 f12, .slice A13 n13 c13, .slice A14 n14 c14, .int .i64 f15, .string f16, .int .i64 f17, .int .i64 f18, .string f19, .int .i64 0]) ∧ Below w.heap.size w w' := by
  go_enter Try.func46, Try.ntmps46
  go_wp2_with (first
    | ((with_reducible refine gate_dst (N := 1) rfl ?_); refine box49 rfl rfl rfl ?_; intro g1 e1 w1 h1 b1; have HM := Aside0.mk h1; have HB := Aside0.mk b1; have HE1 := Aside0.mk e1; clear h1 b1 e1)
    | ((with_reducible refine gate_dst (N := 2) rfl ?_); refine alloc49 rfl rfl ?_; intro g2 e2 zs hzs w2 h2 b2; have HNE := Aside0.mk (show g2 ≠ g1 from by have := blk_lt HM.out; omega); have HZ := Aside0.mk h2; have HL2 := Aside0.mk (show w.heap.size ≤ g2 from by have := HB.out.size; omega); have HZS := Aside0.mk hzs; have n_ := Aside0.mk ((b2.block g1 (blk_lt HM.out)).trans HM.out); clear HM; have HM := n_; clear n_; have n_ := Aside0.mk (below_step HB.out b2); clear HB; have HB := n_; clear n_ h2 b2 e2 hzs)
    | ((with_reducible refine gate_dst (N := 4) rfl ?_); refine ld rfl rfl rfl HM.out Try.underlying3 rfl rfl ?_)
    | ((with_reducible refine gate_dst (N := 25) rfl ?_); refine ld rfl rfl rfl HM.out Try.underlying3 rfl rfl ?_)
    | ((with_reducible refine gate_dst (N := 42) rfl ?_); refine wpList_load_row rfl 49 _ rfl g1 rfl 49 _ (0, 0) _ HM.out Try.underlying49 rfl sz49 ?_)
    | ((with_reducible refine gate_store (p := 2) rfl ?_); refine stRow49 rfl rfl rfl rfl HZ.out HZS.out rfl rfl ?_; intro w3 h3 b3; have HZ3 := Aside0.mk h3; have HB3 := Aside0.mk (HB.out.trans (b3 _ HL2.out)); clear h3 b3)
    | (refine st rfl rfl rfl HM.out (by first | exact sz3 | exact sz9 | exact sz44 | exact sz45 | exact sz46 | exact sz47) rfl rfl rfl (by simp) ?_; intro w3 h3 b3 k3; simp only [List.setIfInBounds_toArray, List.set_cons_succ, List.set_cons_zero, Act.eval] at h3; have n_ := Aside0.mk h3; clear HM; have HM := n_; clear n_; have n_ := Aside0.mk ((k3.2 g2 (blk_lt HZ.out) HNE.out (by simp)).trans HZ.out); clear HZ; have HZ := n_; clear n_; have n_ := Aside0.mk (HB.out.trans (b3 _ (Nat.le_of_eq HE1.out.symm))); clear HB; have HB := n_; clear n_ h3 b3 k3))
  refine bodyPost_ret (results_cell_row rfl _ _ g2 49 _ (0, 0) _ rfl HZ3.out Try.underlying49 rfl sz49) rfl ?_
  exact ⟨rfl, HB3.out⟩
set_option maxRecDepth 100000 in
set_option maxHeartbeats 8000000 in
theorem un0 (f1 f2 f4 f16 f19 : ByteArray) (f12 f15 f17 f18 f20 : Int) (A3 A5 A6 A7 A8 A9 A10 A11 A13 A14 : Option Addr) (n3 c3 n5 c5 n6 c6 n7 c7 n8 c8 n9 c9 n10 c10 n11 c11 n13 c13 n14 c14 : Nat) (f0 : Int) (h1 : (f0 == 1) = false) (h2 : (f0 == 2) = false) (h11 : (f0 == 11) = false) (h4 : (f0 == 4) = false) (h20 : (f0 == 20) = false) (h15 : (f0 == 15) = false) (h24 : (f0 == 24) = false) (w : World) : Calls Try.prog 46 #[.agg #[.int .i64 f0, .string f1, .string f2, .slice A3 n3 c3, .string f4, .slice A5 n5 c5, .slice A6 n6 c6, .slice A7 n7 c7, .slice A8 n8 c8, .slice A9 n9 c9, .slice A10 n10 c10, .slice A11 n11 c11, .int .i64 f12, .slice A13 n13 c13, .slice A14 n14 c14, .int .i64 f15, .string f16, .int .i64 f17, .int .i64 f18, .string f19, .int .i64 f20]] w fun e w' => e = .returned (.agg #[.int .i64 f0, .string f1, .string f2, .slice A3 n3 c3, .string f4, .slice A5 n5 c5, .slice A6 n6 c6, .slice A7 n7 c7, .slice A8 n8 c8, .slice A9 n9 c9, .slice A10 n10 c10, .slice A11 n11 c11, .int .i64 f12, .slice A13 n13 c13, .slice A14 n14 c14, .int .i64 f15, .string f16, .int .i64 f17, .int .i64 f18, .string f19, .int .i64 f20]) ∧ Below w.heap.size w w' := by
  go_enter Try.func46, Try.ntmps46
  go_wp2_with (first
    | ((with_reducible refine gate_dst (N := 1) rfl ?_); refine box49 rfl rfl rfl ?_; intro g1 e1 w1 h1 b1; have HM := Aside0.mk h1; have HB := Aside0.mk b1; have HE1 := Aside0.mk e1; clear h1 b1 e1)
    | ((with_reducible refine gate_dst (N := 2) rfl ?_); refine alloc49 rfl rfl ?_; intro g2 e2 zs hzs w2 h2 b2; have HNE := Aside0.mk (show g2 ≠ g1 from by have := blk_lt HM.out; omega); have HZ := Aside0.mk h2; have HL2 := Aside0.mk (show w.heap.size ≤ g2 from by have := HB.out.size; omega); have HZS := Aside0.mk hzs; have n_ := Aside0.mk ((b2.block g1 (blk_lt HM.out)).trans HM.out); clear HM; have HM := n_; clear n_; have n_ := Aside0.mk (below_step HB.out b2); clear HB; have HB := n_; clear n_ h2 b2 e2 hzs)
    | ((with_reducible refine gate_dst (N := 4) rfl ?_); refine ld rfl rfl rfl HM.out Try.underlying3 rfl rfl ?_)
    | ((with_reducible refine gate_dst (N := 25) rfl ?_); refine ld rfl rfl rfl HM.out Try.underlying3 rfl rfl ?_)
    | ((with_reducible refine gate_dst (N := 42) rfl ?_); refine wpList_load_row rfl 49 _ rfl g1 rfl 49 _ (0, 0) _ HM.out Try.underlying49 rfl sz49 ?_)
    | ((with_reducible refine gate_store (p := 2) rfl ?_); refine stRow49 rfl rfl rfl rfl HZ.out HZS.out rfl rfl ?_; intro w3 h3 b3; have HZ3 := Aside0.mk h3; have HB3 := Aside0.mk (HB.out.trans (b3 _ HL2.out)); clear h3 b3)
    | (refine st rfl rfl rfl HM.out (by first | exact sz3 | exact sz9 | exact sz44 | exact sz45 | exact sz46 | exact sz47) rfl rfl rfl (by simp) ?_; intro w3 h3 b3 k3; simp only [List.setIfInBounds_toArray, List.set_cons_succ, List.set_cons_zero, Act.eval] at h3; have n_ := Aside0.mk h3; clear HM; have HM := n_; clear n_; have n_ := Aside0.mk ((k3.2 g2 (blk_lt HZ.out) HNE.out (by simp)).trans HZ.out); clear HZ; have HZ := n_; clear n_; have n_ := Aside0.mk (HB.out.trans (b3 _ (Nat.le_of_eq HE1.out.symm))); clear HB; have HB := n_; clear n_ h3 b3 k3))
  refine bodyPost_ret (results_cell_row rfl _ _ g2 49 _ (0, 0) _ rfl HZ3.out Try.underlying49 rfl sz49) rfl ?_
  exact ⟨rfl, HB3.out⟩
theorem unused_calls (m : Mv) (h : Hd) (w : World) : Calls Try.prog 46 #[.agg (cells m h)] w fun e w' => e = .returned (.agg (cells m.unused (h.unused m))) ∧ Below w.heap.size w w' := by
  obtain ⟨f0, f1, f2, f3, f4, f5, f6, f7, f8, f9, f10, f11, f12, f13, f14, f15, f16, f17, f18, f19, f20⟩ := m
  obtain ⟨A3, c3, A5, c5, A6, c6, A7, c7, A8, c8, A9, c9, A10, c10, A11, c11, A13, c13, A14, c14⟩ := h
  by_cases h1 : f0 = 1
  · subst h1
    exact un1 f1 f2 f4 f16 f19 f12 f15 f17 f18 f20 A3 A5 A6 A7 A8 A9 A10 A11 A13 A14 _ c3 _ c5 _ c6 _ c7 _ c8 _ c9 _ c10 _ c11 _ c13 _ c14 w
  by_cases h2 : f0 = 2
  · subst h2
    exact un2 f1 f2 f4 f16 f19 f12 f15 f17 f18 f20 A3 A5 A6 A7 A8 A9 A10 A11 A13 A14 _ c3 _ c5 _ c6 _ c7 _ c8 _ c9 _ c10 _ c11 _ c13 _ c14 w
  by_cases h11 : f0 = 11
  · subst h11
    exact un11 f1 f2 f4 f16 f19 f12 f15 f17 f18 f20 A3 A5 A6 A7 A8 A9 A10 A11 A13 A14 _ c3 _ c5 _ c6 _ c7 _ c8 _ c9 _ c10 _ c11 _ c13 _ c14 w
  by_cases h4 : f0 = 4
  · subst h4
    exact un4 f1 f2 f4 f16 f19 f12 f15 f17 f18 f20 A3 A5 A6 A7 A8 A9 A10 A11 A13 A14 _ c3 _ c5 _ c6 _ c7 _ c8 _ c9 _ c10 _ c11 _ c13 _ c14 w
  by_cases h20 : f0 = 20
  · subst h20
    exact un20 f1 f2 f4 f16 f19 f12 f15 f17 f18 f20 A3 A5 A6 A7 A8 A9 A10 A11 A13 A14 _ c3 _ c5 _ c6 _ c7 _ c8 _ c9 _ c10 _ c11 _ c13 _ c14 w
  by_cases h15 : f0 = 15
  · subst h15
    exact un15 f1 f2 f4 f16 f19 f12 f15 f17 f18 f20 A3 A5 A6 A7 A8 A9 A10 A11 A13 A14 _ c3 _ c5 _ c6 _ c7 _ c8 _ c9 _ c10 _ c11 _ c13 _ c14 w
  by_cases h24 : f0 = 24
  · subst h24
    exact un24 f1 f2 f4 f16 f19 f12 f15 f17 f18 f20 A3 A5 A6 A7 A8 A9 A10 A11 A13 A14 _ c3 _ c5 _ c6 _ c7 _ c8 _ c9 _ c10 _ c11 _ c13 _ c14 w
  simp only [Mv.unused, Hd.unused, if_neg h1, if_neg h2, if_neg h11, if_neg h4, if_neg h20, if_neg h15, if_neg h24]
  exact un0 f1 f2 f4 f16 f19 f12 f15 f17 f18 f20 A3 A5 A6 A7 A8 A9 A10 A11 A13 A14 _ c3 _ c5 _ c6 _ c7 _ c8 _ c9 _ c10 _ c11 _ c13 _ c14 f0 (beq_eq_false_iff_ne.mpr h1) (beq_eq_false_iff_ne.mpr h2) (beq_eq_false_iff_ne.mpr h11) (beq_eq_false_iff_ne.mpr h4) (beq_eq_false_iff_ne.mpr h20) (beq_eq_false_iff_ne.mpr h15) (beq_eq_false_iff_ne.mpr h24) w
end Go.Proofs.Ytlkebjkpmiehcaa.Ms
end
section
namespace Go.Proofs.Ytlkebjkpmiehcaa.Ms
open Go.RowKit Go.Proofs.YtlkebjkpmiehcaaW.PrintWords Go.Proofs.YtlkebjkpmiehcaaW.PrintLast Go.Proofs.YtlkebjkpmiehcaaW.PrintMore Go.Proofs.Ytlkebjkpmiehcaa.X
set_option linter.unusedVariables false
def pv (v : ByteArray) (n : Int) : ByteArray × Int := (wire_PutVec.f v n).getD (ByteArray.empty, 101)
def nm (x n : Int) : ByteArray × Int := (wire_Put.f x n).getD (ByteArray.empty, 101)
theorem bytes_some (x n : Int) (h1 : 1 ≤ n) (h4 : n ≤ 4) : ∃ r, wire_Bytes.f x n = some r ∧ r.size = n.toNat := by
  have : n = 1 ∨ n = 2 ∨ n = 3 ∨ n = 4 := by omega
  rcases this with rfl | rfl | rfl | rfl
  all_goals exact ⟨_, rfl, rfl⟩
theorem w8 (n : Int) (h1 : 1 ≤ n) (h4 : n ≤ 4) : wrap64 (8 * n) = 8 * n := (i64_w _).symm.trans (IntWalk.i64_in _ (by omega))
theorem pv_ex (v : ByteArray) (n : Int) (h1 : 1 ≤ n) (h3 : n ≤ 3) (hv : v.size ≤ 140737488355328) : ∃ r, wire_PutVec.f v n = some r ∧ r.1.size ≤ 3 + v.size ∧ ((r.2 = 0 ∧ r.1.size = n.toNat + v.size) ∨ (r.2 = 101 ∧ r.1 = ByteArray.empty)) := by
  obtain ⟨r, hr, hs⟩ := bytes_some v.size n h1 (by omega)
  unfold wire_PutVec.f
  rw [w8 n h1 (by omega), if_neg (by omega), if_neg (by omega), if_pos (by omega), hr]
  simp only [Option.bind_some]
  have hz : (r ++ v).size = n.toNat + v.size := by rw [ByteArray.size_append, hs]
  by_cases h : shr .i64 (v.size : Int) (8 * n) = 0
  · rw [if_pos h, if_pos (by omega)]
    exact ⟨_, rfl, by show (r ++ v).size ≤ _; omega, .inl ⟨rfl, hz⟩⟩
  · rw [if_neg h]
    exact ⟨_, rfl, by show (0 : Nat) ≤ _; omega, .inr ⟨rfl, rfl⟩⟩
theorem pv_some (v : ByteArray) (n : Int) (h1 : 1 ≤ n) (h3 : n ≤ 3) (hv : v.size ≤ 140737488355328) : wire_PutVec.f v n = some ((pv v n).1, (pv v n).2) := by
  obtain ⟨r, hr, _⟩ := pv_ex v n h1 h3 hv
  unfold pv
  rw [hr]
  rfl
theorem pv_size (v : ByteArray) (n : Int) (h1 : 1 ≤ n) (h3 : n ≤ 3) (hv : v.size ≤ 140737488355328) : (pv v n).1.size ≤ 3 + v.size := by
  obtain ⟨r, hr, hs, _⟩ := pv_ex v n h1 h3 hv
  unfold pv
  rw [hr]
  exact hs
theorem nm_ex (x n : Int) (h1 : 1 ≤ n) (h4 : n ≤ 4) : ∃ r, wire_Put.f x n = some r ∧ r.1.size ≤ 4 := by
  obtain ⟨r, hr, hs⟩ := bytes_some x n h1 h4
  unfold wire_Put.f
  rw [w8 n h1 h4, if_neg (by omega), if_neg (by omega), hr]
  simp only [Option.bind_some]
  by_cases h0 : x < 0
  · rw [if_pos h0]
    exact ⟨_, rfl, by show (0 : Nat) ≤ _; omega⟩
  · rw [if_neg h0, if_pos (by omega)]
    by_cases h : shr .i64 x (8 * n) = 0
    · rw [if_pos h]
      exact ⟨_, rfl, by show r.size ≤ 4; omega⟩
    · rw [if_neg h]
      exact ⟨_, rfl, by show (0 : Nat) ≤ _; omega⟩
theorem nm_some (x n : Int) (h1 : 1 ≤ n) (h4 : n ≤ 4) : wire_Put.f x n = some ((nm x n).1, (nm x n).2) := by
  obtain ⟨r, hr, _⟩ := nm_ex x n h1 h4
  unfold nm
  rw [hr]
  rfl
theorem nm_size (x n : Int) (h1 : 1 ≤ n) (h4 : n ≤ 4) : (nm x n).1.size ≤ 4 := by
  obtain ⟨r, hr, hs⟩ := nm_ex x n h1 h4
  unfold nm
  rw [hr]
  exact hs
theorem num_calls' (lo g : Nat) (s : ByteArray) (b : Bool) (x size : Int) (w : World) (h : Wt lo w g s b) (h1 : 1 ≤ size) (h4 : size ≤ 4) (hn : s.size + 4 ≤ 140737488355328) :
    Calls Try.prog 60 #[.pointer (some ⟨g, 0, none⟩), .int .i64 x, .int .i64 size] w fun ex w' => ex = .returned (.tuple #[]) ∧ Wt lo w' g (s ++ (nm x size).1) (b || !((nm x size).2 == 0)) ∧ Fr lo g w w' :=
  num_calls lo g s _ b x size _ w h (nm_some x size h1 h4) (by have := nm_size x size h1 h4; omega)
theorem vec_calls' (lo g : Nat) (s v : ByteArray) (b : Bool) (size least most : Int) (w : World) (h : Wt lo w g s b) (h1 : 1 ≤ size) (h3 : size ≤ 3) (hn : s.size + 3 + v.size ≤ 140737488355328) :
    Calls Try.prog 57 #[.pointer (some ⟨g, 0, none⟩), .string v, .int .i64 size, .int .i64 least, .int .i64 most] w fun ex w' => ex = .returned (.tuple #[]) ∧ Wt lo w' g (s ++ (pv v size).1) (b || !(vecOk v (pv v size).2 least most)) ∧ Fr lo g w w' :=
  vec_calls lo g s v _ b size least most _ w h (pv_some v size h1 h3 (by omega)) (by have := pv_size v size h1 h3 (by omega); omega)
end Go.Proofs.Ytlkebjkpmiehcaa.Ms
end
section
namespace Go.Proofs.Ytlkebjkpmiehcaa.Ms
open Go.RowKit Go.Proofs.YtlkebjkpmiehcaaW.PrintWords Go.Proofs.YtlkebjkpmiehcaaW.PrintLast Go.Proofs.YtlkebjkpmiehcaaW.PrintMore Go.Proofs.Ytlkebjkpmiehcaa.X
set_option linter.unusedVariables false
def certStep (p : ByteArray × Bool) (c : ByteArray) : ByteArray × Bool :=
  ((p.1 ++ (pv c 3).1) ++ (pv ⟨#[]⟩ 2).1, (p.2 || !(vecOk c (pv c 3).2 1 16777216)) || !(vecOk ⟨#[]⟩ (pv ⟨#[]⟩ 2).2 0 0))
def certW (l : List ByteArray) : ByteArray × Bool := l.foldl certStep (ByteArray.empty, false)
theorem pv2 : (pv ⟨#[]⟩ 2).1.size ≤ 3 := by have := pv_size ⟨#[]⟩ 2 (by omega) (by omega) (by show (0 : Nat) ≤ _; omega); exact Nat.le_trans this (by show 3 + 0 ≤ 3; omega)
structure Cap (w0 w : World) (gb gm : Nat) (cs : Array Value) : Prop where
  box : w.heap[gb]? = some (.cells #[.pointer (some ⟨gm, 0, none⟩)] 85 (0, 0))
  msg : w.heap[gm]? = some (.cells cs 49 (0, 0))
  below : Below w0.heap.size w0 w
theorem Cap.fr {w0 w w' : World} {lo g gb gm : Nat} {cs : Array Value} (h : Cap w0 w gb gm cs) (f : Fr lo g w w') (hl : w0.heap.size ≤ lo) (h1 : gb ≠ g) (h2 : gm ≠ g) : Cap w0 w' gb gm cs :=
  ⟨f.keep _ _ _ h.box h1 (by decide), f.keep _ _ _ h.msg h2 (by decide), h.below.trans (f.below.mono hl)⟩
theorem Cap.over {w0 w w' : World} {gb gm : Nat} {cs : Array Value} (h : Cap w0 w gb gm cs) (b : Below w.heap.size w w') : Cap w0 w' gb gm cs :=
  ⟨(b.block gb (blk_lt h.box)).trans h.box, (b.block gm (blk_lt h.msg)).trans h.msg, h.below.trans (b.mono h.below.size)⟩
end Go.Proofs.Ytlkebjkpmiehcaa.Ms
end
section
namespace Go.Proofs.Ytlkebjkpmiehcaa.Ms
open Go.RowKit Go.Proofs.YtlkebjkpmiehcaaW.PrintWords Go.Proofs.YtlkebjkpmiehcaaW.PrintLast Go.Proofs.YtlkebjkpmiehcaaW.PrintMore Go.Proofs.Ytlkebjkpmiehcaa.X
set_option linter.unusedVariables false
theorem box85 {ops : Array Oper} {rest : List Oper} {o : Oper} {a : Act} {Q : Exit → Act → World → Prop} {w : World} {x : Operand} (hgd : o.guard = none) (ho : o.op = .box 85 x) {q : Option Addr} (hx : a.eval x = .pointer q)
    (H : ∀ g, g = w.heap.size → ∀ w1, w1.heap[g]? = some (.cells #[.pointer q] 85 (0, 0)) → Below w.heap.size w w1 → wpList Try.prog ops Q rest (a.put o.dst (.pointer (some ⟨g, 0, none⟩))) w1) : wpList Try.prog ops Q (o :: rest) a w := by
  refine Kd.event_run hgd ?_ (H _ rfl _ (blk_new w _) (below_alloc (Below.refl _ _) _))
  unfold execOp
  simp only [ho, hx]
  rfl
structure At (w0 w : World) (lo g gm : Nat) (cs : Array Value) : Prop where
  wt : Wt lo w g ByteArray.empty false
  box : w.heap[gm]? = some (.cells cs 49 (0, 0))
  lt : gm < lo
  below : Below w0.heap.size w0 w
  le : w0.heap.size ≤ lo
theorem cellB {w : World} {g : Nat} {v : Value} (h : w.heap[g]? = some (.cells #[v] 85 (0, 0))) : w.cell? ⟨g, 0, none⟩ = some v := (blk_cell h 0).trans rfl
set_option maxRecDepth 100000 in
set_option maxHeartbeats 8000000 in
theorem body24 (lo g gm : Nat) (cs : Array Value) (w0 w : World) (h : At w0 w lo g gm cs) (hk : cs[0]? = some (.int .i64 24)) (u : Int) (hu : cs[20]? = some (.int .i64 u)) :
    Calls Try.prog 44 #[.pointer (some ⟨g, 0, none⟩), .pointer (some ⟨gm, 0, none⟩)] w fun ex w' => ex = .returned (.tuple #[]) ∧ Wt lo w' g (ByteArray.empty ++ (nm (wrap64 (u - 1)) 1).1) ((false || !(u == 1 || u == 2)) || !((nm (wrap64 (u - 1)) 1).2 == 0)) ∧ Fr lo g w w' := by
  have HW := Aside0.mk h.wt
  have HM := Aside0.mk h.box
  have HB := Aside0.mk h.below
  have HL := Aside0.mk h.le
  have HNM := Aside0.mk (show gm ≠ g from by have := h.wt.lt; have := h.lt; omega)
  have HV0 := Aside0.mk hk
  have HV20 := Aside0.mk hu
  have HN := Aside0.mk (show (ByteArray.empty).size + 4 ≤ 140737488355328 from by show 0 + 4 ≤ _; omega)
  clear h hk hu
  by_cases c1 : u = 1
  · have c1b : (u == 1) = true := beq_iff_eq.mpr c1
    clear c1
    rw [c1b]
    go_enter Try.func44, Try.ntmps44
    go_wp2_with (first
    | ((with_reducible refine gate_dst (N := 3) rfl ?_); refine box85 rfl rfl rfl ?_; intro gb eb w1 h1 b1; have HW1 := Aside0.mk (HW.out.below b1); have HF := Aside0.mk (Fr.of_below (g := g) HW.out.size b1); have HC := Aside0.mk (Cap.mk (w0 := w0) h1 ((b1.block gm (blk_lt HM.out)).trans HM.out) (HB.out.trans (b1.mono HB.out.size))); have HNB := Aside0.mk (show gb ≠ g from by have := HW.out.lt; omega); have hcb := cellB h1; have hcm := (blk_cell HC.out.msg 20).trans HV20.out; clear h1 b1 eb)
    | ((with_reducible refine gate_dst (N := 4) rfl ?_); refine ld rfl rfl rfl HC.out.box Try.underlying85 rfl rfl ?_)
    | ((with_reducible refine gate_dst (N := 7) rfl ?_); refine ld rfl rfl rfl HC.out.msg Try.underlying3 rfl HV0.out ?_)
    | ((with_reducible refine gate_dst (N := 9) rfl ?_); refine ld rfl rfl rfl HC.out.box Try.underlying85 rfl rfl ?_)
    | ((with_reducible refine gate_dst (N := 12) rfl ?_); refine ld rfl rfl rfl HC.out.msg Try.underlying3 rfl HV20.out ?_)
    | ((with_reducible refine gate_dst (N := 23) rfl ?_); refine ld rfl rfl rfl HC.out.box Try.underlying85 rfl rfl ?_)
    | ((with_reducible refine gate_dst (N := 26) rfl ?_); refine ld rfl rfl rfl HC.out.msg Try.underlying3 rfl HV20.out ?_)
    | (go_at_call 61; first
      | ((with_reducible refine (need_calls lo g _ _ true _ HW1.out).mono ?_); rintro e2 w2 ⟨rfl, i2, b2, k2⟩; have HW2 := Aside0.mk i2; have f2 := Fr.of_keep b2 k2; have n_ := Aside0.mk (HF.out.trans f2); clear HF; have HF := n_; clear n_; have n_ := Aside0.mk (HC.out.fr f2 HL.out HNB.out HNM.out); clear HC; have HC := n_; clear n_; clear i2 b2 k2 f2))
    | (go_at_call 60; first
      | ((with_reducible refine (num_calls' lo g _ _ (wrap64 (u - 1)) 1 _ HW2.out (by omega) (by omega) HN.out).mono ?_); rintro e3 w3 ⟨rfl, i3, f3⟩; have HW3 := Aside0.mk i3; have n_ := Aside0.mk (HF.out.trans f3); clear HF; have HF := n_; clear n_; have n_ := Aside0.mk (HC.out.fr f3 HL.out HNB.out HNM.out); clear HC; have HC := n_; clear n_; clear i3 f3)))
    first | go_end0 | ((try simp only [Exit.inBlock, Exit.then]); refine bodyPost_ret (results_none rfl _ _ _) rfl ?_)
    exact ⟨rfl, HW3.out, HF.out⟩
  · have c1b : (u == 1) = false := beq_eq_false_iff_ne.mpr c1
    clear c1
    by_cases c2 : u = 2
    · have c2b : (u == 2) = true := beq_iff_eq.mpr c2
      clear c2
      rw [c1b, c2b]
      go_enter Try.func44, Try.ntmps44
      go_wp2_with (first
    | ((with_reducible refine gate_dst (N := 3) rfl ?_); refine box85 rfl rfl rfl ?_; intro gb eb w1 h1 b1; have HW1 := Aside0.mk (HW.out.below b1); have HF := Aside0.mk (Fr.of_below (g := g) HW.out.size b1); have HC := Aside0.mk (Cap.mk (w0 := w0) h1 ((b1.block gm (blk_lt HM.out)).trans HM.out) (HB.out.trans (b1.mono HB.out.size))); have HNB := Aside0.mk (show gb ≠ g from by have := HW.out.lt; omega); have hcb := cellB h1; have hcm := (blk_cell HC.out.msg 20).trans HV20.out; clear h1 b1 eb)
    | ((with_reducible refine gate_dst (N := 4) rfl ?_); refine ld rfl rfl rfl HC.out.box Try.underlying85 rfl rfl ?_)
    | ((with_reducible refine gate_dst (N := 7) rfl ?_); refine ld rfl rfl rfl HC.out.msg Try.underlying3 rfl HV0.out ?_)
    | ((with_reducible refine gate_dst (N := 9) rfl ?_); refine ld rfl rfl rfl HC.out.box Try.underlying85 rfl rfl ?_)
    | ((with_reducible refine gate_dst (N := 12) rfl ?_); refine ld rfl rfl rfl HC.out.msg Try.underlying3 rfl HV20.out ?_)
    | ((with_reducible refine gate_dst (N := 23) rfl ?_); refine ld rfl rfl rfl HC.out.box Try.underlying85 rfl rfl ?_)
    | ((with_reducible refine gate_dst (N := 26) rfl ?_); refine ld rfl rfl rfl HC.out.msg Try.underlying3 rfl HV20.out ?_)
    | (go_at_call 61; first
      | ((with_reducible refine (need_calls lo g _ _ true _ HW1.out).mono ?_); rintro e2 w2 ⟨rfl, i2, b2, k2⟩; have HW2 := Aside0.mk i2; have f2 := Fr.of_keep b2 k2; have n_ := Aside0.mk (HF.out.trans f2); clear HF; have HF := n_; clear n_; have n_ := Aside0.mk (HC.out.fr f2 HL.out HNB.out HNM.out); clear HC; have HC := n_; clear n_; clear i2 b2 k2 f2))
    | (go_at_call 60; first
      | ((with_reducible refine (num_calls' lo g _ _ (wrap64 (u - 1)) 1 _ HW2.out (by omega) (by omega) HN.out).mono ?_); rintro e3 w3 ⟨rfl, i3, f3⟩; have HW3 := Aside0.mk i3; have n_ := Aside0.mk (HF.out.trans f3); clear HF; have HF := n_; clear n_; have n_ := Aside0.mk (HC.out.fr f3 HL.out HNB.out HNM.out); clear HC; have HC := n_; clear n_; clear i3 f3)))
      first | go_end0 | ((try simp only [Exit.inBlock, Exit.then]); refine bodyPost_ret (results_none rfl _ _ _) rfl ?_)
      exact ⟨rfl, HW3.out, HF.out⟩
    · have c2b : (u == 2) = false := beq_eq_false_iff_ne.mpr c2
      clear c2
      rw [c1b, c2b]
      go_enter Try.func44, Try.ntmps44
      go_wp2_with (first
    | ((with_reducible refine gate_dst (N := 3) rfl ?_); refine box85 rfl rfl rfl ?_; intro gb eb w1 h1 b1; have HW1 := Aside0.mk (HW.out.below b1); have HF := Aside0.mk (Fr.of_below (g := g) HW.out.size b1); have HC := Aside0.mk (Cap.mk (w0 := w0) h1 ((b1.block gm (blk_lt HM.out)).trans HM.out) (HB.out.trans (b1.mono HB.out.size))); have HNB := Aside0.mk (show gb ≠ g from by have := HW.out.lt; omega); have hcb := cellB h1; have hcm := (blk_cell HC.out.msg 20).trans HV20.out; clear h1 b1 eb)
    | ((with_reducible refine gate_dst (N := 4) rfl ?_); refine ld rfl rfl rfl HC.out.box Try.underlying85 rfl rfl ?_)
    | ((with_reducible refine gate_dst (N := 7) rfl ?_); refine ld rfl rfl rfl HC.out.msg Try.underlying3 rfl HV0.out ?_)
    | ((with_reducible refine gate_dst (N := 9) rfl ?_); refine ld rfl rfl rfl HC.out.box Try.underlying85 rfl rfl ?_)
    | ((with_reducible refine gate_dst (N := 12) rfl ?_); refine ld rfl rfl rfl HC.out.msg Try.underlying3 rfl HV20.out ?_)
    | ((with_reducible refine gate_dst (N := 23) rfl ?_); refine ld rfl rfl rfl HC.out.box Try.underlying85 rfl rfl ?_)
    | ((with_reducible refine gate_dst (N := 26) rfl ?_); refine ld rfl rfl rfl HC.out.msg Try.underlying3 rfl HV20.out ?_)
    | (go_at_call 61; first
      | ((with_reducible refine (need_calls lo g _ _ false _ HW1.out).mono ?_); rintro e2 w2 ⟨rfl, i2, b2, k2⟩; have HW2 := Aside0.mk i2; have f2 := Fr.of_keep b2 k2; have n_ := Aside0.mk (HF.out.trans f2); clear HF; have HF := n_; clear n_; have n_ := Aside0.mk (HC.out.fr f2 HL.out HNB.out HNM.out); clear HC; have HC := n_; clear n_; clear i2 b2 k2 f2))
    | (go_at_call 60; first
      | ((with_reducible refine (num_calls' lo g _ _ (wrap64 (u - 1)) 1 _ HW2.out (by omega) (by omega) HN.out).mono ?_); rintro e3 w3 ⟨rfl, i3, f3⟩; have HW3 := Aside0.mk i3; have n_ := Aside0.mk (HF.out.trans f3); clear HF; have HF := n_; clear n_; have n_ := Aside0.mk (HC.out.fr f3 HL.out HNB.out HNM.out); clear HC; have HC := n_; clear n_; clear i3 f3)))
      first | go_end0 | ((try simp only [Exit.inBlock, Exit.then]); refine bodyPost_ret (results_none rfl _ _ _) rfl ?_)
      exact ⟨rfl, HW3.out, HF.out⟩
end Go.Proofs.Ytlkebjkpmiehcaa.Ms
end
section
namespace Go.Proofs.Ytlkebjkpmiehcaa.Ms
open Go.RowKit Go.Proofs.YtlkebjkpmiehcaaW.PrintWords Go.Proofs.YtlkebjkpmiehcaaW.PrintLast Go.Proofs.YtlkebjkpmiehcaaW.PrintMore Go.Proofs.Ytlkebjkpmiehcaa.X
set_option linter.unusedVariables false
abbrev Bodies (m : Mv) (h : Hd) (w0 : World) (u : ByteArray) (bu : Bool) : Prop := ∀ w lo g gm, At w0 w lo g gm (cells m h) →
  Calls Try.prog 44 #[.pointer (some ⟨g, 0, none⟩), .pointer (some ⟨gm, 0, none⟩)] w fun ex w' => ex = .returned (.tuple #[]) ∧ Wt lo w' g u bu ∧ Fr lo g w w'
def be3 (n : Nat) : ByteArray := (wire_Bytes.f n 3).getD ByteArray.empty
theorem be3_some (n : Nat) : wire_Bytes.f n 3 = some (be3 n) := rfl
theorem un_reads {w : World} {m : Mv} {h : Hd} (r : Reads w m h) : Reads w m.unused (h.unused m) := by
  unfold Mv.unused Hd.unused
  repeat' split
  all_goals (constructor <;> first | exact C_nil _ _ | exact Nat.zero_le _ | exact r.r3 | exact r.r5 | exact r.r6 | exact r.r7 | exact r.r8 | exact r.r9 | exact r.r10 | exact r.r11 | exact r.r13 | exact r.r14 | exact r.l3 | exact r.l5 | exact r.l6 | exact r.l7 | exact r.l8 | exact r.l9 | exact r.l10 | exact r.l11 | exact r.l13 | exact r.l14)
set_option maxRecDepth 100000 in
set_option maxHeartbeats 8000000 in
theorem put_bad (m : Mv) (h : Hd) (u : ByteArray) (w : World) (hk : msg_known.f m.f0 = some true) (hr : Reads w m h) (ht : m.unused.texts ≤ 9223372036854775807) (hl : m.unused.lists ≤ 9223372036854775807) (hy : Bodies m h w u true) :
    Calls Try.prog 23 #[.agg (cells m h)] w fun ex w' => ex = .returned (.tuple #[.string ⟨#[]⟩, .int .i64 1700]) ∧ Below w.heap.size w w' := by
  have HK := Aside0.mk hk
  have HR := Aside0.mk hr
  have HY := Aside0.mk hy
  have HT := Aside0.mk ht
  have HL := Aside0.mk hl
  clear hk hr hy ht hl
  go_enter Try.func23, Try.ntmps23
  go_wp2_with (first
    | ((with_reducible refine gate_dst (N := 1) rfl ?_); refine box49 rfl rfl rfl ?_; intro gm e1 w1 h1 b1; have HM := Aside0.mk h1; have HB := Aside0.mk b1; have HE := Aside0.mk (blk_lt h1); clear h1 b1 e1)
    | ((with_reducible refine gate_dst (N := 6) rfl ?_); refine ld (v := .int .i64 m.f0) rfl rfl rfl HM.out Try.underlying3 rfl rfl ?_)
    | (go_at_call 43; (with_reducible refine (msg_known.calls m.f0 true _ HK.out).mono ?_); rintro e2 w2 ⟨rfl, d2⟩; have HM2 := Aside0.mk ((d2.below.block gm (blk_lt HM.out)).trans HM.out); have HB2 := Aside0.mk (below_step HB.out d2.below); clear d2)
    | ((with_reducible refine gate_dst (N := 9) rfl ?_); refine build83 rfl rfl ?_)
    | ((with_reducible refine gate_dst (N := 10) rfl ?_); refine box83 rfl _ rfl rfl ?_; intro g eg w3 i3 b3; have HA := Aside0.mk (At.mk (w0 := w) i3 ((b3.block gm (blk_lt HM2.out)).trans HM2.out) (blk_lt HM2.out) (below_step HB2.out b3) HB2.out.size); clear i3 b3 eg)
    | (go_at_call 44; (refine (HY.out _ _ _ _ HA.out).mono ?_); rintro e4 w4 ⟨rfl, i4, f4⟩; have HM4 := Aside0.mk (f4.keep _ _ _ HA.out.box (by have := HA.out.lt; have := HA.out.wt.lt; omega) (by decide)); have HB4 := Aside0.mk (HA.out.below.trans (f4.below.mono HA.out.le)); obtain ⟨v4, h4, l4, o4⟩ := i4; obtain ⟨A4, c4, rfl⟩ := own_slice o4; have HG4 := Aside0.mk h4; have HO4 := Aside0.mk o4; have hcb := cell1 h4; have hc0 := cell0 h4; clear h4 o4 f4))
  go_ret2
  exact ⟨rfl, HB4.out⟩
set_option maxRecDepth 100000 in
set_option maxHeartbeats 8000000 in
theorem put_unused (m : Mv) (h : Hd) (u : ByteArray) (w : World) (hk : msg_known.f m.f0 = some true) (hr : Reads w m h) (ht : m.unused.texts ≤ 9223372036854775807) (hl : m.unused.lists ≤ 9223372036854775807) (hy : Bodies m h w u false) (hz : m.unused.zero = false) :
    Calls Try.prog 23 #[.agg (cells m h)] w fun ex w' => ex = .returned (.tuple #[.string ⟨#[]⟩, .int .i64 1700]) ∧ Below w.heap.size w w' := by
  have HK := Aside0.mk hk
  have HR := Aside0.mk hr
  have HY := Aside0.mk hy
  have HT := Aside0.mk ht
  have HL := Aside0.mk hl
  clear hk hr hy ht hl
  go_enter Try.func23, Try.ntmps23
  go_wp2_with (first
    | ((with_reducible refine gate_dst (N := 1) rfl ?_); refine box49 rfl rfl rfl ?_; intro gm e1 w1 h1 b1; have HM := Aside0.mk h1; have HB := Aside0.mk b1; have HE := Aside0.mk (blk_lt h1); clear h1 b1 e1)
    | ((with_reducible refine gate_dst (N := 6) rfl ?_); refine ld (v := .int .i64 m.f0) rfl rfl rfl HM.out Try.underlying3 rfl rfl ?_)
    | (go_at_call 43; (with_reducible refine (msg_known.calls m.f0 true _ HK.out).mono ?_); rintro e2 w2 ⟨rfl, d2⟩; have HM2 := Aside0.mk ((d2.below.block gm (blk_lt HM.out)).trans HM.out); have HB2 := Aside0.mk (below_step HB.out d2.below); clear d2)
    | ((with_reducible refine gate_dst (N := 9) rfl ?_); refine build83 rfl rfl ?_)
    | ((with_reducible refine gate_dst (N := 10) rfl ?_); refine box83 rfl _ rfl rfl ?_; intro g eg w3 i3 b3; have HA := Aside0.mk (At.mk (w0 := w) i3 ((b3.block gm (blk_lt HM2.out)).trans HM2.out) (blk_lt HM2.out) (below_step HB2.out b3) HB2.out.size); clear i3 b3 eg)
    | (go_at_call 44; (refine (HY.out _ _ _ _ HA.out).mono ?_); rintro e4 w4 ⟨rfl, i4, f4⟩; have HM4 := Aside0.mk (f4.keep _ _ _ HA.out.box (by have := HA.out.lt; have := HA.out.wt.lt; omega) (by decide)); have HB4 := Aside0.mk (HA.out.below.trans (f4.below.mono HA.out.le)); obtain ⟨v4, h4, l4, o4⟩ := i4; obtain ⟨A4, c4, rfl⟩ := own_slice o4; have HG4 := Aside0.mk h4; have HO4 := Aside0.mk o4; have hcb := cell1 h4; have hc0 := cell0 h4; clear h4 o4 f4)
    | ((with_reducible refine gate_dst (N := 18) rfl ?_); refine gate_guard rfl ?_; refine wpList_load_row rfl 49 _ rfl gm rfl 49 _ (0, 0) _ HM4.out Try.underlying49 rfl sz49 ?_)
    | (go_at_call 46; (with_reducible refine (unused_calls m h _).mono ?_); rintro e5 w5 ⟨rfl, b5⟩; have HG5 := Aside0.mk ((b5.block g (blk_lt HG4.out)).trans HG4.out); have HM5 := Aside0.mk ((b5.block gm (blk_lt HM4.out)).trans HM4.out); have HO5 := Aside0.mk (HO4.out.kept (grown_of_below b5 none) (by cases A4 <;> simp [Value.ownBlock])); have HB5 := Aside0.mk (below_step HB4.out b5); clear b5 hcb hc0)
    | (go_at_call 45; (with_reducible refine (zero_calls m.unused (h.unused m) _ (un_reads (HR.out.below HB5.out)) HT.out HL.out).mono ?_); rintro e6 w6 ⟨rfl, b6⟩; have HG6 := Aside0.mk ((b6.block g (blk_lt HG5.out)).trans HG5.out); have HM6 := Aside0.mk ((b6.block gm (blk_lt HM5.out)).trans HM5.out); have HO6 := Aside0.mk (HO5.out.kept (grown_of_below b6 none) (by cases A4 <;> simp [Value.ownBlock])); have HB6 := Aside0.mk (below_step HB5.out b6); have hc0 := cell0 HG6.out; clear b6))
  go_ret2
  exact ⟨rfl, HB6.out⟩
set_option maxRecDepth 100000 in
set_option maxHeartbeats 8000000 in
theorem put_long (m : Mv) (h : Hd) (u : ByteArray) (w : World) (hk : msg_known.f m.f0 = some true) (hr : Reads w m h) (ht : m.unused.texts ≤ 9223372036854775807) (hl : m.unused.lists ≤ 9223372036854775807) (hy : Bodies m h w u false) (hz : m.unused.zero = true) (hs : 65532 < u.size) :
    Calls Try.prog 23 #[.agg (cells m h)] w fun ex w' => ex = .returned (.tuple #[.string ⟨#[]⟩, .int .i64 1700]) ∧ Below w.heap.size w w' := by
  have HK := Aside0.mk hk
  have HR := Aside0.mk hr
  have HY := Aside0.mk hy
  have HT := Aside0.mk ht
  have HL := Aside0.mk hl
  clear hk hr hy ht hl
  have hs1 : decide ((65532 : Int) < (u.size : Int)) = true := decide_eq_true (by omega)
  go_enter Try.func23, Try.ntmps23
  go_wp2_with (first
    | ((with_reducible refine gate_dst (N := 1) rfl ?_); refine box49 rfl rfl rfl ?_; intro gm e1 w1 h1 b1; have HM := Aside0.mk h1; have HB := Aside0.mk b1; have HE := Aside0.mk (blk_lt h1); clear h1 b1 e1)
    | ((with_reducible refine gate_dst (N := 6) rfl ?_); refine ld (v := .int .i64 m.f0) rfl rfl rfl HM.out Try.underlying3 rfl rfl ?_)
    | (go_at_call 43; (with_reducible refine (msg_known.calls m.f0 true _ HK.out).mono ?_); rintro e2 w2 ⟨rfl, d2⟩; have HM2 := Aside0.mk ((d2.below.block gm (blk_lt HM.out)).trans HM.out); have HB2 := Aside0.mk (below_step HB.out d2.below); clear d2)
    | ((with_reducible refine gate_dst (N := 9) rfl ?_); refine build83 rfl rfl ?_)
    | ((with_reducible refine gate_dst (N := 10) rfl ?_); refine box83 rfl _ rfl rfl ?_; intro g eg w3 i3 b3; have HA := Aside0.mk (At.mk (w0 := w) i3 ((b3.block gm (blk_lt HM2.out)).trans HM2.out) (blk_lt HM2.out) (below_step HB2.out b3) HB2.out.size); clear i3 b3 eg)
    | (go_at_call 44; (refine (HY.out _ _ _ _ HA.out).mono ?_); rintro e4 w4 ⟨rfl, i4, f4⟩; have HM4 := Aside0.mk (f4.keep _ _ _ HA.out.box (by have := HA.out.lt; have := HA.out.wt.lt; omega) (by decide)); have HB4 := Aside0.mk (HA.out.below.trans (f4.below.mono HA.out.le)); obtain ⟨v4, h4, l4, o4⟩ := i4; obtain ⟨A4, c4, rfl⟩ := own_slice o4; have HG4 := Aside0.mk h4; have HO4 := Aside0.mk o4; have hcb := cell1 h4; have hc0 := cell0 h4; clear h4 o4 f4)
    | ((with_reducible refine gate_dst (N := 18) rfl ?_); refine gate_guard rfl ?_; refine wpList_load_row rfl 49 _ rfl gm rfl 49 _ (0, 0) _ HM4.out Try.underlying49 rfl sz49 ?_)
    | (go_at_call 46; (with_reducible refine (unused_calls m h _).mono ?_); rintro e5 w5 ⟨rfl, b5⟩; have HG5 := Aside0.mk ((b5.block g (blk_lt HG4.out)).trans HG4.out); have HM5 := Aside0.mk ((b5.block gm (blk_lt HM4.out)).trans HM4.out); have HO5 := Aside0.mk (HO4.out.kept (grown_of_below b5 none) (by cases A4 <;> simp [Value.ownBlock])); have HB5 := Aside0.mk (below_step HB4.out b5); clear b5 hcb hc0)
    | (go_at_call 45; (with_reducible refine (zero_calls m.unused (h.unused m) _ (un_reads (HR.out.below HB5.out)) HT.out HL.out).mono ?_); rintro e6 w6 ⟨rfl, b6⟩; have HG6 := Aside0.mk ((b6.block g (blk_lt HG5.out)).trans HG5.out); have HM6 := Aside0.mk ((b6.block gm (blk_lt HM5.out)).trans HM5.out); have HO6 := Aside0.mk (HO5.out.kept (grown_of_below b6 none) (by cases A4 <;> simp [Value.ownBlock])); have HB6 := Aside0.mk (below_step HB5.out b6); have hc0 := cell0 HG6.out; clear b6))
  go_ret2
  exact ⟨rfl, HB6.out⟩
end Go.Proofs.Ytlkebjkpmiehcaa.Ms
end
section
namespace Go.Proofs.Ytlkebjkpmiehcaa.Ms
open Go.RowKit Go.Proofs.YtlkebjkpmiehcaaW.PrintWords Go.Proofs.YtlkebjkpmiehcaaW.PrintLast Go.Proofs.YtlkebjkpmiehcaaW.PrintMore Go.Proofs.Ytlkebjkpmiehcaa.X
set_option linter.unusedVariables false
def framed (k : Int) (u : ByteArray) : ByteArray := strOfNums [k % 256] ++ be3 u.size ++ u
set_option maxRecDepth 100000 in
set_option maxHeartbeats 8000000 in
theorem put_ok (m : Mv) (h : Hd) (u : ByteArray) (w : World) (hk : msg_known.f m.f0 = some true) (hr : Reads w m h) (ht : m.unused.texts ≤ 9223372036854775807) (hl : m.unused.lists ≤ 9223372036854775807) (hy : Bodies m h w u false) (hz : m.unused.zero = true) (hs : u.size ≤ 65532) :
    Calls Try.prog 23 #[.agg (cells m h)] w fun ex w' => ex = .returned (.tuple #[.string (framed m.f0 u), .int .i64 0]) ∧ Below w.heap.size w w' := by
  have HK := Aside0.mk hk
  have HR := Aside0.mk hr
  have HY := Aside0.mk hy
  have HT := Aside0.mk ht
  have HL := Aside0.mk hl
  clear hk hr hy ht hl
  have hs1 : decide ((65532 : Int) < (u.size : Int)) = false := decide_eq_false (by omega)
  obtain ⟨t, ht0⟩ : ∃ t, be3 u.size = t := ⟨_, rfl⟩
  have HBE := Aside0.mk (show wire_Bytes.f (u.size : Int) 3 = some t from by rw [← ht0]; exact be3_some _)
  obtain ⟨y, hy0⟩ : ∃ y : List Int, y = [m.f0 % 256] := ⟨_, rfl⟩
  have Ny := Aside0.mk hy0
  have hc1 : (strOfNums y).size + t.size ≤ 9223372036854775807 := by
    obtain ⟨r, h1, h2⟩ := bytes_some u.size 3 (by omega) (by omega)
    rw [HBE.out] at h1
    cases h1
    rw [hy0, h2]
    show 1 + 3 ≤ 9223372036854775807
    omega
  have c1 := eq_true hc1
  have c1f : (9223372036854775807 < (strOfNums y).size + t.size) = False := eq_false (Nat.not_lt.2 hc1)
  obtain ⟨z, hz0⟩ : ∃ z, strOfNums y ++ t = z := ⟨_, rfl⟩
  have hc2 : z.size + u.size ≤ 9223372036854775807 := by
    obtain ⟨r, h1, h2⟩ := bytes_some u.size 3 (by omega) (by omega)
    rw [HBE.out] at h1
    cases h1
    rw [← hz0, ByteArray.size_append, hy0, h2]
    have : (strOfNums [m.f0 % 256]).size = 1 := rfl
    omega
  have c2 := eq_true hc2
  have c2f : (9223372036854775807 < z.size + u.size) = False := eq_false (Nat.not_lt.2 hc2)
  obtain ⟨f, hf0⟩ : ∃ f, z ++ u = f := ⟨_, rfl⟩
  have Sf := Aside0.mk (show framed m.f0 u = f from by unfold framed; rw [ht0, ← hy0, hz0, hf0])
  clear ht0 hy0 hc1 hc2
  go_enter Try.func23, Try.ntmps23
  go_wp2_with (first
    | ((with_reducible refine gate_dst (N := 1) rfl ?_); refine box49 rfl rfl rfl ?_; intro gm e1 w1 h1 b1; have HM := Aside0.mk h1; have HB := Aside0.mk b1; have HE := Aside0.mk (blk_lt h1); clear h1 b1 e1)
    | ((with_reducible refine gate_dst (N := 6) rfl ?_); refine ld (v := .int .i64 m.f0) rfl rfl rfl HM.out Try.underlying3 rfl rfl ?_)
    | (go_at_call 43; (with_reducible refine (msg_known.calls m.f0 true _ HK.out).mono ?_); rintro e2 w2 ⟨rfl, d2⟩; have HM2 := Aside0.mk ((d2.below.block gm (blk_lt HM.out)).trans HM.out); have HB2 := Aside0.mk (below_step HB.out d2.below); clear d2)
    | ((with_reducible refine gate_dst (N := 9) rfl ?_); refine build83 rfl rfl ?_)
    | ((with_reducible refine gate_dst (N := 10) rfl ?_); refine box83 rfl _ rfl rfl ?_; intro g eg w3 i3 b3; have HA := Aside0.mk (At.mk (w0 := w) i3 ((b3.block gm (blk_lt HM2.out)).trans HM2.out) (blk_lt HM2.out) (below_step HB2.out b3) HB2.out.size); clear i3 b3 eg)
    | (go_at_call 44; (refine (HY.out _ _ _ _ HA.out).mono ?_); rintro e4 w4 ⟨rfl, i4, f4⟩; have HM4 := Aside0.mk (f4.keep _ _ _ HA.out.box (by have := HA.out.lt; have := HA.out.wt.lt; omega) (by decide)); have HB4 := Aside0.mk (HA.out.below.trans (f4.below.mono HA.out.le)); obtain ⟨v4, h4, l4, o4⟩ := i4; obtain ⟨A4, c4, rfl⟩ := own_slice o4; have HG4 := Aside0.mk h4; have HO4 := Aside0.mk o4; have hcb := cell1 h4; have hc0 := cell0 h4; clear h4 o4 f4)
    | ((with_reducible refine gate_dst (N := 18) rfl ?_); refine gate_guard rfl ?_; refine wpList_load_row rfl 49 _ rfl gm rfl 49 _ (0, 0) _ HM4.out Try.underlying49 rfl sz49 ?_)
    | (go_at_call 46; (with_reducible refine (unused_calls m h _).mono ?_); rintro e5 w5 ⟨rfl, b5⟩; have HG5 := Aside0.mk ((b5.block g (blk_lt HG4.out)).trans HG4.out); have HM5 := Aside0.mk ((b5.block gm (blk_lt HM4.out)).trans HM4.out); have HO5 := Aside0.mk (HO4.out.kept (grown_of_below b5 none) (by cases A4 <;> simp [Value.ownBlock])); have HB5 := Aside0.mk (below_step HB4.out b5); clear b5 hcb hc0)
    | (go_at_call 45; (with_reducible refine (zero_calls m.unused (h.unused m) _ (un_reads (HR.out.below HB5.out)) HT.out HL.out).mono ?_); rintro e6 w6 ⟨rfl, b6⟩; have HG6 := Aside0.mk ((b6.block g (blk_lt HG5.out)).trans HG5.out); have HM6 := Aside0.mk ((b6.block gm (blk_lt HM5.out)).trans HM5.out); have HO6 := Aside0.mk (HO5.out.kept (grown_of_below b6 none) (by cases A4 <;> simp [Value.ownBlock])); have HB6 := Aside0.mk (below_step HB5.out b6); have hc0 := cell0 HG6.out; clear b6))
  clear hc0
  refine start_ (n := 20) (S := fun w' => Below w6.heap.size w6 w') (ds := []) #[false, false, false, false, false, false, false, false, false, false, false, false, false, false, false, false, false, false, false, false] (by kernel_rfl) rfl rfl (Below.refl w6.heap.size w6).drew (fun hHeld => ?_)
  have HS7 := Aside0.mk (Below.refl w6.heap.size w6).drew
  generalize w6.drew = w7 at HS7 hHeld ⊢
  refine pure_ (i := 0) (N := (some 31)) (v := ?_) (a' := ?_) #[true, false, false, false, false, false, false, false, false, false, false, false, false, false, false, false, false, false, false, false] rfl rfl (by kernel_rfl) (fun _ _ _ h => h) (Or.inl ⟨by rfl, ?_⟩) ?_ ?_
  rotate_left
  · intro w'
    go_simp
    with_reducible rfl
  rotate_left
  · simp only [Act.put, List.setIfInBounds_toArray, List.set_cons_zero, List.set_cons_succ]
    rfl
  refine take_ (i := 1) (N := (some 32)) (v := ?_) (a' := ?_) #[true, true, false, false, false, false, false, false, false, false, false, false, false, false, false, false, false, false, false, false] rfl rfl (by kernel_rfl) (fun _ _ _ h => h) (Or.inl ⟨by rfl, ?_⟩) hHeld ?_ ?_
  rotate_left
  · rintro w' hS
    have hc : w'.cell? ⟨gm, 0, none⟩ = some (.int .i64 m.f0) := (blk_cell ((hS.block gm (blk_lt HM6.out)).trans HM6.out) 0).trans rfl
    go_simp
    with_reducible rfl
  rotate_left
  · simp only [Act.put, List.setIfInBounds_toArray, List.set_cons_zero, List.set_cons_succ]
    rfl
  refine pure_ (i := 2) (N := (some 33)) (v := ?_) (a' := ?_) #[true, true, true, false, false, false, false, false, false, false, false, false, false, false, false, false, false, false, false, false] rfl rfl (by kernel_rfl) (fun _ _ _ h => h) (Or.inl ⟨by rfl, ?_⟩) ?_ ?_
  rotate_left
  · intro w'
    go_simp
    with_reducible rfl
  rotate_left
  · simp only [Act.put, List.setIfInBounds_toArray, List.set_cons_zero, List.set_cons_succ]
    rfl
  refine pure_ (i := 5) (N := (some 36)) (v := ?_) (a' := ?_) #[true, true, true, false, false, true, false, false, false, false, false, false, false, false, false, false, false, false, false, false] rfl rfl (by kernel_rfl) (fun _ _ _ h => h) (Or.inl ⟨by rfl, ?_⟩) ?_ ?_
  rotate_left
  · intro w'
    go_simp
    with_reducible rfl
  rotate_left
  · simp only [Act.put, List.setIfInBounds_toArray, List.set_cons_zero, List.set_cons_succ]
    rfl
  refine pure_ (i := 6) (N := (some 37)) (v := ?_) (a' := ?_) #[true, true, true, false, false, true, true, false, false, false, false, false, false, false, false, false, false, false, false, false] rfl rfl (by kernel_rfl) (fun _ _ _ h => h) (Or.inl ⟨by rfl, ?_⟩) ?_ ?_
  rotate_left
  · intro w'
    go_simp
    with_reducible rfl
  rotate_left
  · simp only [Act.put, List.setIfInBounds_toArray, List.set_cons_zero, List.set_cons_succ]
    rfl
  refine pure_ (i := 7) (N := (some 38)) (v := ?_) (a' := ?_) #[true, true, true, false, false, true, true, true, false, false, false, false, false, false, false, false, false, false, false, false] rfl rfl (by kernel_rfl) (fun _ _ _ h => h) (Or.inl ⟨by rfl, ?_⟩) ?_ ?_
  rotate_left
  · intro w'
    go_simp
    with_reducible rfl
  rotate_left
  · simp only [Act.put, List.setIfInBounds_toArray, List.set_cons_zero, List.set_cons_succ]
    rfl
  refine take_ (i := 8) (N := (some 39)) (v := ?_) (a' := ?_) #[true, true, true, false, false, true, true, true, true, false, false, false, false, false, false, false, false, false, false, false] rfl rfl (by kernel_rfl) (fun _ _ _ h => h) (Or.inl ⟨by rfl, ?_⟩) hHeld ?_ ?_
  rotate_left
  · rintro w' hS
    have hc := cell0 ((hS.block g (blk_lt HG6.out)).trans HG6.out)
    go_simp
    with_reducible rfl
  rotate_left
  · simp only [Act.put, List.setIfInBounds_toArray, List.set_cons_zero, List.set_cons_succ]
    rfl
  refine pure_ (i := 9) (N := (some 40)) (v := ?_) (a' := ?_) #[true, true, true, false, false, true, true, true, true, true, false, false, false, false, false, false, false, false, false, false] rfl rfl (by kernel_rfl) (fun _ _ _ h => h) (Or.inl ⟨by rfl, ?_⟩) ?_ ?_
  rotate_left
  · intro w'
    go_simp
    with_reducible rfl
  rotate_left
  · simp only [Act.put, List.setIfInBounds_toArray, List.set_cons_zero, List.set_cons_succ]
    rfl
  refine pure_ (i := 12) (N := (some 43)) (v := ?_) (a' := ?_) #[true, true, true, false, false, true, true, true, true, true, false, false, true, false, false, false, false, false, false, false] rfl rfl (by kernel_rfl) (fun _ _ _ h => h) (Or.inl ⟨by rfl, ?_⟩) ?_ ?_
  rotate_left
  · intro w'
    go_simp
    with_reducible rfl
  rotate_left
  · simp only [Act.put, List.setIfInBounds_toArray, List.set_cons_zero, List.set_cons_succ]
    rfl
  refine pure_ (i := 13) (N := (some 44)) (v := ?_) (a' := ?_) #[true, true, true, false, false, true, true, true, true, true, false, false, true, true, false, false, false, false, false, false] rfl rfl (by kernel_rfl) (fun _ _ _ h => h) (Or.inl ⟨by rfl, ?_⟩) ?_ ?_
  rotate_left
  · intro w'
    go_simp
    with_reducible rfl
  rotate_left
  · simp only [Act.put, List.setIfInBounds_toArray, List.set_cons_zero, List.set_cons_succ]
    rfl
  refine pure_ (i := 14) (N := (some 45)) (v := ?_) (a' := ?_) #[true, true, true, false, false, true, true, true, true, true, false, false, true, true, true, false, false, false, false, false] rfl rfl (by kernel_rfl) (fun _ _ _ h => h) (Or.inl ⟨by rfl, ?_⟩) ?_ ?_
  rotate_left
  · intro w'
    go_simp
    with_reducible rfl
  rotate_left
  · simp only [Act.put, List.setIfInBounds_toArray, List.set_cons_zero, List.set_cons_succ]
    rfl
  refine take_ (i := 15) (N := (some 46)) (v := ?_) (a' := ?_) #[true, true, true, false, false, true, true, true, true, true, false, false, true, true, true, true, false, false, false, false] rfl rfl (by kernel_rfl) (fun _ _ _ h => h) (Or.inl ⟨by rfl, ?_⟩) hHeld ?_ ?_
  rotate_left
  · rintro w' hS
    have hc := cell0 ((hS.block g (blk_lt HG6.out)).trans HG6.out)
    go_simp
    with_reducible rfl
  rotate_left
  · simp only [Act.put, List.setIfInBounds_toArray, List.set_cons_zero, List.set_cons_succ]
    rfl
  refine take_ (i := 16) (N := (some 47)) (v := ?_) (a' := ?_) #[true, true, true, false, false, true, true, true, true, true, false, false, true, true, true, true, true, false, false, false] rfl rfl (by kernel_rfl) (fun _ _ _ h => h) (Or.inl ⟨by rfl, ?_⟩) hHeld ?_ ?_
  rotate_left
  · rintro w' hS
    have hcv := own_bytes (HO6.out.kept (grown_of_below hS none) (by cases A4 <;> simp [Value.ownBlock]))
    go_simp
    with_reducible rfl
  rotate_left
  · simp only [Act.put, List.setIfInBounds_toArray, List.set_cons_zero, List.set_cons_succ]
    rfl
  refine two_ (i := 3) (j := 10) (Ni := some 34) (Nj := some 41) #[true, true, true, true, false, true, true, true, true, true, false, false, true, true, true, true, true, false, false, false] #[true, true, true, false, false, true, true, true, true, true, true, false, true, true, true, true, true, false, false, false] rfl rfl rfl rfl (by kernel_rfl) (by decide) (by decide) (fun K hK => ?_) (fun K hK => ?_)
  · refine Kd.R_lit_step (Kd.int .u8) _ 5 ?hg (N := 34) ?hd (xs := ([(m.f0) % 256] : List Int)) (inner := [.int .u8 ((m.f0) % 256)]) (ok := fun _ => True) (okp := fun _ => True) ?hr ?hp (fun _ hk => hk) trivial (Below.refl _ _) (Nat.le_refl _) (by simp) ?_; (case hd => rfl); (case hg => rfl); (case hr => first | (go_simp; done) | (go_simp; rfl)); (case hp => exact (Reps.one (show Kd.M (Kd.int .u8) _ _ _ ((m.f0) % 256) [.int .u8 ((m.f0) % 256)] from rfl) (Reps.none _ _)))
    intro vy wy ho hb hg_ hnew_
    clear hg_ hnew_
    (first | rw [← Ny.out] at ho | (simp only [Int.reduceToNat] at ho; rw [← Ny.out] at ho))
    have HO := Aside0.mk ho
    have n_ := Aside0.mk (below_step HS7.out hb)
    clear HS7
    have HS7 := n_
    clear n_ ho hb
    refine hK.out _ _ HS7.out (fun hHeld => ?_)
    clear hK K
    refine norm_ (a' := ?_) ?_ ?_
    rotate_left
    · show Act.put _ (some 34) _ = _
      simp only [Act.put, List.setIfInBounds_toArray, List.set_cons_zero, List.set_cons_succ]
      rfl
    refine two_ (i := 4) (j := 10) (Ni := some 35) (Nj := some 41) #[true, true, true, true, true, true, true, true, true, true, false, false, true, true, true, true, true, false, false, false] #[true, true, true, true, false, true, true, true, true, true, true, false, true, true, true, true, true, false, false, false] rfl rfl rfl rfl (by kernel_rfl) (by decide) (by decide) (fun K hK => ?_) (fun K hK => ?_)
    · have hcv8 := own_string (P := Try.prog) Try.underlying39 Try.underlying5 Try.underlying9 (Kd.own_of_R HO.out)
      refine value_ (w1 := ?_) (v := ?_) (by rfl) rfl ?_ ?_
      rotate_left 2
      · go_simp
        constructor
        · rfl
        · rfl
      clear hcv8
      refine hK.out _ _ HS7.out (fun hHeld => ?_)
      clear hK K
      refine norm_ (a' := ?_) ?_ ?_
      rotate_left
      · show Act.put _ (some 35) _ = _
        simp only [Act.put, List.setIfInBounds_toArray, List.set_cons_zero, List.set_cons_succ]
        rfl
      refine one_ (i := 10) (N := (some 41)) #[true, true, true, true, true, true, true, true, true, true, true, false, true, true, true, true, true, false, false, false] rfl rfl (by kernel_rfl) (by decide) (fun K hK => ?_)
      refine goes_ Try.func47 (by kernel_rfl) rfl #[.int .i64 (u.size : Int), .int .i64 3] (by rfl) rfl rfl (by (try simp only [List.map_toArray, List.map_cons, List.map_nil]); first | done | rfl) ?_
      with_reducible refine (wire_Bytes.calls (u.size : Int) 3 t _ HBE.out).mono ?_
      rintro e wz ⟨rfl, hb⟩
      refine ⟨_, rfl, ?_⟩
      have n1_ := Aside0.mk (Kd.R_below HO.out hb)
      clear HO
      have HO := n1_
      clear n1_
      have n_ := Aside0.mk (below_step HS7.out hb)
      clear HS7
      have HS7 := n_
      clear n_ hb
      refine hK.out _ _ HS7.out (fun hHeld => ?_)
      clear hK K
      refine norm_ (a' := ?_) ?_ ?_
      rotate_left
      · show Act.put _ (some 41) _ = _
        simp only [Act.put, List.setIfInBounds_toArray, List.set_cons_zero, List.set_cons_succ]
        rfl
      refine pure_ (i := 11) (N := (some 42)) (v := ?_) (a' := ?_) #[true, true, true, true, true, true, true, true, true, true, true, true, true, true, true, true, true, false, false, false] rfl rfl (by kernel_rfl) (fun _ _ _ h => h) (Or.inl ⟨by rfl, ?_⟩) ?_ ?_
      rotate_left
      · intro w'
        go_simp
        with_reducible rfl
      rotate_left
      · simp only [Act.put, List.setIfInBounds_toArray, List.set_cons_zero, List.set_cons_succ]
        rfl
      refine pure_ (i := 17) (N := (some 48)) (v := ?_) (a' := ?_) #[true, true, true, true, true, true, true, true, true, true, true, true, true, true, true, true, true, true, false, false] rfl rfl (by kernel_rfl) (fun _ _ _ h => h) (Or.inl ⟨by rfl, ?_⟩) ?_ ?_
      rotate_left
      · intro w'
        go_simp
        with_reducible rfl
      rotate_left
      · simp only [Act.put, List.setIfInBounds_toArray, List.set_cons_zero, List.set_cons_succ]
        rfl
      refine pure_ (i := 18) (N := (some 2)) (v := ?_) (a' := ?_) #[true, true, true, true, true, true, true, true, true, true, true, true, true, true, true, true, true, true, true, false] rfl rfl (by kernel_rfl) (fun _ _ _ h => h) (Or.inl ⟨by rfl, ?_⟩) ?_ ?_
      rotate_left
      · intro w'
        go_simp
        with_reducible rfl
      rotate_left
      · simp only [Act.put, List.setIfInBounds_toArray, List.set_cons_zero, List.set_cons_succ]
        rfl
      refine pure_ (i := 19) (N := (some 3)) (v := ?_) (a' := ?_) #[true, true, true, true, true, true, true, true, true, true, true, true, true, true, true, true, true, true, true, true] rfl rfl (by kernel_rfl) (fun _ _ _ h => h) (Or.inl ⟨by rfl, ?_⟩) ?_ ?_
      rotate_left
      · intro w'
        go_simp
        with_reducible rfl
      rotate_left
      · simp only [Act.put, List.setIfInBounds_toArray, List.set_cons_zero, List.set_cons_succ]
        rfl
      refine done_ (by kernel_rfl) ?_
      go_wp2
      go_ret2
      exact ⟨by rw [Sf.out]; rfl, below_step HB6.out HS7.out⟩
    · refine goes_ Try.func47 (by kernel_rfl) rfl #[.int .i64 (u.size : Int), .int .i64 3] (by rfl) rfl rfl (by (try simp only [List.map_toArray, List.map_cons, List.map_nil]); first | done | rfl) ?_
      with_reducible refine (wire_Bytes.calls (u.size : Int) 3 t _ HBE.out).mono ?_
      rintro e wz ⟨rfl, hb⟩
      refine ⟨_, rfl, ?_⟩
      have n1_ := Aside0.mk (Kd.R_below HO.out hb)
      clear HO
      have HO := n1_
      clear n1_
      have n_ := Aside0.mk (below_step HS7.out hb)
      clear HS7
      have HS7 := n_
      clear n_ hb
      refine hK.out _ _ HS7.out (fun hHeld => ?_)
      clear hK K
      refine norm_ (a' := ?_) ?_ ?_
      rotate_left
      · show Act.put _ (some 41) _ = _
        simp only [Act.put, List.setIfInBounds_toArray, List.set_cons_zero, List.set_cons_succ]
        rfl
      refine one_ (i := 4) (N := (some 35)) #[true, true, true, true, true, true, true, true, true, true, true, false, true, true, true, true, true, false, false, false] rfl rfl (by kernel_rfl) (by decide) (fun K hK => ?_)
      have hcv8 := own_string (P := Try.prog) Try.underlying39 Try.underlying5 Try.underlying9 (Kd.own_of_R HO.out)
      refine value_ (w1 := ?_) (v := ?_) (by rfl) rfl ?_ ?_
      rotate_left 2
      · go_simp
        constructor
        · rfl
        · rfl
      clear hcv8
      refine hK.out _ _ HS7.out (fun hHeld => ?_)
      clear hK K
      refine norm_ (a' := ?_) ?_ ?_
      rotate_left
      · show Act.put _ (some 35) _ = _
        simp only [Act.put, List.setIfInBounds_toArray, List.set_cons_zero, List.set_cons_succ]
        rfl
      refine pure_ (i := 11) (N := (some 42)) (v := ?_) (a' := ?_) #[true, true, true, true, true, true, true, true, true, true, true, true, true, true, true, true, true, false, false, false] rfl rfl (by kernel_rfl) (fun _ _ _ h => h) (Or.inl ⟨by rfl, ?_⟩) ?_ ?_
      rotate_left
      · intro w'
        go_simp
        with_reducible rfl
      rotate_left
      · simp only [Act.put, List.setIfInBounds_toArray, List.set_cons_zero, List.set_cons_succ]
        rfl
      refine pure_ (i := 17) (N := (some 48)) (v := ?_) (a' := ?_) #[true, true, true, true, true, true, true, true, true, true, true, true, true, true, true, true, true, true, false, false] rfl rfl (by kernel_rfl) (fun _ _ _ h => h) (Or.inl ⟨by rfl, ?_⟩) ?_ ?_
      rotate_left
      · intro w'
        go_simp
        with_reducible rfl
      rotate_left
      · simp only [Act.put, List.setIfInBounds_toArray, List.set_cons_zero, List.set_cons_succ]
        rfl
      refine pure_ (i := 18) (N := (some 2)) (v := ?_) (a' := ?_) #[true, true, true, true, true, true, true, true, true, true, true, true, true, true, true, true, true, true, true, false] rfl rfl (by kernel_rfl) (fun _ _ _ h => h) (Or.inl ⟨by rfl, ?_⟩) ?_ ?_
      rotate_left
      · intro w'
        go_simp
        with_reducible rfl
      rotate_left
      · simp only [Act.put, List.setIfInBounds_toArray, List.set_cons_zero, List.set_cons_succ]
        rfl
      refine pure_ (i := 19) (N := (some 3)) (v := ?_) (a' := ?_) #[true, true, true, true, true, true, true, true, true, true, true, true, true, true, true, true, true, true, true, true] rfl rfl (by kernel_rfl) (fun _ _ _ h => h) (Or.inl ⟨by rfl, ?_⟩) ?_ ?_
      rotate_left
      · intro w'
        go_simp
        with_reducible rfl
      rotate_left
      · simp only [Act.put, List.setIfInBounds_toArray, List.set_cons_zero, List.set_cons_succ]
        rfl
      refine done_ (by kernel_rfl) ?_
      go_wp2
      go_ret2
      exact ⟨by rw [Sf.out]; rfl, below_step HB6.out HS7.out⟩
  · refine goes_ Try.func47 (by kernel_rfl) rfl #[.int .i64 (u.size : Int), .int .i64 3] (by rfl) rfl rfl (by (try simp only [List.map_toArray, List.map_cons, List.map_nil]); first | done | rfl) ?_
    with_reducible refine (wire_Bytes.calls (u.size : Int) 3 t _ HBE.out).mono ?_
    rintro e wz ⟨rfl, hb⟩
    refine ⟨_, rfl, ?_⟩
    have n_ := Aside0.mk (below_step HS7.out hb)
    clear HS7
    have HS7 := n_
    clear n_ hb
    refine hK.out _ _ HS7.out (fun hHeld => ?_)
    clear hK K
    refine norm_ (a' := ?_) ?_ ?_
    rotate_left
    · show Act.put _ (some 41) _ = _
      simp only [Act.put, List.setIfInBounds_toArray, List.set_cons_zero, List.set_cons_succ]
      rfl
    refine one_ (i := 3) (N := (some 34)) #[true, true, true, true, false, true, true, true, true, true, true, false, true, true, true, true, true, false, false, false] rfl rfl (by kernel_rfl) (by decide) (fun K hK => ?_)
    refine Kd.R_lit_step (Kd.int .u8) _ 5 ?hg (N := 34) ?hd (xs := ([(m.f0) % 256] : List Int)) (inner := [.int .u8 ((m.f0) % 256)]) (ok := fun _ => True) (okp := fun _ => True) ?hr ?hp (fun _ hk => hk) trivial (Below.refl _ _) (Nat.le_refl _) (by simp) ?_; (case hd => rfl); (case hg => rfl); (case hr => first | (go_simp; done) | (go_simp; rfl)); (case hp => exact (Reps.one (show Kd.M (Kd.int .u8) _ _ _ ((m.f0) % 256) [.int .u8 ((m.f0) % 256)] from rfl) (Reps.none _ _)))
    intro vy wy ho hb hg_ hnew_
    clear hg_ hnew_
    (first | rw [← Ny.out] at ho | (simp only [Int.reduceToNat] at ho; rw [← Ny.out] at ho))
    have HO := Aside0.mk ho
    have n_ := Aside0.mk (below_step HS7.out hb)
    clear HS7
    have HS7 := n_
    clear n_ ho hb
    refine hK.out _ _ HS7.out (fun hHeld => ?_)
    clear hK K
    refine norm_ (a' := ?_) ?_ ?_
    rotate_left
    · show Act.put _ (some 34) _ = _
      simp only [Act.put, List.setIfInBounds_toArray, List.set_cons_zero, List.set_cons_succ]
      rfl
    refine one_ (i := 4) (N := (some 35)) #[true, true, true, true, true, true, true, true, true, true, true, false, true, true, true, true, true, false, false, false] rfl rfl (by kernel_rfl) (by decide) (fun K hK => ?_)
    have hcv8 := own_string (P := Try.prog) Try.underlying39 Try.underlying5 Try.underlying9 (Kd.own_of_R HO.out)
    refine value_ (w1 := ?_) (v := ?_) (by rfl) rfl ?_ ?_
    rotate_left 2
    · go_simp
      constructor
      · rfl
      · rfl
    clear hcv8
    refine hK.out _ _ HS7.out (fun hHeld => ?_)
    clear hK K
    refine norm_ (a' := ?_) ?_ ?_
    rotate_left
    · show Act.put _ (some 35) _ = _
      simp only [Act.put, List.setIfInBounds_toArray, List.set_cons_zero, List.set_cons_succ]
      rfl
    refine pure_ (i := 11) (N := (some 42)) (v := ?_) (a' := ?_) #[true, true, true, true, true, true, true, true, true, true, true, true, true, true, true, true, true, false, false, false] rfl rfl (by kernel_rfl) (fun _ _ _ h => h) (Or.inl ⟨by rfl, ?_⟩) ?_ ?_
    rotate_left
    · intro w'
      go_simp
      with_reducible rfl
    rotate_left
    · simp only [Act.put, List.setIfInBounds_toArray, List.set_cons_zero, List.set_cons_succ]
      rfl
    refine pure_ (i := 17) (N := (some 48)) (v := ?_) (a' := ?_) #[true, true, true, true, true, true, true, true, true, true, true, true, true, true, true, true, true, true, false, false] rfl rfl (by kernel_rfl) (fun _ _ _ h => h) (Or.inl ⟨by rfl, ?_⟩) ?_ ?_
    rotate_left
    · intro w'
      go_simp
      with_reducible rfl
    rotate_left
    · simp only [Act.put, List.setIfInBounds_toArray, List.set_cons_zero, List.set_cons_succ]
      rfl
    refine pure_ (i := 18) (N := (some 2)) (v := ?_) (a' := ?_) #[true, true, true, true, true, true, true, true, true, true, true, true, true, true, true, true, true, true, true, false] rfl rfl (by kernel_rfl) (fun _ _ _ h => h) (Or.inl ⟨by rfl, ?_⟩) ?_ ?_
    rotate_left
    · intro w'
      go_simp
      with_reducible rfl
    rotate_left
    · simp only [Act.put, List.setIfInBounds_toArray, List.set_cons_zero, List.set_cons_succ]
      rfl
    refine pure_ (i := 19) (N := (some 3)) (v := ?_) (a' := ?_) #[true, true, true, true, true, true, true, true, true, true, true, true, true, true, true, true, true, true, true, true] rfl rfl (by kernel_rfl) (fun _ _ _ h => h) (Or.inl ⟨by rfl, ?_⟩) ?_ ?_
    rotate_left
    · intro w'
      go_simp
      with_reducible rfl
    rotate_left
    · simp only [Act.put, List.setIfInBounds_toArray, List.set_cons_zero, List.set_cons_succ]
      rfl
    refine done_ (by kernel_rfl) ?_
    go_wp2
    go_ret2
    exact ⟨by rw [Sf.out]; rfl, below_step HB6.out HS7.out⟩
end Go.Proofs.Ytlkebjkpmiehcaa.Ms
end
section
namespace Go.Proofs.Ytlkebjkpmiehcaa.X
open Go.RowKit Go.Proofs.YtlkebjkpmiehcaaW.PrintWords Go.Proofs.YtlkebjkpmiehcaaW.PrintLast Go.Proofs.YtlkebjkpmiehcaaW.PrintMore
attribute [local go_sem] max2_int min2_int max_two min_two max_three min_three max_four min_four   
set_option linter.unusedVariables false
set_option linter.unusedSimpArgs false
theorem eqA41 (d : Nat) (w : World) (x0 y0 : Int) (x1 y1 : ByteArray) :
    (Op.equalIn (d + 2) 41 (.agg #[.int .i64 x0, .string x1]) (.agg #[.int .i64 y0, .string y1])).run Try.prog w = .ok (x0 == y0 && (x1.toList == y1.toList)) w := by
  refine eqA_of Try.underlying41 (by kernel_rfl) ?_
  refine eqf_cons (by rfl) (by go_simp; rfl) (by go_simp; rfl) (by go_simp) ?_
  exact eqf_last (by rfl) (by go_simp; rfl) (by go_simp; rfl) (by go_simp)
end Go.Proofs.Ytlkebjkpmiehcaa.X
end
section
namespace Go.Proofs.Ytlkebjkpmiehcaa.X
open Go.RowKit Go.Proofs.YtlkebjkpmiehcaaW.PrintWords Go.Proofs.YtlkebjkpmiehcaaW.PrintLast Go.Proofs.YtlkebjkpmiehcaaW.PrintMore
attribute [local go_sem] max2_int min2_int max_two min_two max_three min_three max_four min_four   
set_option linter.unusedVariables false
set_option linter.unusedSimpArgs false
attribute [local go_sem high] eqA41
def halberdlaw0_Num.f (a0 : Int) : Option (Int) := some a0
set_option maxHeartbeats 8000000 in
set_option maxRecDepth 100000 in
theorem halberdlaw0_Num.calls (a0 : Int) (r : Int) (w : World) (h : halberdlaw0_Num.f a0 = some r) :
    Calls Try.prog 18 #[.int .i64 a0] w fun e w' => e = .returned (.int .i64 r) ∧ Drawn0 w w' := by
  have H : (some a0) = some r := h
  clear h
  obtain rfl := Option.some.inj H
  go_enter Try.func18, Try.ntmps18
  go_wp2
  go_ret
  exact ⟨by first | rfl | (simp; done) | (simp [*]; done), by repeat (first | exact Drawn0.refl _ | apply Drawn0.step)⟩
end Go.Proofs.Ytlkebjkpmiehcaa.X
end
