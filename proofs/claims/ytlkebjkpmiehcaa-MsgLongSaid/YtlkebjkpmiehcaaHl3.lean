/- Words, contracts and lemmas that the claim needs, in the order in which they build. Conditions: each lemma's own. -/
import Derived.IntWalk
import Derived.Test.YtlkebjkpmiehcaaHl2
section
namespace Go.Proofs.Ytlkebjkpmiehcaa.Ms
open Go.RowKit Go.Proofs.YtlkebjkpmiehcaaW.PrintWords Go.Proofs.YtlkebjkpmiehcaaW.PrintLast Go.Proofs.YtlkebjkpmiehcaaW.PrintMore Go.Proofs.Ytlkebjkpmiehcaa.X
open Go.Proofs.Ytlkebjkpmiehcaa.Pure (nv numOf vecOf nv_bd nv_bd4 number_any vec_ok)
set_option linter.unusedVariables false
def Rp.mu (R : Rp) : Nat := if R.c = 0 then (R.s.size - R.p.toNat) else 0
theorem mu_pos {R : Rp} (h0 : 0 ≤ R.p) (h : R.more = true) : 0 < R.mu := by
  unfold Rp.more at h
  simp only [Bool.and_eq_true, beq_iff_eq, decide_eq_true_eq] at h
  unfold Rp.mu
  rw [if_pos h.1]
  omega
theorem mu_le (R : Rp) : R.mu ≤ R.s.size := by
  unfold Rp.mu
  split <;> omega
theorem mu_zero {R : Rp} (h : ¬ R.more = true) (ho : R.Ok) : R.mu = 0 := by
  unfold Rp.more at h
  simp only [Bool.and_eq_true, beq_iff_eq, decide_eq_true_eq] at h
  unfold Rp.mu
  split
  · have := ho.lo
    omega
  · rfl
theorem mu_lt {R R' : Rp} (h : R.more = true) (hs : R'.s = R.s) (h0 : 0 ≤ R.p) (hp : R'.c = 0 → R.p < R'.p) : R'.mu < R.mu := by
  have hm := mu_pos h0 h
  unfold Rp.more at h
  simp only [Bool.and_eq_true, beq_iff_eq, decide_eq_true_eq] at h
  unfold Rp.mu at hm ⊢
  rw [if_pos h.1, hs] at *
  split
  · have := hp ‹_›
    omega
  · exact hm
structure OneOk {α : Type} (one : Rp → α × Rp) : Prop where
  ok : ∀ R, R.Ok → (one R).2.Ok
  mu : ∀ R, R.Ok → R.more = true → (one R).2.mu < R.mu
  st : ∀ R, R.Ok → (one R).2.c = 0 → R.c = 0
def rAll {α : Type} (one : Rp → α × Rp) : Nat → Rp → List α × Rp
  | 0, R => ([], R)
  | k + 1, R => if R.more = true then ((one R).1 :: (rAll one k (one R).2).1, (rAll one k (one R).2).2) else ([], R)
def allV {α : Type} (one : Rp → α × Rp) (R : Rp) : List α := (rAll one R.s.size R).1
def allR {α : Type} (one : Rp → α × Rp) (R : Rp) : Rp := (rAll one R.s.size R).2
def Rp.lst (R : Rp) (n : Nat) : Rp := (R.inR n).need (decide (0 < (R.inR n).s.size))
def lstV {α : Type} (one : Rp → α × Rp) (R : Rp) (n : Nat) : List α := allV one (R.lst n)
def lstR {α : Type} (one : Rp → α × Rp) (R : Rp) (n : Nat) : Rp := (R.outR n).back (allR one (R.lst n))
theorem rAll_ok {α : Type} {one : Rp → α × Rp} (h : OneOk one) : ∀ (k : Nat) (R : Rp), R.Ok → (rAll one k R).2.Ok
  | 0, _, ho => ho
  | k + 1, R, ho => by
    unfold rAll
    split
    · exact rAll_ok h k _ (h.ok R ho)
    · exact ho
theorem rAll_st {α : Type} {one : Rp → α × Rp} (h : OneOk one) : ∀ (k : Nat) (R : Rp), R.Ok → (rAll one k R).2.c = 0 → R.c = 0
  | 0, _, _, hc => hc
  | k + 1, R, ho, hc => by
    unfold rAll at hc
    split at hc
    · exact h.st R ho (rAll_st h k _ (h.ok R ho) hc)
    · exact hc
theorem Rp.Ok.allR {α : Type} {one : Rp → α × Rp} (h : OneOk one) {R : Rp} (ho : R.Ok) : (Ms.allR one R).Ok := rAll_ok h _ R ho
theorem Rp.Ok.lst {R : Rp} (ho : R.Ok) (n : Nat) : (R.lst n).Ok := (ho.inR n).need _
theorem Rp.Ok.lstR {α : Type} {one : Rp → α × Rp} {R : Rp} (ho : R.Ok) (n : Nat) : (Ms.lstR one R n).Ok := (ho.outR n).back _
def oneNum (n : Nat) (R : Rp) : Int × Rp := (R.numV n, R.numR n)
def oneSha (R : Rp) : S66 × Rp := (R.shaV, R.shaR)
def oneIde (R : Rp) : S111 × Rp := (R.ideV, R.ideR)
def oneCer (R : Rp) : ByteArray × Rp := (R.cerV, R.cerR)
def oneBin (R : Rp) : ByteArray × Rp := (R.binV, R.binR)
theorem numR_c {R : Rp} {n : Nat} (h : (R.numR n).c = 0) (ho : R.Ok) : R.c = 0 ∧ (R.numR n).p = R.p + n := by
  have hz := needed_zero h
  refine ⟨hz.1, ?_⟩
  show sel (R.numC n) _ _ = _
  rw [sel_pos (show R.numC n = 0 from h)]
  rcases num_ok (s := R.s) (p := R.p) (n := n) ho.lo ho.hi with ⟨_, h2, _⟩ | h2
  · rw [h2]
  · have := hz.2
    rw [h2] at this
    exact absurd this (by decide)
theorem vecR_c {R : Rp} {n : Nat} {least most : Int} (h : (R.vecR n least most).c = 0) (ho : R.Ok) : R.c = 0 ∧ R.p + n ≤ (R.vecR n least most).p := by
  have hz := vecC_zero h
  refine ⟨hz.1, ?_⟩
  show _ ≤ sel (R.vecC n least most) _ _
  rw [sel_pos (show R.vecC n least most = 0 from h)]
  exact (vec_bd' ho.lo hz.2.1).1
theorem barR_s (R : Rp) : R.barR.s = R.s := by
  unfold Rp.barR
  split
  · rfl
  · split <;> rfl
theorem barR_p (R : Rp) : R.barR.p = (R.vecR 2 0 65536).p := by
  unfold Rp.barR
  split
  · rfl
  · split <;> rfl
theorem bad_zero {c e : Int} (h : bad c e = 0) : c = 0 := by
  unfold bad at h
  split at h
  · assumption
  · exact h
theorem barR_c {R : Rp} (h : R.barR.c = 0) : (R.vecR 2 0 65536).c = 0 := by
  unfold Rp.barR at h
  split at h
  · exact h
  · split at h
    · exact bad_zero h
    · exact h
theorem oneNum_ok (n : Nat) (hn : 1 ≤ n) : OneOk (oneNum n) := ⟨fun R h => h.numR n, fun R ho hm => mu_lt hm rfl ho.lo fun hc => by
  have := (numR_c hc ho).2
  show R.p < (R.numR n).p
  omega, fun R ho hc => (numR_c hc ho).1⟩
theorem oneSha_ok : OneOk oneSha := ⟨fun R h => h.shaR, fun R ho hm => mu_lt hm rfl ho.lo fun hc => by
  have h1 := vecR_c hc (ho.numR 2)
  have h2 := (numR_c h1.1 ho).2
  show R.p < ((R.numR 2).vecR 2 1 65536).p
  omega, fun R ho hc => (numR_c (vecR_c hc (ho.numR 2)).1 ho).1⟩
theorem oneIde_ok : OneOk oneIde := ⟨fun R h => h.ideR, fun R ho hm => mu_lt hm rfl ho.lo fun hc => by
  have h1 := numR_c hc (ho.vecR _ _ _)
  have h2 := (vecR_c h1.1 ho).2
  show R.p < ((R.vecR 2 1 65536).numR 4).p
  omega, fun R ho hc => (vecR_c (numR_c hc (ho.vecR _ _ _)).1 ho).1⟩
theorem oneBin_ok : OneOk oneBin := ⟨fun R h => h.binR, fun R ho hm => mu_lt hm rfl ho.lo fun hc => by
  have h2 := (vecR_c hc ho).2
  show R.p < (R.vecR 1 32 255).p
  omega, fun R ho hc => (vecR_c hc ho).1⟩
theorem oneCer_ok : OneOk oneCer := ⟨fun R h => h.cerR, fun R ho hm => mu_lt hm (barR_s _) ho.lo fun hc => by
  have h0 := barR_c hc
  have h1 := vecR_c h0 (ho.vecR _ _ _)
  have h2 := (vecR_c h1.1 ho).2
  show R.p < Rp.p (Rp.barR _)
  rw [barR_p]
  have h3 := h1.2
  omega, fun R ho hc => (vecR_c (vecR_c (barR_c hc) (ho.vecR _ _ _)).1 ho).1⟩
theorem Kf.over {lo r f B : Nat} {w W w1 : World} (h : Kf lo r f w W) (hb : Below B W w1) (hl : lo ≤ B) (hB : w.heap.size ≤ B) : Kf lo r f w w1 :=
  ⟨h.below.trans (hb.mono hl), fun i o hi hr hf => (hb.block i (Nat.lt_of_lt_of_le (blk_lt hi) hB)).trans (h.keep i o hi hr hf)⟩
theorem RS.over {W w1 : World} {r f B : Nat} {R : Rp} (h : RS W r f R) (hb : Below B W w1) (hr : r < B) (hf : f < B) : RS w1 r f R := ⟨(hb.block r hr).trans h.rd, (hb.block f hf).trans h.ft⟩
theorem R_kf {α : Type} {d : Kd α} {e : Nat} {W W1 : World} {base lo r f : Nat} {v : Value} {xs : List α} (h : d.R e W base (fun _ => True) v xs) (k : Kf lo r f W W1) (hr : r < base) (hf : f < base) : d.R e W1 base (fun _ => True) v xs :=
  Kd.R_mono (Kd.R_move (Kd.R_bound h) (fun i hi => by
    obtain ⟨_, h2, h3, q, _, cells, hc⟩ := hi
    rw [hc]
    exact k.keep i _ hc (by omega) (by omega))) (fun _ _ => trivial)
theorem inf9 : (Try.prog.info? 9).map (fun i => (i.zero, i.size, i.bytes)) = some (some (.string ⟨#[]⟩), 1, 16) := by kernel_rfl
theorem inf66 : (Try.prog.info? 66).map (fun i => (i.zero, i.size, i.bytes)) = some (some (.agg #[(.int .i64 0), (.string ⟨#[]⟩)]), 2, 24) := by kernel_rfl
theorem inf111 : (Try.prog.info? 111).map (fun i => (i.zero, i.size, i.bytes)) = some (some (.agg #[(.string ⟨#[]⟩), (.int .i64 0)]), 2, 24) := by kernel_rfl
structure OneC {α : Type} (k : Nat) (enc : α → Value) (one : Rp → α × Rp) : Prop where
  ok : OneOk one
  enters : ∀ args w, (callFunc k args).run Try.prog w = .ok (.enter k args) w
  calls : ∀ (lo r f : Nat) (R : Rp) (w : World), lo ≤ f → lo ≤ r → RS w r f R → R.Ok →
    Calls Try.prog k #[.pointer (some ⟨r, 0, none⟩)] w fun ex w' => ex = .returned (enc (one R).1) ∧ RS w' r f (one R).2 ∧ Kf lo r f w w'
theorem oneU16 : OneC 70 (.int .i64) (oneNum 2) := ⟨oneNum_ok 2 (by omega), fun args w => enters_ Try.func70 (by kernel_rfl) rfl args w, fun lo r f R w h1 h2 h3 h4 => u16_c lo r f R w h1 h2 h3 h4⟩
theorem oneU8 : OneC 75 (.int .i64) (oneNum 1) := ⟨oneNum_ok 1 (by omega), fun args w => enters_ Try.func75 (by kernel_rfl) rfl args w, fun lo r f R w h1 h2 h3 h4 => u8_c lo r f R w h1 h2 h3 h4⟩
theorem oneShare : OneC 114 (fun x : S66 => .agg #[.int .i64 x.f0, .string x.f1]) oneSha := ⟨oneSha_ok, fun args w => enters_ Try.func114 (by kernel_rfl) rfl args w, fun lo r f R w h1 h2 h3 h4 => share_c lo r f R w h1 h2 h3 h4⟩
theorem oneIdent : OneC 119 (fun x : S111 => .agg #[.string x.f0, .int .i64 x.f1]) oneIde := ⟨oneIde_ok, fun args w => enters_ Try.func119 (by kernel_rfl) rfl args w, fun lo r f R w h1 h2 h3 h4 => identity_c lo r f R w h1 h2 h3 h4⟩
theorem oneCert : OneC 101 .string oneCer := ⟨oneCer_ok, fun args w => enters_ Try.func101 (by kernel_rfl) rfl args w, fun lo r f R w h1 h2 h3 h4 => cert_c lo r f R w h1 h2 h3 h4⟩
theorem oneBinder : OneC 120 .string oneBin := ⟨oneBin_ok, fun args w => enters_ Try.func120 (by kernel_rfl) rfl args w, fun lo r f R w h1 h2 h3 h4 => binder_c lo r f R w h1 h2 h3 h4⟩
theorem len_bd {n m b : Nat} (h : n + m ≤ 65536) (hm : 0 < m) (hb : b ≤ 24) : (n + 1) * b ≤ 140737488355328 := Nat.le_trans (Nat.mul_le_mul_left _ hb) (by omega)
set_option maxRecDepth 100000 in
set_option maxHeartbeats 8000000 in
theorem all_int {k : Nat} {one : Rp → Int × Rp} (hk : OneC k (.int .i64) one) (lo r f : Nat) (R : Rp) (w : World) (hl : lo ≤ f) (hl2 : lo ≤ r) (h : RS w r f R) (ho : R.Ok) :
    Calls Try.prog 111 #[.pointer (some ⟨r, 0, none⟩), .func (.func k) #[] #[]] w fun ex w' => ∃ v, ex = .returned v ∧ Kd.R (Kd.int .i64) 3 w' w.heap.size (fun _ => True) v (allV one R) ∧ RS w' r f (allR one R) ∧ Kf lo r f w w' := by
  have H := Aside0.mk h
  have HL := Aside0.mk hl
  have HL2 := Aside0.mk hl2
  have HO := Aside0.mk ho
  have HLW := Aside0.mk (h.wsz hl)
  have HC := Aside0.mk hk
  have eg := hk.enters
  clear h hl hl2 ho hk
  go_enter Try.func111, Try.ntmps111
  go_wp2
  go_loopg [5] R.s.size (fun gk v wr => ∃ (xs : List Int) (R' : Rp), Aside0 (RS wr r f R') ∧ Aside0 R'.Ok ∧ Aside0 (Kd.R (Kd.int .i64) 3 wr w.heap.size (fun _ => True) v xs) ∧ Aside0 (Kf lo r f w wr) ∧ Aside0 (R'.mu ≤ gk ∧ xs.length + R'.mu ≤ 65536) ∧ Aside0 (xs ++ (rAll one gk R').1 = allV one R ∧ (rAll one gk R').2 = allR one R))
  case atStart => exact ⟨[], R, H, HO, ⟨Kd.R_nil _ _ _ _ _⟩, ⟨Kf.refl _ _ _ _⟩, ⟨mu_le R, by have := mu_le R; have := HO.out.sz; simp only [List.length_nil]; omega⟩, ⟨rfl, rfl⟩⟩
  case round =>
  obtain ⟨xs, R', Hi, Oi, Ri, Ki, Mi, Ei⟩ := hrel
  have HLi := Aside0.mk (show lo ≤ wr.heap.size from Nat.le_trans HLW.out Ki.out.size)
  by_cases hm : R'.more = true
  · have HM := Aside0.mk hm
    obtain ⟨gk', hgk⟩ : ∃ g, gk = g + 1 := ⟨gk - 1, by have := mu_pos Oi.out.lo hm; have := Mi.out.1; omega⟩
    subst hgk
    obtain ⟨y, hy⟩ : ∃ y, (one R').1 = y := ⟨_, rfl⟩
    have HY := Aside0.mk hy
    clear hy
    go_wp2_with (first
      | (go_at_call 99; (with_reducible refine (more_c r f R' _ Hi.out).mono ?_); rintro e1 w1 ⟨rfl, b1⟩; have H1 := Aside0.mk (Hi.out.below b1); have K1 := Aside0.mk (Ki.out.over b1 HLi.out Ki.out.size); have R1 := Aside0.mk (Kd.R_below Ri.out b1); clear b1)
      | ((refine (HC.out.calls lo r f R' _ HL.out HL2.out H1.out Oi.out).mono ?_); rintro e2 w2 ⟨rfl, i2, k2⟩; rw [HY.out]; have H2 := Aside0.mk i2; have K2 := Aside0.mk (K1.out.trans k2); have R2 := Aside0.mk (R_kf R1.out k2 H.out.sz.1 H.out.sz.2); clear i2 k2)
      | ((with_reducible refine gate_builtin (b := .append) (xs := #[.tmp 8, .tmp 12]) rfl ?_); at_builtin; refine Kd.R_append (Kd.int .i64) (w0 := w2) w.heap.size rfl (.tmp 8) (.tmp 12) 44 3 (.int .i64 0) 8 rfl Try.underlying44 info3 rfl (by decide) (by omega) u5 xs y [.int .i64 y] (fun _ => True) (fun _ => False) rfl rfl ?aP (fun _ hk => hk.elim) ?aF R2.out ?aB ?aS ?aL ?_; (case aP => exact rfl); (case aF => exact (fun _ _ => trivial)); (case aB => exact Below.refl _ _); (case aS => exact K2.out.size); (case aL => exact len_bd Mi.out.2 (mu_pos Oi.out.lo HM.out) (by omega)); intro v3 w3 ho3 hb3 hg3 hat3; have H3 := Aside0.mk (H2.out.over hb3 H.out.sz.1 H.out.sz.2); have K3 := Aside0.mk (K2.out.over hb3 HLW.out (Nat.le_refl _)); have R3 := Aside0.mk ho3; clear ho3 hb3 hg3 hat3))
    have E3 := Aside0.mk (show (xs ++ [y]) ++ (rAll one gk' (one R').2).1 = allV one R ∧ (rAll one gk' (one R').2).2 = allR one R from by
      have := Ei.out
      unfold rAll at this
      rw [if_pos HM.out] at this
      rw [← HY.out, List.append_assoc]
      exact this)
    have M3 := Aside0.mk (show (one R').2.mu ≤ gk' ∧ (xs ++ [y]).length + (one R').2.mu ≤ 65536 from by
      have h1 := HC.out.ok.mu R' Oi.out HM.out
      have h2 := Mi.out
      rw [List.length_append, List.length_singleton]
      omega)
    have O3 := Aside0.mk (HC.out.ok.ok R' Oi.out)
    go_roundg gk'
    case rel => exact ⟨xs ++ [y], (one R').2, H3, O3, R3, K3, M3, E3⟩
    case measure => omega
  · have hmf : R'.more = false := by simpa using hm
    have hz := mu_zero hm Oi.out
    have E1 := Aside0.mk (show xs = allV one R ∧ R' = allR one R from by
      have h0 := Ei.out
      have h2 : rAll one gk R' = ([], R') := by
        cases gk with
        | zero => rfl
        | succ n => unfold rAll; rw [if_neg hm]
      rw [h2] at h0
      exact ⟨by simpa using h0.1, h0.2⟩)
    clear hm hz
    go_wp2_with (first
      | (go_at_call 99; (with_reducible refine (more_c r f R' _ Hi.out).mono ?_); rintro e1 w1 ⟨rfl, b1⟩; have H1 := Aside0.mk (Hi.out.below b1); have K1 := Aside0.mk (Ki.out.over b1 HLi.out Ki.out.size); have R1 := Aside0.mk (Kd.R_below Ri.out b1); clear b1))
    go_ret
    exact ⟨u5, rfl, by rw [← E1.out.1]; exact R1.out, by rw [← E1.out.2]; exact H1.out, K1.out⟩
set_option maxRecDepth 100000 in
set_option maxHeartbeats 8000000 in
theorem list_int {k : Nat} {one : Rp → Int × Rp} (hk : OneC k (.int .i64) one) (lo r f : Nat) (R : Rp) (w : World) (z : Int) (n : Nat) (hz : z = n) (h1 : 1 ≤ n) (h3 : n ≤ 3) (hl : lo ≤ f) (hl2 : lo ≤ r) (h : RS w r f R) (ho : R.Ok) :
    Calls Try.prog 94 #[.pointer (some ⟨r, 0, none⟩), .int .i64 z, .func (.func k) #[] #[]] w fun ex w' => ∃ v, ex = .returned v ∧ Kd.R (Kd.int .i64) 3 w' w.heap.size (fun _ => True) v (lstV one R n) ∧ RS w' r f (lstR one R n) ∧ Kf lo r f w w' := by
  have H := Aside0.mk h
  have HL := Aside0.mk hl
  have HL2 := Aside0.mk hl2
  have HO := Aside0.mk ho
  have HLW := Aside0.mk (h.wsz hl)
  have HC := Aside0.mk hk
  have HZ := Aside0.mk hz
  clear h hl hl2 ho hk hz
  go_enter Try.func94, Try.ntmps94
  go_wp2_with (first
    | (go_at_call 66; (with_reducible refine (rwithin_c lo r f R _ z n HZ.out h1 h3 HL.out HL2.out H.out HO.out).mono ?_); rintro e1 w1 ⟨r2, rfl, n1, i1, j1, k1⟩; have HN := Aside0.mk n1; have HP := Aside0.mk i1; have H1 := Aside0.mk j1; have K1 := Aside0.mk k1; have HL3 := Aside0.mk (show lo ≤ r2 from Nat.le_trans (H.out.wsz HL.out) n1); have HNE := Aside0.mk (show r ≠ r2 from by have := H.out.sz; omega); clear n1 i1 j1 k1)
    | ((with_reducible refine gate_dst (N := 15) rfl ?_); refine ld (v := .string (R.inR n).s) rfl rfl rfl H1.out.rd Try.underlying9 rfl rfl ?_)
    | (go_at_call 72; (with_reducible refine (rneed_c lo r2 f (R.inR n) _ (decide (0 < (R.inR n).s.size)) HL.out H1.out).mono ?_); rintro e3 w3 ⟨rfl, i3, k3⟩; have H3 := Aside0.mk (show RS w3 r2 f (R.lst n) from i3); have K3 := Aside0.mk k3; clear i3 k3)
    | (go_at_call 111; (refine (all_int HC.out lo r2 f (R.lst n) _ HL.out HL3.out H3.out (HO.out.lst n)).mono ?_); rintro e4 w4 ⟨v4, rfl, r4, i4, k4⟩; have H4 := Aside0.mk i4; have K4 := Aside0.mk (K3.out.trans k4); have R4 := Aside0.mk (Kd.R_lower r4 (Nat.le_trans K1.out.size K3.out.size)); clear i4 k4 r4))
  go_ret
  exact ⟨v4, rfl, R4.out, HP.out.back (I := R) HNE.out K4.out H4.out, K1.out.inner HN.out K4.out⟩
set_option maxRecDepth 100000 in
set_option maxHeartbeats 8000000 in
theorem all_str {k : Nat} {one : Rp → ByteArray × Rp} (hk : OneC k .string one) (lo r f : Nat) (R : Rp) (w : World) (hl : lo ≤ f) (hl2 : lo ≤ r) (h : RS w r f R) (ho : R.Ok) :
    Calls Try.prog 100 #[.pointer (some ⟨r, 0, none⟩), .func (.func k) #[] #[]] w fun ex w' => ∃ v, ex = .returned v ∧ Kd.R Kd.string 9 w' w.heap.size (fun _ => True) v (allV one R) ∧ RS w' r f (allR one R) ∧ Kf lo r f w w' := by
  have H := Aside0.mk h
  have HL := Aside0.mk hl
  have HL2 := Aside0.mk hl2
  have HO := Aside0.mk ho
  have HLW := Aside0.mk (h.wsz hl)
  have HC := Aside0.mk hk
  have eg := hk.enters
  clear h hl hl2 ho hk
  go_enter Try.func100, Try.ntmps100
  go_wp2
  go_loopg [5] R.s.size (fun gk v wr => ∃ (xs : List ByteArray) (R' : Rp), Aside0 (RS wr r f R') ∧ Aside0 R'.Ok ∧ Aside0 (Kd.R Kd.string 9 wr w.heap.size (fun _ => True) v xs) ∧ Aside0 (Kf lo r f w wr) ∧ Aside0 (R'.mu ≤ gk ∧ xs.length + R'.mu ≤ 65536) ∧ Aside0 (xs ++ (rAll one gk R').1 = allV one R ∧ (rAll one gk R').2 = allR one R))
  case atStart => exact ⟨[], R, H, HO, ⟨Kd.R_nil _ _ _ _ _⟩, ⟨Kf.refl _ _ _ _⟩, ⟨mu_le R, by have := mu_le R; have := HO.out.sz; simp only [List.length_nil]; omega⟩, ⟨rfl, rfl⟩⟩
  case round =>
  obtain ⟨xs, R', Hi, Oi, Ri, Ki, Mi, Ei⟩ := hrel
  have HLi := Aside0.mk (show lo ≤ wr.heap.size from Nat.le_trans HLW.out Ki.out.size)
  by_cases hm : R'.more = true
  · have HM := Aside0.mk hm
    obtain ⟨gk', hgk⟩ : ∃ g, gk = g + 1 := ⟨gk - 1, by have := mu_pos Oi.out.lo hm; have := Mi.out.1; omega⟩
    subst hgk
    obtain ⟨y, hy⟩ : ∃ y, (one R').1 = y := ⟨_, rfl⟩
    have HY := Aside0.mk hy
    clear hy
    go_wp2_with (first
      | (go_at_call 99; (with_reducible refine (more_c r f R' _ Hi.out).mono ?_); rintro e1 w1 ⟨rfl, b1⟩; have H1 := Aside0.mk (Hi.out.below b1); have K1 := Aside0.mk (Ki.out.over b1 HLi.out Ki.out.size); have R1 := Aside0.mk (Kd.R_below Ri.out b1); clear b1)
      | ((refine (HC.out.calls lo r f R' _ HL.out HL2.out H1.out Oi.out).mono ?_); rintro e2 w2 ⟨rfl, i2, k2⟩; rw [HY.out]; have H2 := Aside0.mk i2; have K2 := Aside0.mk (K1.out.trans k2); have R2 := Aside0.mk (R_kf R1.out k2 H.out.sz.1 H.out.sz.2); clear i2 k2)
      | ((with_reducible refine gate_builtin (b := .append) (xs := #[.tmp 8, .tmp 12]) rfl ?_); at_builtin; refine Kd.R_append Kd.string (w0 := w2) w.heap.size rfl (.tmp 8) (.tmp 12) 47 9 (.string ⟨#[]⟩) 16 rfl Try.underlying47 inf9 rfl (by decide) (by omega) u5 xs y [.string y] (fun _ => True) (fun _ => False) rfl rfl ?aP (fun _ hk => hk.elim) ?aF R2.out ?aB ?aS ?aL ?_; (case aP => exact rfl); (case aF => exact (fun _ _ => trivial)); (case aB => exact Below.refl _ _); (case aS => exact K2.out.size); (case aL => exact len_bd Mi.out.2 (mu_pos Oi.out.lo HM.out) (by omega)); intro v3 w3 ho3 hb3 hg3 hat3; have H3 := Aside0.mk (H2.out.over hb3 H.out.sz.1 H.out.sz.2); have K3 := Aside0.mk (K2.out.over hb3 HLW.out (Nat.le_refl _)); have R3 := Aside0.mk ho3; clear ho3 hb3 hg3 hat3))
    have E3 := Aside0.mk (show (xs ++ [y]) ++ (rAll one gk' (one R').2).1 = allV one R ∧ (rAll one gk' (one R').2).2 = allR one R from by
      have := Ei.out
      unfold rAll at this
      rw [if_pos HM.out] at this
      rw [← HY.out, List.append_assoc]
      exact this)
    have M3 := Aside0.mk (show (one R').2.mu ≤ gk' ∧ (xs ++ [y]).length + (one R').2.mu ≤ 65536 from by
      have h1 := HC.out.ok.mu R' Oi.out HM.out
      have h2 := Mi.out
      rw [List.length_append, List.length_singleton]
      omega)
    have O3 := Aside0.mk (HC.out.ok.ok R' Oi.out)
    go_roundg gk'
    case rel => exact ⟨xs ++ [y], (one R').2, H3, O3, R3, K3, M3, E3⟩
    case measure => omega
  · have hmf : R'.more = false := by simpa using hm
    have hz := mu_zero hm Oi.out
    have E1 := Aside0.mk (show xs = allV one R ∧ R' = allR one R from by
      have h0 := Ei.out
      have h2 : rAll one gk R' = ([], R') := by
        cases gk with
        | zero => rfl
        | succ n => unfold rAll; rw [if_neg hm]
      rw [h2] at h0
      exact ⟨by simpa using h0.1, h0.2⟩)
    clear hm hz
    go_wp2_with (first
      | (go_at_call 99; (with_reducible refine (more_c r f R' _ Hi.out).mono ?_); rintro e1 w1 ⟨rfl, b1⟩; have H1 := Aside0.mk (Hi.out.below b1); have K1 := Aside0.mk (Ki.out.over b1 HLi.out Ki.out.size); have R1 := Aside0.mk (Kd.R_below Ri.out b1); clear b1))
    go_ret
    exact ⟨u5, rfl, by rw [← E1.out.1]; exact R1.out, by rw [← E1.out.2]; exact H1.out, K1.out⟩
set_option maxRecDepth 100000 in
set_option maxHeartbeats 8000000 in
theorem all_sha {k : Nat} {one : Rp → S66 × Rp} (hk : OneC k (fun x : S66 => .agg #[.int .i64 x.f0, .string x.f1]) one) (lo r f : Nat) (R : Rp) (w : World) (hl : lo ≤ f) (hl2 : lo ≤ r) (h : RS w r f R) (ho : R.Ok) :
    Calls Try.prog 117 #[.pointer (some ⟨r, 0, none⟩), .func (.func k) #[] #[]] w fun ex w' => ∃ v, ex = .returned v ∧ Kd.R k66 66 w' w.heap.size (fun _ => True) v (allV one R) ∧ RS w' r f (allR one R) ∧ Kf lo r f w w' := by
  have H := Aside0.mk h
  have HL := Aside0.mk hl
  have HL2 := Aside0.mk hl2
  have HO := Aside0.mk ho
  have HLW := Aside0.mk (h.wsz hl)
  have HC := Aside0.mk hk
  have eg := hk.enters
  clear h hl hl2 ho hk
  go_enter Try.func117, Try.ntmps117
  go_wp2
  go_loopg [5] R.s.size (fun gk v wr => ∃ (xs : List S66) (R' : Rp), Aside0 (RS wr r f R') ∧ Aside0 R'.Ok ∧ Aside0 (Kd.R k66 66 wr w.heap.size (fun _ => True) v xs) ∧ Aside0 (Kf lo r f w wr) ∧ Aside0 (R'.mu ≤ gk ∧ xs.length + R'.mu ≤ 65536) ∧ Aside0 (xs ++ (rAll one gk R').1 = allV one R ∧ (rAll one gk R').2 = allR one R))
  case atStart => exact ⟨[], R, H, HO, ⟨Kd.R_nil _ _ _ _ _⟩, ⟨Kf.refl _ _ _ _⟩, ⟨mu_le R, by have := mu_le R; have := HO.out.sz; simp only [List.length_nil]; omega⟩, ⟨rfl, rfl⟩⟩
  case round =>
  obtain ⟨xs, R', Hi, Oi, Ri, Ki, Mi, Ei⟩ := hrel
  have HLi := Aside0.mk (show lo ≤ wr.heap.size from Nat.le_trans HLW.out Ki.out.size)
  by_cases hm : R'.more = true
  · have HM := Aside0.mk hm
    obtain ⟨gk', hgk⟩ : ∃ g, gk = g + 1 := ⟨gk - 1, by have := mu_pos Oi.out.lo hm; have := Mi.out.1; omega⟩
    subst hgk
    obtain ⟨y, hy⟩ : ∃ y, (one R').1 = y := ⟨_, rfl⟩
    have HY := Aside0.mk hy
    clear hy
    go_wp2_with (first
      | (go_at_call 99; (with_reducible refine (more_c r f R' _ Hi.out).mono ?_); rintro e1 w1 ⟨rfl, b1⟩; have H1 := Aside0.mk (Hi.out.below b1); have K1 := Aside0.mk (Ki.out.over b1 HLi.out Ki.out.size); have R1 := Aside0.mk (Kd.R_below Ri.out b1); clear b1)
      | ((refine (HC.out.calls lo r f R' _ HL.out HL2.out H1.out Oi.out).mono ?_); rintro e2 w2 ⟨rfl, i2, k2⟩; rw [HY.out]; have H2 := Aside0.mk i2; have K2 := Aside0.mk (K1.out.trans k2); have R2 := Aside0.mk (R_kf R1.out k2 H.out.sz.1 H.out.sz.2); clear i2 k2)
      | ((with_reducible refine gate_builtin (b := .append) (xs := #[.tmp 8, .tmp 12]) rfl ?_); at_builtin; refine Kd.R_append k66 (w0 := w2) w.heap.size rfl (.tmp 8) (.tmp 12) 45 66 (.agg #[(.int .i64 0), (.string ⟨#[]⟩)]) 24 rfl Try.underlying45 inf66 rfl (by decide) (by omega) u5 xs y [.int .i64 y.f0, .string y.f1] (fun _ => True) (fun _ => False) rfl rfl ?aP (fun _ hk => hk.elim) ?aF R2.out ?aB ?aS ?aL ?_; (case aP => exact k66_mkM _ _ _ y); (case aF => exact (fun _ _ => trivial)); (case aB => exact Below.refl _ _); (case aS => exact K2.out.size); (case aL => exact len_bd Mi.out.2 (mu_pos Oi.out.lo HM.out) (by omega)); intro v3 w3 ho3 hb3 hg3 hat3; have H3 := Aside0.mk (H2.out.over hb3 H.out.sz.1 H.out.sz.2); have K3 := Aside0.mk (K2.out.over hb3 HLW.out (Nat.le_refl _)); have R3 := Aside0.mk ho3; clear ho3 hb3 hg3 hat3))
    have E3 := Aside0.mk (show (xs ++ [y]) ++ (rAll one gk' (one R').2).1 = allV one R ∧ (rAll one gk' (one R').2).2 = allR one R from by
      have := Ei.out
      unfold rAll at this
      rw [if_pos HM.out] at this
      rw [← HY.out, List.append_assoc]
      exact this)
    have M3 := Aside0.mk (show (one R').2.mu ≤ gk' ∧ (xs ++ [y]).length + (one R').2.mu ≤ 65536 from by
      have h1 := HC.out.ok.mu R' Oi.out HM.out
      have h2 := Mi.out
      rw [List.length_append, List.length_singleton]
      omega)
    have O3 := Aside0.mk (HC.out.ok.ok R' Oi.out)
    go_roundg gk'
    case rel => exact ⟨xs ++ [y], (one R').2, H3, O3, R3, K3, M3, E3⟩
    case measure => omega
  · have hmf : R'.more = false := by simpa using hm
    have hz := mu_zero hm Oi.out
    have E1 := Aside0.mk (show xs = allV one R ∧ R' = allR one R from by
      have h0 := Ei.out
      have h2 : rAll one gk R' = ([], R') := by
        cases gk with
        | zero => rfl
        | succ n => unfold rAll; rw [if_neg hm]
      rw [h2] at h0
      exact ⟨by simpa using h0.1, h0.2⟩)
    clear hm hz
    go_wp2_with (first
      | (go_at_call 99; (with_reducible refine (more_c r f R' _ Hi.out).mono ?_); rintro e1 w1 ⟨rfl, b1⟩; have H1 := Aside0.mk (Hi.out.below b1); have K1 := Aside0.mk (Ki.out.over b1 HLi.out Ki.out.size); have R1 := Aside0.mk (Kd.R_below Ri.out b1); clear b1))
    go_ret
    exact ⟨u5, rfl, by rw [← E1.out.1]; exact R1.out, by rw [← E1.out.2]; exact H1.out, K1.out⟩
set_option maxRecDepth 100000 in
set_option maxHeartbeats 8000000 in
theorem list_sha {k : Nat} {one : Rp → S66 × Rp} (hk : OneC k (fun x : S66 => .agg #[.int .i64 x.f0, .string x.f1]) one) (lo r f : Nat) (R : Rp) (w : World) (z : Int) (n : Nat) (hz : z = n) (h1 : 1 ≤ n) (h3 : n ≤ 3) (hl : lo ≤ f) (hl2 : lo ≤ r) (h : RS w r f R) (ho : R.Ok) :
    Calls Try.prog 113 #[.pointer (some ⟨r, 0, none⟩), .int .i64 z, .func (.func k) #[] #[]] w fun ex w' => ∃ v, ex = .returned v ∧ Kd.R k66 66 w' w.heap.size (fun _ => True) v (lstV one R n) ∧ RS w' r f (lstR one R n) ∧ Kf lo r f w w' := by
  have H := Aside0.mk h
  have HL := Aside0.mk hl
  have HL2 := Aside0.mk hl2
  have HO := Aside0.mk ho
  have HLW := Aside0.mk (h.wsz hl)
  have HC := Aside0.mk hk
  have HZ := Aside0.mk hz
  clear h hl hl2 ho hk hz
  go_enter Try.func113, Try.ntmps113
  go_wp2_with (first
    | (go_at_call 66; (with_reducible refine (rwithin_c lo r f R _ z n HZ.out h1 h3 HL.out HL2.out H.out HO.out).mono ?_); rintro e1 w1 ⟨r2, rfl, n1, i1, j1, k1⟩; have HN := Aside0.mk n1; have HP := Aside0.mk i1; have H1 := Aside0.mk j1; have K1 := Aside0.mk k1; have HL3 := Aside0.mk (show lo ≤ r2 from Nat.le_trans (H.out.wsz HL.out) n1); have HNE := Aside0.mk (show r ≠ r2 from by have := H.out.sz; omega); clear n1 i1 j1 k1)
    | ((with_reducible refine gate_dst (N := 15) rfl ?_); refine ld (v := .string (R.inR n).s) rfl rfl rfl H1.out.rd Try.underlying9 rfl rfl ?_)
    | (go_at_call 72; (with_reducible refine (rneed_c lo r2 f (R.inR n) _ (decide (0 < (R.inR n).s.size)) HL.out H1.out).mono ?_); rintro e3 w3 ⟨rfl, i3, k3⟩; have H3 := Aside0.mk (show RS w3 r2 f (R.lst n) from i3); have K3 := Aside0.mk k3; clear i3 k3)
    | (go_at_call 117; (refine (all_sha HC.out lo r2 f (R.lst n) _ HL.out HL3.out H3.out (HO.out.lst n)).mono ?_); rintro e4 w4 ⟨v4, rfl, r4, i4, k4⟩; have H4 := Aside0.mk i4; have K4 := Aside0.mk (K3.out.trans k4); have R4 := Aside0.mk (Kd.R_lower r4 (Nat.le_trans K1.out.size K3.out.size)); clear i4 k4 r4))
  go_ret
  exact ⟨v4, rfl, R4.out, HP.out.back (I := R) HNE.out K4.out H4.out, K1.out.inner HN.out K4.out⟩
set_option maxRecDepth 100000 in
set_option maxHeartbeats 8000000 in
theorem all_ide {k : Nat} {one : Rp → S111 × Rp} (hk : OneC k (fun x : S111 => .agg #[.string x.f0, .int .i64 x.f1]) one) (lo r f : Nat) (R : Rp) (w : World) (hl : lo ≤ f) (hl2 : lo ≤ r) (h : RS w r f R) (ho : R.Ok) :
    Calls Try.prog 121 #[.pointer (some ⟨r, 0, none⟩), .func (.func k) #[] #[]] w fun ex w' => ∃ v, ex = .returned v ∧ Kd.R k111 111 w' w.heap.size (fun _ => True) v (allV one R) ∧ RS w' r f (allR one R) ∧ Kf lo r f w w' := by
  have H := Aside0.mk h
  have HL := Aside0.mk hl
  have HL2 := Aside0.mk hl2
  have HO := Aside0.mk ho
  have HLW := Aside0.mk (h.wsz hl)
  have HC := Aside0.mk hk
  have eg := hk.enters
  clear h hl hl2 ho hk
  go_enter Try.func121, Try.ntmps121
  go_wp2
  go_loopg [5] R.s.size (fun gk v wr => ∃ (xs : List S111) (R' : Rp), Aside0 (RS wr r f R') ∧ Aside0 R'.Ok ∧ Aside0 (Kd.R k111 111 wr w.heap.size (fun _ => True) v xs) ∧ Aside0 (Kf lo r f w wr) ∧ Aside0 (R'.mu ≤ gk ∧ xs.length + R'.mu ≤ 65536) ∧ Aside0 (xs ++ (rAll one gk R').1 = allV one R ∧ (rAll one gk R').2 = allR one R))
  case atStart => exact ⟨[], R, H, HO, ⟨Kd.R_nil _ _ _ _ _⟩, ⟨Kf.refl _ _ _ _⟩, ⟨mu_le R, by have := mu_le R; have := HO.out.sz; simp only [List.length_nil]; omega⟩, ⟨rfl, rfl⟩⟩
  case round =>
  obtain ⟨xs, R', Hi, Oi, Ri, Ki, Mi, Ei⟩ := hrel
  have HLi := Aside0.mk (show lo ≤ wr.heap.size from Nat.le_trans HLW.out Ki.out.size)
  by_cases hm : R'.more = true
  · have HM := Aside0.mk hm
    obtain ⟨gk', hgk⟩ : ∃ g, gk = g + 1 := ⟨gk - 1, by have := mu_pos Oi.out.lo hm; have := Mi.out.1; omega⟩
    subst hgk
    obtain ⟨y, hy⟩ : ∃ y, (one R').1 = y := ⟨_, rfl⟩
    have HY := Aside0.mk hy
    clear hy
    go_wp2_with (first
      | (go_at_call 99; (with_reducible refine (more_c r f R' _ Hi.out).mono ?_); rintro e1 w1 ⟨rfl, b1⟩; have H1 := Aside0.mk (Hi.out.below b1); have K1 := Aside0.mk (Ki.out.over b1 HLi.out Ki.out.size); have R1 := Aside0.mk (Kd.R_below Ri.out b1); clear b1)
      | ((refine (HC.out.calls lo r f R' _ HL.out HL2.out H1.out Oi.out).mono ?_); rintro e2 w2 ⟨rfl, i2, k2⟩; rw [HY.out]; have H2 := Aside0.mk i2; have K2 := Aside0.mk (K1.out.trans k2); have R2 := Aside0.mk (R_kf R1.out k2 H.out.sz.1 H.out.sz.2); clear i2 k2)
      | ((with_reducible refine gate_builtin (b := .append) (xs := #[.tmp 8, .tmp 12]) rfl ?_); at_builtin; refine Kd.R_append k111 (w0 := w2) w.heap.size rfl (.tmp 8) (.tmp 12) 46 111 (.agg #[(.string ⟨#[]⟩), (.int .i64 0)]) 24 rfl Try.underlying46 inf111 rfl (by decide) (by omega) u5 xs y [.string y.f0, .int .i64 y.f1] (fun _ => True) (fun _ => False) rfl rfl ?aP (fun _ hk => hk.elim) ?aF R2.out ?aB ?aS ?aL ?_; (case aP => exact k111_mkM _ _ _ y); (case aF => exact (fun _ _ => trivial)); (case aB => exact Below.refl _ _); (case aS => exact K2.out.size); (case aL => exact len_bd Mi.out.2 (mu_pos Oi.out.lo HM.out) (by omega)); intro v3 w3 ho3 hb3 hg3 hat3; have H3 := Aside0.mk (H2.out.over hb3 H.out.sz.1 H.out.sz.2); have K3 := Aside0.mk (K2.out.over hb3 HLW.out (Nat.le_refl _)); have R3 := Aside0.mk ho3; clear ho3 hb3 hg3 hat3))
    have E3 := Aside0.mk (show (xs ++ [y]) ++ (rAll one gk' (one R').2).1 = allV one R ∧ (rAll one gk' (one R').2).2 = allR one R from by
      have := Ei.out
      unfold rAll at this
      rw [if_pos HM.out] at this
      rw [← HY.out, List.append_assoc]
      exact this)
    have M3 := Aside0.mk (show (one R').2.mu ≤ gk' ∧ (xs ++ [y]).length + (one R').2.mu ≤ 65536 from by
      have h1 := HC.out.ok.mu R' Oi.out HM.out
      have h2 := Mi.out
      rw [List.length_append, List.length_singleton]
      omega)
    have O3 := Aside0.mk (HC.out.ok.ok R' Oi.out)
    go_roundg gk'
    case rel => exact ⟨xs ++ [y], (one R').2, H3, O3, R3, K3, M3, E3⟩
    case measure => omega
  · have hmf : R'.more = false := by simpa using hm
    have hz := mu_zero hm Oi.out
    have E1 := Aside0.mk (show xs = allV one R ∧ R' = allR one R from by
      have h0 := Ei.out
      have h2 : rAll one gk R' = ([], R') := by
        cases gk with
        | zero => rfl
        | succ n => unfold rAll; rw [if_neg hm]
      rw [h2] at h0
      exact ⟨by simpa using h0.1, h0.2⟩)
    clear hm hz
    go_wp2_with (first
      | (go_at_call 99; (with_reducible refine (more_c r f R' _ Hi.out).mono ?_); rintro e1 w1 ⟨rfl, b1⟩; have H1 := Aside0.mk (Hi.out.below b1); have K1 := Aside0.mk (Ki.out.over b1 HLi.out Ki.out.size); have R1 := Aside0.mk (Kd.R_below Ri.out b1); clear b1))
    go_ret
    exact ⟨u5, rfl, by rw [← E1.out.1]; exact R1.out, by rw [← E1.out.2]; exact H1.out, K1.out⟩
set_option maxRecDepth 100000 in
set_option maxHeartbeats 8000000 in
theorem list_ide {k : Nat} {one : Rp → S111 × Rp} (hk : OneC k (fun x : S111 => .agg #[.string x.f0, .int .i64 x.f1]) one) (lo r f : Nat) (R : Rp) (w : World) (z : Int) (n : Nat) (hz : z = n) (h1 : 1 ≤ n) (h3 : n ≤ 3) (hl : lo ≤ f) (hl2 : lo ≤ r) (h : RS w r f R) (ho : R.Ok) :
    Calls Try.prog 118 #[.pointer (some ⟨r, 0, none⟩), .int .i64 z, .func (.func k) #[] #[]] w fun ex w' => ∃ v, ex = .returned v ∧ Kd.R k111 111 w' w.heap.size (fun _ => True) v (lstV one R n) ∧ RS w' r f (lstR one R n) ∧ Kf lo r f w w' := by
  have H := Aside0.mk h
  have HL := Aside0.mk hl
  have HL2 := Aside0.mk hl2
  have HO := Aside0.mk ho
  have HLW := Aside0.mk (h.wsz hl)
  have HC := Aside0.mk hk
  have HZ := Aside0.mk hz
  clear h hl hl2 ho hk hz
  go_enter Try.func118, Try.ntmps118
  go_wp2_with (first
    | (go_at_call 66; (with_reducible refine (rwithin_c lo r f R _ z n HZ.out h1 h3 HL.out HL2.out H.out HO.out).mono ?_); rintro e1 w1 ⟨r2, rfl, n1, i1, j1, k1⟩; have HN := Aside0.mk n1; have HP := Aside0.mk i1; have H1 := Aside0.mk j1; have K1 := Aside0.mk k1; have HL3 := Aside0.mk (show lo ≤ r2 from Nat.le_trans (H.out.wsz HL.out) n1); have HNE := Aside0.mk (show r ≠ r2 from by have := H.out.sz; omega); clear n1 i1 j1 k1)
    | ((with_reducible refine gate_dst (N := 15) rfl ?_); refine ld (v := .string (R.inR n).s) rfl rfl rfl H1.out.rd Try.underlying9 rfl rfl ?_)
    | (go_at_call 72; (with_reducible refine (rneed_c lo r2 f (R.inR n) _ (decide (0 < (R.inR n).s.size)) HL.out H1.out).mono ?_); rintro e3 w3 ⟨rfl, i3, k3⟩; have H3 := Aside0.mk (show RS w3 r2 f (R.lst n) from i3); have K3 := Aside0.mk k3; clear i3 k3)
    | (go_at_call 121; (refine (all_ide HC.out lo r2 f (R.lst n) _ HL.out HL3.out H3.out (HO.out.lst n)).mono ?_); rintro e4 w4 ⟨v4, rfl, r4, i4, k4⟩; have H4 := Aside0.mk i4; have K4 := Aside0.mk (K3.out.trans k4); have R4 := Aside0.mk (Kd.R_lower r4 (Nat.le_trans K1.out.size K3.out.size)); clear i4 k4 r4))
  go_ret
  exact ⟨v4, rfl, R4.out, HP.out.back (I := R) HNE.out K4.out H4.out, K1.out.inner HN.out K4.out⟩
end Go.Proofs.Ytlkebjkpmiehcaa.Ms
end
section
namespace Go.Proofs.Ytlkebjkpmiehcaa.Ms
open Go.RowKit Go.Proofs.YtlkebjkpmiehcaaW.PrintWords Go.Proofs.YtlkebjkpmiehcaaW.PrintLast Go.Proofs.YtlkebjkpmiehcaaW.PrintMore Go.Proofs.Ytlkebjkpmiehcaa.X
set_option linter.unusedVariables false
structure Mv where
  f0 : Int
  f1 : ByteArray
  f2 : ByteArray
  f3 : List Int
  f4 : ByteArray
  f5 : List Int
  f6 : List Int
  f7 : List Int
  f8 : List Int
  f9 : List S66
  f10 : List S111
  f11 : List ByteArray
  f12 : Int
  f13 : List Int
  f14 : List ByteArray
  f15 : Int
  f16 : ByteArray
  f17 : Int
  f18 : Int
  f19 : ByteArray
  f20 : Int
structure Hd where
  A3 : Option Addr
  c3 : Nat
  A5 : Option Addr
  c5 : Nat
  A6 : Option Addr
  c6 : Nat
  A7 : Option Addr
  c7 : Nat
  A8 : Option Addr
  c8 : Nat
  A9 : Option Addr
  c9 : Nat
  A10 : Option Addr
  c10 : Nat
  A11 : Option Addr
  c11 : Nat
  A13 : Option Addr
  c13 : Nat
  A14 : Option Addr
  c14 : Nat
def cells (m : Mv) (h : Hd) : Array Value := #[.int .i64 m.f0, .string m.f1, .string m.f2, .slice h.A3 m.f3.length h.c3, .string m.f4, .slice h.A5 m.f5.length h.c5, .slice h.A6 m.f6.length h.c6, .slice h.A7 m.f7.length h.c7, .slice h.A8 m.f8.length h.c8, .slice h.A9 m.f9.length h.c9, .slice h.A10 m.f10.length h.c10, .slice h.A11 m.f11.length h.c11, .int .i64 m.f12, .slice h.A13 m.f13.length h.c13, .slice h.A14 m.f14.length h.c14, .int .i64 m.f15, .string m.f16, .int .i64 m.f17, .int .i64 m.f18, .string m.f19, .int .i64 m.f20]
structure Reads (w : World) (m : Mv) (h : Hd) : Prop where
  r3 : Kd.C (Kd.int .i64) w h.A3 m.f3.length m.f3
  l3 : m.f3.length ≤ h.c3
  r5 : Kd.C (Kd.int .i64) w h.A5 m.f5.length m.f5
  l5 : m.f5.length ≤ h.c5
  r6 : Kd.C (Kd.int .i64) w h.A6 m.f6.length m.f6
  l6 : m.f6.length ≤ h.c6
  r7 : Kd.C (Kd.int .i64) w h.A7 m.f7.length m.f7
  l7 : m.f7.length ≤ h.c7
  r8 : Kd.C (Kd.int .i64) w h.A8 m.f8.length m.f8
  l8 : m.f8.length ≤ h.c8
  r9 : Kd.C k66 w h.A9 m.f9.length m.f9
  l9 : m.f9.length ≤ h.c9
  r10 : Kd.C k111 w h.A10 m.f10.length m.f10
  l10 : m.f10.length ≤ h.c10
  r11 : Kd.C Kd.string w h.A11 m.f11.length m.f11
  l11 : m.f11.length ≤ h.c11
  r13 : Kd.C (Kd.int .i64) w h.A13 m.f13.length m.f13
  l13 : m.f13.length ≤ h.c13
  r14 : Kd.C Kd.string w h.A14 m.f14.length m.f14
  l14 : m.f14.length ≤ h.c14
theorem Reads.below {w w2 : World} {m : Mv} {h : Hd} (r : Reads w m h) (b : Below w.heap.size w w2) : Reads w2 m h := ⟨Kd.C_below r.r3 b, r.l3, Kd.C_below r.r5 b, r.l5, Kd.C_below r.r6 b, r.l6, Kd.C_below r.r7 b, r.l7, Kd.C_below r.r8 b, r.l8, Kd.C_below r.r9 b, r.l9, Kd.C_below r.r10 b, r.l10, Kd.C_below r.r11 b, r.l11, Kd.C_below r.r13 b, r.l13, Kd.C_below r.r14 b, r.l14⟩
def Mv.unused (m : Mv) : Mv := if m.f0 = 1 then { m with f4 := ByteArray.empty, f7 := [], f8 := [], f10 := [], f11 := [], f1 := ByteArray.empty, f2 := ByteArray.empty, f3 := [], f5 := [], f6 := [], f9 := [] } else if m.f0 = 2 then { m with f12 := 0, f1 := ByteArray.empty, f2 := ByteArray.empty, f3 := [], f5 := [], f6 := [], f9 := [] } else if m.f0 = 11 then { m with f14 := [] } else if m.f0 = 4 then { m with f17 := 0, f18 := 0, f19 := ByteArray.empty, f16 := ByteArray.empty } else if m.f0 = 20 then { m with f16 := ByteArray.empty } else if m.f0 = 15 then { m with f15 := 0, f16 := ByteArray.empty } else if m.f0 = 24 then { m with f20 := 0 } else m
def Hd.unused (m : Mv) (h : Hd) : Hd := if m.f0 = 1 then { h with A7 := none, c7 := 0, A8 := none, c8 := 0, A10 := none, c10 := 0, A11 := none, c11 := 0, A3 := none, c3 := 0, A5 := none, c5 := 0, A6 := none, c6 := 0, A9 := none, c9 := 0 } else if m.f0 = 2 then { h with A3 := none, c3 := 0, A5 := none, c5 := 0, A6 := none, c6 := 0, A9 := none, c9 := 0 } else if m.f0 = 11 then { h with A14 := none, c14 := 0 } else if m.f0 = 4 then h else if m.f0 = 20 then h else if m.f0 = 15 then h else if m.f0 = 24 then h else h
theorem sz3 : (Try.prog.info? 3).map (·.size) = some 1 := by kernel_rfl
theorem sz9 : (Try.prog.info? 9).map (·.size) = some 1 := by kernel_rfl
theorem sz44 : (Try.prog.info? 44).map (·.size) = some 1 := by kernel_rfl
theorem sz45 : (Try.prog.info? 45).map (·.size) = some 1 := by kernel_rfl
theorem sz46 : (Try.prog.info? 46).map (·.size) = some 1 := by kernel_rfl
theorem sz47 : (Try.prog.info? 47).map (·.size) = some 1 := by kernel_rfl
theorem sz49 : (Try.prog.info? 49).map (·.size) = some 21 := by kernel_rfl
theorem C_nil {α : Type} (d : Kd α) (w : World) : Kd.C d w none 0 [] := Kd.C_nil _ _
def zcells : Array Value := #[.int .i64 0, .string ⟨#[]⟩, .string ⟨#[]⟩, .slice none 0 0, .string ⟨#[]⟩, .slice none 0 0, .slice none 0 0, .slice none 0 0, .slice none 0 0, .slice none 0 0, .slice none 0 0, .slice none 0 0, .int .i64 0, .slice none 0 0, .slice none 0 0, .int .i64 0, .string ⟨#[]⟩, .int .i64 0, .int .i64 0, .string ⟨#[]⟩, .int .i64 0]
theorem box49 {ops : Array Oper} {rest : List Oper} {o : Oper} {a : Act} {Q : Exit → Act → World → Prop} {w : World} {x : Operand} (hgd : o.guard = none) (ho : o.op = .box 49 x) {cs : Array Value} (hx : a.eval x = .agg cs)
    (H : ∀ g, g = w.heap.size → ∀ w1, w1.heap[g]? = some (.cells cs 49 (0, 0)) → Below w.heap.size w w1 → wpList Try.prog ops Q rest (a.put o.dst (.pointer (some ⟨g, 0, none⟩))) w1) : wpList Try.prog ops Q (o :: rest) a w := by
  refine Kd.event_run hgd ?_ (H _ rfl _ (blk_new w _) (below_alloc (Below.refl _ _) _))
  unfold execOp
  simp only [ho, hx]
  rfl
theorem zero49 : (Try.prog.info? 49).map (·.zero) = some (some (.agg #[.int .i64 0, .string ⟨#[]⟩, .string ⟨#[]⟩, .slice none 0 0, .string ⟨#[]⟩, .slice none 0 0, .slice none 0 0, .slice none 0 0, .slice none 0 0, .slice none 0 0, .slice none 0 0, .slice none 0 0, .int .i64 0, .slice none 0 0, .slice none 0 0, .int .i64 0, .string ⟨#[]⟩, .int .i64 0, .int .i64 0, .string ⟨#[]⟩, .int .i64 0])) := by kernel_rfl
theorem alloc49 {ops : Array Oper} {rest : List Oper} {o : Oper} {a : Act} {Q : Exit → Act → World → Prop} {w : World} (hgd : o.guard = none) (ho : o.op = .alloc 49)
    (H : ∀ g, g = w.heap.size → ∀ cs, cs.size = 21 → ∀ w1, w1.heap[g]? = some (.cells cs 49 (0, 0)) → Below w.heap.size w w1 → wpList Try.prog ops Q rest (a.put o.dst (.pointer (some ⟨g, 0, none⟩))) w1) : wpList Try.prog ops Q (o :: rest) a w := by
  refine Kd.event_run hgd ?_ (H _ rfl zcells rfl _ (blk_new w (.cells zcells 49)) (below_alloc (Below.refl _ _) _))
  obtain ⟨i0, hi, hz⟩ := Option.map_eq_some_iff.1 zero49
  unfold execOp
  simp only [ho, Instr.alloc, zeroValue, typeInfo, Sem.run_bind]
  simp [hi, hz]
  rfl
def Mv.texts (m : Mv) : Nat := m.f1.size + m.f2.size + m.f4.size + m.f16.size + m.f19.size
def Mv.lists (m : Mv) : Nat := m.f3.length + m.f5.length + m.f6.length + m.f7.length + m.f8.length + m.f9.length + m.f10.length + m.f11.length + m.f13.length + m.f14.length
def Mv.zero (m : Mv) : Bool := m.texts == 0 && m.lists == 0 && m.f12 == 0 && m.f15 == 0 && m.f17 == 0 && m.f18 == 0 && m.f20 == 0
theorem zero_f (m : Mv) (ht : m.texts ≤ 9223372036854775807) (hl : m.lists ≤ 9223372036854775807) : msg_zero.f m.f0 m.f1 m.f2 m.f3 m.f4 m.f5 m.f6 m.f7 m.f8 m.f9 m.f10 m.f11 m.f12 m.f13 m.f14 m.f15 m.f16 m.f17 m.f18 m.f19 m.f20 = some m.zero := by
  unfold Mv.texts at ht
  unfold Mv.lists at hl
  have e (s : ByteArray) : (s.toList = ([] : List UInt8)) ↔ s.size = 0 := by
    rw [ByteArray.toList_eq]
    exact ⟨fun h => by have := congrArg List.length h; simpa using this, fun h => List.eq_nil_of_length_eq_zero (by simpa using h)⟩
  have w64 (x : Int) (h0 : 0 ≤ x) (h1 : x ≤ 9223372036854775807) : wrap64 x = x := (i64_w x).symm.trans (IntWalk.i64_in x (by omega))
  unfold msg_zero.f Mv.zero Mv.texts Mv.lists
  simp only [Option.bind_some, ByteArray.size_append, e]
  rw [if_pos (by omega), if_pos (by omega), if_pos (by omega), if_pos (by omega)]
  simp (disch := omega) only [w64]
  by_cases h1 : m.f1.size + m.f2.size + m.f4.size + m.f16.size + m.f19.size = 0
  · rw [if_pos h1]
    by_cases h2 : m.f3.length + m.f5.length + m.f6.length + m.f7.length + m.f8.length + m.f9.length + m.f10.length + m.f11.length + m.f13.length + m.f14.length = 0
    · rw [if_pos (by omega)]
      by_cases h3 : m.f12 = 0 <;> by_cases h4 : m.f15 = 0 <;> by_cases h5 : m.f17 = 0 <;> by_cases h6 : m.f18 = 0 <;> simp [h1, h2, h3, h4, h5, h6]
    · rw [if_neg (by omega)]
      rw [show ((m.f3.length + m.f5.length + m.f6.length + m.f7.length + m.f8.length + m.f9.length + m.f10.length + m.f11.length + m.f13.length + m.f14.length) == 0) = false from beq_eq_false_iff_ne.mpr h2]
      simp
  · rw [if_neg h1]
    rw [show ((m.f1.size + m.f2.size + m.f4.size + m.f16.size + m.f19.size) == 0) = false from beq_eq_false_iff_ne.mpr h1]
    simp
theorem zero_calls (m : Mv) (h : Hd) (w : World) (rd : Reads w m h) (ht : m.texts ≤ 9223372036854775807) (hl : m.lists ≤ 9223372036854775807) :
    Calls Try.prog 45 #[.agg (cells m h)] w fun e w' => e = .returned (.bool m.zero) ∧ Below w.heap.size w w' :=
  msg_zero.calls m.f0 m.f1 m.f2 h.A3 h.c3 m.f3 m.f4 h.A5 h.c5 m.f5 h.A6 h.c6 m.f6 h.A7 h.c7 m.f7 h.A8 h.c8 m.f8 h.A9 h.c9 m.f9 h.A10 h.c10 m.f10 h.A11 h.c11 m.f11 m.f12 h.A13 h.c13 m.f13 h.A14 h.c14 m.f14 m.f15 m.f16 m.f17 m.f18 m.f19 m.f20 m.zero w rd.r3 rd.l3 rd.r5 rd.l5 rd.r6 rd.l6 rd.r7 rd.l7 rd.r8 rd.l8 rd.r9 rd.l9 rd.r10 rd.l10 rd.r11 rd.l11 rd.r13 rd.l13 rd.r14 rd.l14 (zero_f m ht hl)
def Mv.retry (m : Mv) : Bool := m.f0 == 2 && m.f1.toList == ([207, 33, 173, 116, 229, 154, 97, 17, 190, 29, 140, 2, 30, 101, 184, 145, 194, 162, 17, 22, 122, 187, 140, 94, 7, 158, 9, 226, 200, 168, 51, 156] : List UInt8)
theorem retry_calls (m : Mv) (h : Hd) (w : World) (rd : Reads w m h) :
    Calls Try.prog 30 #[.agg (cells m h)] w fun e w' => e = .returned (.bool m.retry) ∧ Below w.heap.size w w' :=
  msg_Retry.calls m.f0 m.f1 m.f2 h.A3 h.c3 m.f3 m.f4 h.A5 h.c5 m.f5 h.A6 h.c6 m.f6 h.A7 h.c7 m.f7 h.A8 h.c8 m.f8 h.A9 h.c9 m.f9 h.A10 h.c10 m.f10 h.A11 h.c11 m.f11 m.f12 h.A13 h.c13 m.f13 h.A14 h.c14 m.f14 m.f15 m.f16 m.f17 m.f18 m.f19 m.f20 m.retry w rd.r3 rd.l3 rd.r5 rd.l5 rd.r6 rd.l6 rd.r7 rd.l7 rd.r8 rd.l8 rd.r9 rd.l9 rd.r10 rd.l10 rd.r11 rd.l11 rd.r13 rd.l13 rd.r14 rd.l14 (by
    unfold msg_Retry.f Mv.retry
    by_cases h0 : m.f0 = 2 <;> simp [h0])
end Go.Proofs.Ytlkebjkpmiehcaa.Ms
end
section
namespace Go.Proofs.Ytlkebjkpmiehcaa.Ms
open Go.RowKit Go.Proofs.YtlkebjkpmiehcaaW.PrintWords Go.Proofs.YtlkebjkpmiehcaaW.PrintLast Go.Proofs.YtlkebjkpmiehcaaW.PrintMore Go.Proofs.Ytlkebjkpmiehcaa.X
open Go.Proofs.Ytlkebjkpmiehcaa.Pure (nv numOf vecOf nv_bd nv_bd4 number_any vec_ok)
set_option linter.unusedVariables false
structure Mo (ok : Nat → Prop) (w : World) (gm : Nat) (m : Mv) (h : Hd) : Prop where
  box : w.heap[gm]? = some (.cells (cells m h) 49 (0, 0))
  r3 : Kd.R (Kd.int .i64) 3 w 0 ok (.slice h.A3 m.f3.length h.c3) m.f3
  r5 : Kd.R (Kd.int .i64) 3 w 0 ok (.slice h.A5 m.f5.length h.c5) m.f5
  r6 : Kd.R (Kd.int .i64) 3 w 0 ok (.slice h.A6 m.f6.length h.c6) m.f6
  r7 : Kd.R (Kd.int .i64) 3 w 0 ok (.slice h.A7 m.f7.length h.c7) m.f7
  r8 : Kd.R (Kd.int .i64) 3 w 0 ok (.slice h.A8 m.f8.length h.c8) m.f8
  r9 : Kd.R k66 66 w 0 ok (.slice h.A9 m.f9.length h.c9) m.f9
  r10 : Kd.R k111 111 w 0 ok (.slice h.A10 m.f10.length h.c10) m.f10
  r11 : Kd.R Kd.string 9 w 0 ok (.slice h.A11 m.f11.length h.c11) m.f11
  r13 : Kd.R (Kd.int .i64) 3 w 0 ok (.slice h.A13 m.f13.length h.c13) m.f13
  r14 : Kd.R Kd.string 9 w 0 ok (.slice h.A14 m.f14.length h.c14) m.f14
def MO (ok : Nat → Prop) (w : World) (gm : Nat) (m : Mv) : Prop := ∃ h, Mo ok w gm m h
theorem cells_size (m : Mv) (h : Hd) : (cells m h).size = 21 := rfl
theorem R_typed {α : Type} {d : Kd α} {e : Nat} {W W1 : World} {ok : Nat → Prop} {v : Value} {xs : List α} (h : d.R e W 0 ok v xs) (ts : List Nat) (hm : ∀ (k : Nat) (cs : Array Value) (t : TypeId), W.heap[k]? = some (.cells cs t (0, 0)) → t ∉ ts → W1.heap[k]? = some (.cells cs t (0, 0))) (ht : ∀ q, q ∈ e :: d.E → q ∉ ts) : d.R e W1 0 ok v xs :=
  Kd.R_mono (Kd.R_move (Kd.R_bound h) (fun i hi => by
    obtain ⟨_, _, h3, q, hq, cells, hc⟩ := hi
    rw [hc]
    exact hm i _ _ hc (ht q hq))) (fun _ hk => hk.1)
theorem R_fresh {α : Type} {d : Kd α} {e : Nat} {w0 w : World} {ok : Nat → Prop} {v : Value} {xs : List α} (h : d.R e w w0.heap.size (fun _ => True) v xs) (hok : ∀ k, w0.heap.size ≤ k → ok k) : d.R e w 0 ok v xs := Kd.R_lower (Kd.R_mono (Kd.R_bound h) (fun k hk => hok k hk.2.1)) (Nat.zero_le _)
theorem Mo.move {ok : Nat → Prop} {w w1 : World} {gm : Nat} {m : Mv} {h : Hd} (a : Mo ok w gm m h) (hb : w1.heap[gm]? = some (.cells (cells m h) 49 (0, 0))) (ts : List Nat) (hm : ∀ (k : Nat) (cs : Array Value) (t : TypeId), w.heap[k]? = some (.cells cs t (0, 0)) → t ∉ ts → w1.heap[k]? = some (.cells cs t (0, 0))) (h3 : 3 ∉ ts) (h9 : 9 ∉ ts) (h66 : 66 ∉ ts) (h111 : 111 ∉ ts) : Mo ok w1 gm m h :=
  ⟨hb, R_typed a.r3 ts hm (by intro q hq; rw [List.mem_singleton.1 hq]; exact h3), R_typed a.r5 ts hm (by intro q hq; rw [List.mem_singleton.1 hq]; exact h3), R_typed a.r6 ts hm (by intro q hq; rw [List.mem_singleton.1 hq]; exact h3), R_typed a.r7 ts hm (by intro q hq; rw [List.mem_singleton.1 hq]; exact h3), R_typed a.r8 ts hm (by intro q hq; rw [List.mem_singleton.1 hq]; exact h3), R_typed a.r9 ts hm (by intro q hq; rw [List.mem_singleton.1 hq]; exact h66), R_typed a.r10 ts hm (by intro q hq; rw [List.mem_singleton.1 hq]; exact h111), R_typed a.r11 ts hm (by intro q hq; rw [List.mem_singleton.1 hq]; exact h9), R_typed a.r13 ts hm (by intro q hq; rw [List.mem_singleton.1 hq]; exact h3), R_typed a.r14 ts hm (by intro q hq; rw [List.mem_singleton.1 hq]; exact h9)⟩
theorem kf_types {lo r f : Nat} {w w1 : World} {R : Rp} (h : RS w r f R) (k : Kf lo r f w w1) : ∀ (j : Nat) (cs : Array Value) (t : TypeId), w.heap[j]? = some (.cells cs t (0, 0)) → t ∉ [92, 90] → w1.heap[j]? = some (.cells cs t (0, 0)) := fun j cs t hj ht =>
  k.keep j _ hj (blk_ne hj h.rd (by intro e; exact ht (by simp [e]))) (blk_ne hj h.ft (by intro e; exact ht (by simp [e])))
theorem MO.kf {ok : Nat → Prop} {lo r f gm : Nat} {w w1 : World} {m : Mv} {R : Rp} (a : MO ok w gm m) (h : RS w r f R) (k : Kf lo r f w w1) : MO ok w1 gm m := by
  obtain ⟨hd, a⟩ := a
  exact ⟨hd, a.move (kf_types h k gm _ _ a.box (by decide)) _ (kf_types h k) (by decide) (by decide) (by decide) (by decide)⟩
theorem MO.below {ok : Nat → Prop} {gm : Nat} {w w1 : World} {m : Mv} (a : MO ok w gm m) (b : Below w.heap.size w w1) : MO ok w1 gm m := by
  obtain ⟨hd, a⟩ := a
  have hm : ∀ (k : Nat) (cs : Array Value) (t : TypeId), w.heap[k]? = some (.cells cs t (0, 0)) → t ∉ ([] : List Nat) → w1.heap[k]? = some (.cells cs t (0, 0)) := fun k cs t hk _ => (b.block k (blk_lt hk)).trans hk
  exact ⟨hd, a.move (hm gm _ _ a.box (by decide)) _ hm (by decide) (by decide) (by decide) (by decide)⟩
theorem keep_types {ok : Nat → Prop} {gm : Nat} {w w1 : World} {m : Mv} {h : Hd} (a : Mo ok w gm m h) (k : KeepBut w w1 gm none) : ∀ (j : Nat) (cs : Array Value) (t : TypeId), w.heap[j]? = some (.cells cs t (0, 0)) → t ∉ [49] → w1.heap[j]? = some (.cells cs t (0, 0)) := fun j cs t hj ht =>
  (k.2 j (blk_lt hj) (blk_ne hj a.box (by intro e; exact ht (by simp [e]))) (by simp)).trans hj
theorem Mo.s1 {ok : Nat → Prop} {w w1 : World} {gm : Nat} {m : Mv} {hd : Hd} (a : Mo ok w gm m hd) (x : ByteArray) (hb : w1.heap[gm]? = some (.cells ((cells m hd).setIfInBounds 1 (.string x)) 49 (0, 0))) (k : KeepBut w w1 gm none) : MO ok w1 gm { m with f1 := x } := ⟨hd, hb, R_typed a.r3 _ (keep_types a k) (by intro q hq; rw [List.mem_singleton.1 hq]; decide), R_typed a.r5 _ (keep_types a k) (by intro q hq; rw [List.mem_singleton.1 hq]; decide), R_typed a.r6 _ (keep_types a k) (by intro q hq; rw [List.mem_singleton.1 hq]; decide), R_typed a.r7 _ (keep_types a k) (by intro q hq; rw [List.mem_singleton.1 hq]; decide), R_typed a.r8 _ (keep_types a k) (by intro q hq; rw [List.mem_singleton.1 hq]; decide), R_typed a.r9 _ (keep_types a k) (by intro q hq; rw [List.mem_singleton.1 hq]; decide), R_typed a.r10 _ (keep_types a k) (by intro q hq; rw [List.mem_singleton.1 hq]; decide), R_typed a.r11 _ (keep_types a k) (by intro q hq; rw [List.mem_singleton.1 hq]; decide), R_typed a.r13 _ (keep_types a k) (by intro q hq; rw [List.mem_singleton.1 hq]; decide), R_typed a.r14 _ (keep_types a k) (by intro q hq; rw [List.mem_singleton.1 hq]; decide)⟩
theorem Mo.s2 {ok : Nat → Prop} {w w1 : World} {gm : Nat} {m : Mv} {hd : Hd} (a : Mo ok w gm m hd) (x : ByteArray) (hb : w1.heap[gm]? = some (.cells ((cells m hd).setIfInBounds 2 (.string x)) 49 (0, 0))) (k : KeepBut w w1 gm none) : MO ok w1 gm { m with f2 := x } := ⟨hd, hb, R_typed a.r3 _ (keep_types a k) (by intro q hq; rw [List.mem_singleton.1 hq]; decide), R_typed a.r5 _ (keep_types a k) (by intro q hq; rw [List.mem_singleton.1 hq]; decide), R_typed a.r6 _ (keep_types a k) (by intro q hq; rw [List.mem_singleton.1 hq]; decide), R_typed a.r7 _ (keep_types a k) (by intro q hq; rw [List.mem_singleton.1 hq]; decide), R_typed a.r8 _ (keep_types a k) (by intro q hq; rw [List.mem_singleton.1 hq]; decide), R_typed a.r9 _ (keep_types a k) (by intro q hq; rw [List.mem_singleton.1 hq]; decide), R_typed a.r10 _ (keep_types a k) (by intro q hq; rw [List.mem_singleton.1 hq]; decide), R_typed a.r11 _ (keep_types a k) (by intro q hq; rw [List.mem_singleton.1 hq]; decide), R_typed a.r13 _ (keep_types a k) (by intro q hq; rw [List.mem_singleton.1 hq]; decide), R_typed a.r14 _ (keep_types a k) (by intro q hq; rw [List.mem_singleton.1 hq]; decide)⟩
theorem Mo.s4 {ok : Nat → Prop} {w w1 : World} {gm : Nat} {m : Mv} {hd : Hd} (a : Mo ok w gm m hd) (x : ByteArray) (hb : w1.heap[gm]? = some (.cells ((cells m hd).setIfInBounds 4 (.string x)) 49 (0, 0))) (k : KeepBut w w1 gm none) : MO ok w1 gm { m with f4 := x } := ⟨hd, hb, R_typed a.r3 _ (keep_types a k) (by intro q hq; rw [List.mem_singleton.1 hq]; decide), R_typed a.r5 _ (keep_types a k) (by intro q hq; rw [List.mem_singleton.1 hq]; decide), R_typed a.r6 _ (keep_types a k) (by intro q hq; rw [List.mem_singleton.1 hq]; decide), R_typed a.r7 _ (keep_types a k) (by intro q hq; rw [List.mem_singleton.1 hq]; decide), R_typed a.r8 _ (keep_types a k) (by intro q hq; rw [List.mem_singleton.1 hq]; decide), R_typed a.r9 _ (keep_types a k) (by intro q hq; rw [List.mem_singleton.1 hq]; decide), R_typed a.r10 _ (keep_types a k) (by intro q hq; rw [List.mem_singleton.1 hq]; decide), R_typed a.r11 _ (keep_types a k) (by intro q hq; rw [List.mem_singleton.1 hq]; decide), R_typed a.r13 _ (keep_types a k) (by intro q hq; rw [List.mem_singleton.1 hq]; decide), R_typed a.r14 _ (keep_types a k) (by intro q hq; rw [List.mem_singleton.1 hq]; decide)⟩
theorem Mo.s16 {ok : Nat → Prop} {w w1 : World} {gm : Nat} {m : Mv} {hd : Hd} (a : Mo ok w gm m hd) (x : ByteArray) (hb : w1.heap[gm]? = some (.cells ((cells m hd).setIfInBounds 16 (.string x)) 49 (0, 0))) (k : KeepBut w w1 gm none) : MO ok w1 gm { m with f16 := x } := ⟨hd, hb, R_typed a.r3 _ (keep_types a k) (by intro q hq; rw [List.mem_singleton.1 hq]; decide), R_typed a.r5 _ (keep_types a k) (by intro q hq; rw [List.mem_singleton.1 hq]; decide), R_typed a.r6 _ (keep_types a k) (by intro q hq; rw [List.mem_singleton.1 hq]; decide), R_typed a.r7 _ (keep_types a k) (by intro q hq; rw [List.mem_singleton.1 hq]; decide), R_typed a.r8 _ (keep_types a k) (by intro q hq; rw [List.mem_singleton.1 hq]; decide), R_typed a.r9 _ (keep_types a k) (by intro q hq; rw [List.mem_singleton.1 hq]; decide), R_typed a.r10 _ (keep_types a k) (by intro q hq; rw [List.mem_singleton.1 hq]; decide), R_typed a.r11 _ (keep_types a k) (by intro q hq; rw [List.mem_singleton.1 hq]; decide), R_typed a.r13 _ (keep_types a k) (by intro q hq; rw [List.mem_singleton.1 hq]; decide), R_typed a.r14 _ (keep_types a k) (by intro q hq; rw [List.mem_singleton.1 hq]; decide)⟩
theorem Mo.s19 {ok : Nat → Prop} {w w1 : World} {gm : Nat} {m : Mv} {hd : Hd} (a : Mo ok w gm m hd) (x : ByteArray) (hb : w1.heap[gm]? = some (.cells ((cells m hd).setIfInBounds 19 (.string x)) 49 (0, 0))) (k : KeepBut w w1 gm none) : MO ok w1 gm { m with f19 := x } := ⟨hd, hb, R_typed a.r3 _ (keep_types a k) (by intro q hq; rw [List.mem_singleton.1 hq]; decide), R_typed a.r5 _ (keep_types a k) (by intro q hq; rw [List.mem_singleton.1 hq]; decide), R_typed a.r6 _ (keep_types a k) (by intro q hq; rw [List.mem_singleton.1 hq]; decide), R_typed a.r7 _ (keep_types a k) (by intro q hq; rw [List.mem_singleton.1 hq]; decide), R_typed a.r8 _ (keep_types a k) (by intro q hq; rw [List.mem_singleton.1 hq]; decide), R_typed a.r9 _ (keep_types a k) (by intro q hq; rw [List.mem_singleton.1 hq]; decide), R_typed a.r10 _ (keep_types a k) (by intro q hq; rw [List.mem_singleton.1 hq]; decide), R_typed a.r11 _ (keep_types a k) (by intro q hq; rw [List.mem_singleton.1 hq]; decide), R_typed a.r13 _ (keep_types a k) (by intro q hq; rw [List.mem_singleton.1 hq]; decide), R_typed a.r14 _ (keep_types a k) (by intro q hq; rw [List.mem_singleton.1 hq]; decide)⟩
theorem Mo.s12 {ok : Nat → Prop} {w w1 : World} {gm : Nat} {m : Mv} {hd : Hd} (a : Mo ok w gm m hd) (x : Int) (hb : w1.heap[gm]? = some (.cells ((cells m hd).setIfInBounds 12 (.int .i64 x)) 49 (0, 0))) (k : KeepBut w w1 gm none) : MO ok w1 gm { m with f12 := x } := ⟨hd, hb, R_typed a.r3 _ (keep_types a k) (by intro q hq; rw [List.mem_singleton.1 hq]; decide), R_typed a.r5 _ (keep_types a k) (by intro q hq; rw [List.mem_singleton.1 hq]; decide), R_typed a.r6 _ (keep_types a k) (by intro q hq; rw [List.mem_singleton.1 hq]; decide), R_typed a.r7 _ (keep_types a k) (by intro q hq; rw [List.mem_singleton.1 hq]; decide), R_typed a.r8 _ (keep_types a k) (by intro q hq; rw [List.mem_singleton.1 hq]; decide), R_typed a.r9 _ (keep_types a k) (by intro q hq; rw [List.mem_singleton.1 hq]; decide), R_typed a.r10 _ (keep_types a k) (by intro q hq; rw [List.mem_singleton.1 hq]; decide), R_typed a.r11 _ (keep_types a k) (by intro q hq; rw [List.mem_singleton.1 hq]; decide), R_typed a.r13 _ (keep_types a k) (by intro q hq; rw [List.mem_singleton.1 hq]; decide), R_typed a.r14 _ (keep_types a k) (by intro q hq; rw [List.mem_singleton.1 hq]; decide)⟩
theorem Mo.s15 {ok : Nat → Prop} {w w1 : World} {gm : Nat} {m : Mv} {hd : Hd} (a : Mo ok w gm m hd) (x : Int) (hb : w1.heap[gm]? = some (.cells ((cells m hd).setIfInBounds 15 (.int .i64 x)) 49 (0, 0))) (k : KeepBut w w1 gm none) : MO ok w1 gm { m with f15 := x } := ⟨hd, hb, R_typed a.r3 _ (keep_types a k) (by intro q hq; rw [List.mem_singleton.1 hq]; decide), R_typed a.r5 _ (keep_types a k) (by intro q hq; rw [List.mem_singleton.1 hq]; decide), R_typed a.r6 _ (keep_types a k) (by intro q hq; rw [List.mem_singleton.1 hq]; decide), R_typed a.r7 _ (keep_types a k) (by intro q hq; rw [List.mem_singleton.1 hq]; decide), R_typed a.r8 _ (keep_types a k) (by intro q hq; rw [List.mem_singleton.1 hq]; decide), R_typed a.r9 _ (keep_types a k) (by intro q hq; rw [List.mem_singleton.1 hq]; decide), R_typed a.r10 _ (keep_types a k) (by intro q hq; rw [List.mem_singleton.1 hq]; decide), R_typed a.r11 _ (keep_types a k) (by intro q hq; rw [List.mem_singleton.1 hq]; decide), R_typed a.r13 _ (keep_types a k) (by intro q hq; rw [List.mem_singleton.1 hq]; decide), R_typed a.r14 _ (keep_types a k) (by intro q hq; rw [List.mem_singleton.1 hq]; decide)⟩
theorem Mo.s17 {ok : Nat → Prop} {w w1 : World} {gm : Nat} {m : Mv} {hd : Hd} (a : Mo ok w gm m hd) (x : Int) (hb : w1.heap[gm]? = some (.cells ((cells m hd).setIfInBounds 17 (.int .i64 x)) 49 (0, 0))) (k : KeepBut w w1 gm none) : MO ok w1 gm { m with f17 := x } := ⟨hd, hb, R_typed a.r3 _ (keep_types a k) (by intro q hq; rw [List.mem_singleton.1 hq]; decide), R_typed a.r5 _ (keep_types a k) (by intro q hq; rw [List.mem_singleton.1 hq]; decide), R_typed a.r6 _ (keep_types a k) (by intro q hq; rw [List.mem_singleton.1 hq]; decide), R_typed a.r7 _ (keep_types a k) (by intro q hq; rw [List.mem_singleton.1 hq]; decide), R_typed a.r8 _ (keep_types a k) (by intro q hq; rw [List.mem_singleton.1 hq]; decide), R_typed a.r9 _ (keep_types a k) (by intro q hq; rw [List.mem_singleton.1 hq]; decide), R_typed a.r10 _ (keep_types a k) (by intro q hq; rw [List.mem_singleton.1 hq]; decide), R_typed a.r11 _ (keep_types a k) (by intro q hq; rw [List.mem_singleton.1 hq]; decide), R_typed a.r13 _ (keep_types a k) (by intro q hq; rw [List.mem_singleton.1 hq]; decide), R_typed a.r14 _ (keep_types a k) (by intro q hq; rw [List.mem_singleton.1 hq]; decide)⟩
theorem Mo.s18 {ok : Nat → Prop} {w w1 : World} {gm : Nat} {m : Mv} {hd : Hd} (a : Mo ok w gm m hd) (x : Int) (hb : w1.heap[gm]? = some (.cells ((cells m hd).setIfInBounds 18 (.int .i64 x)) 49 (0, 0))) (k : KeepBut w w1 gm none) : MO ok w1 gm { m with f18 := x } := ⟨hd, hb, R_typed a.r3 _ (keep_types a k) (by intro q hq; rw [List.mem_singleton.1 hq]; decide), R_typed a.r5 _ (keep_types a k) (by intro q hq; rw [List.mem_singleton.1 hq]; decide), R_typed a.r6 _ (keep_types a k) (by intro q hq; rw [List.mem_singleton.1 hq]; decide), R_typed a.r7 _ (keep_types a k) (by intro q hq; rw [List.mem_singleton.1 hq]; decide), R_typed a.r8 _ (keep_types a k) (by intro q hq; rw [List.mem_singleton.1 hq]; decide), R_typed a.r9 _ (keep_types a k) (by intro q hq; rw [List.mem_singleton.1 hq]; decide), R_typed a.r10 _ (keep_types a k) (by intro q hq; rw [List.mem_singleton.1 hq]; decide), R_typed a.r11 _ (keep_types a k) (by intro q hq; rw [List.mem_singleton.1 hq]; decide), R_typed a.r13 _ (keep_types a k) (by intro q hq; rw [List.mem_singleton.1 hq]; decide), R_typed a.r14 _ (keep_types a k) (by intro q hq; rw [List.mem_singleton.1 hq]; decide)⟩
theorem Mo.s20 {ok : Nat → Prop} {w w1 : World} {gm : Nat} {m : Mv} {hd : Hd} (a : Mo ok w gm m hd) (x : Int) (hb : w1.heap[gm]? = some (.cells ((cells m hd).setIfInBounds 20 (.int .i64 x)) 49 (0, 0))) (k : KeepBut w w1 gm none) : MO ok w1 gm { m with f20 := x } := ⟨hd, hb, R_typed a.r3 _ (keep_types a k) (by intro q hq; rw [List.mem_singleton.1 hq]; decide), R_typed a.r5 _ (keep_types a k) (by intro q hq; rw [List.mem_singleton.1 hq]; decide), R_typed a.r6 _ (keep_types a k) (by intro q hq; rw [List.mem_singleton.1 hq]; decide), R_typed a.r7 _ (keep_types a k) (by intro q hq; rw [List.mem_singleton.1 hq]; decide), R_typed a.r8 _ (keep_types a k) (by intro q hq; rw [List.mem_singleton.1 hq]; decide), R_typed a.r9 _ (keep_types a k) (by intro q hq; rw [List.mem_singleton.1 hq]; decide), R_typed a.r10 _ (keep_types a k) (by intro q hq; rw [List.mem_singleton.1 hq]; decide), R_typed a.r11 _ (keep_types a k) (by intro q hq; rw [List.mem_singleton.1 hq]; decide), R_typed a.r13 _ (keep_types a k) (by intro q hq; rw [List.mem_singleton.1 hq]; decide), R_typed a.r14 _ (keep_types a k) (by intro q hq; rw [List.mem_singleton.1 hq]; decide)⟩
theorem Mo.s3 {ok : Nat → Prop} {w w1 : World} {gm : Nat} {m : Mv} {hd : Hd} (a : Mo ok w gm m hd) {v : Value} {x : List Int} (hr : Kd.R (Kd.int .i64) 3 w 0 ok v x) (hb : w1.heap[gm]? = some (.cells ((cells m hd).setIfInBounds 3 v) 49 (0, 0))) (k : KeepBut w w1 gm none) : MO ok w1 gm { m with f3 := x } := by
  obtain ⟨A, c, rfl⟩ := Kd.R_slice hr
  exact ⟨{ hd with A3 := A, c3 := c }, hb, R_typed hr _ (keep_types a k) (by intro q hq; rw [List.mem_singleton.1 hq]; decide), R_typed a.r5 _ (keep_types a k) (by intro q hq; rw [List.mem_singleton.1 hq]; decide), R_typed a.r6 _ (keep_types a k) (by intro q hq; rw [List.mem_singleton.1 hq]; decide), R_typed a.r7 _ (keep_types a k) (by intro q hq; rw [List.mem_singleton.1 hq]; decide), R_typed a.r8 _ (keep_types a k) (by intro q hq; rw [List.mem_singleton.1 hq]; decide), R_typed a.r9 _ (keep_types a k) (by intro q hq; rw [List.mem_singleton.1 hq]; decide), R_typed a.r10 _ (keep_types a k) (by intro q hq; rw [List.mem_singleton.1 hq]; decide), R_typed a.r11 _ (keep_types a k) (by intro q hq; rw [List.mem_singleton.1 hq]; decide), R_typed a.r13 _ (keep_types a k) (by intro q hq; rw [List.mem_singleton.1 hq]; decide), R_typed a.r14 _ (keep_types a k) (by intro q hq; rw [List.mem_singleton.1 hq]; decide)⟩
theorem Mo.s5 {ok : Nat → Prop} {w w1 : World} {gm : Nat} {m : Mv} {hd : Hd} (a : Mo ok w gm m hd) {v : Value} {x : List Int} (hr : Kd.R (Kd.int .i64) 3 w 0 ok v x) (hb : w1.heap[gm]? = some (.cells ((cells m hd).setIfInBounds 5 v) 49 (0, 0))) (k : KeepBut w w1 gm none) : MO ok w1 gm { m with f5 := x } := by
  obtain ⟨A, c, rfl⟩ := Kd.R_slice hr
  exact ⟨{ hd with A5 := A, c5 := c }, hb, R_typed a.r3 _ (keep_types a k) (by intro q hq; rw [List.mem_singleton.1 hq]; decide), R_typed hr _ (keep_types a k) (by intro q hq; rw [List.mem_singleton.1 hq]; decide), R_typed a.r6 _ (keep_types a k) (by intro q hq; rw [List.mem_singleton.1 hq]; decide), R_typed a.r7 _ (keep_types a k) (by intro q hq; rw [List.mem_singleton.1 hq]; decide), R_typed a.r8 _ (keep_types a k) (by intro q hq; rw [List.mem_singleton.1 hq]; decide), R_typed a.r9 _ (keep_types a k) (by intro q hq; rw [List.mem_singleton.1 hq]; decide), R_typed a.r10 _ (keep_types a k) (by intro q hq; rw [List.mem_singleton.1 hq]; decide), R_typed a.r11 _ (keep_types a k) (by intro q hq; rw [List.mem_singleton.1 hq]; decide), R_typed a.r13 _ (keep_types a k) (by intro q hq; rw [List.mem_singleton.1 hq]; decide), R_typed a.r14 _ (keep_types a k) (by intro q hq; rw [List.mem_singleton.1 hq]; decide)⟩
theorem Mo.s6 {ok : Nat → Prop} {w w1 : World} {gm : Nat} {m : Mv} {hd : Hd} (a : Mo ok w gm m hd) {v : Value} {x : List Int} (hr : Kd.R (Kd.int .i64) 3 w 0 ok v x) (hb : w1.heap[gm]? = some (.cells ((cells m hd).setIfInBounds 6 v) 49 (0, 0))) (k : KeepBut w w1 gm none) : MO ok w1 gm { m with f6 := x } := by
  obtain ⟨A, c, rfl⟩ := Kd.R_slice hr
  exact ⟨{ hd with A6 := A, c6 := c }, hb, R_typed a.r3 _ (keep_types a k) (by intro q hq; rw [List.mem_singleton.1 hq]; decide), R_typed a.r5 _ (keep_types a k) (by intro q hq; rw [List.mem_singleton.1 hq]; decide), R_typed hr _ (keep_types a k) (by intro q hq; rw [List.mem_singleton.1 hq]; decide), R_typed a.r7 _ (keep_types a k) (by intro q hq; rw [List.mem_singleton.1 hq]; decide), R_typed a.r8 _ (keep_types a k) (by intro q hq; rw [List.mem_singleton.1 hq]; decide), R_typed a.r9 _ (keep_types a k) (by intro q hq; rw [List.mem_singleton.1 hq]; decide), R_typed a.r10 _ (keep_types a k) (by intro q hq; rw [List.mem_singleton.1 hq]; decide), R_typed a.r11 _ (keep_types a k) (by intro q hq; rw [List.mem_singleton.1 hq]; decide), R_typed a.r13 _ (keep_types a k) (by intro q hq; rw [List.mem_singleton.1 hq]; decide), R_typed a.r14 _ (keep_types a k) (by intro q hq; rw [List.mem_singleton.1 hq]; decide)⟩
theorem Mo.s7 {ok : Nat → Prop} {w w1 : World} {gm : Nat} {m : Mv} {hd : Hd} (a : Mo ok w gm m hd) {v : Value} {x : List Int} (hr : Kd.R (Kd.int .i64) 3 w 0 ok v x) (hb : w1.heap[gm]? = some (.cells ((cells m hd).setIfInBounds 7 v) 49 (0, 0))) (k : KeepBut w w1 gm none) : MO ok w1 gm { m with f7 := x } := by
  obtain ⟨A, c, rfl⟩ := Kd.R_slice hr
  exact ⟨{ hd with A7 := A, c7 := c }, hb, R_typed a.r3 _ (keep_types a k) (by intro q hq; rw [List.mem_singleton.1 hq]; decide), R_typed a.r5 _ (keep_types a k) (by intro q hq; rw [List.mem_singleton.1 hq]; decide), R_typed a.r6 _ (keep_types a k) (by intro q hq; rw [List.mem_singleton.1 hq]; decide), R_typed hr _ (keep_types a k) (by intro q hq; rw [List.mem_singleton.1 hq]; decide), R_typed a.r8 _ (keep_types a k) (by intro q hq; rw [List.mem_singleton.1 hq]; decide), R_typed a.r9 _ (keep_types a k) (by intro q hq; rw [List.mem_singleton.1 hq]; decide), R_typed a.r10 _ (keep_types a k) (by intro q hq; rw [List.mem_singleton.1 hq]; decide), R_typed a.r11 _ (keep_types a k) (by intro q hq; rw [List.mem_singleton.1 hq]; decide), R_typed a.r13 _ (keep_types a k) (by intro q hq; rw [List.mem_singleton.1 hq]; decide), R_typed a.r14 _ (keep_types a k) (by intro q hq; rw [List.mem_singleton.1 hq]; decide)⟩
theorem Mo.s8 {ok : Nat → Prop} {w w1 : World} {gm : Nat} {m : Mv} {hd : Hd} (a : Mo ok w gm m hd) {v : Value} {x : List Int} (hr : Kd.R (Kd.int .i64) 3 w 0 ok v x) (hb : w1.heap[gm]? = some (.cells ((cells m hd).setIfInBounds 8 v) 49 (0, 0))) (k : KeepBut w w1 gm none) : MO ok w1 gm { m with f8 := x } := by
  obtain ⟨A, c, rfl⟩ := Kd.R_slice hr
  exact ⟨{ hd with A8 := A, c8 := c }, hb, R_typed a.r3 _ (keep_types a k) (by intro q hq; rw [List.mem_singleton.1 hq]; decide), R_typed a.r5 _ (keep_types a k) (by intro q hq; rw [List.mem_singleton.1 hq]; decide), R_typed a.r6 _ (keep_types a k) (by intro q hq; rw [List.mem_singleton.1 hq]; decide), R_typed a.r7 _ (keep_types a k) (by intro q hq; rw [List.mem_singleton.1 hq]; decide), R_typed hr _ (keep_types a k) (by intro q hq; rw [List.mem_singleton.1 hq]; decide), R_typed a.r9 _ (keep_types a k) (by intro q hq; rw [List.mem_singleton.1 hq]; decide), R_typed a.r10 _ (keep_types a k) (by intro q hq; rw [List.mem_singleton.1 hq]; decide), R_typed a.r11 _ (keep_types a k) (by intro q hq; rw [List.mem_singleton.1 hq]; decide), R_typed a.r13 _ (keep_types a k) (by intro q hq; rw [List.mem_singleton.1 hq]; decide), R_typed a.r14 _ (keep_types a k) (by intro q hq; rw [List.mem_singleton.1 hq]; decide)⟩
theorem Mo.s9 {ok : Nat → Prop} {w w1 : World} {gm : Nat} {m : Mv} {hd : Hd} (a : Mo ok w gm m hd) {v : Value} {x : List S66} (hr : Kd.R k66 66 w 0 ok v x) (hb : w1.heap[gm]? = some (.cells ((cells m hd).setIfInBounds 9 v) 49 (0, 0))) (k : KeepBut w w1 gm none) : MO ok w1 gm { m with f9 := x } := by
  obtain ⟨A, c, rfl⟩ := Kd.R_slice hr
  exact ⟨{ hd with A9 := A, c9 := c }, hb, R_typed a.r3 _ (keep_types a k) (by intro q hq; rw [List.mem_singleton.1 hq]; decide), R_typed a.r5 _ (keep_types a k) (by intro q hq; rw [List.mem_singleton.1 hq]; decide), R_typed a.r6 _ (keep_types a k) (by intro q hq; rw [List.mem_singleton.1 hq]; decide), R_typed a.r7 _ (keep_types a k) (by intro q hq; rw [List.mem_singleton.1 hq]; decide), R_typed a.r8 _ (keep_types a k) (by intro q hq; rw [List.mem_singleton.1 hq]; decide), R_typed hr _ (keep_types a k) (by intro q hq; rw [List.mem_singleton.1 hq]; decide), R_typed a.r10 _ (keep_types a k) (by intro q hq; rw [List.mem_singleton.1 hq]; decide), R_typed a.r11 _ (keep_types a k) (by intro q hq; rw [List.mem_singleton.1 hq]; decide), R_typed a.r13 _ (keep_types a k) (by intro q hq; rw [List.mem_singleton.1 hq]; decide), R_typed a.r14 _ (keep_types a k) (by intro q hq; rw [List.mem_singleton.1 hq]; decide)⟩
theorem Mo.s10 {ok : Nat → Prop} {w w1 : World} {gm : Nat} {m : Mv} {hd : Hd} (a : Mo ok w gm m hd) {v : Value} {x : List S111} (hr : Kd.R k111 111 w 0 ok v x) (hb : w1.heap[gm]? = some (.cells ((cells m hd).setIfInBounds 10 v) 49 (0, 0))) (k : KeepBut w w1 gm none) : MO ok w1 gm { m with f10 := x } := by
  obtain ⟨A, c, rfl⟩ := Kd.R_slice hr
  exact ⟨{ hd with A10 := A, c10 := c }, hb, R_typed a.r3 _ (keep_types a k) (by intro q hq; rw [List.mem_singleton.1 hq]; decide), R_typed a.r5 _ (keep_types a k) (by intro q hq; rw [List.mem_singleton.1 hq]; decide), R_typed a.r6 _ (keep_types a k) (by intro q hq; rw [List.mem_singleton.1 hq]; decide), R_typed a.r7 _ (keep_types a k) (by intro q hq; rw [List.mem_singleton.1 hq]; decide), R_typed a.r8 _ (keep_types a k) (by intro q hq; rw [List.mem_singleton.1 hq]; decide), R_typed a.r9 _ (keep_types a k) (by intro q hq; rw [List.mem_singleton.1 hq]; decide), R_typed hr _ (keep_types a k) (by intro q hq; rw [List.mem_singleton.1 hq]; decide), R_typed a.r11 _ (keep_types a k) (by intro q hq; rw [List.mem_singleton.1 hq]; decide), R_typed a.r13 _ (keep_types a k) (by intro q hq; rw [List.mem_singleton.1 hq]; decide), R_typed a.r14 _ (keep_types a k) (by intro q hq; rw [List.mem_singleton.1 hq]; decide)⟩
theorem Mo.s11 {ok : Nat → Prop} {w w1 : World} {gm : Nat} {m : Mv} {hd : Hd} (a : Mo ok w gm m hd) {v : Value} {x : List ByteArray} (hr : Kd.R Kd.string 9 w 0 ok v x) (hb : w1.heap[gm]? = some (.cells ((cells m hd).setIfInBounds 11 v) 49 (0, 0))) (k : KeepBut w w1 gm none) : MO ok w1 gm { m with f11 := x } := by
  obtain ⟨A, c, rfl⟩ := Kd.R_slice hr
  exact ⟨{ hd with A11 := A, c11 := c }, hb, R_typed a.r3 _ (keep_types a k) (by intro q hq; rw [List.mem_singleton.1 hq]; decide), R_typed a.r5 _ (keep_types a k) (by intro q hq; rw [List.mem_singleton.1 hq]; decide), R_typed a.r6 _ (keep_types a k) (by intro q hq; rw [List.mem_singleton.1 hq]; decide), R_typed a.r7 _ (keep_types a k) (by intro q hq; rw [List.mem_singleton.1 hq]; decide), R_typed a.r8 _ (keep_types a k) (by intro q hq; rw [List.mem_singleton.1 hq]; decide), R_typed a.r9 _ (keep_types a k) (by intro q hq; rw [List.mem_singleton.1 hq]; decide), R_typed a.r10 _ (keep_types a k) (by intro q hq; rw [List.mem_singleton.1 hq]; decide), R_typed hr _ (keep_types a k) (by intro q hq; rw [List.mem_singleton.1 hq]; decide), R_typed a.r13 _ (keep_types a k) (by intro q hq; rw [List.mem_singleton.1 hq]; decide), R_typed a.r14 _ (keep_types a k) (by intro q hq; rw [List.mem_singleton.1 hq]; decide)⟩
theorem Mo.s13 {ok : Nat → Prop} {w w1 : World} {gm : Nat} {m : Mv} {hd : Hd} (a : Mo ok w gm m hd) {v : Value} {x : List Int} (hr : Kd.R (Kd.int .i64) 3 w 0 ok v x) (hb : w1.heap[gm]? = some (.cells ((cells m hd).setIfInBounds 13 v) 49 (0, 0))) (k : KeepBut w w1 gm none) : MO ok w1 gm { m with f13 := x } := by
  obtain ⟨A, c, rfl⟩ := Kd.R_slice hr
  exact ⟨{ hd with A13 := A, c13 := c }, hb, R_typed a.r3 _ (keep_types a k) (by intro q hq; rw [List.mem_singleton.1 hq]; decide), R_typed a.r5 _ (keep_types a k) (by intro q hq; rw [List.mem_singleton.1 hq]; decide), R_typed a.r6 _ (keep_types a k) (by intro q hq; rw [List.mem_singleton.1 hq]; decide), R_typed a.r7 _ (keep_types a k) (by intro q hq; rw [List.mem_singleton.1 hq]; decide), R_typed a.r8 _ (keep_types a k) (by intro q hq; rw [List.mem_singleton.1 hq]; decide), R_typed a.r9 _ (keep_types a k) (by intro q hq; rw [List.mem_singleton.1 hq]; decide), R_typed a.r10 _ (keep_types a k) (by intro q hq; rw [List.mem_singleton.1 hq]; decide), R_typed a.r11 _ (keep_types a k) (by intro q hq; rw [List.mem_singleton.1 hq]; decide), R_typed hr _ (keep_types a k) (by intro q hq; rw [List.mem_singleton.1 hq]; decide), R_typed a.r14 _ (keep_types a k) (by intro q hq; rw [List.mem_singleton.1 hq]; decide)⟩
theorem Mo.s14 {ok : Nat → Prop} {w w1 : World} {gm : Nat} {m : Mv} {hd : Hd} (a : Mo ok w gm m hd) {v : Value} {x : List ByteArray} (hr : Kd.R Kd.string 9 w 0 ok v x) (hb : w1.heap[gm]? = some (.cells ((cells m hd).setIfInBounds 14 v) 49 (0, 0))) (k : KeepBut w w1 gm none) : MO ok w1 gm { m with f14 := x } := by
  obtain ⟨A, c, rfl⟩ := Kd.R_slice hr
  exact ⟨{ hd with A14 := A, c14 := c }, hb, R_typed a.r3 _ (keep_types a k) (by intro q hq; rw [List.mem_singleton.1 hq]; decide), R_typed a.r5 _ (keep_types a k) (by intro q hq; rw [List.mem_singleton.1 hq]; decide), R_typed a.r6 _ (keep_types a k) (by intro q hq; rw [List.mem_singleton.1 hq]; decide), R_typed a.r7 _ (keep_types a k) (by intro q hq; rw [List.mem_singleton.1 hq]; decide), R_typed a.r8 _ (keep_types a k) (by intro q hq; rw [List.mem_singleton.1 hq]; decide), R_typed a.r9 _ (keep_types a k) (by intro q hq; rw [List.mem_singleton.1 hq]; decide), R_typed a.r10 _ (keep_types a k) (by intro q hq; rw [List.mem_singleton.1 hq]; decide), R_typed a.r11 _ (keep_types a k) (by intro q hq; rw [List.mem_singleton.1 hq]; decide), R_typed a.r13 _ (keep_types a k) (by intro q hq; rw [List.mem_singleton.1 hq]; decide), R_typed hr _ (keep_types a k) (by intro q hq; rw [List.mem_singleton.1 hq]; decide)⟩
structure Kg (lo r f g : Nat) (w w' : World) : Prop where
  below : Below lo w w'
  keep : ∀ k o, w.heap[k]? = some o → k ≠ r → k ≠ f → k ≠ g → w'.heap[k]? = some o
theorem Kg.of_kf {lo r f g : Nat} {w w' : World} (k : Kf lo r f w w') : Kg lo r f g w w' := ⟨k.below, fun i o hi hr hf _ => k.keep i o hi hr hf⟩
theorem Kg.trans {lo r f g : Nat} {a b c : World} (h : Kg lo r f g a b) (k : Kg lo r f g b c) : Kg lo r f g a c := ⟨h.below.trans k.below, fun i o hi hr hf hg => k.keep i o (h.keep i o hi hr hf hg) hr hf hg⟩
theorem Kg.of_store {lo r f g : Nat} {w w' : World} (h : Below lo w w') (k : KeepBut w w' g none) : Kg lo r f g w w' := ⟨h, fun i o hi _ _ hg => (k.2 i (blk_lt hi) hg (by simp)).trans hi⟩
theorem Kg.inner {lo r r2 f g : Nat} {w w1 w2 : World} (h : Kg lo r f g w w1) (hn : w.heap.size ≤ r2) (k : Kg lo r2 f g w1 w2) : Kg lo r f g w w2 :=
  ⟨h.below.trans k.below, fun i o hi hr hf hg => k.keep i o (h.keep i o hi hr hf hg) (by have := blk_lt hi; omega) hf hg⟩
theorem RS.store {ok : Nat → Prop} {w w' : World} {r f g : Nat} {R : Rp} {m : Mv} {h : Hd} (a : RS w r f R) (b : Mo ok w g m h) (k : KeepBut w w' g none) : RS w' r f R :=
  ⟨(k.2 r (blk_lt a.rd) (blk_ne a.rd b.box (by decide)) (by simp)).trans a.rd, (k.2 f (blk_lt a.ft) (blk_ne a.ft b.box (by decide)) (by simp)).trans a.ft⟩
theorem sz45' : (Try.prog.info? 45).map (·.size) = some 1 := by kernel_rfl
theorem sz46' : (Try.prog.info? 46).map (·.size) = some 1 := by kernel_rfl
theorem sz47' : (Try.prog.info? 47).map (·.size) = some 1 := by kernel_rfl
theorem Rs.store {ok : Nat → Prop} {w w' : World} {r f g : Nat} {s : ByteArray} {p c : Int} {t l : Bool} {m : Mv} {h : Hd} (a : Rs w r f s p c t l) (b : Mo ok w g m h) (k : KeepBut w w' g none) : Rs w' r f s p c t l :=
  ⟨(k.2 r (blk_lt a.rd) (blk_ne a.rd b.box (by decide)) (by simp)).trans a.rd, (k.2 f (blk_lt a.ft) (blk_ne a.ft b.box (by decide)) (by simp)).trans a.ft⟩
theorem Rs.wsz {W : World} {r f lo : Nat} {s : ByteArray} {p c : Int} {t l : Bool} (h : Rs W r f s p c t l) (hl : lo ≤ f) : lo ≤ W.heap.size := Nat.le_of_lt (Nat.lt_of_le_of_lt hl (blk_lt h.ft))
theorem Rs.sz {W : World} {r f : Nat} {s : ByteArray} {p c : Int} {t l : Bool} (h : Rs W r f s p c t l) : r < W.heap.size ∧ f < W.heap.size := ⟨blk_lt h.rd, blk_lt h.ft⟩
def Rp.pskI (R : Rp) : List S111 := lstV oneIde R 2
def Rp.psk1 (R : Rp) : Rp := lstR oneIde R 2
def Rp.pskB (R : Rp) : List ByteArray := allV oneBin (R.psk1.inR 2)
def Rp.psk2 (R : Rp) : Rp := (R.psk1.outR 2).back (allR oneBin (R.psk1.inR 2))
def Rp.pskR (R : Rp) : Rp := (R.psk2.need (R.psk2.p == (R.psk2.s.size : Int))).allow ((R.pskB.length : Int) == (R.pskI.length : Int))
theorem Rp.Ok.psk1 {R : Rp} (h : R.Ok) : R.psk1.Ok := h.lstR 2
theorem Rp.Ok.psk2 {R : Rp} (h : R.Ok) : R.psk2.Ok := (h.psk1.outR 2).back _
theorem Rp.Ok.pskR {R : Rp} (h : R.Ok) : R.pskR.Ok := (h.psk2.need _).allow _
set_option maxRecDepth 100000 in
set_option maxHeartbeats 8000000 in
theorem psk_c (ok : Nat → Prop) (lo r f gm : Nat) (R : Rp) (m : Mv) (w : World) (hl : lo ≤ f) (hl2 : lo ≤ r) (hg : lo ≤ gm) (h : RS w r f R) (ho : R.Ok) (hm : MO ok w gm m) (hok : ∀ k, w.heap.size ≤ k → ok k) :
    Calls Try.prog 115 #[.pointer (some ⟨r, 0, none⟩), .pointer (some ⟨gm, 0, none⟩)] w fun ex w' => ex = .returned (.tuple #[]) ∧ RS w' r f R.pskR ∧ MO ok w' gm { m with f10 := R.pskI, f11 := R.pskB } ∧ Kg lo r f gm w w' := by
  have H := Aside0.mk h
  have HL := Aside0.mk hl
  have HL2 := Aside0.mk hl2
  have HG := Aside0.mk hg
  have OKK := Aside0.mk hok
  have HO := Aside0.mk ho
  have M := Aside0.mk hm
  have K := Aside0.mk (Kg.of_kf (g := gm) (Kf.refl lo r f w))
  clear h hl hl2 hg ho hm hok
  go_enter Try.func115, Try.ntmps115
  go_wp2_with (first
    | (go_at_call 118; (refine (list_ide oneIdent lo r f R _ 2 2 rfl (by omega) (by omega) HL.out HL2.out H.out HO.out).mono ?_); rintro e1 w1 ⟨v1, rfl, r1, i1, k1⟩; obtain ⟨A1, c1, rfl⟩ := Kd.R_slice r1; have R1 := Aside0.mk (R_fresh r1 OKK.out); have M1 := Aside0.mk (M.out.kf H.out k1); have H1 := Aside0.mk i1; have K1 := Aside0.mk (K.out.trans (Kg.of_kf k1)); clear i1 k1; clear r1)
    | ((with_reducible refine gate_store (p := 8) rfl ?_); obtain ⟨hd_, hm_⟩ := M1.out; refine st (v := .slice A1 (lstV oneIde R 2).length c1) rfl rfl rfl hm_.box sz46' rfl rfl rfl (by rw [cells_size]; omega) ?_; intro w2 h3_ b3_ k3_; have M2 := Aside0.mk (hm_.s10 R1.out h3_ k3_); have H2 := Aside0.mk (H1.out.store hm_ k3_); have K2 := Aside0.mk (K1.out.trans (Kg.of_store (b3_ _ HG.out) k3_)); clear h3_ b3_ k3_ hm_)
    | (go_at_call 66; (with_reducible refine (rwithin_c lo r f R.psk1 _ 2 2 rfl (by omega) (by omega) HL.out HL2.out H2.out HO.out.psk1).mono ?_); rintro e3 w3 ⟨r2, rfl, n1, i1, j1, k1⟩; have HN := Aside0.mk n1; have HP := Aside0.mk i1; have HI := Aside0.mk j1; have M3 := Aside0.mk (M2.out.kf H2.out k1); have KI := Aside0.mk k1; have HL3 := Aside0.mk (show lo ≤ r2 from Nat.le_trans (H2.out.wsz HL.out) n1); have HNE := Aside0.mk (show r ≠ r2 from by have := H2.out.sz; omega); clear n1 i1 j1 k1)
    | (go_at_call 100; (refine (all_str oneBinder lo r2 f (R.psk1.inR 2) _ HL.out HL3.out HI.out (HO.out.psk1.inR 2)).mono ?_); rintro e4 w4 ⟨v4, rfl, r4, i4, k4⟩; obtain ⟨A4, c4, rfl⟩ := Kd.R_slice r4; have R4 := Aside0.mk (R_fresh r4 (fun k hk => OKK.out k (Nat.le_trans K2.out.below.size (Nat.le_trans KI.out.below.size hk)))); have M4 := Aside0.mk (M3.out.kf HI.out k4); have H4 := Aside0.mk (show RS w4 r f R.psk2 from HP.out.back (I := R) HNE.out k4 i4); have K4 := Aside0.mk (K2.out.trans (Kg.of_kf (KI.out.inner HN.out k4))); clear i4 k4 r4)
    | ((with_reducible refine gate_store (p := 14) rfl ?_); obtain ⟨hd_, hm_⟩ := M4.out; refine st (v := .slice A4 (allV oneBin (R.psk1.inR 2)).length c4) rfl rfl rfl hm_.box sz47' rfl rfl rfl (by rw [cells_size]; omega) ?_; intro w5 h3_ b3_ k3_; have M5 := Aside0.mk (hm_.s11 R4.out h3_ k3_); have H5 := Aside0.mk (H4.out.store hm_ k3_); have K5 := Aside0.mk (K4.out.trans (Kg.of_store (b3_ _ HG.out) k3_)); clear h3_ b3_ k3_ hm_))
  obtain ⟨q2, hq2⟩ : ∃ q, R.psk2 = q := ⟨_, rfl⟩
  have HQ := Aside0.mk hq2
  rw [hq2] at H5
  clear hq2
  obtain ⟨sq, pq, cq, tq, lq⟩ := q2
  have HW5 := Aside0.mk (show lo ≤ w5.heap.size from H5.out.wsz HL.out)
  refine start_ (n := 12) (S := fun w' => Below w5.heap.size w5 w') (ds := [11]) #[false, false, false, false, false, false, false, false, false, false, false, false] (by kernel_rfl) rfl rfl (Below.refl w5.heap.size w5).drew (fun hHeld => ?_)
  have HS := Aside0.mk (Below.refl w5.heap.size w5).drew
  generalize w5.drew = w6 at HS hHeld ⊢
  refine pure_ (i := 0) (N := (some 15)) (v := ?_) (a' := ?_) #[true, false, false, false, false, false, false, false, false, false, false, false] rfl rfl (by kernel_rfl) (fun _ _ _ h => h) (Or.inl ⟨by rfl, ?_⟩) ?_ ?_
  rotate_left
  · intro w'
    go_simp
    with_reducible rfl
  rotate_left
  · simp only [Act.put, List.setIfInBounds_toArray, List.set_cons_zero, List.set_cons_succ]
    rfl
  refine pure_ (i := 1) (N := (some 16)) (v := ?_) (a' := ?_) #[true, true, false, false, false, false, false, false, false, false, false, false] rfl rfl (by kernel_rfl) (fun _ _ _ h => h) (Or.inl ⟨by rfl, ?_⟩) ?_ ?_
  rotate_left
  · intro w'
    go_simp
    with_reducible rfl
  rotate_left
  · simp only [Act.put, List.setIfInBounds_toArray, List.set_cons_zero, List.set_cons_succ]
    rfl
  refine pure_ (i := 2) (N := (some 17)) (v := ?_) (a' := ?_) #[true, true, true, false, false, false, false, false, false, false, false, false] rfl rfl (by kernel_rfl) (fun _ _ _ h => h) (Or.inl ⟨by rfl, ?_⟩) ?_ ?_
  rotate_left
  · intro w'
    go_simp
    with_reducible rfl
  rotate_left
  · simp only [Act.put, List.setIfInBounds_toArray, List.set_cons_zero, List.set_cons_succ]
    rfl
  refine pure_ (i := 3) (N := (some 18)) (v := ?_) (a' := ?_) #[true, true, true, true, false, false, false, false, false, false, false, false] rfl rfl (by kernel_rfl) (fun _ _ _ h => h) (Or.inl ⟨by rfl, ?_⟩) ?_ ?_
  rotate_left
  · intro w'
    go_simp
    with_reducible rfl
  rotate_left
  · simp only [Act.put, List.setIfInBounds_toArray, List.set_cons_zero, List.set_cons_succ]
    rfl
  refine take_ (i := 4) (N := (some 19)) (v := ?_) (a' := ?_) #[true, true, true, true, true, false, false, false, false, false, false, false] rfl rfl (by kernel_rfl) (fun _ _ _ h => h) (Or.inl ⟨by rfl, ?_⟩) hHeld ?_ ?_
  rotate_left
  · rintro w' hS
    have hc := rcell H5.out.rd hS
    obtain ⟨hc1, hc2, hc3⟩ := hc
    go_simp
    with_reducible rfl
  rotate_left
  · simp only [Act.put, List.setIfInBounds_toArray, List.set_cons_zero, List.set_cons_succ]
    rfl
  refine pure_ (i := 5) (N := (some 20)) (v := ?_) (a' := ?_) #[true, true, true, true, true, true, false, false, false, false, false, false] rfl rfl (by kernel_rfl) (fun _ _ _ h => h) (Or.inl ⟨by rfl, ?_⟩) ?_ ?_
  rotate_left
  · intro w'
    go_simp
    with_reducible rfl
  rotate_left
  · simp only [Act.put, List.setIfInBounds_toArray, List.set_cons_zero, List.set_cons_succ]
    rfl
  refine pure_ (i := 6) (N := (some 21)) (v := ?_) (a' := ?_) #[true, true, true, true, true, true, true, false, false, false, false, false] rfl rfl (by kernel_rfl) (fun _ _ _ h => h) (Or.inl ⟨by rfl, ?_⟩) ?_ ?_
  rotate_left
  · intro w'
    go_simp
    with_reducible rfl
  rotate_left
  · simp only [Act.put, List.setIfInBounds_toArray, List.set_cons_zero, List.set_cons_succ]
    rfl
  refine pure_ (i := 7) (N := (some 22)) (v := ?_) (a' := ?_) #[true, true, true, true, true, true, true, true, false, false, false, false] rfl rfl (by kernel_rfl) (fun _ _ _ h => h) (Or.inl ⟨by rfl, ?_⟩) ?_ ?_
  rotate_left
  · intro w'
    go_simp
    with_reducible rfl
  rotate_left
  · simp only [Act.put, List.setIfInBounds_toArray, List.set_cons_zero, List.set_cons_succ]
    rfl
  refine take_ (i := 8) (N := (some 23)) (v := ?_) (a' := ?_) #[true, true, true, true, true, true, true, true, true, false, false, false] rfl rfl (by kernel_rfl) (fun _ _ _ h => h) (Or.inl ⟨by rfl, ?_⟩) hHeld ?_ ?_
  rotate_left
  · rintro w' hS
    have hc := rcell H5.out.rd hS
    obtain ⟨hc1, hc2, hc3⟩ := hc
    go_simp
    with_reducible rfl
  rotate_left
  · simp only [Act.put, List.setIfInBounds_toArray, List.set_cons_zero, List.set_cons_succ]
    rfl
  refine pure_ (i := 9) (N := (some 24)) (v := ?_) (a' := ?_) #[true, true, true, true, true, true, true, true, true, true, false, false] rfl rfl (by kernel_rfl) (fun _ _ _ h => h) (Or.inl ⟨by rfl, ?_⟩) ?_ ?_
  rotate_left
  · intro w'
    go_simp
    with_reducible rfl
  rotate_left
  · simp only [Act.put, List.setIfInBounds_toArray, List.set_cons_zero, List.set_cons_succ]
    rfl
  refine pure_ (i := 10) (N := (some 25)) (v := ?_) (a' := ?_) #[true, true, true, true, true, true, true, true, true, true, true, false] rfl rfl (by kernel_rfl) (fun _ _ _ h => h) (Or.inl ⟨by rfl, ?_⟩) ?_ ?_
  rotate_left
  · intro w'
    go_simp
    with_reducible rfl
  rotate_left
  · simp only [Act.put, List.setIfInBounds_toArray, List.set_cons_zero, List.set_cons_succ]
    rfl
  refine last_ (i := 11) (N := (some 26)) #[true, true, true, true, true, true, true, true, true, true, true, true] rfl rfl (by kernel_rfl) (by decide) (fun K hK => ?_)
  refine goes_ (f := 72) Try.func72 (by kernel_rfl) rfl #[.pointer (some ⟨r, 0, none⟩), .bool (pq == (sq.size : Int))] (by rfl) rfl rfl (by (try simp only [List.map_toArray, List.map_cons, List.map_nil]); first | done | rfl) ?_
  refine (rneed_c lo r f ⟨sq, pq, cq, tq, lq⟩ _ (pq == (sq.size : Int)) HL.out (H5.out.below HS.out)).mono ?_
  rintro e w8 ⟨rfl, i8, k8⟩
  refine ⟨_, rfl, ?_⟩
  have M8 := Aside0.mk ((M5.out.below HS.out).kf (H5.out.below HS.out) k8)
  have H8 := Aside0.mk i8
  have K8 := Aside0.mk (K5.out.trans (Kg.of_kf ((Kf.of_below (r := r) (f := f) HW5.out HS.out).trans k8)))
  clear i8 k8
  refine hK.out _ _ ?_
  clear hK K
  refine norm_ (a' := ?_) ?_ ?_
  rotate_left
  · show Act.put _ (some 26) _ = _
    simp only [Act.put, List.setIfInBounds_toArray, List.set_cons_zero, List.set_cons_succ]
    rfl
  refine done_ (by kernel_rfl) ?_
  go_wp2
  obtain ⟨hd8, hm8⟩ := M8.out
  have HM8 := Aside0.mk hm8
  clear hm8
  have HW8 := Aside0.mk (show lo ≤ w8.heap.size from H8.out.wsz HL.out)
  refine start_ (n := 13) (S := fun w' => Below w8.heap.size w8 w') (ds := [12]) #[false, false, false, false, false, false, false, false, false, false, false, false, false] (by kernel_rfl) rfl rfl (Below.refl w8.heap.size w8).drew (fun hHeld => ?_)
  have HS9 := Aside0.mk (Below.refl w8.heap.size w8).drew
  generalize w8.drew = w9 at HS9 hHeld ⊢
  refine pure_ (i := 0) (N := (some 27)) (v := ?_) (a' := ?_) #[true, false, false, false, false, false, false, false, false, false, false, false, false] rfl rfl (by kernel_rfl) (fun _ _ _ h => h) (Or.inl ⟨by rfl, ?_⟩) ?_ ?_
  rotate_left
  · intro w'
    go_simp
    with_reducible rfl
  rotate_left
  · simp only [Act.put, List.setIfInBounds_toArray, List.set_cons_zero, List.set_cons_succ]
    rfl
  refine pure_ (i := 1) (N := (some 28)) (v := ?_) (a' := ?_) #[true, true, false, false, false, false, false, false, false, false, false, false, false] rfl rfl (by kernel_rfl) (fun _ _ _ h => h) (Or.inl ⟨by rfl, ?_⟩) ?_ ?_
  rotate_left
  · intro w'
    go_simp
    with_reducible rfl
  rotate_left
  · simp only [Act.put, List.setIfInBounds_toArray, List.set_cons_zero, List.set_cons_succ]
    rfl
  refine pure_ (i := 2) (N := (some 29)) (v := ?_) (a' := ?_) #[true, true, true, false, false, false, false, false, false, false, false, false, false] rfl rfl (by kernel_rfl) (fun _ _ _ h => h) (Or.inl ⟨by rfl, ?_⟩) ?_ ?_
  rotate_left
  · intro w'
    go_simp
    with_reducible rfl
  rotate_left
  · simp only [Act.put, List.setIfInBounds_toArray, List.set_cons_zero, List.set_cons_succ]
    rfl
  refine pure_ (i := 3) (N := (some 30)) (v := ?_) (a' := ?_) #[true, true, true, true, false, false, false, false, false, false, false, false, false] rfl rfl (by kernel_rfl) (fun _ _ _ h => h) (Or.inl ⟨by rfl, ?_⟩) ?_ ?_
  rotate_left
  · intro w'
    go_simp
    with_reducible rfl
  rotate_left
  · simp only [Act.put, List.setIfInBounds_toArray, List.set_cons_zero, List.set_cons_succ]
    rfl
  refine take_ (i := 4) (N := (some 31)) (v := ?_) (a' := ?_) #[true, true, true, true, true, false, false, false, false, false, false, false, false] rfl rfl (by kernel_rfl) (fun _ _ _ h => h) (Or.inl ⟨by rfl, ?_⟩) hHeld ?_ ?_
  rotate_left
  · rintro w' hS
    have hc : w'.cell? ⟨gm, 11, none⟩ = some (.slice hd8.A11 (R.pskB).length hd8.c11) := (blk_cell ((hS.block gm (blk_lt HM8.out.box)).trans HM8.out.box) 11).trans rfl
    go_simp
    with_reducible rfl
  rotate_left
  · simp only [Act.put, List.setIfInBounds_toArray, List.set_cons_zero, List.set_cons_succ]
    rfl
  refine pure_ (i := 5) (N := (some 32)) (v := ?_) (a' := ?_) #[true, true, true, true, true, true, false, false, false, false, false, false, false] rfl rfl (by kernel_rfl) (fun _ _ _ h => h) (Or.inl ⟨by rfl, ?_⟩) ?_ ?_
  rotate_left
  · intro w'
    go_simp
    with_reducible rfl
  rotate_left
  · simp only [Act.put, List.setIfInBounds_toArray, List.set_cons_zero, List.set_cons_succ]
    rfl
  refine pure_ (i := 6) (N := (some 33)) (v := ?_) (a' := ?_) #[true, true, true, true, true, true, true, false, false, false, false, false, false] rfl rfl (by kernel_rfl) (fun _ _ _ h => h) (Or.inl ⟨by rfl, ?_⟩) ?_ ?_
  rotate_left
  · intro w'
    go_simp
    with_reducible rfl
  rotate_left
  · simp only [Act.put, List.setIfInBounds_toArray, List.set_cons_zero, List.set_cons_succ]
    rfl
  refine pure_ (i := 7) (N := (some 34)) (v := ?_) (a' := ?_) #[true, true, true, true, true, true, true, true, false, false, false, false, false] rfl rfl (by kernel_rfl) (fun _ _ _ h => h) (Or.inl ⟨by rfl, ?_⟩) ?_ ?_
  rotate_left
  · intro w'
    go_simp
    with_reducible rfl
  rotate_left
  · simp only [Act.put, List.setIfInBounds_toArray, List.set_cons_zero, List.set_cons_succ]
    rfl
  refine pure_ (i := 8) (N := (some 35)) (v := ?_) (a' := ?_) #[true, true, true, true, true, true, true, true, true, false, false, false, false] rfl rfl (by kernel_rfl) (fun _ _ _ h => h) (Or.inl ⟨by rfl, ?_⟩) ?_ ?_
  rotate_left
  · intro w'
    go_simp
    with_reducible rfl
  rotate_left
  · simp only [Act.put, List.setIfInBounds_toArray, List.set_cons_zero, List.set_cons_succ]
    rfl
  refine take_ (i := 9) (N := (some 36)) (v := ?_) (a' := ?_) #[true, true, true, true, true, true, true, true, true, true, false, false, false] rfl rfl (by kernel_rfl) (fun _ _ _ h => h) (Or.inl ⟨by rfl, ?_⟩) hHeld ?_ ?_
  rotate_left
  · rintro w' hS
    have hc : w'.cell? ⟨gm, 10, none⟩ = some (.slice hd8.A10 (R.pskI).length hd8.c10) := (blk_cell ((hS.block gm (blk_lt HM8.out.box)).trans HM8.out.box) 10).trans rfl
    go_simp
    with_reducible rfl
  rotate_left
  · simp only [Act.put, List.setIfInBounds_toArray, List.set_cons_zero, List.set_cons_succ]
    rfl
  refine pure_ (i := 10) (N := (some 37)) (v := ?_) (a' := ?_) #[true, true, true, true, true, true, true, true, true, true, true, false, false] rfl rfl (by kernel_rfl) (fun _ _ _ h => h) (Or.inl ⟨by rfl, ?_⟩) ?_ ?_
  rotate_left
  · intro w'
    go_simp
    with_reducible rfl
  rotate_left
  · simp only [Act.put, List.setIfInBounds_toArray, List.set_cons_zero, List.set_cons_succ]
    rfl
  refine pure_ (i := 11) (N := (some 38)) (v := ?_) (a' := ?_) #[true, true, true, true, true, true, true, true, true, true, true, true, false] rfl rfl (by kernel_rfl) (fun _ _ _ h => h) (Or.inl ⟨by rfl, ?_⟩) ?_ ?_
  rotate_left
  · intro w'
    go_simp
    with_reducible rfl
  rotate_left
  · simp only [Act.put, List.setIfInBounds_toArray, List.set_cons_zero, List.set_cons_succ]
    rfl
  refine last_ (i := 12) (N := (some 39)) #[true, true, true, true, true, true, true, true, true, true, true, true, true] rfl rfl (by kernel_rfl) (by decide) (fun K hK => ?_)
  refine goes_ (f := 76) Try.func76 (by kernel_rfl) rfl #[.pointer (some ⟨r, 0, none⟩), .bool ((R.pskB.length : Int) == (R.pskI.length : Int))] (by rfl) rfl rfl (by (try simp only [List.map_toArray, List.map_cons, List.map_nil]); first | done | rfl) ?_
  refine (allow_c lo r f ((⟨sq, pq, cq, tq, lq⟩ : Rp).need (pq == (sq.size : Int))) _ ((R.pskB.length : Int) == (R.pskI.length : Int)) HL.out (H8.out.below HS9.out)).mono ?_
  rintro e w10 ⟨rfl, i8, k8⟩
  refine ⟨_, rfl, ?_⟩
  have M10 := Aside0.mk ((M8.out.below HS9.out).kf (H8.out.below HS9.out) k8)
  have H10 := Aside0.mk i8
  have K10 := Aside0.mk (K8.out.trans (Kg.of_kf ((Kf.of_below (r := r) (f := f) HW8.out HS9.out).trans k8)))
  clear i8 k8
  refine hK.out _ _ ?_
  clear hK K
  refine norm_ (a' := ?_) ?_ ?_
  rotate_left
  · show Act.put _ (some 39) _ = _
    simp only [Act.put, List.setIfInBounds_toArray, List.set_cons_zero, List.set_cons_succ]
    rfl
  refine done_ (by kernel_rfl) ?_
  go_wp2
  first | go_end0 | ((try simp only [Exit.inBlock, Exit.then]); refine bodyPost_ret (results_none rfl _ _ _) rfl ?_)
  refine ⟨rfl, ?_, M10.out, K10.out⟩
  unfold Rp.pskR
  rw [HQ.out]
  exact H10.out
def cli (k : Int) (m : Mv) (B : Rp) : Bool × Mv × Rp :=
  if k = 0 then (true, { m with f4 := B.namV }, B.namR)
  else if k = 10 then (true, { m with f6 := lstV (oneNum 2) B 2 }, lstR (oneNum 2) B 2)
  else if k = 13 then (true, { m with f7 := lstV (oneNum 2) B 2 }, lstR (oneNum 2) B 2)
  else if k = 43 then (true, { m with f5 := lstV (oneNum 2) B 1 }, lstR (oneNum 2) B 1)
  else if k = 45 then (true, { m with f8 := lstV (oneNum 1) B 1 }, lstR (oneNum 1) B 1)
  else if k = 51 then (true, { m with f9 := lstV oneSha B 2 }, lstR oneSha B 2)
  else if k = 41 then (true, { m with f10 := B.pskI, f11 := B.pskB }, B.pskR)
  else (false, m, B)
set_option maxRecDepth 100000 in
set_option maxHeartbeats 8000000 in
theorem cli0 (ok : Nat → Prop) (lo r f gm : Nat) (B : Rp) (m : Mv) (w : World) (hl : lo ≤ f) (hl2 : lo ≤ r) (hg : lo ≤ gm) (h : RS w r f B) (ho : B.Ok) (hm : MO ok w gm m) (hok : ∀ k, w.heap.size ≤ k → ok k) :
    Calls Try.prog 96 #[.pointer (some ⟨gm, 0, none⟩), .int .i64 0, .pointer (some ⟨r, 0, none⟩)] w fun ex w' => ex = .returned (.bool true) ∧ RS w' r f B.namR ∧ MO ok w' gm { m with f4 := B.namV } ∧ Kg lo r f gm w w' := by
  have H := Aside0.mk h
  have HL := Aside0.mk hl
  have HL2 := Aside0.mk hl2
  have HG := Aside0.mk hg
  have OKK := Aside0.mk hok
  have HO := Aside0.mk ho
  have M := Aside0.mk hm
  have K := Aside0.mk (Kg.of_kf (g := gm) (Kf.refl lo r f w))
  clear h hl hl2 hg ho hm hok
  go_enter Try.func96, Try.ntmps96
  go_wp2_with (first
    | (go_at_call 112; (with_reducible refine (name_c lo r f B _ HL.out HL2.out H.out HO.out).mono ?_); rintro e1 w1 ⟨rfl, i1, k1⟩; have M1 := Aside0.mk (M.out.kf H.out k1); have H1 := Aside0.mk i1; have K1 := Aside0.mk (K.out.trans (Kg.of_kf k1)); clear i1 k1)
    | ((with_reducible refine gate_store (p := 14) rfl ?_); obtain ⟨hd_, hm_⟩ := M1.out; refine st (v := .string B.namV) rfl rfl rfl hm_.box sz9 rfl rfl rfl (by rw [cells_size]; omega) ?_; intro w2 h3_ b3_ k3_; have M2 := Aside0.mk (hm_.s4 _ h3_ k3_); have H2 := Aside0.mk (H1.out.store hm_ k3_); have K2 := Aside0.mk (K1.out.trans (Kg.of_store (b3_ _ HG.out) k3_)); clear h3_ b3_ k3_ hm_))
  go_ret
  exact ⟨rfl, H2.out, M2.out, K2.out⟩
set_option maxRecDepth 100000 in
set_option maxHeartbeats 8000000 in
theorem cli10 (ok : Nat → Prop) (lo r f gm : Nat) (B : Rp) (m : Mv) (w : World) (hl : lo ≤ f) (hl2 : lo ≤ r) (hg : lo ≤ gm) (h : RS w r f B) (ho : B.Ok) (hm : MO ok w gm m) (hok : ∀ k, w.heap.size ≤ k → ok k) :
    Calls Try.prog 96 #[.pointer (some ⟨gm, 0, none⟩), .int .i64 10, .pointer (some ⟨r, 0, none⟩)] w fun ex w' => ex = .returned (.bool true) ∧ RS w' r f (lstR (oneNum 2) B 2) ∧ MO ok w' gm { m with f6 := lstV (oneNum 2) B 2 } ∧ Kg lo r f gm w w' := by
  have H := Aside0.mk h
  have HL := Aside0.mk hl
  have HL2 := Aside0.mk hl2
  have HG := Aside0.mk hg
  have OKK := Aside0.mk hok
  have HO := Aside0.mk ho
  have M := Aside0.mk hm
  have K := Aside0.mk (Kg.of_kf (g := gm) (Kf.refl lo r f w))
  clear h hl hl2 hg ho hm hok
  go_enter Try.func96, Try.ntmps96
  go_wp2_with (first
    | (go_at_call 94; (refine (list_int oneU16 lo r f B _ 2 2 rfl (by omega) (by omega) HL.out HL2.out H.out HO.out).mono ?_); rintro e1 w1 ⟨v1, rfl, r1, i1, k1⟩; obtain ⟨A1, c1, rfl⟩ := Kd.R_slice r1; have R1 := Aside0.mk (R_fresh r1 OKK.out); have M1 := Aside0.mk (M.out.kf H.out k1); have H1 := Aside0.mk i1; have K1 := Aside0.mk (K.out.trans (Kg.of_kf k1)); clear i1 k1; clear r1)
    | ((with_reducible refine gate_store (p := 21) rfl ?_); obtain ⟨hd_, hm_⟩ := M1.out; refine st (v := .slice A1 (lstV (oneNum 2) B 2).length c1) rfl rfl rfl hm_.box sz44 rfl rfl rfl (by rw [cells_size]; omega) ?_; intro w2 h3_ b3_ k3_; have M2 := Aside0.mk (hm_.s6 R1.out h3_ k3_); have H2 := Aside0.mk (H1.out.store hm_ k3_); have K2 := Aside0.mk (K1.out.trans (Kg.of_store (b3_ _ HG.out) k3_)); clear h3_ b3_ k3_ hm_))
  go_ret
  exact ⟨rfl, H2.out, M2.out, K2.out⟩
set_option maxRecDepth 100000 in
set_option maxHeartbeats 8000000 in
theorem cli13 (ok : Nat → Prop) (lo r f gm : Nat) (B : Rp) (m : Mv) (w : World) (hl : lo ≤ f) (hl2 : lo ≤ r) (hg : lo ≤ gm) (h : RS w r f B) (ho : B.Ok) (hm : MO ok w gm m) (hok : ∀ k, w.heap.size ≤ k → ok k) :
    Calls Try.prog 96 #[.pointer (some ⟨gm, 0, none⟩), .int .i64 13, .pointer (some ⟨r, 0, none⟩)] w fun ex w' => ex = .returned (.bool true) ∧ RS w' r f (lstR (oneNum 2) B 2) ∧ MO ok w' gm { m with f7 := lstV (oneNum 2) B 2 } ∧ Kg lo r f gm w w' := by
  have H := Aside0.mk h
  have HL := Aside0.mk hl
  have HL2 := Aside0.mk hl2
  have HG := Aside0.mk hg
  have OKK := Aside0.mk hok
  have HO := Aside0.mk ho
  have M := Aside0.mk hm
  have K := Aside0.mk (Kg.of_kf (g := gm) (Kf.refl lo r f w))
  clear h hl hl2 hg ho hm hok
  go_enter Try.func96, Try.ntmps96
  go_wp2_with (first
    | (go_at_call 94; (refine (list_int oneU16 lo r f B _ 2 2 rfl (by omega) (by omega) HL.out HL2.out H.out HO.out).mono ?_); rintro e1 w1 ⟨v1, rfl, r1, i1, k1⟩; obtain ⟨A1, c1, rfl⟩ := Kd.R_slice r1; have R1 := Aside0.mk (R_fresh r1 OKK.out); have M1 := Aside0.mk (M.out.kf H.out k1); have H1 := Aside0.mk i1; have K1 := Aside0.mk (K.out.trans (Kg.of_kf k1)); clear i1 k1; clear r1)
    | ((with_reducible refine gate_store (p := 28) rfl ?_); obtain ⟨hd_, hm_⟩ := M1.out; refine st (v := .slice A1 (lstV (oneNum 2) B 2).length c1) rfl rfl rfl hm_.box sz44 rfl rfl rfl (by rw [cells_size]; omega) ?_; intro w2 h3_ b3_ k3_; have M2 := Aside0.mk (hm_.s7 R1.out h3_ k3_); have H2 := Aside0.mk (H1.out.store hm_ k3_); have K2 := Aside0.mk (K1.out.trans (Kg.of_store (b3_ _ HG.out) k3_)); clear h3_ b3_ k3_ hm_))
  go_ret
  exact ⟨rfl, H2.out, M2.out, K2.out⟩
set_option maxRecDepth 100000 in
set_option maxHeartbeats 8000000 in
theorem cli43 (ok : Nat → Prop) (lo r f gm : Nat) (B : Rp) (m : Mv) (w : World) (hl : lo ≤ f) (hl2 : lo ≤ r) (hg : lo ≤ gm) (h : RS w r f B) (ho : B.Ok) (hm : MO ok w gm m) (hok : ∀ k, w.heap.size ≤ k → ok k) :
    Calls Try.prog 96 #[.pointer (some ⟨gm, 0, none⟩), .int .i64 43, .pointer (some ⟨r, 0, none⟩)] w fun ex w' => ex = .returned (.bool true) ∧ RS w' r f (lstR (oneNum 2) B 1) ∧ MO ok w' gm { m with f5 := lstV (oneNum 2) B 1 } ∧ Kg lo r f gm w w' := by
  have H := Aside0.mk h
  have HL := Aside0.mk hl
  have HL2 := Aside0.mk hl2
  have HG := Aside0.mk hg
  have OKK := Aside0.mk hok
  have HO := Aside0.mk ho
  have M := Aside0.mk hm
  have K := Aside0.mk (Kg.of_kf (g := gm) (Kf.refl lo r f w))
  clear h hl hl2 hg ho hm hok
  go_enter Try.func96, Try.ntmps96
  go_wp2_with (first
    | (go_at_call 94; (refine (list_int oneU16 lo r f B _ 1 1 rfl (by omega) (by omega) HL.out HL2.out H.out HO.out).mono ?_); rintro e1 w1 ⟨v1, rfl, r1, i1, k1⟩; obtain ⟨A1, c1, rfl⟩ := Kd.R_slice r1; have R1 := Aside0.mk (R_fresh r1 OKK.out); have M1 := Aside0.mk (M.out.kf H.out k1); have H1 := Aside0.mk i1; have K1 := Aside0.mk (K.out.trans (Kg.of_kf k1)); clear i1 k1; clear r1)
    | ((with_reducible refine gate_store (p := 35) rfl ?_); obtain ⟨hd_, hm_⟩ := M1.out; refine st (v := .slice A1 (lstV (oneNum 2) B 1).length c1) rfl rfl rfl hm_.box sz44 rfl rfl rfl (by rw [cells_size]; omega) ?_; intro w2 h3_ b3_ k3_; have M2 := Aside0.mk (hm_.s5 R1.out h3_ k3_); have H2 := Aside0.mk (H1.out.store hm_ k3_); have K2 := Aside0.mk (K1.out.trans (Kg.of_store (b3_ _ HG.out) k3_)); clear h3_ b3_ k3_ hm_))
  go_ret
  exact ⟨rfl, H2.out, M2.out, K2.out⟩
set_option maxRecDepth 100000 in
set_option maxHeartbeats 8000000 in
theorem cli45 (ok : Nat → Prop) (lo r f gm : Nat) (B : Rp) (m : Mv) (w : World) (hl : lo ≤ f) (hl2 : lo ≤ r) (hg : lo ≤ gm) (h : RS w r f B) (ho : B.Ok) (hm : MO ok w gm m) (hok : ∀ k, w.heap.size ≤ k → ok k) :
    Calls Try.prog 96 #[.pointer (some ⟨gm, 0, none⟩), .int .i64 45, .pointer (some ⟨r, 0, none⟩)] w fun ex w' => ex = .returned (.bool true) ∧ RS w' r f (lstR (oneNum 1) B 1) ∧ MO ok w' gm { m with f8 := lstV (oneNum 1) B 1 } ∧ Kg lo r f gm w w' := by
  have H := Aside0.mk h
  have HL := Aside0.mk hl
  have HL2 := Aside0.mk hl2
  have HG := Aside0.mk hg
  have OKK := Aside0.mk hok
  have HO := Aside0.mk ho
  have M := Aside0.mk hm
  have K := Aside0.mk (Kg.of_kf (g := gm) (Kf.refl lo r f w))
  clear h hl hl2 hg ho hm hok
  go_enter Try.func96, Try.ntmps96
  go_wp2_with (first
    | (go_at_call 94; (refine (list_int oneU8 lo r f B _ 1 1 rfl (by omega) (by omega) HL.out HL2.out H.out HO.out).mono ?_); rintro e1 w1 ⟨v1, rfl, r1, i1, k1⟩; obtain ⟨A1, c1, rfl⟩ := Kd.R_slice r1; have R1 := Aside0.mk (R_fresh r1 OKK.out); have M1 := Aside0.mk (M.out.kf H.out k1); have H1 := Aside0.mk i1; have K1 := Aside0.mk (K.out.trans (Kg.of_kf k1)); clear i1 k1; clear r1)
    | ((with_reducible refine gate_store (p := 42) rfl ?_); obtain ⟨hd_, hm_⟩ := M1.out; refine st (v := .slice A1 (lstV (oneNum 1) B 1).length c1) rfl rfl rfl hm_.box sz44 rfl rfl rfl (by rw [cells_size]; omega) ?_; intro w2 h3_ b3_ k3_; have M2 := Aside0.mk (hm_.s8 R1.out h3_ k3_); have H2 := Aside0.mk (H1.out.store hm_ k3_); have K2 := Aside0.mk (K1.out.trans (Kg.of_store (b3_ _ HG.out) k3_)); clear h3_ b3_ k3_ hm_))
  go_ret
  exact ⟨rfl, H2.out, M2.out, K2.out⟩
set_option maxRecDepth 100000 in
set_option maxHeartbeats 8000000 in
theorem cli51 (ok : Nat → Prop) (lo r f gm : Nat) (B : Rp) (m : Mv) (w : World) (hl : lo ≤ f) (hl2 : lo ≤ r) (hg : lo ≤ gm) (h : RS w r f B) (ho : B.Ok) (hm : MO ok w gm m) (hok : ∀ k, w.heap.size ≤ k → ok k) :
    Calls Try.prog 96 #[.pointer (some ⟨gm, 0, none⟩), .int .i64 51, .pointer (some ⟨r, 0, none⟩)] w fun ex w' => ex = .returned (.bool true) ∧ RS w' r f (lstR oneSha B 2) ∧ MO ok w' gm { m with f9 := lstV oneSha B 2 } ∧ Kg lo r f gm w w' := by
  have H := Aside0.mk h
  have HL := Aside0.mk hl
  have HL2 := Aside0.mk hl2
  have HG := Aside0.mk hg
  have OKK := Aside0.mk hok
  have HO := Aside0.mk ho
  have M := Aside0.mk hm
  have K := Aside0.mk (Kg.of_kf (g := gm) (Kf.refl lo r f w))
  clear h hl hl2 hg ho hm hok
  go_enter Try.func96, Try.ntmps96
  go_wp2_with (first
    | (go_at_call 113; (refine (list_sha oneShare lo r f B _ 2 2 rfl (by omega) (by omega) HL.out HL2.out H.out HO.out).mono ?_); rintro e1 w1 ⟨v1, rfl, r1, i1, k1⟩; obtain ⟨A1, c1, rfl⟩ := Kd.R_slice r1; have R1 := Aside0.mk (R_fresh r1 OKK.out); have M1 := Aside0.mk (M.out.kf H.out k1); have H1 := Aside0.mk i1; have K1 := Aside0.mk (K.out.trans (Kg.of_kf k1)); clear i1 k1; clear r1)
    | ((with_reducible refine gate_store (p := 49) rfl ?_); obtain ⟨hd_, hm_⟩ := M1.out; refine st (v := .slice A1 (lstV oneSha B 2).length c1) rfl rfl rfl hm_.box sz45' rfl rfl rfl (by rw [cells_size]; omega) ?_; intro w2 h3_ b3_ k3_; have M2 := Aside0.mk (hm_.s9 R1.out h3_ k3_); have H2 := Aside0.mk (H1.out.store hm_ k3_); have K2 := Aside0.mk (K1.out.trans (Kg.of_store (b3_ _ HG.out) k3_)); clear h3_ b3_ k3_ hm_))
  go_ret
  exact ⟨rfl, H2.out, M2.out, K2.out⟩
set_option maxRecDepth 100000 in
set_option maxHeartbeats 8000000 in
theorem cli41 (ok : Nat → Prop) (lo r f gm : Nat) (B : Rp) (m : Mv) (w : World) (hl : lo ≤ f) (hl2 : lo ≤ r) (hg : lo ≤ gm) (h : RS w r f B) (ho : B.Ok) (hm : MO ok w gm m) (hok : ∀ k, w.heap.size ≤ k → ok k) :
    Calls Try.prog 96 #[.pointer (some ⟨gm, 0, none⟩), .int .i64 41, .pointer (some ⟨r, 0, none⟩)] w fun ex w' => ex = .returned (.bool true) ∧ RS w' r f B.pskR ∧ MO ok w' gm { m with f10 := B.pskI, f11 := B.pskB } ∧ Kg lo r f gm w w' := by
  have H := Aside0.mk h
  have HL := Aside0.mk hl
  have HL2 := Aside0.mk hl2
  have HG := Aside0.mk hg
  have OKK := Aside0.mk hok
  have HO := Aside0.mk ho
  have M := Aside0.mk hm
  have K := Aside0.mk (Kg.of_kf (g := gm) (Kf.refl lo r f w))
  clear h hl hl2 hg ho hm hok
  go_enter Try.func96, Try.ntmps96
  go_wp2_with (first
    | (go_at_call 115; (with_reducible refine (psk_c ok lo r f gm B m _ HL.out HL2.out HG.out H.out HO.out M.out OKK.out).mono ?_); rintro e1 w1 ⟨rfl, i1, m1, k1⟩; have M1 := Aside0.mk m1; have H1 := Aside0.mk i1; have K1 := Aside0.mk k1; clear i1 m1 k1))
  go_ret
  exact ⟨rfl, H1.out, M1.out, K1.out⟩
set_option maxRecDepth 100000 in
set_option maxHeartbeats 8000000 in
theorem cliNo (ok : Nat → Prop) (lo r f gm : Nat) (B : Rp) (m : Mv) (w : World) (k : Int) (n0 : (k == 0) = false) (n10 : (k == 10) = false) (n13 : (k == 13) = false) (n43 : (k == 43) = false) (n45 : (k == 45) = false) (n51 : (k == 51) = false) (n41 : (k == 41) = false) (hl : lo ≤ f) (hl2 : lo ≤ r) (hg : lo ≤ gm) (h : RS w r f B) (ho : B.Ok) (hm : MO ok w gm m) (hok : ∀ k, w.heap.size ≤ k → ok k) :
    Calls Try.prog 96 #[.pointer (some ⟨gm, 0, none⟩), .int .i64 k, .pointer (some ⟨r, 0, none⟩)] w fun ex w' => ex = .returned (.bool false) ∧ RS w' r f B ∧ MO ok w' gm m ∧ Kg lo r f gm w w' := by
  have H := Aside0.mk h
  have HL := Aside0.mk hl
  have HL2 := Aside0.mk hl2
  have HG := Aside0.mk hg
  have OKK := Aside0.mk hok
  have HO := Aside0.mk ho
  have M := Aside0.mk hm
  have K := Aside0.mk (Kg.of_kf (g := gm) (Kf.refl lo r f w))
  clear h hl hl2 hg ho hm hok
  go_enter Try.func96, Try.ntmps96
  go_wp2
  go_ret
  exact ⟨rfl, H.out, M.out, K.out⟩
theorem cli_c (ok : Nat → Prop) (lo r f gm : Nat) (B : Rp) (m : Mv) (w : World) (k : Int) (hl : lo ≤ f) (hl2 : lo ≤ r) (hg : lo ≤ gm) (h : RS w r f B) (ho : B.Ok) (hm : MO ok w gm m) (hok : ∀ k, w.heap.size ≤ k → ok k) :
    Calls Try.prog 96 #[.pointer (some ⟨gm, 0, none⟩), .int .i64 k, .pointer (some ⟨r, 0, none⟩)] w fun ex w' => ex = .returned (.bool (cli k m B).1) ∧ RS w' r f (cli k m B).2.2 ∧ MO ok w' gm (cli k m B).2.1 ∧ Kg lo r f gm w w' := by
  unfold cli
  by_cases e0 : k = 0
  · subst e0
    exact cli0 ok lo r f gm B m w hl hl2 hg h ho hm hok
  rw [if_neg e0]
  by_cases e10 : k = 10
  · subst e10
    exact cli10 ok lo r f gm B m w hl hl2 hg h ho hm hok
  rw [if_neg e10]
  by_cases e13 : k = 13
  · subst e13
    exact cli13 ok lo r f gm B m w hl hl2 hg h ho hm hok
  rw [if_neg e13]
  by_cases e43 : k = 43
  · subst e43
    exact cli43 ok lo r f gm B m w hl hl2 hg h ho hm hok
  rw [if_neg e43]
  by_cases e45 : k = 45
  · subst e45
    exact cli45 ok lo r f gm B m w hl hl2 hg h ho hm hok
  rw [if_neg e45]
  by_cases e51 : k = 51
  · subst e51
    exact cli51 ok lo r f gm B m w hl hl2 hg h ho hm hok
  rw [if_neg e51]
  by_cases e41 : k = 41
  · subst e41
    exact cli41 ok lo r f gm B m w hl hl2 hg h ho hm hok
  rw [if_neg e41]
  exact cliNo ok lo r f gm B m w k (beq_eq_false_iff_ne.mpr e0) (beq_eq_false_iff_ne.mpr e10) (beq_eq_false_iff_ne.mpr e13) (beq_eq_false_iff_ne.mpr e43) (beq_eq_false_iff_ne.mpr e45) (beq_eq_false_iff_ne.mpr e51) (beq_eq_false_iff_ne.mpr e41) hl hl2 hg h ho hm hok
theorem cli_ok (k : Int) (m : Mv) {B : Rp} (h : B.Ok) : (cli k m B).2.2.Ok := by
  unfold cli
  repeat' split
  all_goals first | exact h.namR | exact h.lstR _ | exact h.pskR | exact h
end Go.Proofs.Ytlkebjkpmiehcaa.Ms
end
section
namespace Go.Proofs.Ytlkebjkpmiehcaa.Ms
open Go.RowKit Go.Proofs.YtlkebjkpmiehcaaW.PrintWords Go.Proofs.YtlkebjkpmiehcaaW.PrintLast Go.Proofs.YtlkebjkpmiehcaaW.PrintMore Go.Proofs.Ytlkebjkpmiehcaa.X
open Go.Proofs.Ytlkebjkpmiehcaa.Pure (nv numOf vecOf nv_bd nv_bd4 number_any vec_ok)
set_option linter.unusedVariables false
theorem inR_c {R : Rp} {n : Nat} (h : (R.inR n).c = 0) : R.c = 0 := (needed_zero h).1
theorem lstR_st {α : Type} {one : Rp → α × Rp} (h : OneOk one) {R : Rp} (ho : R.Ok) {n : Nat} (hc : (lstR one R n).c = 0) : R.c = 0 :=
  inR_c (n := n) (needed_zero (rAll_st h _ (R.lst n) (ho.lst n) hc)).1
theorem namR_st {R : Rp} (ho : R.Ok) (hc : R.namR.c = 0) : R.c = 0 := by
  have h1 : ((R.nam1.vecR 2 1 64).done).c = 0 := hc
  have h2 := vecR_c (needed_zero h1).1 ho.nam1
  have h3 := numR_c (needed_zero h2.1).1 (ho.inR 2)
  exact inR_c (n := 2) h3.1
theorem pskR_st {R : Rp} (ho : R.Ok) (hc : R.pskR.c = 0) : R.c = 0 := by
  have h1 := (needed_zero (allowed_zero hc).1).1
  have h2 : (allR oneBin (R.psk1.inR 2)).c = 0 := h1
  have h3 := inR_c (n := 2) (rAll_st oneBin_ok _ _ (ho.psk1.inR 2) h2)
  exact lstR_st oneIde_ok ho h3
theorem cli_st {k : Int} {m : Mv} {B : Rp} (ho : B.Ok) (hc : (cli k m B).2.2.c = 0) : B.c = 0 := by
  unfold cli at hc
  by_cases e0 : k = 0
  · rw [if_pos e0] at hc
    exact namR_st ho hc
  rw [if_neg e0] at hc
  by_cases e10 : k = 10
  · rw [if_pos e10] at hc
    exact lstR_st (oneNum_ok 2 (by omega)) ho hc
  rw [if_neg e10] at hc
  by_cases e13 : k = 13
  · rw [if_pos e13] at hc
    exact lstR_st (oneNum_ok 2 (by omega)) ho hc
  rw [if_neg e13] at hc
  by_cases e43 : k = 43
  · rw [if_pos e43] at hc
    exact lstR_st (oneNum_ok 2 (by omega)) ho hc
  rw [if_neg e43] at hc
  by_cases e45 : k = 45
  · rw [if_pos e45] at hc
    exact lstR_st (oneNum_ok 1 (by omega)) ho hc
  rw [if_neg e45] at hc
  by_cases e51 : k = 51
  · rw [if_pos e51] at hc
    exact lstR_st oneSha_ok ho hc
  rw [if_neg e51] at hc
  by_cases e41 : k = 41
  · rw [if_pos e41] at hc
    exact pskR_st ho hc
  rw [if_neg e41] at hc
  exact hc
section
variable {ops : Array Oper} {rest : List Oper} {oi : Oper} {a : Act} {Q : Exit → Act → World → Prop} {w : World} {K : Act → World → Prop}
theorem stM {ty : TypeId} {p x : Operand} (hw : Region.wanted oi (yielded ops a.tmps) = true) (hN : oi.dst = none) (ho : oi.op = .store ty p x) {g i : Nat} (hp : a.eval p = .pointer (some ⟨g, i, none⟩)) {cs : Array Value} {t : TypeId} (h : w.heap[g]? = some (.cells cs t (0, 0)))
    (hs : (Try.prog.info? ty).map (·.size) = some 1) {v : Value} (hx : a.eval x = v) (hv : v.cells = #[v]) (h1 : v.oneCell' = true) (hi : i < cs.size)
    (H : ∀ w1, w1.heap[g]? = some (.cells (cs.setIfInBounds i v) t (0, 0)) → (∀ lo, lo ≤ g → Below lo w w1) → KeepBut w w1 g none → K a w1) : if Region.wanted oi (yielded ops a.tmps) = true then Oper.wp Try.prog oi a w K Q else K (a.put none undef) w := by
  refine skip_ hw hN ?_ (H (w.setCell ⟨g, i, none⟩ v) (blk_set h i v) (fun lo hl => (keep_store hl i v).1) ((keep_store (Nat.le_refl g) i v).2))
  have hc : w.cell? ⟨g, i, none⟩ = some cs[i] := by rw [blk_cell h i]; exact Array.getElem?_eq_getElem hi
  have hst : (store ⟨g, i, none⟩ v).run Try.prog w = .ok () (w.setCell ⟨g, i, none⟩ v) := by
    rw [run_store _ _ _ _ _ h1]
    simp [hc, blk_frozen h i]
  obtain ⟨i0, hi0, hz⟩ := Option.map_eq_some_iff.1 hs
  unfold execOp
  simp only [ho, hp, hx, Instr.storeAt, Instr.sureAddr, Sem.run_bind, Sem.run_pure, Result.andThen_ok]
  have hsv : (storeVar ty ⟨g, i, none⟩ v).run Try.prog w = .ok () (w.setCell ⟨g, i, none⟩ v) := by
    have ha : (⟨g, i, none⟩ : Addr).add 0 = ⟨g, i, none⟩ := by simp [Addr.add]
    simp [storeVar, sizeOf, typeInfo, hi0, hz, hv, storeCells, ha, hst, Sem.run_bind]
  rw [hsv]
  rfl
theorem Y_exec {d : Kd Int} {m x : Operand} (ho : oi.op = .lookup 68 m x false) {v : Value} {k : Int} {base : Nat} {ok : Nat → Prop} {xs : List Int} (hm : a.eval m = v) (hx : a.eval x = .int .i64 k) (hk : (Lit.int .i64 k).wf = true)
    (HO : Kd.Y d 3 w base ok v xs) : (execOp a.eval oi).run Try.prog w = .ok (.value (.bool (decide (k ∈ xs)))) w := by
  obtain ⟨g, rfl, _, _, hw⟩ := HO
  obtain ⟨u, ps, hrun, hu⟩ := hw.lookup (Go.Maps.int_keyed Try.underlying3) Try.underlying68 (Kd.zeroB w) (plainElem_bool Try.underlying4 false) (Go.Maps.keyOf_int_mk Try.underlying3 hk)
  obtain ⟨b, rfl, hzz⟩ := plainElem_bool_inv Try.underlying4 hu
  rw [Sd_at] at hzz
  have hbb : decide (k ∈ xs) = b := lit_bool (congrArg Prod.fst hzz)
  rw [hbb]
  simp [execOp, ho, hm, hx, hrun, Result.andThen]
end
theorem Y_gen {d : Kd Int} {e : TypeId} {w w1 : World} {base : Nat} {ok : Nat → Prop} {v : Value} {xs : List Int} (h : Kd.Y d e w base ok v xs) (hm : ∀ (k : Nat) (es : Array MapEntry) (c : Nat), w.heap[k]? = some (Obj.map es c) → w1.heap[k]? = some (Obj.map es c)) : Kd.Y d e w1 base ok v xs := by
  obtain ⟨g, rfl, ho, hb, hw⟩ := h
  obtain ⟨es, c, hh, r⟩ := hw
  exact ⟨g, rfl, ho, hb, es, c, hm g es c hh, r⟩
theorem map_ne {w : World} {j r : Nat} {es : Array MapEntry} {c : Nat} {cs : Array Value} {t : TypeId} (h : w.heap[j]? = some (Obj.map es c)) (hr : w.heap[r]? = some (.cells cs t (0, 0))) : j ≠ r := by
  intro e
  subst e
  rw [h] at hr
  cases hr
theorem Mo.reads {ok : Nat → Prop} {w : World} {gm : Nat} {m : Mv} {h : Hd} (a : Mo ok w gm m h) : Reads w m h := ⟨(Kd.R_reads' a.r3).2.2, (Kd.R_reads' a.r3).2.1, (Kd.R_reads' a.r5).2.2, (Kd.R_reads' a.r5).2.1, (Kd.R_reads' a.r6).2.2, (Kd.R_reads' a.r6).2.1, (Kd.R_reads' a.r7).2.2, (Kd.R_reads' a.r7).2.1, (Kd.R_reads' a.r8).2.2, (Kd.R_reads' a.r8).2.1, (Kd.R_reads' a.r9).2.2, (Kd.R_reads' a.r9).2.1, (Kd.R_reads' a.r10).2.2, (Kd.R_reads' a.r10).2.1, (Kd.R_reads' a.r11).2.2, (Kd.R_reads' a.r11).2.1, (Kd.R_reads' a.r13).2.2, (Kd.R_reads' a.r13).2.1, (Kd.R_reads' a.r14).2.2, (Kd.R_reads' a.r14).2.1⟩
def srv (k : Int) (m : Mv) (B : Rp) : Bool × Mv × Rp :=
  if k = 43 then (true, { m with f5 := [B.numV 2] }, B.numR 2)
  else if k = 51 then (if m.retry = true then (true, { m with f6 := [B.numV 2] }, B.numR 2) else (true, { m with f9 := [B.shaV] }, B.shaR))
  else if k = 41 then (if m.retry = true then (false, m, B) else (true, { m with f12 := B.numV 2 + 1 }, B.numR 2))
  else (false, m, B)
theorem srv_ok (k : Int) (m : Mv) {B : Rp} (h : B.Ok) : (srv k m B).2.2.Ok := by
  unfold srv
  repeat' split
  all_goals first | exact h.numR _ | exact h.shaR | exact h
theorem srv_st {k : Int} {m : Mv} {B : Rp} (ho : B.Ok) (hc : (srv k m B).2.2.c = 0) : B.c = 0 := by
  unfold srv at hc
  by_cases e43 : k = 43
  · rw [if_pos e43] at hc
    exact (numR_c hc ho).1
  rw [if_neg e43] at hc
  by_cases e51 : k = 51
  · rw [if_pos e51] at hc
    by_cases hr : m.retry = true
    · rw [if_pos hr] at hc
      exact (numR_c hc ho).1
    · rw [if_neg hr] at hc
      exact oneSha_ok.st B ho hc
  rw [if_neg e51] at hc
  by_cases e41 : k = 41
  · rw [if_pos e41] at hc
    by_cases hr : m.retry = true
    · rw [if_pos hr] at hc
      exact hc
    · rw [if_neg hr] at hc
      exact (numR_c hc ho).1
  rw [if_neg e41] at hc
  exact hc
set_option maxRecDepth 100000 in
set_option maxHeartbeats 8000000 in
theorem srv43 (ok : Nat → Prop) (lo r f gm : Nat) (B : Rp) (m : Mv) (w : World) (hl : lo ≤ f) (hl2 : lo ≤ r) (hg : lo ≤ gm) (h : RS w r f B) (ho : B.Ok) (hm : MO ok w gm m) (hok : ∀ k, w.heap.size ≤ k → ok k) :
    Calls Try.prog 98 #[.pointer (some ⟨gm, 0, none⟩), .int .i64 43, .pointer (some ⟨r, 0, none⟩)] w fun ex w' => ex = .returned (.bool true) ∧ RS w' r f (B.numR 2) ∧ MO ok w' gm { m with f5 := [B.numV 2] } ∧ Kg lo r f gm w w' := by
  have H := Aside0.mk h
  have HL := Aside0.mk hl
  have HL2 := Aside0.mk hl2
  have HG := Aside0.mk hg
  have OKK := Aside0.mk hok
  have HO := Aside0.mk ho
  have HWL := Aside0.mk (h.wsz hl)
  have M := Aside0.mk hm
  have K := Aside0.mk (Kg.of_kf (g := gm) (Kf.refl lo r f w))
  clear h hl hl2 hg ho hm hok
  go_enter Try.func98, Try.ntmps98
  go_wp2_with (first
    | (((with_reducible refine gate_dst (N := 10) rfl ?_); obtain ⟨hd1, hm1⟩ := M.out; refine wpList_load_row rfl 49 _ rfl gm rfl 49 _ (0, 0) _ hm1.box Try.underlying49 rfl sz49 ?_; have HM1 := Aside0.mk hm1; clear hm1))
    | (go_at_call 30; (with_reducible refine (retry_calls m hd1 _ HM1.out.reads).mono ?_); rintro e0 w0 ⟨rfl, b0⟩; have M0 := Aside0.mk (M.out.below b0); have H0 := Aside0.mk (H.out.below b0); have K0 := Aside0.mk (K.out.trans (Kg.of_kf (Kf.of_below (r := r) (f := f) HWL.out b0))); clear b0)
    | (go_at_call 70; (with_reducible refine (u16_c lo r f B _ HL.out HL2.out H0.out HO.out).mono ?_); rintro e1 w1 ⟨rfl, i1, k1⟩; have M1 := Aside0.mk (M0.out.kf H0.out k1); have H1 := Aside0.mk i1; have K1 := Aside0.mk (K0.out.trans (Kg.of_kf k1)); clear i1 k1)
    | ((with_reducible refine gate_dst (N := 18) rfl ?_); refine Kd.R_lit (Kd.int .i64) _ 3 ?hg (N := 18) ?hd (xs := [(B.numV 2)]) (inner := [.int .i64 (B.numV 2)]) (ok := fun _ => True) (okp := fun _ => True) ?hr ?hp (fun _ hk => hk) trivial (Below.refl _ _) (Nat.le_refl _) (by simp) ?_; (case hd => rfl); (case hg => rfl); (case hr => first | (go_simp; done) | (go_simp; rfl)); (case hp => exact (Reps.one (show Kd.M (Kd.int .i64) _ _ _ (B.numV 2) [.int .i64 (B.numV 2)] from rfl) (Reps.none _ _))); intro v2 w2 ho2 hb hg_ hnew_; clear hg_ hnew_; obtain ⟨A2, c2, rfl⟩ := Kd.R_slice ho2; have R2 := Aside0.mk (R_fresh ho2 (fun k hk => OKK.out k (Nat.le_trans K1.out.below.size hk))); have M2 := Aside0.mk (M1.out.below hb); have HWL2 := Aside0.mk (H1.out.wsz HL.out); have H2 := Aside0.mk (H1.out.below hb); have K2 := Aside0.mk (K1.out.trans (Kg.of_kf (Kf.of_below (r := r) (f := f) HWL2.out hb))); clear ho2 hb)
    | ((with_reducible refine gate_store (p := 20) rfl ?_); obtain ⟨hd_, hm_⟩ := M2.out; refine st (v := .slice A2 1 c2) rfl rfl rfl hm_.box sz44 rfl rfl rfl (by rw [cells_size]; omega) ?_; intro w3 h3_ b3_ k3_; have M3 := Aside0.mk (hm_.s5 R2.out h3_ k3_); have H3 := Aside0.mk (H2.out.store hm_ k3_); have K3 := Aside0.mk (K2.out.trans (Kg.of_store (b3_ _ HG.out) k3_)); clear h3_ b3_ k3_ hm_))
  go_ret
  exact ⟨rfl, H3.out, M3.out, K3.out⟩
set_option maxRecDepth 100000 in
set_option maxHeartbeats 8000000 in
theorem srv51r (ok : Nat → Prop) (lo r f gm : Nat) (B : Rp) (m : Mv) (w : World) (hr : m.retry = true) (hl : lo ≤ f) (hl2 : lo ≤ r) (hg : lo ≤ gm) (h : RS w r f B) (ho : B.Ok) (hm : MO ok w gm m) (hok : ∀ k, w.heap.size ≤ k → ok k) :
    Calls Try.prog 98 #[.pointer (some ⟨gm, 0, none⟩), .int .i64 51, .pointer (some ⟨r, 0, none⟩)] w fun ex w' => ex = .returned (.bool true) ∧ RS w' r f (B.numR 2) ∧ MO ok w' gm { m with f6 := [B.numV 2] } ∧ Kg lo r f gm w w' := by
  have H := Aside0.mk h
  have HL := Aside0.mk hl
  have HL2 := Aside0.mk hl2
  have HG := Aside0.mk hg
  have OKK := Aside0.mk hok
  have HO := Aside0.mk ho
  have HWL := Aside0.mk (h.wsz hl)
  have M := Aside0.mk hm
  have K := Aside0.mk (Kg.of_kf (g := gm) (Kf.refl lo r f w))
  clear h hl hl2 hg ho hm hok
  go_enter Try.func98, Try.ntmps98
  go_wp2_with (first
    | (((with_reducible refine gate_dst (N := 10) rfl ?_); obtain ⟨hd1, hm1⟩ := M.out; refine wpList_load_row rfl 49 _ rfl gm rfl 49 _ (0, 0) _ hm1.box Try.underlying49 rfl sz49 ?_; have HM1 := Aside0.mk hm1; clear hm1))
    | (go_at_call 30; (with_reducible refine (retry_calls m hd1 _ HM1.out.reads).mono ?_); rintro e0 w0 ⟨rfl, b0⟩; have M0 := Aside0.mk (M.out.below b0); have H0 := Aside0.mk (H.out.below b0); have K0 := Aside0.mk (K.out.trans (Kg.of_kf (Kf.of_below (r := r) (f := f) HWL.out b0))); clear b0)
    | (go_at_call 70; (with_reducible refine (u16_c lo r f B _ HL.out HL2.out H0.out HO.out).mono ?_); rintro e1 w1 ⟨rfl, i1, k1⟩; have M1 := Aside0.mk (M0.out.kf H0.out k1); have H1 := Aside0.mk i1; have K1 := Aside0.mk (K0.out.trans (Kg.of_kf k1)); clear i1 k1)
    | ((with_reducible refine gate_dst (N := 30) rfl ?_); refine Kd.R_lit (Kd.int .i64) _ 3 ?hg (N := 30) ?hd (xs := [(B.numV 2)]) (inner := [.int .i64 (B.numV 2)]) (ok := fun _ => True) (okp := fun _ => True) ?hr ?hp (fun _ hk => hk) trivial (Below.refl _ _) (Nat.le_refl _) (by simp) ?_; (case hd => rfl); (case hg => rfl); (case hr => first | (go_simp; done) | (go_simp; rfl)); (case hp => exact (Reps.one (show Kd.M (Kd.int .i64) _ _ _ (B.numV 2) [.int .i64 (B.numV 2)] from rfl) (Reps.none _ _))); intro v2 w2 ho2 hb hg_ hnew_; clear hg_ hnew_; obtain ⟨A2, c2, rfl⟩ := Kd.R_slice ho2; have R2 := Aside0.mk (R_fresh ho2 (fun k hk => OKK.out k (Nat.le_trans K1.out.below.size hk))); have M2 := Aside0.mk (M1.out.below hb); have HWL2 := Aside0.mk (H1.out.wsz HL.out); have H2 := Aside0.mk (H1.out.below hb); have K2 := Aside0.mk (K1.out.trans (Kg.of_kf (Kf.of_below (r := r) (f := f) HWL2.out hb))); clear ho2 hb)
    | ((with_reducible refine gate_store (p := 32) rfl ?_); obtain ⟨hd_, hm_⟩ := M2.out; refine st (v := .slice A2 1 c2) rfl rfl rfl hm_.box sz44 rfl rfl rfl (by rw [cells_size]; omega) ?_; intro w3 h3_ b3_ k3_; have M3 := Aside0.mk (hm_.s6 R2.out h3_ k3_); have H3 := Aside0.mk (H2.out.store hm_ k3_); have K3 := Aside0.mk (K2.out.trans (Kg.of_store (b3_ _ HG.out) k3_)); clear h3_ b3_ k3_ hm_))
  go_ret
  exact ⟨rfl, H3.out, M3.out, K3.out⟩
set_option maxRecDepth 100000 in
set_option maxHeartbeats 8000000 in
theorem srv51n (ok : Nat → Prop) (lo r f gm : Nat) (B : Rp) (m : Mv) (w : World) (hr : m.retry = false) (hl : lo ≤ f) (hl2 : lo ≤ r) (hg : lo ≤ gm) (h : RS w r f B) (ho : B.Ok) (hm : MO ok w gm m) (hok : ∀ k, w.heap.size ≤ k → ok k) :
    Calls Try.prog 98 #[.pointer (some ⟨gm, 0, none⟩), .int .i64 51, .pointer (some ⟨r, 0, none⟩)] w fun ex w' => ex = .returned (.bool true) ∧ RS w' r f B.shaR ∧ MO ok w' gm { m with f9 := [B.shaV] } ∧ Kg lo r f gm w w' := by
  have H := Aside0.mk h
  have HL := Aside0.mk hl
  have HL2 := Aside0.mk hl2
  have HG := Aside0.mk hg
  have OKK := Aside0.mk hok
  have HO := Aside0.mk ho
  have HWL := Aside0.mk (h.wsz hl)
  have M := Aside0.mk hm
  have K := Aside0.mk (Kg.of_kf (g := gm) (Kf.refl lo r f w))
  clear h hl hl2 hg ho hm hok
  have hu66 := Try.underlying66
  go_enter Try.func98, Try.ntmps98
  go_wp2_with (first
    | (((with_reducible refine gate_dst (N := 10) rfl ?_); obtain ⟨hd1, hm1⟩ := M.out; refine wpList_load_row rfl 49 _ rfl gm rfl 49 _ (0, 0) _ hm1.box Try.underlying49 rfl sz49 ?_; have HM1 := Aside0.mk hm1; clear hm1))
    | (go_at_call 30; (with_reducible refine (retry_calls m hd1 _ HM1.out.reads).mono ?_); rintro e0 w0 ⟨rfl, b0⟩; have M0 := Aside0.mk (M.out.below b0); have H0 := Aside0.mk (H.out.below b0); have K0 := Aside0.mk (K.out.trans (Kg.of_kf (Kf.of_below (r := r) (f := f) HWL.out b0))); clear b0)
    | (go_at_call 114; (with_reducible refine (share_c lo r f B _ HL.out HL2.out H0.out HO.out).mono ?_); rintro e1 w1 ⟨rfl, i1, k1⟩; have M1 := Aside0.mk (M0.out.kf H0.out k1); have H1 := Aside0.mk i1; have K1 := Aside0.mk (K0.out.trans (Kg.of_kf k1)); clear i1 k1)
    | ((with_reducible refine gate_dst (N := 39) rfl ?_); refine Kd.R_lit k66 _ 66 ?hg (N := 39) ?hd (xs := [B.shaV]) (inner := [.int .i64 B.shaV.f0, .string B.shaV.f1]) (ok := fun _ => True) (okp := fun _ => True) ?hr ?hp (fun _ hk => hk) trivial (Below.refl _ _) (Nat.le_refl _) (by simp) ?_; (case hd => rfl); (case hg => rfl); (case hr => first | (go_simp; done) | (go_simp; rfl)); (case hp => exact (Reps.c2 (show Kd.M k66 _ _ _ B.shaV [.int .i64 B.shaV.f0, .string B.shaV.f1] from k66_mkM _ _ _ B.shaV) (Reps.none _ _))); intro v2 w2 ho2 hb hg_ hnew_; clear hg_ hnew_; obtain ⟨A2, c2, rfl⟩ := Kd.R_slice ho2; have R2 := Aside0.mk (R_fresh ho2 (fun k hk => OKK.out k (Nat.le_trans K1.out.below.size hk))); have M2 := Aside0.mk (M1.out.below hb); have HWL2 := Aside0.mk (H1.out.wsz HL.out); have H2 := Aside0.mk (H1.out.below hb); have K2 := Aside0.mk (K1.out.trans (Kg.of_kf (Kf.of_below (r := r) (f := f) HWL2.out hb))); clear ho2 hb)
    | ((with_reducible refine gate_store (p := 41) rfl ?_); obtain ⟨hd_, hm_⟩ := M2.out; refine st (v := .slice A2 1 c2) rfl rfl rfl hm_.box sz45' rfl rfl rfl (by rw [cells_size]; omega) ?_; intro w3 h3_ b3_ k3_; have M3 := Aside0.mk (hm_.s9 R2.out h3_ k3_); have H3 := Aside0.mk (H2.out.store hm_ k3_); have K3 := Aside0.mk (K2.out.trans (Kg.of_store (b3_ _ HG.out) k3_)); clear h3_ b3_ k3_ hm_))
  go_ret
  exact ⟨rfl, H3.out, M3.out, K3.out⟩
set_option maxRecDepth 100000 in
set_option maxHeartbeats 8000000 in
theorem srv41n (ok : Nat → Prop) (lo r f gm : Nat) (B : Rp) (m : Mv) (w : World) (hr : m.retry = false) (hl : lo ≤ f) (hl2 : lo ≤ r) (hg : lo ≤ gm) (h : RS w r f B) (ho : B.Ok) (hm : MO ok w gm m) (hok : ∀ k, w.heap.size ≤ k → ok k) :
    Calls Try.prog 98 #[.pointer (some ⟨gm, 0, none⟩), .int .i64 41, .pointer (some ⟨r, 0, none⟩)] w fun ex w' => ex = .returned (.bool true) ∧ RS w' r f (B.numR 2) ∧ MO ok w' gm { m with f12 := B.numV 2 + 1 } ∧ Kg lo r f gm w w' := by
  have nb0 := (B.numV_bd 2).1
  have nb1 : B.numV 2 ≤ 65535 := by have := (B.numV_bd 2).2; omega
  have H := Aside0.mk h
  have HL := Aside0.mk hl
  have HL2 := Aside0.mk hl2
  have HG := Aside0.mk hg
  have OKK := Aside0.mk hok
  have HO := Aside0.mk ho
  have HWL := Aside0.mk (h.wsz hl)
  have M := Aside0.mk hm
  have K := Aside0.mk (Kg.of_kf (g := gm) (Kf.refl lo r f w))
  clear h hl hl2 hg ho hm hok
  go_enter Try.func98, Try.ntmps98
  go_wp2_with (first
    | (((with_reducible refine gate_dst (N := 10) rfl ?_); obtain ⟨hd1, hm1⟩ := M.out; refine wpList_load_row rfl 49 _ rfl gm rfl 49 _ (0, 0) _ hm1.box Try.underlying49 rfl sz49 ?_; have HM1 := Aside0.mk hm1; clear hm1))
    | (go_at_call 30; (with_reducible refine (retry_calls m hd1 _ HM1.out.reads).mono ?_); rintro e0 w0 ⟨rfl, b0⟩; have M0 := Aside0.mk (M.out.below b0); have H0 := Aside0.mk (H.out.below b0); have K0 := Aside0.mk (K.out.trans (Kg.of_kf (Kf.of_below (r := r) (f := f) HWL.out b0))); clear b0)
    | (go_at_call 70; (with_reducible refine (u16_c lo r f B _ HL.out HL2.out H0.out HO.out).mono ?_); rintro e1 w1 ⟨rfl, i1, k1⟩; have M1 := Aside0.mk (M0.out.kf H0.out k1); have H1 := Aside0.mk i1; have K1 := Aside0.mk (K0.out.trans (Kg.of_kf k1)); clear i1 k1)
    | ((with_reducible refine gate_store (p := 54) rfl ?_); obtain ⟨hd_, hm_⟩ := M1.out; refine st (v := .int .i64 (B.numV 2 + 1)) rfl rfl rfl hm_.box sz3' rfl rfl rfl (by rw [cells_size]; omega) ?_; intro w3 h3_ b3_ k3_; have M3 := Aside0.mk (hm_.s12 _ h3_ k3_); have H3 := Aside0.mk (H1.out.store hm_ k3_); have K3 := Aside0.mk (K1.out.trans (Kg.of_store (b3_ _ HG.out) k3_)); clear h3_ b3_ k3_ hm_))
  go_ret
  exact ⟨rfl, H3.out, M3.out, K3.out⟩
set_option maxRecDepth 100000 in
set_option maxHeartbeats 8000000 in
theorem srv41r (ok : Nat → Prop) (lo r f gm : Nat) (B : Rp) (m : Mv) (w : World) (hr : m.retry = true) (hl : lo ≤ f) (hl2 : lo ≤ r) (hg : lo ≤ gm) (h : RS w r f B) (ho : B.Ok) (hm : MO ok w gm m) (hok : ∀ k, w.heap.size ≤ k → ok k) :
    Calls Try.prog 98 #[.pointer (some ⟨gm, 0, none⟩), .int .i64 41, .pointer (some ⟨r, 0, none⟩)] w fun ex w' => ex = .returned (.bool false) ∧ RS w' r f B ∧ MO ok w' gm m ∧ Kg lo r f gm w w' := by
  have H := Aside0.mk h
  have HL := Aside0.mk hl
  have HL2 := Aside0.mk hl2
  have HG := Aside0.mk hg
  have OKK := Aside0.mk hok
  have HO := Aside0.mk ho
  have HWL := Aside0.mk (h.wsz hl)
  have M := Aside0.mk hm
  have K := Aside0.mk (Kg.of_kf (g := gm) (Kf.refl lo r f w))
  clear h hl hl2 hg ho hm hok
  go_enter Try.func98, Try.ntmps98
  go_wp2_with (first
    | (((with_reducible refine gate_dst (N := 10) rfl ?_); obtain ⟨hd1, hm1⟩ := M.out; refine wpList_load_row rfl 49 _ rfl gm rfl 49 _ (0, 0) _ hm1.box Try.underlying49 rfl sz49 ?_; have HM1 := Aside0.mk hm1; clear hm1))
    | (go_at_call 30; (with_reducible refine (retry_calls m hd1 _ HM1.out.reads).mono ?_); rintro e0 w0 ⟨rfl, b0⟩; have M0 := Aside0.mk (M.out.below b0); have H0 := Aside0.mk (H.out.below b0); have K0 := Aside0.mk (K.out.trans (Kg.of_kf (Kf.of_below (r := r) (f := f) HWL.out b0))); clear b0))
  go_ret
  exact ⟨rfl, H0.out, M0.out, K0.out⟩
set_option maxRecDepth 100000 in
set_option maxHeartbeats 8000000 in
theorem srvNo (ok : Nat → Prop) (lo r f gm : Nat) (B : Rp) (m : Mv) (w : World) (k : Int) (n43 : (k == 43) = false) (n51 : (k == 51) = false) (n41 : (k == 41) = false) (hl : lo ≤ f) (hl2 : lo ≤ r) (hg : lo ≤ gm) (h : RS w r f B) (ho : B.Ok) (hm : MO ok w gm m) (hok : ∀ k, w.heap.size ≤ k → ok k) :
    Calls Try.prog 98 #[.pointer (some ⟨gm, 0, none⟩), .int .i64 k, .pointer (some ⟨r, 0, none⟩)] w fun ex w' => ex = .returned (.bool false) ∧ RS w' r f B ∧ MO ok w' gm m ∧ Kg lo r f gm w w' := by
  have H := Aside0.mk h
  have HL := Aside0.mk hl
  have HL2 := Aside0.mk hl2
  have HG := Aside0.mk hg
  have OKK := Aside0.mk hok
  have HO := Aside0.mk ho
  have HWL := Aside0.mk (h.wsz hl)
  have M := Aside0.mk hm
  have K := Aside0.mk (Kg.of_kf (g := gm) (Kf.refl lo r f w))
  clear h hl hl2 hg ho hm hok
  go_enter Try.func98, Try.ntmps98
  go_wp2_with (first
    | (((with_reducible refine gate_dst (N := 10) rfl ?_); obtain ⟨hd1, hm1⟩ := M.out; refine wpList_load_row rfl 49 _ rfl gm rfl 49 _ (0, 0) _ hm1.box Try.underlying49 rfl sz49 ?_; have HM1 := Aside0.mk hm1; clear hm1))
    | (go_at_call 30; (with_reducible refine (retry_calls m hd1 _ HM1.out.reads).mono ?_); rintro e0 w0 ⟨rfl, b0⟩; have M0 := Aside0.mk (M.out.below b0); have H0 := Aside0.mk (H.out.below b0); have K0 := Aside0.mk (K.out.trans (Kg.of_kf (Kf.of_below (r := r) (f := f) HWL.out b0))); clear b0))
  go_ret
  exact ⟨rfl, H0.out, M0.out, K0.out⟩
theorem srv_c (ok : Nat → Prop) (lo r f gm : Nat) (B : Rp) (m : Mv) (w : World) (k : Int) (hl : lo ≤ f) (hl2 : lo ≤ r) (hg : lo ≤ gm) (h : RS w r f B) (ho : B.Ok) (hm : MO ok w gm m) (hok : ∀ k, w.heap.size ≤ k → ok k) :
    Calls Try.prog 98 #[.pointer (some ⟨gm, 0, none⟩), .int .i64 k, .pointer (some ⟨r, 0, none⟩)] w fun ex w' => ex = .returned (.bool (srv k m B).1) ∧ RS w' r f (srv k m B).2.2 ∧ MO ok w' gm (srv k m B).2.1 ∧ Kg lo r f gm w w' := by
  unfold srv
  by_cases e43 : k = 43
  · subst e43
    exact srv43 ok lo r f gm B m w hl hl2 hg h ho hm hok
  rw [if_neg e43]
  by_cases e51 : k = 51
  · subst e51
    rw [if_pos rfl]
    by_cases hr : m.retry = true
    · rw [if_pos hr]
      exact srv51r ok lo r f gm B m w hr hl hl2 hg h ho hm hok
    · rw [if_neg hr]
      exact srv51n ok lo r f gm B m w (by simpa using hr) hl hl2 hg h ho hm hok
  rw [if_neg e51]
  by_cases e41 : k = 41
  · subst e41
    rw [if_pos rfl]
    by_cases hr : m.retry = true
    · rw [if_pos hr]
      exact srv41r ok lo r f gm B m w hr hl hl2 hg h ho hm hok
    · rw [if_neg hr]
      exact srv41n ok lo r f gm B m w (by simpa using hr) hl hl2 hg h ho hm hok
  rw [if_neg e41]
  exact srvNo ok lo r f gm B m w k (beq_eq_false_iff_ne.mpr e43) (beq_eq_false_iff_ne.mpr e51) (beq_eq_false_iff_ne.mpr e41) hl hl2 hg h ho hm hok
end Go.Proofs.Ytlkebjkpmiehcaa.Ms
end
section
namespace Go.Proofs.Ytlkebjkpmiehcaa.Ms
open Go.RowKit Go.Proofs.YtlkebjkpmiehcaaW.PrintWords Go.Proofs.YtlkebjkpmiehcaaW.PrintLast Go.Proofs.YtlkebjkpmiehcaaW.PrintMore Go.Proofs.Ytlkebjkpmiehcaa.X
open Go.Proofs.Ytlkebjkpmiehcaa.Pure (nv numOf vecOf nv_bd nv_bd4 number_any vec_ok)
set_option linter.unusedVariables false
def Rp.aft (P B : Rp) (l : Bool) : Rp := { P with c := B.c, t := B.t, l := l }
structure Kh (lo r rb f g : Nat) (w w' : World) : Prop where
  below : Below lo w w'
  keep : ∀ k o, w.heap[k]? = some o → k ≠ r → k ≠ rb → k ≠ f → k ≠ g → w'.heap[k]? = some o
theorem Kh.of_kg {lo r rb f g : Nat} {w w' : World} (k : Kg lo rb f g w w') : Kh lo r rb f g w w' := ⟨k.below, fun i o hi _ hb hf hg => k.keep i o hi hb hf hg⟩
theorem Kh.trans {lo r rb f g : Nat} {a b c : World} (h : Kh lo r rb f g a b) (k : Kh lo r rb f g b c) : Kh lo r rb f g a c := ⟨h.below.trans k.below, fun i o hi hr hb hf hg => k.keep i o (h.keep i o hi hr hb hf hg) hr hb hf hg⟩
theorem Kh.inner {lo r rb f g : Nat} {w w1 w2 : World} (h : Kg lo r f g w w1) (hn : w.heap.size ≤ rb) (k : Kh lo r rb f g w1 w2) : Kg lo r f g w w2 :=
  ⟨h.below.trans k.below, fun i o hi hr hf hg => k.keep i o (h.keep i o hi hr hf hg) hr (by have := blk_lt hi; omega) hf hg⟩
structure TakeC (k : Nat) (cap : Array Value) (lo r f gm : Nat) (w0 : World) (take : Int → Mv → Rp → Bool × Mv × Rp) (lastf : Int → Bool → Bool) : Prop where
  enters : ∀ args w, (callFunc k args).run Try.prog w = .ok (.enter k args) w
  ok : ∀ (kind : Int) (m : Mv) (B : Rp), B.Ok → (take kind m B).2.2.Ok
  st : ∀ (kind : Int) (m : Mv) (B : Rp), B.Ok → (take kind m B).2.2.c = 0 → B.c = 0
  calls : ∀ (ok : Nat → Prop) (kind : Int) (m : Mv) (P B : Rp) (rb : Nat) (W : World), Kg lo r f gm w0 W → w0.heap.size ≤ rb → RS W r f P → RS W rb f B → B.Ok → MO ok W gm m → (∀ j, W.heap.size ≤ j → ok j) →
    Calls Try.prog k (#[.int .i64 kind, .pointer (some ⟨rb, 0, none⟩)] ++ cap) W fun ex W' => ex = .returned (.bool (take kind m B).1) ∧ RS W' rb f (take kind m B).2.2 ∧ MO ok W' gm (take kind m B).2.1 ∧ RS W' r f (P.aft (take kind m B).2.2 (lastf kind P.l)) ∧ Kh lo r rb f gm W W'
def nonT (_ : Int) (m : Mv) (B : Rp) : Bool × Mv × Rp := (false, m, B)
def sameL (_ : Int) (l : Bool) : Bool := l
def pskL (k : Int) (_ : Bool) : Bool := k == 41
theorem aft_self {W : World} {r rb f : Nat} {P B : Rp} (h : RS W r f P) (h2 : RS W rb f B) : RS W r f (P.aft B P.l) := ⟨h.rd, h2.ft⟩
set_option maxRecDepth 100000 in
set_option maxHeartbeats 8000000 in
theorem nonT_c (lo r f gm : Nat) (w0 : World) : TakeC 68 #[] lo r f gm w0 nonT sameL where
  enters := fun args w => enters_ Try.func68 (by kernel_rfl) rfl args w
  ok := fun _ _ _ h => h
  st := fun _ _ _ _ h => h
  calls := by
    intro ok kind m P B rb W hk hn hP hB ho hm hok
    have H := Aside0.mk hP
    have HB := Aside0.mk hB
    have HM := Aside0.mk hm
    clear hk hn hP hB ho hm hok
    show Calls Try.prog 68 #[.int .i64 kind, .pointer (some ⟨rb, 0, none⟩)] W _
    go_enter Try.func68, Try.ntmps68
    go_wp2
    go_ret
    exact ⟨rfl, HB.out, HM.out, aft_self H.out HB.out, ⟨Below.refl _ _, fun _ _ h _ _ _ _ => h⟩⟩
set_option maxRecDepth 100000 in
set_option maxHeartbeats 8000000 in
theorem old_box {lo r f gm gb : Nat} {w0 W : World} {v : Value} {t : TypeId} (hk : Kg lo r f gm w0 W) (hb : w0.heap[gb]? = some (.cells #[v] t (0, 0))) (h1 : gb ≠ r) (h2 : gb ≠ f) (h3 : gb ≠ gm) : W.heap[gb]? = some (.cells #[v] t (0, 0)) := hk.keep _ _ hb h1 h2 h3
set_option maxRecDepth 100000 in
set_option maxHeartbeats 8000000 in
theorem srvT_c (lo r f gm gb : Nat) (w0 : World) (hl : lo ≤ f) (hg : lo ≤ gm) (hlw : lo ≤ w0.heap.size) (hb : w0.heap[gb]? = some (.cells #[.pointer (some ⟨gm, 0, none⟩)] 85 (0, 0))) (n1 : gb ≠ r) (n2 : gb ≠ f) (n3 : gb ≠ gm) (hr : r < w0.heap.size) : TakeC 97 #[.pointer (some ⟨gb, 0, none⟩)] lo r f gm w0 srv sameL where
  enters := fun args w => enters_ Try.func97 (by kernel_rfl) rfl args w
  ok := fun k m _ h => srv_ok k m h
  st := fun _ _ _ ho h => srv_st ho h
  calls := by
    intro ok kind m P B rb W hk hn hP hB ho hm hok
    have HX := Aside0.mk (old_box hk hb n1 n2 n3)
    have HNE := Aside0.mk (show r ≠ rb from by omega)
    have HL := Aside0.mk hl
    have HL2 := Aside0.mk (Nat.le_trans hlw hn)
    have HG := Aside0.mk hg
    have H := Aside0.mk hP
    have HB := Aside0.mk hB
    have HO := Aside0.mk ho
    have HM := Aside0.mk hm
    have HK := Aside0.mk hok
    have HRG := Aside0.mk (show r ≠ gm from by
      obtain ⟨_, a⟩ := hm
      exact blk_ne hP.rd a.box (by decide))
    clear hk hn hP hB ho hm hok hl hg hlw hb n1 n2 n3 hr
    show Calls Try.prog 97 #[.int .i64 kind, .pointer (some ⟨rb, 0, none⟩), .pointer (some ⟨gb, 0, none⟩)] W _
    go_enter Try.func97, Try.ntmps97
    go_wp2_with (first
      | ((with_reducible refine gate_dst (N := 6) rfl ?_); refine ld (v := .pointer (some ⟨gm, 0, none⟩)) rfl rfl rfl HX.out Try.underlying85 rfl rfl ?_)
      | (go_at_call 98; (with_reducible refine (srv_c ok lo rb f gm B m _ kind HL.out HL2.out HG.out HB.out HO.out HM.out HK.out).mono ?_); rintro e1 w1 ⟨rfl, i1, m1, k1⟩; have H1 := Aside0.mk i1; have M1 := Aside0.mk m1; have K1 := Aside0.mk k1; clear i1 m1 k1))
    go_ret
    exact ⟨rfl, H1.out, M1.out, ⟨K1.out.keep _ _ H.out.rd HNE.out H.out.ne HRG.out, H1.out.ft⟩, Kh.of_kg K1.out⟩
set_option maxRecDepth 100000 in
set_option maxHeartbeats 8000000 in
theorem cliT_c (lo r f gm gi gb : Nat) (w0 : World) (hl : lo ≤ f) (hg : lo ≤ gm) (hlw : lo ≤ w0.heap.size) (hlr : lo ≤ r) (hi : w0.heap[gi]? = some (.cells #[.pointer (some ⟨r, 0, none⟩)] 87 (0, 0))) (hb : w0.heap[gb]? = some (.cells #[.pointer (some ⟨gm, 0, none⟩)] 85 (0, 0)))
    (n1 : gb ≠ r) (n2 : gb ≠ f) (n3 : gb ≠ gm) (n4 : gi ≠ r) (n5 : gi ≠ f) (n6 : gi ≠ gm) (hr : r < w0.heap.size) : TakeC 95 #[.pointer (some ⟨gi, 0, none⟩), .pointer (some ⟨gb, 0, none⟩)] lo r f gm w0 cli pskL where
  enters := fun args w => enters_ Try.func95 (by kernel_rfl) rfl args w
  ok := fun k m _ h => cli_ok k m h
  st := fun _ _ _ ho h => cli_st ho h
  calls := by
    intro ok kind m P B rb W hk hn hP hB ho hm hok
    have HX := Aside0.mk (old_box hk hb n1 n2 n3)
    have HY := Aside0.mk (old_box hk hi n4 n5 n6)
    have HXR := Aside0.mk n1
    have HNE := Aside0.mk (show r ≠ rb from by omega)
    have HL := Aside0.mk hl
    have HLR := Aside0.mk hlr
    have HL2 := Aside0.mk (Nat.le_trans hlw hn)
    have HG := Aside0.mk hg
    have H := Aside0.mk hP
    have HB := Aside0.mk hB
    have HO := Aside0.mk ho
    have HM := Aside0.mk hm
    have HK := Aside0.mk hok
    have HRG := Aside0.mk (show r ≠ gm from by
      obtain ⟨_, a⟩ := hm
      exact blk_ne hP.rd a.box (by decide))
    clear hk hn hP hB ho hm hok hl hg hlw hb hi n1 n2 n3 n4 n5 n6 hr hlr
    show Calls Try.prog 95 #[.int .i64 kind, .pointer (some ⟨rb, 0, none⟩), .pointer (some ⟨gi, 0, none⟩), .pointer (some ⟨gb, 0, none⟩)] W _
    go_enter Try.func95, Try.ntmps95
    go_wp2_with (first
      | ((with_reducible refine gate_dst (N := 7) rfl ?_); refine ld (v := .pointer (some ⟨r, 0, none⟩)) rfl rfl rfl HY.out Try.underlying87 rfl rfl ?_)
      | ((with_reducible refine gate_store (p := 11) rfl ?_); refine st (v := .bool (kind == 41)) rfl rfl rfl H.out.rd sz4 rfl rfl rfl (by simp) ?_; intro w3 h3 b3 k3; have H3 := Aside0.mk (show RS w3 r f { P with l := kind == 41 } from Rs.mk h3 ((k3.2 f (blk_lt H.out.ft) (Ne.symm H.out.ne) (by simp)).trans H.out.ft)); have HB3 := Aside0.mk (show RS w3 rb f B from Rs.mk ((k3.2 rb (blk_lt HB.out.rd) (Ne.symm HNE.out) (by simp)).trans HB.out.rd) ((k3.2 f (blk_lt HB.out.ft) (Ne.symm H.out.ne) (by simp)).trans HB.out.ft)); have HX3 := Aside0.mk ((k3.2 gb (blk_lt HX.out) HXR.out (by simp)).trans HX.out); have M3 := Aside0.mk (HM.out.kf H.out (Kf.of_keep (f := f) (.inl rfl) (b3 _ HLR.out) k3)); have K3 := Aside0.mk (show Kh lo r rb f gm _ w3 from ⟨b3 _ HLR.out, fun i o hi hr _ _ _ => (k3.2 i (blk_lt hi) hr (by simp)).trans hi⟩); have HK3 := Aside0.mk (fun j (hj : w3.heap.size ≤ j) => HK.out j (Nat.le_trans K3.out.below.size hj)); clear h3 b3 k3)
      | ((with_reducible refine gate_dst (N := 12) rfl ?_); refine ld (v := .pointer (some ⟨gm, 0, none⟩)) rfl rfl rfl HX3.out Try.underlying85 rfl rfl ?_)
      | (go_at_call 96; (with_reducible refine (cli_c ok lo rb f gm B m _ kind HL.out HL2.out HG.out HB3.out HO.out M3.out HK3.out).mono ?_); rintro e1 w1 ⟨rfl, i1, m1, k1⟩; have H1 := Aside0.mk i1; have M1 := Aside0.mk m1; have K1 := Aside0.mk k1; clear i1 m1 k1))
    go_ret
    exact ⟨rfl, H1.out, M1.out, ⟨K1.out.keep _ _ H3.out.rd HNE.out H3.out.ne HRG.out, H1.out.ft⟩, K3.out.trans (Kh.of_kg K1.out)⟩
def Rp.exA (R : Rp) : Rp := R.allow (!R.l)
def Rp.exK (R : Rp) : Int := R.exA.numV 2
def Rp.exB (R : Rp) : Rp := R.exA.numR 2
def Rp.exT (R : Rp) (seen : List Int) : Bool := R.t || decide (R.exK ∈ seen)
def Rp.exI (R : Rp) (seen : List Int) : Rp := { R.exB.inR 2 with t := R.exT seen }
def Rp.exP (R : Rp) (seen : List Int) : Rp := { R.exB.outR 2 with t := R.exT seen }
section
variable (take : Int → Mv → Rp → Bool × Mv × Rp) (lastf : Int → Bool → Bool)
def exX (R : Rp) (seen : List Int) (m : Mv) : Bool × Mv × Rp := take R.exK m (R.exI seen)
def exQ (R : Rp) (seen : List Int) (m : Mv) : Rp := (R.exP seen).aft (exX take R seen m).2.2 (lastf R.exK R.l)
def exN (R : Rp) (seen : List Int) (m : Mv) : Rp := if (exX take R seen m).1 = true then (exQ take lastf R seen m).back (exX take R seen m).2.2.done else exQ take lastf R seen m
def exO (R : Rp) (seen : List Int) (m : Mv) : List Int := if (exX take R seen m).1 = true then [] else if (exQ take lastf R seen m).c = 0 then [R.exK] else []
def exts : Nat → List Int → Mv → Rp → List Int × Mv × Rp
  | 0, _, m, R => ([], m, R)
  | k + 1, seen, m, R => if R.more = true then (exO take lastf R seen m ++ (exts k (seen ++ [R.exK]) (exX take R seen m).2.1 (exN take lastf R seen m)).1, (exts k (seen ++ [R.exK]) (exX take R seen m).2.1 (exN take lastf R seen m)).2) else ([], m, R)
end
theorem Rp.Ok.exA {R : Rp} (h : R.Ok) : R.exA.Ok := h.allow _
theorem Rp.Ok.exB {R : Rp} (h : R.Ok) : R.exB.Ok := h.exA.numR 2
theorem Rp.Ok.exI {R : Rp} (h : R.Ok) (seen : List Int) : (R.exI seen).Ok := ⟨(h.exB.inR 2).lo, (h.exB.inR 2).hi, (h.exB.inR 2).sz⟩
theorem Rp.Ok.exP {R : Rp} (h : R.Ok) (seen : List Int) : (R.exP seen).Ok := ⟨(h.exB.outR 2).lo, (h.exB.outR 2).hi, (h.exB.outR 2).sz⟩
theorem Rp.Ok.aft {R : Rp} (h : R.Ok) (B : Rp) (l : Bool) : (R.aft B l).Ok := ⟨h.lo, h.hi, h.sz⟩
theorem exN_p (take : Int → Mv → Rp → Bool × Mv × Rp) (lastf : Int → Bool → Bool) (R : Rp) (seen : List Int) (m : Mv) : (exN take lastf R seen m).p = (R.exB.outR 2).p ∧ (exN take lastf R seen m).s = R.s := by
  unfold exN
  split <;> exact ⟨rfl, rfl⟩
theorem Rp.Ok.exN {R : Rp} (h : R.Ok) (take : Int → Mv → Rp → Bool × Mv × Rp) (lastf : Int → Bool → Bool) (seen : List Int) (m : Mv) : (exN take lastf R seen m).Ok := by
  obtain ⟨h1, h2⟩ := exN_p take lastf R seen m
  have h3 := h.exB.outR 2
  exact ⟨by rw [h1]; exact h3.lo, by rw [h1, h2]; exact h3.hi, by rw [h2]; exact h.sz⟩
theorem exN_mu {take : Int → Mv → Rp → Bool × Mv × Rp} {lastf : Int → Bool → Bool} (hst : ∀ (kind : Int) (m : Mv) (B : Rp), B.Ok → (take kind m B).2.2.c = 0 → B.c = 0) {R : Rp} (h : R.Ok) (seen : List Int) (m : Mv) (hm : R.more = true) : (exN take lastf R seen m).mu < R.mu := by
  obtain ⟨h1, h2⟩ := exN_p take lastf R seen m
  refine mu_lt hm h2 h.lo fun hc => ?_
  have hx : (exX take R seen m).2.2.c = 0 := by
    unfold Ms.exN at hc
    split at hc
    · exact (needed_zero hc).1
    · exact hc
  have hi : (R.exI seen).c = 0 := hst _ _ _ (h.exI seen) hx
  have ho : (R.exB.outR 2).c = 0 := hi
  have hv := vecR_c ho h.exB
  have hn := numR_c hv.1 h.exA
  rw [h1]
  have e1 : R.exA.p = R.p := rfl
  have e2 : R.exB.p = R.exA.p + 2 := hn.2
  have e3 : R.exB.p + 2 ≤ (R.exB.outR 2).p := hv.2
  omega
theorem wfk {x : Int} (h0 : 0 ≤ x) (h1 : x < 4294967296) : (Lit.int .i64 x).wf = true := by
  simp [Lit.wf, IntKind.min, IntKind.max, IntKind.signed, IntKind.bits]
  omega
theorem exK_bd (R : Rp) : 0 ≤ R.exK ∧ R.exK < 4294967296 := by
  have h := R.exA.numV_bd 2
  unfold Rp.exK
  omega
end Go.Proofs.Ytlkebjkpmiehcaa.Ms
end
section
namespace Go.Proofs.Ytlkebjkpmiehcaa.Ms
open Go.RowKit Go.Proofs.YtlkebjkpmiehcaaW.PrintWords Go.Proofs.YtlkebjkpmiehcaaW.PrintLast Go.Proofs.YtlkebjkpmiehcaaW.PrintMore Go.Proofs.Ytlkebjkpmiehcaa.X
open Go.Proofs.Ytlkebjkpmiehcaa.Pure (nv numOf vecOf nv_bd nv_bd4 number_any vec_ok)
set_option linter.unusedVariables false
structure Mov (w w1 : World) (ts : List Nat) : Prop where
  cells : ∀ (k : Nat) (cs : Array Value) (t : TypeId), w.heap[k]? = some (.cells cs t (0, 0)) → t ∉ ts → w1.heap[k]? = some (.cells cs t (0, 0))
  maps : ∀ (k : Nat) (es : Array MapEntry) (c : Nat), w.heap[k]? = some (Obj.map es c) → w1.heap[k]? = some (Obj.map es c)
theorem Mov.of_below {w w1 : World} (b : Below w.heap.size w w1) (ts : List Nat) : Mov w w1 ts := ⟨fun k _ _ h _ => (b.block k (blk_lt h)).trans h, fun k _ _ h => (b.block k (blk_lt h)).trans h⟩
theorem Mov.of_kf {lo r f : Nat} {w w1 : World} {R : Rp} (h : RS w r f R) (k : Kf lo r f w w1) : Mov w w1 [92, 90] := ⟨kf_types h k, fun j es c hj => k.keep j _ hj (map_ne hj h.rd) (map_ne hj h.ft)⟩
theorem Mov.of_kh {ok : Nat → Prop} {lo r rb f gm : Nat} {w w1 : World} {R B : Rp} {m : Mv} (h : RS w r f R) (hb : RS w rb f B) (hm : MO ok w gm m) (k : Kh lo r rb f gm w w1) : Mov w w1 [92, 90, 49] := by
  obtain ⟨_, a⟩ := hm
  exact ⟨fun j cs t hj ht => k.keep j _ hj (blk_ne hj h.rd (by intro e; exact ht (by simp [e]))) (blk_ne hj hb.rd (by intro e; exact ht (by simp [e]))) (blk_ne hj h.ft (by intro e; exact ht (by simp [e]))) (blk_ne hj a.box (by intro e; exact ht (by simp [e]))),
    fun j es c hj => k.keep j _ hj (map_ne hj h.rd) (map_ne hj hb.rd) (map_ne hj h.ft) (map_ne hj a.box)⟩
theorem Mov.of_map {w w1 : World} (hm : MapTurn w w1) : ∀ (k : Nat) (cs : Array Value) (t : TypeId), w.heap[k]? = some (.cells cs t (0, 0)) → t ∉ ([] : List Nat) → w1.heap[k]? = some (.cells cs t (0, 0)) := fun k cs t h _ => blk_map h hm
theorem Mov.row {w w1 : World} {ts : List Nat} (a : Mov w w1 ts) {α : Type} {d : Kd α} {e base : Nat} {ok : Nat → Prop} {v : Value} {xs : List α} (h : d.R e w base ok v xs) (ht : ∀ q, q ∈ e :: d.E → q ∉ ts) : d.R e w1 base ok v xs :=
  Kd.R_mono (Kd.R_move (Kd.R_bound h) (fun i hi => by
    obtain ⟨_, _, h3, q, hq, cells, hc⟩ := hi
    rw [hc]
    exact a.cells i _ _ hc (ht q hq))) (fun _ hk => hk.1)
theorem Mov.set {w w1 : World} {ts : List Nat} (a : Mov w w1 ts) {d : Kd Int} {e : TypeId} {base : Nat} {ok : Nat → Prop} {v : Value} {xs : List Int} (h : Kd.Y d e w base ok v xs) : Kd.Y d e w1 base ok v xs := Y_gen h a.maps
theorem MO.map {ok : Nat → Prop} {gm : Nat} {w w1 : World} {m : Mv} (a : MO ok w gm m) (hm : MapTurn w w1) : MO ok w1 gm m := by
  obtain ⟨hd, a⟩ := a
  exact ⟨hd, a.move (blk_map a.box hm) [] (Mov.of_map hm) (by decide) (by decide) (by decide) (by decide)⟩
theorem Rs.map {w w1 : World} {r f : Nat} {s : ByteArray} {p c : Int} {t l : Bool} (h : Rs w r f s p c t l) (hm : MapTurn w w1) : Rs w1 r f s p c t l := ⟨blk_map h.rd hm, blk_map h.ft hm⟩
theorem Kg.over {lo r f g B : Nat} {w W w1 : World} (h : Kg lo r f g w W) (hb : Below B W w1) (hl : lo ≤ B) (hB : w.heap.size ≤ B) : Kg lo r f g w w1 :=
  ⟨h.below.trans (hb.mono hl), fun i o hi hr hf hg => (hb.block i (Nat.lt_of_lt_of_le (blk_lt hi) hB)).trans (h.keep i o hi hr hf hg)⟩
theorem R_lt {α : Type} {d : Kd α} {e base : Nat} {W : World} {ok : Nat → Prop} {v : Value} {xs : List α} (h : d.R e W base ok v xs) : ∀ j, W.heap.size ≤ j → some j ≠ v.ownBlock := by
  intro j hj e
  obtain ⟨inner, ho⟩ := Kd.R_own h
  have := own_lt ho j e.symm
  omega
theorem R_app {α : Type} {d : Kd α} {e base : Nat} {W w1 : World} {u v : Value} {x : Value} {xs : List α} (h : d.R e W base (fun j => some j ≠ u.ownBlock) x xs) (hg : W.grownBy w1 u.ownBlock) (hat : v.ownBlock = u.ownBlock ∨ ∃ b, v.ownBlock = some b ∧ W.heap.size ≤ b) : d.R e w1 base (fun j => some j ≠ v.ownBlock) x xs :=
  Kd.R_mono (Kd.R_grown (Kd.R_bound h) hg (fun k hk => hk.1)) (fun k hk => by
    rcases hat with h1 | ⟨b, h1, h2⟩
    · rw [h1]
      exact hk.1
    · rw [h1]
      intro e
      have := hk.2.2.1
      injection e with e
      omega)
theorem MO.app {gm : Nat} {W w1 : World} {u v : Value} {m : Mv} {base : Nat} {ys : List Int} {ok : Nat → Prop} (a : MO (fun j => some j ≠ u.ownBlock) W gm m) (hu : Kd.R (Kd.int .i64) 3 W base ok u ys) (hg : W.grownBy w1 u.ownBlock) (hat : v.ownBlock = u.ownBlock ∨ ∃ b, v.ownBlock = some b ∧ W.heap.size ≤ b) : MO (fun j => some j ≠ v.ownBlock) w1 gm m := by
  obtain ⟨hd, a⟩ := a
  exact ⟨hd, (hg.block gm (blk_lt a.box) (Kd.R_ne hu a.box (by decide))).trans a.box, R_app a.r3 hg hat, R_app a.r5 hg hat, R_app a.r6 hg hat, R_app a.r7 hg hat, R_app a.r8 hg hat, R_app a.r9 hg hat, R_app a.r10 hg hat, R_app a.r11 hg hat, R_app a.r13 hg hat, R_app a.r14 hg hat⟩
theorem Rs.app {W w1 : World} {r f : Nat} {s : ByteArray} {p c : Int} {t l : Bool} {base : Nat} {u : Value} {ys : List Int} {ok : Nat → Prop} (h : Rs W r f s p c t l) (hu : Kd.R (Kd.int .i64) 3 W base ok u ys) (hg : W.grownBy w1 u.ownBlock) : Rs w1 r f s p c t l :=
  ⟨(hg.block r (blk_lt h.rd) (Kd.R_ne hu h.rd (by decide))).trans h.rd, (hg.block f (blk_lt h.ft) (Kd.R_ne hu h.ft (by decide))).trans h.ft⟩
theorem Y_app {d : Kd Int} {e : TypeId} {W w1 : World} {base b2 : Nat} {ok ok2 : Nat → Prop} {v u : Value} {xs ys : List Int} (h : Kd.Y d e W base ok v xs) (hu : Kd.R (Kd.int .i64) 3 W b2 ok2 u ys) (hg : W.grownBy w1 u.ownBlock) : Kd.Y d e w1 base ok v xs :=
  Y_gen h fun k es c hk => (hg.block k (blk_lt hk) (fun e => by
    obtain ⟨inner, ho⟩ := Kd.R_own hu
    obtain ⟨cells, hc⟩ := own_typed ho k e.symm
    rw [hk] at hc
    cases hc)).trans hk
theorem MO.weaken {ok ok' : Nat → Prop} {w : World} {gm : Nat} {m : Mv} (a : MO ok w gm m) (h : ∀ k, ok k → ok' k) : MO ok' w gm m := by
  obtain ⟨hd, a⟩ := a
  exact ⟨hd, a.box, Kd.R_mono a.r3 h, Kd.R_mono a.r5 h, Kd.R_mono a.r6 h, Kd.R_mono a.r7 h, Kd.R_mono a.r8 h, Kd.R_mono a.r9 h, Kd.R_mono a.r10 h, Kd.R_mono a.r11 h, Kd.R_mono a.r13 h, Kd.R_mono a.r14 h⟩
theorem exK_c (lo r f : Nat) (R : Rp) (w : World) (hl : lo ≤ f) (hl2 : lo ≤ r) (h : RS w r f R.exA) (ho : R.Ok) :
    Calls Try.prog 70 #[.pointer (some ⟨r, 0, none⟩)] w fun ex w' => ex = .returned (.int .i64 R.exK) ∧ RS w' r f R.exB ∧ Kf lo r f w w' := u16_c lo r f R.exA w hl hl2 h ho.exA
theorem not3 : ∀ q, q ∈ 3 :: (Kd.int .i64).E → q ∉ [92, 90] := by intro q hq; rw [List.mem_singleton.1 hq]; decide
theorem not3' : ∀ q, q ∈ 3 :: (Kd.int .i64).E → q ∉ [92, 90, 49] := by intro q hq; rw [List.mem_singleton.1 hq]; decide
theorem not3'' : ∀ q, q ∈ 3 :: (Kd.int .i64).E → q ∉ ([] : List Nat) := by intro q hq; simp
set_option maxRecDepth 100000 in
set_option maxHeartbeats 8000000 in
theorem exts_c (k : Nat) (cap : Array Value) (lo r f gm : Nat) (take : Int → Mv → Rp → Bool × Mv × Rp) (lastf : Int → Bool → Bool) (R : Rp) (m : Mv) (w : World) (hT : TakeC k cap lo r f gm w take lastf) (hl : lo ≤ f) (hl2 : lo ≤ r) (h : RS w r f R) (ho : R.Ok) (hm : MO (fun _ => True) w gm m) :
    Calls Try.prog 67 #[.pointer (some ⟨r, 0, none⟩), .func (.func k) #[] cap] w fun ex w' => ∃ v, ex = .returned v ∧ Kd.R (Kd.int .i64) 3 w' 0 (fun _ => True) v (exts take lastf R.s.size [] m R).1 ∧ MO (fun _ => True) w' gm (exts take lastf R.s.size [] m R).2.1 ∧ RS w' r f (exts take lastf R.s.size [] m R).2.2 ∧ Kg lo r f gm w w' := by
  have H := Aside0.mk h
  have HL := Aside0.mk hl
  have HL2 := Aside0.mk hl2
  have HO := Aside0.mk ho
  have M := Aside0.mk hm
  have HLW := Aside0.mk (h.wsz hl)
  have HT := Aside0.mk hT
  have eg := hT.enters
  obtain ⟨F, hF⟩ : ∃ F, exts take lastf R.s.size [] m R = F := ⟨_, rfl⟩
  rw [hF]
  have HF := Aside0.mk hF
  clear h hl hl2 ho hm hT hF
  go_enter Try.func67, Try.ntmps67
  go_wp2_with ((with_reducible refine gate_dst (N := 9) rfl ?_); refine Kd.Y_make (Kd.int .i64) 3 rfl (N := 9) rfl 68 rfl (ok := fun _ => True) trivial ?_; intro vm w0 ho0 hb0; have Y0 := Aside0.mk ho0; have H0 := Aside0.mk (show RS w0 r f R from H.out.below hb0); have M0 := Aside0.mk (M.out.below hb0); have K0 := Aside0.mk ((Kg.of_kf (g := gm) (Kf.refl lo r f w)).over hb0 HLW.out (Nat.le_refl _)); clear ho0 hb0)
  go_loopg [6] R.s.size (fun gk v wr => ∃ (xs : List Int) (m' : Mv) (R' : Rp) (seen : List Int), Aside0 (RS wr r f R') ∧ Aside0 R'.Ok ∧ Aside0 (MO (fun j => some j ≠ v.ownBlock) wr gm m') ∧ Aside0 (Kd.R (Kd.int .i64) 3 wr w.heap.size (fun _ => True) v xs) ∧ Aside0 (Kd.Y (Kd.int .i64) 3 wr w.heap.size (fun _ => True) vm seen) ∧ Aside0 (Kg lo r f gm w wr) ∧ Aside0 (R'.mu ≤ gk ∧ seen.length + R'.mu ≤ 65536 ∧ xs.length + R'.mu ≤ 65536) ∧ Aside0 (xs ++ (exts take lastf gk seen m' R').1 = F.1 ∧ (exts take lastf gk seen m' R').2 = F.2))
  case atStart => exact ⟨[], m, R, [], H0, HO, ⟨M0.out.weaken (fun _ _ e => by simp [Value.ownBlock] at e)⟩, ⟨Kd.R_nil _ _ _ _ _⟩, Y0, K0, ⟨mu_le R, by have := mu_le R; have := HO.out.sz; simp only [List.length_nil]; omega⟩, ⟨by rw [HF.out]; rfl, by rw [HF.out]⟩⟩
  case round =>
  obtain ⟨xs, m', R', seen, Hi, Oi, Mi, Ri, Yi, Ki, Bi, Ei⟩ := hrel
  have HLi := Aside0.mk (show lo ≤ wr.heap.size from Nat.le_trans HLW.out Ki.out.below.size)
  have HBi := Aside0.mk (show w.heap.size ≤ wr.heap.size from Ki.out.below.size)
  have HWF := Aside0.mk (wfk (exK_bd R').1 (exK_bd R').2)
  by_cases hm : R'.more = true
  · have HMo := Aside0.mk hm
    obtain ⟨gk', hgk⟩ : ∃ g, gk = g + 1 := ⟨gk - 1, by have := mu_pos Oi.out.lo hm; have := Bi.out.1; omega⟩
    subst hgk
    have E3 := Aside0.mk (show xs ++ (exO take lastf R' seen m' ++ (exts take lastf gk' (seen ++ [R'.exK]) (exX take R' seen m').2.1 (exN take lastf R' seen m')).1) = F.1 ∧ (exts take lastf gk' (seen ++ [R'.exK]) (exX take R' seen m').2.1 (exN take lastf R' seen m')).2 = F.2 from by
      have := Ei.out
      unfold exts at this
      rw [if_pos HMo.out] at this
      exact this)
    have B3 := Aside0.mk (show (exN take lastf R' seen m').mu ≤ gk' ∧ (seen ++ [R'.exK]).length + (exN take lastf R' seen m').mu ≤ 65536 ∧ xs.length + 1 + (exN take lastf R' seen m').mu ≤ 65536 from by
      have h1 := exN_mu HT.out.st Oi.out seen m' hm (lastf := lastf)
      have h2 := Bi.out
      rw [List.length_append, List.length_singleton]
      omega)
    have O3 := Aside0.mk (Oi.out.exN take lastf seen m')
    by_cases ht : R'.t = true
    · skip
      have HTT := Aside0.mk ht
      by_cases hx : (exX take R' seen m').1 = true
      · have HX := Aside0.mk hx
        unfold exX at hx
        go_wp2_with (first
            | (go_at_call 99; (with_reducible refine (more_c r f R' _ Hi.out).mono ?_); rintro e1 w1 ⟨rfl, b1⟩; have V_ := Mov.of_below b1 []; have H1 := Aside0.mk (show RS w1 r f R' from Hi.out.below b1); have M1 := Aside0.mk (Mi.out.below b1); have R1 := Aside0.mk (V_.row Ri.out not3''); have Y1 := Aside0.mk (V_.set Yi.out); have K1 := Aside0.mk (Ki.out.over (b1.mono HBi.out) HLW.out (Nat.le_refl _)); clear b1 V_)
            | ((with_reducible refine gate_dst (N := 16) rfl ?_); refine ld (v := .bool R'.l) rfl rfl rfl H1.out.rd Try.underlying4 rfl rfl ?_)
            | (go_at_call 76; (with_reducible refine (allow_c lo r f R' _ (!R'.l) HL.out H1.out).mono ?_); rintro e2 w2 ⟨rfl, i2, k2⟩; have V2_ := Mov.of_kf H1.out k2; have M2 := Aside0.mk (M1.out.kf H1.out k2); have R2 := Aside0.mk (V2_.row R1.out not3); have Y2 := Aside0.mk (V2_.set Y1.out); clear V2_; have H2 := Aside0.mk (show RS w2 r f R'.exA from i2); have K2 := Aside0.mk (K1.out.trans (Kg.of_kf k2)); clear i2 k2)
            | (go_at_call 70; (with_reducible refine (exK_c lo r f R' _ HL.out HL2.out H2.out Oi.out).mono ?_); rintro e3 w3 ⟨rfl, i3, k3⟩; have V3_ := Mov.of_kf H2.out k3; have M3 := Aside0.mk (M2.out.kf H2.out k3); have R3 := Aside0.mk (V3_.row R2.out not3); have Y3 := Aside0.mk (V3_.set Y2.out); clear V3_; have H3 := Aside0.mk i3; have K3 := Aside0.mk (K2.out.trans (Kg.of_kf k3)); clear i3 k3)
            | (go_at_call 66; (with_reducible refine (rwithin_c lo r f R'.exB _ 2 2 rfl (by omega) (by omega) HL.out HL2.out H3.out Oi.out.exB).mono ?_); rintro e4 w4 ⟨r2, rfl, n4, i4, j4, k4⟩; have V4_ := Mov.of_kf H3.out k4; have M4 := Aside0.mk (M3.out.kf H3.out k4); have R4 := Aside0.mk (V4_.row R3.out not3); have Y4 := Aside0.mk (V4_.set Y3.out); clear V4_; have HN := Aside0.mk (Nat.le_trans K3.out.below.size n4); have H4 := Aside0.mk i4; have I4 := Aside0.mk j4; have K4 := Aside0.mk (K3.out.trans (Kg.of_kf k4)); have HNE := Aside0.mk (show r ≠ r2 from by have := H3.out.sz; omega); have HL3 := Aside0.mk (show lo ≤ r2 from Nat.le_trans (H3.out.wsz HL.out) n4); clear n4 i4 j4 k4))
        refine start_ (n := 19) (S := fun w' => Below w4.heap.size w4 w') (ds := [18]) #[false, false, false, false, false, false, false, false, false, false, false, false, false, false, false, false, false, false, false] (by kernel_rfl) rfl rfl (Below.refl w4.heap.size w4).drew (fun hHeld => ?_)
        have HS := Aside0.mk (Below.refl w4.heap.size w4).drew
        generalize w4.drew = w5 at HS hHeld ⊢
        refine pure_ (i := 0) (N := (some 23)) (v := ?_) (a' := ?_) #[true, false, false, false, false, false, false, false, false, false, false, false, false, false, false, false, false, false, false] rfl rfl (by kernel_rfl) (fun _ _ _ h => h) (Or.inl ⟨by rfl, ?_⟩) ?_ ?_
        rotate_left
        · intro w'
          go_simp
          with_reducible rfl
        rotate_left
        · simp only [Act.put, List.setIfInBounds_toArray, List.set_cons_zero, List.set_cons_succ]
          rfl
        refine pure_ (i := 1) (N := (some 24)) (v := ?_) (a' := ?_) #[true, true, false, false, false, false, false, false, false, false, false, false, false, false, false, false, false, false, false] rfl rfl (by kernel_rfl) (fun _ _ _ h => h) (Or.inl ⟨by rfl, ?_⟩) ?_ ?_
        rotate_left
        · intro w'
          go_simp
          with_reducible rfl
        rotate_left
        · simp only [Act.put, List.setIfInBounds_toArray, List.set_cons_zero, List.set_cons_succ]
          rfl
        refine pure_ (i := 2) (N := (some 25)) (v := ?_) (a' := ?_) #[true, true, true, false, false, false, false, false, false, false, false, false, false, false, false, false, false, false, false] rfl rfl (by kernel_rfl) (fun _ _ _ h => h) (Or.inl ⟨by rfl, ?_⟩) ?_ ?_
        rotate_left
        · intro w'
          go_simp
          with_reducible rfl
        rotate_left
        · simp only [Act.put, List.setIfInBounds_toArray, List.set_cons_zero, List.set_cons_succ]
          rfl
        refine take_ (i := 3) (N := (some 26)) (v := ?_) (a' := ?_) #[true, true, true, true, false, false, false, false, false, false, false, false, false, false, false, false, false, false, false] rfl rfl (by kernel_rfl) (fun _ _ _ h => h) (Or.inl ⟨by rfl, ?_⟩) hHeld ?_ ?_
        rotate_left
        · rintro w' hS
          have hq := rcell H4.out.rd hS
          obtain ⟨hc1, hc2, hc3⟩ := hq
          go_simp
          with_reducible rfl
        rotate_left
        · simp only [Act.put, List.setIfInBounds_toArray, List.set_cons_zero, List.set_cons_succ]
          rfl
        refine pure_ (i := 4) (N := (some 27)) (v := ?_) (a' := ?_) #[true, true, true, true, true, false, false, false, false, false, false, false, false, false, false, false, false, false, false] rfl rfl (by kernel_rfl) (fun _ _ _ h => h) (Or.inl ⟨by rfl, ?_⟩) ?_ ?_
        rotate_left
        · intro w'
          go_simp
          with_reducible rfl
        rotate_left
        · simp only [Act.put, List.setIfInBounds_toArray, List.set_cons_zero, List.set_cons_succ]
          rfl
        refine pure_ (i := 5) (N := (some 28)) (v := ?_) (a' := ?_) #[true, true, true, true, true, true, false, false, false, false, false, false, false, false, false, false, false, false, false] rfl rfl (by kernel_rfl) (fun _ _ _ h => h) (Or.inl ⟨by rfl, ?_⟩) ?_ ?_
        rotate_left
        · intro w'
          go_simp
          with_reducible rfl
        rotate_left
        · simp only [Act.put, List.setIfInBounds_toArray, List.set_cons_zero, List.set_cons_succ]
          rfl
        refine pure_ (i := 6) (N := (some 29)) (v := ?_) (a' := ?_) #[true, true, true, true, true, true, true, false, false, false, false, false, false, false, false, false, false, false, false] rfl rfl (by kernel_rfl) (fun _ _ _ h => h) (Or.inl ⟨by rfl, ?_⟩) ?_ ?_
        rotate_left
        · intro w'
          go_simp
          with_reducible rfl
        rotate_left
        · simp only [Act.put, List.setIfInBounds_toArray, List.set_cons_zero, List.set_cons_succ]
          rfl
        refine take_ (i := 7) (N := (some 30)) (v := ?_) (a' := ?_) #[true, true, true, true, true, true, true, true, false, false, false, false, false, false, false, false, false, false, false] rfl rfl (by kernel_rfl) (fun _ _ _ h => h) (Or.inl ⟨by rfl, ?_⟩) hHeld ?_ ?_
        rotate_left
        · rintro w' hS
          have hq := rcell H4.out.rd hS
          obtain ⟨hc1, hc2, hc3⟩ := hq
          go_simp
          with_reducible rfl
        rotate_left
        · simp only [Act.put, List.setIfInBounds_toArray, List.set_cons_zero, List.set_cons_succ]
          rfl
        refine pure_ (i := 8) (N := (some 31)) (v := ?_) (a' := ?_) #[true, true, true, true, true, true, true, true, true, false, false, false, false, false, false, false, false, false, false] rfl rfl (by kernel_rfl) (fun _ _ _ h => h) (Or.inl ⟨by rfl, ?_⟩) ?_ ?_
        rotate_left
        · intro w'
          go_simp
          with_reducible rfl
        rotate_left
        · simp only [Act.put, List.setIfInBounds_toArray, List.set_cons_zero, List.set_cons_succ]
          rfl
        refine pure_ (i := 9) (N := (some 32)) (v := ?_) (a' := ?_) #[true, true, true, true, true, true, true, true, true, true, false, false, false, false, false, false, false, false, false] rfl rfl (by kernel_rfl) (fun _ _ _ h => h) (Or.inl ⟨by rfl, ?_⟩) ?_ ?_
        rotate_left
        · intro w'
          go_simp
          with_reducible rfl
        rotate_left
        · simp only [Act.put, List.setIfInBounds_toArray, List.set_cons_zero, List.set_cons_succ]
          rfl
        refine take_ (i := 10) (N := (some 33)) (v := ?_) (a' := ?_) #[true, true, true, true, true, true, true, true, true, true, true, false, false, false, false, false, false, false, false] rfl rfl (by kernel_rfl) (fun _ _ _ h => h) (Or.inl ⟨by rfl, ?_⟩) hHeld ?_ ?_
        rotate_left
        · rintro w' hS
          have hc4 : w'.cell? ⟨f, 1, none⟩ = some (.bool R'.t) := (blk_cell ((hS.block f (blk_lt H4.out.ft)).trans H4.out.ft) 1).trans rfl
          go_simp
          with_reducible rfl
        rotate_left
        · simp only [Act.put, List.setIfInBounds_toArray, List.set_cons_zero, List.set_cons_succ]
          rfl
        refine pure_ (i := 11) (N := (some 34)) (v := ?_) (a' := ?_) #[true, true, true, true, true, true, true, true, true, true, true, true, false, false, false, false, false, false, false] rfl rfl (by kernel_rfl) (fun _ _ _ h => h) (Or.inl ⟨by rfl, ?_⟩) ?_ ?_
        rotate_left
        · intro w'
          go_simp
          with_reducible rfl
        rotate_left
        · simp only [Act.put, List.setIfInBounds_toArray, List.set_cons_zero, List.set_cons_succ]
          rfl
        refine pure_ (i := 12) (N := (some 35)) (v := undef) (a' := ?_) #[true, true, true, true, true, true, true, true, true, true, true, true, true, false, false, false, false, false, false] rfl rfl (by kernel_rfl) (fun _ _ _ h => h) (Or.inr ⟨by rfl, by rfl⟩) ?_ ?_
        rotate_left
        · simp only [Act.put, List.setIfInBounds_toArray, List.set_cons_zero, List.set_cons_succ]
          rfl
        refine pure_ (i := 13) (N := (some 36)) (v := undef) (a' := ?_) #[true, true, true, true, true, true, true, true, true, true, true, true, true, true, false, false, false, false, false] rfl rfl (by kernel_rfl) (fun _ _ _ h => h) (Or.inr ⟨by rfl, by rfl⟩) ?_ ?_
        rotate_left
        · simp only [Act.put, List.setIfInBounds_toArray, List.set_cons_zero, List.set_cons_succ]
          rfl
        refine pure_ (i := 14) (N := (some 37)) (v := undef) (a' := ?_) #[true, true, true, true, true, true, true, true, true, true, true, true, true, true, true, false, false, false, false] rfl rfl (by kernel_rfl) (fun _ _ _ h => h) (Or.inr ⟨by rfl, by rfl⟩) ?_ ?_
        rotate_left
        · simp only [Act.put, List.setIfInBounds_toArray, List.set_cons_zero, List.set_cons_succ]
          rfl
        refine pure_ (i := 15) (N := (some 38)) (v := ?_) (a' := ?_) #[true, true, true, true, true, true, true, true, true, true, true, true, true, true, true, true, false, false, false] rfl rfl (by kernel_rfl) (fun _ _ _ h => h) (Or.inl ⟨by rfl, ?_⟩) ?_ ?_
        rotate_left
        · intro w'
          go_simp
          with_reducible rfl
        rotate_left
        · simp only [Act.put, List.setIfInBounds_toArray, List.set_cons_zero, List.set_cons_succ]
          rfl
        refine pure_ (i := 16) (N := (some 39)) (v := ?_) (a' := ?_) #[true, true, true, true, true, true, true, true, true, true, true, true, true, true, true, true, true, false, false] rfl rfl (by kernel_rfl) (fun _ _ _ h => h) (Or.inl ⟨by rfl, ?_⟩) ?_ ?_
        rotate_left
        · intro w'
          go_simp
          with_reducible rfl
        rotate_left
        · simp only [Act.put, List.setIfInBounds_toArray, List.set_cons_zero, List.set_cons_succ]
          rfl
        refine pure_ (i := 17) (N := (some 40)) (v := ?_) (a' := ?_) #[true, true, true, true, true, true, true, true, true, true, true, true, true, true, true, true, true, true, false] rfl rfl (by kernel_rfl) (fun _ _ _ h => h) (Or.inl ⟨by rfl, ?_⟩) ?_ ?_
        rotate_left
        · intro w'
          go_simp
          with_reducible rfl
        rotate_left
        · simp only [Act.put, List.setIfInBounds_toArray, List.set_cons_zero, List.set_cons_succ]
          rfl
        refine last_ (i := 18) (N := none) #[true, true, true, true, true, true, true, true, true, true, true, true, true, true, true, true, true, true, true] rfl rfl (by kernel_rfl) (by decide) (fun K hK => ?_)
        refine stM (v := .bool true) (by rfl) rfl rfl rfl (H4.out.below HS.out).ft sz4 rfl rfl rfl (by simp) ?_
        intro w7 h7 b7 k7
        have kf7 := (Kf.of_below (r := r) (f := f) (H4.out.wsz HL.out) HS.out).trans (Kf.of_keep (r := r) (.inr rfl) (b7 _ HL.out) k7)
        have HT7 : R'.exT seen = true := by unfold Rp.exT; rw [ht]; rfl
        have H7 := Aside0.mk (show RS w7 r f (R'.exP seen) from ⟨(k7.2 r (blk_lt (H4.out.below HS.out).rd) H4.out.ne (by simp)).trans (H4.out.below HS.out).rd, by show w7.heap[f]? = some (.cells #[.int .i64 (R'.exB.outR 2).c, .bool (R'.exT seen)] 90 (0, 0)); rw [HT7]; exact h7⟩)
        have I7 := Aside0.mk (show RS w7 r2 f (R'.exI seen) from ⟨(k7.2 r2 (blk_lt (I4.out.below HS.out).rd) I4.out.ne (by simp)).trans (I4.out.below HS.out).rd, H7.out.ft⟩)
        have V7 := Mov.of_kf H4.out kf7
        have M7 := Aside0.mk (M4.out.kf H4.out kf7)
        have R7 := Aside0.mk (V7.row R4.out not3)
        have Y7 := Aside0.mk (V7.set Y4.out)
        have K7 := Aside0.mk (K4.out.trans (Kg.of_kf kf7))
        clear h7 b7 k7 kf7 HT7 V7
        refine hK.out _ _ ?_
        clear hK K
        refine done_ (by kernel_rfl) ?_
        go_wp2_with (first
            | (at_mapUpdate; refine Kd.Y_put (Kd.int .i64) (w0 := w7) w.heap.size 3 rfl 68 _ _ _ rfl Try.underlying68 Try.underlying3 Try.underlying4 vm seen R'.exK (ok := fun _ => True) rfl rfl rfl HWF.out (by have := Bi.out.2.1; simp only [maxLen]; omega) Y7.out (Below.refl _ _) K7.out.below.size ?_; intro w8 ho8 hb8 hm8; have M8 := Aside0.mk (M7.out.map hm8); have R8 := Aside0.mk (Kd.R_map R7.out hm8); have Y8 := Aside0.mk ho8; have H8 := Aside0.mk (show RS w8 r f (R'.exP seen) from H7.out.map hm8); have I8 := Aside0.mk (show RS w8 r2 f (R'.exI seen) from I7.out.map hm8); have K8 := Aside0.mk (K7.out.over hb8 HLW.out (Nat.le_refl _)); clear ho8 hb8 hm8)
            | ((refine (HT.out.calls (fun j => some j ≠ u6.ownBlock) R'.exK m' (R'.exP seen) (R'.exI seen) r2 _ K8.out HN.out H8.out I8.out (Oi.out.exI seen) M8.out (R_lt R8.out)).mono ?_); rintro e9 w9 ⟨rfl, i9, m9, j9, k9⟩; have V_ := Mov.of_kh H8.out I8.out M8.out k9; have M9 := Aside0.mk m9; have R9 := Aside0.mk (V_.row R8.out not3'); have Y9 := Aside0.mk (V_.set Y8.out); have I9 := Aside0.mk i9; have H9 := Aside0.mk (show RS w9 r f (exQ take lastf R' seen m') from j9); have K9 := Aside0.mk (Kh.inner K8.out HN.out k9); clear i9 m9 j9 k9 V_)
            | (go_at_call 77; (with_reducible refine (done_c lo r2 f (exX take R' seen m').2.2 _ HL.out I9.out).mono ?_); rintro e10 w10 ⟨rfl, i10, k10⟩; have V10_ := Mov.of_kf I9.out k10; have M10 := Aside0.mk (M9.out.kf I9.out k10); have R10 := Aside0.mk (V10_.row R9.out not3); have Y10 := Aside0.mk (V10_.set Y9.out); clear V10_; have H10 := Aside0.mk (show RS w10 r f ((exQ take lastf R' seen m').back (exX take R' seen m').2.2.done) from H9.out.back (I := R') HNE.out k10 i10); have K10 := Aside0.mk (Kg.inner K9.out HN.out (Kg.of_kf k10)); clear i10 k10))
        go_roundg gk'
        case rel => exact ⟨xs, (exX take R' seen m').2.1, exN take lastf R' seen m', seen ++ [R'.exK], ⟨by unfold exN; rw [if_pos HX.out]; exact H10.out⟩, O3, M10, R10, Y10, K10, ⟨B3.out.1, B3.out.2.1, by have := B3.out.2.2; omega⟩, ⟨by rw [← E3.out.1]; unfold exO; rw [if_pos HX.out]; simp, E3.out.2⟩⟩
        case measure => omega
      · replace hx : (exX take R' seen m').1 = false := by simpa using hx
        have HX := Aside0.mk hx
        by_cases hc : (exQ take lastf R' seen m').c = 0
        · have hc' : ((exQ take lastf R' seen m').c == 0) = true := beq_iff_eq.mpr hc
          have HC := Aside0.mk hc
          clear hc
          unfold exX at hx
          go_wp2_with (first
              | (go_at_call 99; (with_reducible refine (more_c r f R' _ Hi.out).mono ?_); rintro e1 w1 ⟨rfl, b1⟩; have V_ := Mov.of_below b1 []; have H1 := Aside0.mk (show RS w1 r f R' from Hi.out.below b1); have M1 := Aside0.mk (Mi.out.below b1); have R1 := Aside0.mk (V_.row Ri.out not3''); have Y1 := Aside0.mk (V_.set Yi.out); have K1 := Aside0.mk (Ki.out.over (b1.mono HBi.out) HLW.out (Nat.le_refl _)); clear b1 V_)
              | ((with_reducible refine gate_dst (N := 16) rfl ?_); refine ld (v := .bool R'.l) rfl rfl rfl H1.out.rd Try.underlying4 rfl rfl ?_)
              | (go_at_call 76; (with_reducible refine (allow_c lo r f R' _ (!R'.l) HL.out H1.out).mono ?_); rintro e2 w2 ⟨rfl, i2, k2⟩; have V2_ := Mov.of_kf H1.out k2; have M2 := Aside0.mk (M1.out.kf H1.out k2); have R2 := Aside0.mk (V2_.row R1.out not3); have Y2 := Aside0.mk (V2_.set Y1.out); clear V2_; have H2 := Aside0.mk (show RS w2 r f R'.exA from i2); have K2 := Aside0.mk (K1.out.trans (Kg.of_kf k2)); clear i2 k2)
              | (go_at_call 70; (with_reducible refine (exK_c lo r f R' _ HL.out HL2.out H2.out Oi.out).mono ?_); rintro e3 w3 ⟨rfl, i3, k3⟩; have V3_ := Mov.of_kf H2.out k3; have M3 := Aside0.mk (M2.out.kf H2.out k3); have R3 := Aside0.mk (V3_.row R2.out not3); have Y3 := Aside0.mk (V3_.set Y2.out); clear V3_; have H3 := Aside0.mk i3; have K3 := Aside0.mk (K2.out.trans (Kg.of_kf k3)); clear i3 k3)
              | (go_at_call 66; (with_reducible refine (rwithin_c lo r f R'.exB _ 2 2 rfl (by omega) (by omega) HL.out HL2.out H3.out Oi.out.exB).mono ?_); rintro e4 w4 ⟨r2, rfl, n4, i4, j4, k4⟩; have V4_ := Mov.of_kf H3.out k4; have M4 := Aside0.mk (M3.out.kf H3.out k4); have R4 := Aside0.mk (V4_.row R3.out not3); have Y4 := Aside0.mk (V4_.set Y3.out); clear V4_; have HN := Aside0.mk (Nat.le_trans K3.out.below.size n4); have H4 := Aside0.mk i4; have I4 := Aside0.mk j4; have K4 := Aside0.mk (K3.out.trans (Kg.of_kf k4)); have HNE := Aside0.mk (show r ≠ r2 from by have := H3.out.sz; omega); have HL3 := Aside0.mk (show lo ≤ r2 from Nat.le_trans (H3.out.wsz HL.out) n4); clear n4 i4 j4 k4))
          refine start_ (n := 19) (S := fun w' => Below w4.heap.size w4 w') (ds := [18]) #[false, false, false, false, false, false, false, false, false, false, false, false, false, false, false, false, false, false, false] (by kernel_rfl) rfl rfl (Below.refl w4.heap.size w4).drew (fun hHeld => ?_)
          have HS := Aside0.mk (Below.refl w4.heap.size w4).drew
          generalize w4.drew = w5 at HS hHeld ⊢
          refine pure_ (i := 0) (N := (some 23)) (v := ?_) (a' := ?_) #[true, false, false, false, false, false, false, false, false, false, false, false, false, false, false, false, false, false, false] rfl rfl (by kernel_rfl) (fun _ _ _ h => h) (Or.inl ⟨by rfl, ?_⟩) ?_ ?_
          rotate_left
          · intro w'
            go_simp
            with_reducible rfl
          rotate_left
          · simp only [Act.put, List.setIfInBounds_toArray, List.set_cons_zero, List.set_cons_succ]
            rfl
          refine pure_ (i := 1) (N := (some 24)) (v := ?_) (a' := ?_) #[true, true, false, false, false, false, false, false, false, false, false, false, false, false, false, false, false, false, false] rfl rfl (by kernel_rfl) (fun _ _ _ h => h) (Or.inl ⟨by rfl, ?_⟩) ?_ ?_
          rotate_left
          · intro w'
            go_simp
            with_reducible rfl
          rotate_left
          · simp only [Act.put, List.setIfInBounds_toArray, List.set_cons_zero, List.set_cons_succ]
            rfl
          refine pure_ (i := 2) (N := (some 25)) (v := ?_) (a' := ?_) #[true, true, true, false, false, false, false, false, false, false, false, false, false, false, false, false, false, false, false] rfl rfl (by kernel_rfl) (fun _ _ _ h => h) (Or.inl ⟨by rfl, ?_⟩) ?_ ?_
          rotate_left
          · intro w'
            go_simp
            with_reducible rfl
          rotate_left
          · simp only [Act.put, List.setIfInBounds_toArray, List.set_cons_zero, List.set_cons_succ]
            rfl
          refine take_ (i := 3) (N := (some 26)) (v := ?_) (a' := ?_) #[true, true, true, true, false, false, false, false, false, false, false, false, false, false, false, false, false, false, false] rfl rfl (by kernel_rfl) (fun _ _ _ h => h) (Or.inl ⟨by rfl, ?_⟩) hHeld ?_ ?_
          rotate_left
          · rintro w' hS
            have hq := rcell H4.out.rd hS
            obtain ⟨hc1, hc2, hc3⟩ := hq
            go_simp
            with_reducible rfl
          rotate_left
          · simp only [Act.put, List.setIfInBounds_toArray, List.set_cons_zero, List.set_cons_succ]
            rfl
          refine pure_ (i := 4) (N := (some 27)) (v := ?_) (a' := ?_) #[true, true, true, true, true, false, false, false, false, false, false, false, false, false, false, false, false, false, false] rfl rfl (by kernel_rfl) (fun _ _ _ h => h) (Or.inl ⟨by rfl, ?_⟩) ?_ ?_
          rotate_left
          · intro w'
            go_simp
            with_reducible rfl
          rotate_left
          · simp only [Act.put, List.setIfInBounds_toArray, List.set_cons_zero, List.set_cons_succ]
            rfl
          refine pure_ (i := 5) (N := (some 28)) (v := ?_) (a' := ?_) #[true, true, true, true, true, true, false, false, false, false, false, false, false, false, false, false, false, false, false] rfl rfl (by kernel_rfl) (fun _ _ _ h => h) (Or.inl ⟨by rfl, ?_⟩) ?_ ?_
          rotate_left
          · intro w'
            go_simp
            with_reducible rfl
          rotate_left
          · simp only [Act.put, List.setIfInBounds_toArray, List.set_cons_zero, List.set_cons_succ]
            rfl
          refine pure_ (i := 6) (N := (some 29)) (v := ?_) (a' := ?_) #[true, true, true, true, true, true, true, false, false, false, false, false, false, false, false, false, false, false, false] rfl rfl (by kernel_rfl) (fun _ _ _ h => h) (Or.inl ⟨by rfl, ?_⟩) ?_ ?_
          rotate_left
          · intro w'
            go_simp
            with_reducible rfl
          rotate_left
          · simp only [Act.put, List.setIfInBounds_toArray, List.set_cons_zero, List.set_cons_succ]
            rfl
          refine take_ (i := 7) (N := (some 30)) (v := ?_) (a' := ?_) #[true, true, true, true, true, true, true, true, false, false, false, false, false, false, false, false, false, false, false] rfl rfl (by kernel_rfl) (fun _ _ _ h => h) (Or.inl ⟨by rfl, ?_⟩) hHeld ?_ ?_
          rotate_left
          · rintro w' hS
            have hq := rcell H4.out.rd hS
            obtain ⟨hc1, hc2, hc3⟩ := hq
            go_simp
            with_reducible rfl
          rotate_left
          · simp only [Act.put, List.setIfInBounds_toArray, List.set_cons_zero, List.set_cons_succ]
            rfl
          refine pure_ (i := 8) (N := (some 31)) (v := ?_) (a' := ?_) #[true, true, true, true, true, true, true, true, true, false, false, false, false, false, false, false, false, false, false] rfl rfl (by kernel_rfl) (fun _ _ _ h => h) (Or.inl ⟨by rfl, ?_⟩) ?_ ?_
          rotate_left
          · intro w'
            go_simp
            with_reducible rfl
          rotate_left
          · simp only [Act.put, List.setIfInBounds_toArray, List.set_cons_zero, List.set_cons_succ]
            rfl
          refine pure_ (i := 9) (N := (some 32)) (v := ?_) (a' := ?_) #[true, true, true, true, true, true, true, true, true, true, false, false, false, false, false, false, false, false, false] rfl rfl (by kernel_rfl) (fun _ _ _ h => h) (Or.inl ⟨by rfl, ?_⟩) ?_ ?_
          rotate_left
          · intro w'
            go_simp
            with_reducible rfl
          rotate_left
          · simp only [Act.put, List.setIfInBounds_toArray, List.set_cons_zero, List.set_cons_succ]
            rfl
          refine take_ (i := 10) (N := (some 33)) (v := ?_) (a' := ?_) #[true, true, true, true, true, true, true, true, true, true, true, false, false, false, false, false, false, false, false] rfl rfl (by kernel_rfl) (fun _ _ _ h => h) (Or.inl ⟨by rfl, ?_⟩) hHeld ?_ ?_
          rotate_left
          · rintro w' hS
            have hc4 : w'.cell? ⟨f, 1, none⟩ = some (.bool R'.t) := (blk_cell ((hS.block f (blk_lt H4.out.ft)).trans H4.out.ft) 1).trans rfl
            go_simp
            with_reducible rfl
          rotate_left
          · simp only [Act.put, List.setIfInBounds_toArray, List.set_cons_zero, List.set_cons_succ]
            rfl
          refine pure_ (i := 11) (N := (some 34)) (v := ?_) (a' := ?_) #[true, true, true, true, true, true, true, true, true, true, true, true, false, false, false, false, false, false, false] rfl rfl (by kernel_rfl) (fun _ _ _ h => h) (Or.inl ⟨by rfl, ?_⟩) ?_ ?_
          rotate_left
          · intro w'
            go_simp
            with_reducible rfl
          rotate_left
          · simp only [Act.put, List.setIfInBounds_toArray, List.set_cons_zero, List.set_cons_succ]
            rfl
          refine pure_ (i := 12) (N := (some 35)) (v := undef) (a' := ?_) #[true, true, true, true, true, true, true, true, true, true, true, true, true, false, false, false, false, false, false] rfl rfl (by kernel_rfl) (fun _ _ _ h => h) (Or.inr ⟨by rfl, by rfl⟩) ?_ ?_
          rotate_left
          · simp only [Act.put, List.setIfInBounds_toArray, List.set_cons_zero, List.set_cons_succ]
            rfl
          refine pure_ (i := 13) (N := (some 36)) (v := undef) (a' := ?_) #[true, true, true, true, true, true, true, true, true, true, true, true, true, true, false, false, false, false, false] rfl rfl (by kernel_rfl) (fun _ _ _ h => h) (Or.inr ⟨by rfl, by rfl⟩) ?_ ?_
          rotate_left
          · simp only [Act.put, List.setIfInBounds_toArray, List.set_cons_zero, List.set_cons_succ]
            rfl
          refine pure_ (i := 14) (N := (some 37)) (v := undef) (a' := ?_) #[true, true, true, true, true, true, true, true, true, true, true, true, true, true, true, false, false, false, false] rfl rfl (by kernel_rfl) (fun _ _ _ h => h) (Or.inr ⟨by rfl, by rfl⟩) ?_ ?_
          rotate_left
          · simp only [Act.put, List.setIfInBounds_toArray, List.set_cons_zero, List.set_cons_succ]
            rfl
          refine pure_ (i := 15) (N := (some 38)) (v := ?_) (a' := ?_) #[true, true, true, true, true, true, true, true, true, true, true, true, true, true, true, true, false, false, false] rfl rfl (by kernel_rfl) (fun _ _ _ h => h) (Or.inl ⟨by rfl, ?_⟩) ?_ ?_
          rotate_left
          · intro w'
            go_simp
            with_reducible rfl
          rotate_left
          · simp only [Act.put, List.setIfInBounds_toArray, List.set_cons_zero, List.set_cons_succ]
            rfl
          refine pure_ (i := 16) (N := (some 39)) (v := ?_) (a' := ?_) #[true, true, true, true, true, true, true, true, true, true, true, true, true, true, true, true, true, false, false] rfl rfl (by kernel_rfl) (fun _ _ _ h => h) (Or.inl ⟨by rfl, ?_⟩) ?_ ?_
          rotate_left
          · intro w'
            go_simp
            with_reducible rfl
          rotate_left
          · simp only [Act.put, List.setIfInBounds_toArray, List.set_cons_zero, List.set_cons_succ]
            rfl
          refine pure_ (i := 17) (N := (some 40)) (v := ?_) (a' := ?_) #[true, true, true, true, true, true, true, true, true, true, true, true, true, true, true, true, true, true, false] rfl rfl (by kernel_rfl) (fun _ _ _ h => h) (Or.inl ⟨by rfl, ?_⟩) ?_ ?_
          rotate_left
          · intro w'
            go_simp
            with_reducible rfl
          rotate_left
          · simp only [Act.put, List.setIfInBounds_toArray, List.set_cons_zero, List.set_cons_succ]
            rfl
          refine last_ (i := 18) (N := none) #[true, true, true, true, true, true, true, true, true, true, true, true, true, true, true, true, true, true, true] rfl rfl (by kernel_rfl) (by decide) (fun K hK => ?_)
          refine stM (v := .bool true) (by rfl) rfl rfl rfl (H4.out.below HS.out).ft sz4 rfl rfl rfl (by simp) ?_
          intro w7 h7 b7 k7
          have kf7 := (Kf.of_below (r := r) (f := f) (H4.out.wsz HL.out) HS.out).trans (Kf.of_keep (r := r) (.inr rfl) (b7 _ HL.out) k7)
          have HT7 : R'.exT seen = true := by unfold Rp.exT; rw [ht]; rfl
          have H7 := Aside0.mk (show RS w7 r f (R'.exP seen) from ⟨(k7.2 r (blk_lt (H4.out.below HS.out).rd) H4.out.ne (by simp)).trans (H4.out.below HS.out).rd, by show w7.heap[f]? = some (.cells #[.int .i64 (R'.exB.outR 2).c, .bool (R'.exT seen)] 90 (0, 0)); rw [HT7]; exact h7⟩)
          have I7 := Aside0.mk (show RS w7 r2 f (R'.exI seen) from ⟨(k7.2 r2 (blk_lt (I4.out.below HS.out).rd) I4.out.ne (by simp)).trans (I4.out.below HS.out).rd, H7.out.ft⟩)
          have V7 := Mov.of_kf H4.out kf7
          have M7 := Aside0.mk (M4.out.kf H4.out kf7)
          have R7 := Aside0.mk (V7.row R4.out not3)
          have Y7 := Aside0.mk (V7.set Y4.out)
          have K7 := Aside0.mk (K4.out.trans (Kg.of_kf kf7))
          clear h7 b7 k7 kf7 HT7 V7
          refine hK.out _ _ ?_
          clear hK K
          refine done_ (by kernel_rfl) ?_
          go_wp2_with (first
              | (at_mapUpdate; refine Kd.Y_put (Kd.int .i64) (w0 := w7) w.heap.size 3 rfl 68 _ _ _ rfl Try.underlying68 Try.underlying3 Try.underlying4 vm seen R'.exK (ok := fun _ => True) rfl rfl rfl HWF.out (by have := Bi.out.2.1; simp only [maxLen]; omega) Y7.out (Below.refl _ _) K7.out.below.size ?_; intro w8 ho8 hb8 hm8; have M8 := Aside0.mk (M7.out.map hm8); have R8 := Aside0.mk (Kd.R_map R7.out hm8); have Y8 := Aside0.mk ho8; have H8 := Aside0.mk (show RS w8 r f (R'.exP seen) from H7.out.map hm8); have I8 := Aside0.mk (show RS w8 r2 f (R'.exI seen) from I7.out.map hm8); have K8 := Aside0.mk (K7.out.over hb8 HLW.out (Nat.le_refl _)); clear ho8 hb8 hm8)
              | ((refine (HT.out.calls (fun j => some j ≠ u6.ownBlock) R'.exK m' (R'.exP seen) (R'.exI seen) r2 _ K8.out HN.out H8.out I8.out (Oi.out.exI seen) M8.out (R_lt R8.out)).mono ?_); rintro e9 w9 ⟨rfl, i9, m9, j9, k9⟩; have V_ := Mov.of_kh H8.out I8.out M8.out k9; have M9 := Aside0.mk m9; have R9 := Aside0.mk (V_.row R8.out not3'); have Y9 := Aside0.mk (V_.set Y8.out); have I9 := Aside0.mk i9; have H9 := Aside0.mk (show RS w9 r f (exQ take lastf R' seen m') from j9); have K9 := Aside0.mk (Kh.inner K8.out HN.out k9); clear i9 m9 j9 k9 V_)
              | (go_at_call 51; (with_reducible refine (ok_c r f (exQ take lastf R' seen m') _ H9.out).mono ?_); rintro e10 w10 ⟨rfl, rfl⟩)
              | ((with_reducible refine gate_builtin (b := .append) (xs := #[.tmp 51, .tmp 53]) rfl ?_); at_builtin; refine Kd.R_append (Kd.int .i64) (w0 := w10) w.heap.size rfl (.tmp 51) (.tmp 53) 44 3 (.int .i64 0) 8 rfl Try.underlying44 info3 rfl (by decide) (by omega) u6 xs R'.exK [.int .i64 R'.exK] (fun _ => True) (fun _ => False) rfl rfl rfl (fun _ hk => hk.elim) (fun _ _ => trivial) R9.out (Below.refl _ _) K9.out.below.size (len_bd Bi.out.2.2 (mu_pos Oi.out.lo HMo.out) (by omega)) ?_; intro v11 w11 ho11 hb11 hg11 hat11; have M11 := Aside0.mk (M9.out.app R9.out hg11 hat11); have R11 := Aside0.mk ho11; have Y11 := Aside0.mk (Y_app Y9.out R9.out hg11); have H11 := Aside0.mk (show RS w11 r f (exQ take lastf R' seen m') from H9.out.app R9.out hg11); have K11 := Aside0.mk (K9.out.over hb11 HLW.out (Nat.le_refl _)); clear ho11 hb11 hg11 hat11))
          go_roundg gk'
          case rel => exact ⟨xs ++ [R'.exK], (exX take R' seen m').2.1, exN take lastf R' seen m', seen ++ [R'.exK], ⟨by unfold exN; rw [if_neg (by rw [HX.out]; decide)]; exact H11.out⟩, O3, M11, R11, Y11, K11, ⟨B3.out.1, B3.out.2.1, by have := B3.out.2.2; rw [List.length_append, List.length_singleton]; omega⟩, ⟨by rw [← E3.out.1]; unfold exO; rw [if_neg (by rw [HX.out]; decide), if_pos HC.out]; simp, E3.out.2⟩⟩
          case measure => omega
        · have hc' : ((exQ take lastf R' seen m').c == 0) = false := beq_eq_false_iff_ne.mpr hc
          have HC := Aside0.mk hc
          clear hc
          unfold exX at hx
          go_wp2_with (first
              | (go_at_call 99; (with_reducible refine (more_c r f R' _ Hi.out).mono ?_); rintro e1 w1 ⟨rfl, b1⟩; have V_ := Mov.of_below b1 []; have H1 := Aside0.mk (show RS w1 r f R' from Hi.out.below b1); have M1 := Aside0.mk (Mi.out.below b1); have R1 := Aside0.mk (V_.row Ri.out not3''); have Y1 := Aside0.mk (V_.set Yi.out); have K1 := Aside0.mk (Ki.out.over (b1.mono HBi.out) HLW.out (Nat.le_refl _)); clear b1 V_)
              | ((with_reducible refine gate_dst (N := 16) rfl ?_); refine ld (v := .bool R'.l) rfl rfl rfl H1.out.rd Try.underlying4 rfl rfl ?_)
              | (go_at_call 76; (with_reducible refine (allow_c lo r f R' _ (!R'.l) HL.out H1.out).mono ?_); rintro e2 w2 ⟨rfl, i2, k2⟩; have V2_ := Mov.of_kf H1.out k2; have M2 := Aside0.mk (M1.out.kf H1.out k2); have R2 := Aside0.mk (V2_.row R1.out not3); have Y2 := Aside0.mk (V2_.set Y1.out); clear V2_; have H2 := Aside0.mk (show RS w2 r f R'.exA from i2); have K2 := Aside0.mk (K1.out.trans (Kg.of_kf k2)); clear i2 k2)
              | (go_at_call 70; (with_reducible refine (exK_c lo r f R' _ HL.out HL2.out H2.out Oi.out).mono ?_); rintro e3 w3 ⟨rfl, i3, k3⟩; have V3_ := Mov.of_kf H2.out k3; have M3 := Aside0.mk (M2.out.kf H2.out k3); have R3 := Aside0.mk (V3_.row R2.out not3); have Y3 := Aside0.mk (V3_.set Y2.out); clear V3_; have H3 := Aside0.mk i3; have K3 := Aside0.mk (K2.out.trans (Kg.of_kf k3)); clear i3 k3)
              | (go_at_call 66; (with_reducible refine (rwithin_c lo r f R'.exB _ 2 2 rfl (by omega) (by omega) HL.out HL2.out H3.out Oi.out.exB).mono ?_); rintro e4 w4 ⟨r2, rfl, n4, i4, j4, k4⟩; have V4_ := Mov.of_kf H3.out k4; have M4 := Aside0.mk (M3.out.kf H3.out k4); have R4 := Aside0.mk (V4_.row R3.out not3); have Y4 := Aside0.mk (V4_.set Y3.out); clear V4_; have HN := Aside0.mk (Nat.le_trans K3.out.below.size n4); have H4 := Aside0.mk i4; have I4 := Aside0.mk j4; have K4 := Aside0.mk (K3.out.trans (Kg.of_kf k4)); have HNE := Aside0.mk (show r ≠ r2 from by have := H3.out.sz; omega); have HL3 := Aside0.mk (show lo ≤ r2 from Nat.le_trans (H3.out.wsz HL.out) n4); clear n4 i4 j4 k4))
          refine start_ (n := 19) (S := fun w' => Below w4.heap.size w4 w') (ds := [18]) #[false, false, false, false, false, false, false, false, false, false, false, false, false, false, false, false, false, false, false] (by kernel_rfl) rfl rfl (Below.refl w4.heap.size w4).drew (fun hHeld => ?_)
          have HS := Aside0.mk (Below.refl w4.heap.size w4).drew
          generalize w4.drew = w5 at HS hHeld ⊢
          refine pure_ (i := 0) (N := (some 23)) (v := ?_) (a' := ?_) #[true, false, false, false, false, false, false, false, false, false, false, false, false, false, false, false, false, false, false] rfl rfl (by kernel_rfl) (fun _ _ _ h => h) (Or.inl ⟨by rfl, ?_⟩) ?_ ?_
          rotate_left
          · intro w'
            go_simp
            with_reducible rfl
          rotate_left
          · simp only [Act.put, List.setIfInBounds_toArray, List.set_cons_zero, List.set_cons_succ]
            rfl
          refine pure_ (i := 1) (N := (some 24)) (v := ?_) (a' := ?_) #[true, true, false, false, false, false, false, false, false, false, false, false, false, false, false, false, false, false, false] rfl rfl (by kernel_rfl) (fun _ _ _ h => h) (Or.inl ⟨by rfl, ?_⟩) ?_ ?_
          rotate_left
          · intro w'
            go_simp
            with_reducible rfl
          rotate_left
          · simp only [Act.put, List.setIfInBounds_toArray, List.set_cons_zero, List.set_cons_succ]
            rfl
          refine pure_ (i := 2) (N := (some 25)) (v := ?_) (a' := ?_) #[true, true, true, false, false, false, false, false, false, false, false, false, false, false, false, false, false, false, false] rfl rfl (by kernel_rfl) (fun _ _ _ h => h) (Or.inl ⟨by rfl, ?_⟩) ?_ ?_
          rotate_left
          · intro w'
            go_simp
            with_reducible rfl
          rotate_left
          · simp only [Act.put, List.setIfInBounds_toArray, List.set_cons_zero, List.set_cons_succ]
            rfl
          refine take_ (i := 3) (N := (some 26)) (v := ?_) (a' := ?_) #[true, true, true, true, false, false, false, false, false, false, false, false, false, false, false, false, false, false, false] rfl rfl (by kernel_rfl) (fun _ _ _ h => h) (Or.inl ⟨by rfl, ?_⟩) hHeld ?_ ?_
          rotate_left
          · rintro w' hS
            have hq := rcell H4.out.rd hS
            obtain ⟨hc1, hc2, hc3⟩ := hq
            go_simp
            with_reducible rfl
          rotate_left
          · simp only [Act.put, List.setIfInBounds_toArray, List.set_cons_zero, List.set_cons_succ]
            rfl
          refine pure_ (i := 4) (N := (some 27)) (v := ?_) (a' := ?_) #[true, true, true, true, true, false, false, false, false, false, false, false, false, false, false, false, false, false, false] rfl rfl (by kernel_rfl) (fun _ _ _ h => h) (Or.inl ⟨by rfl, ?_⟩) ?_ ?_
          rotate_left
          · intro w'
            go_simp
            with_reducible rfl
          rotate_left
          · simp only [Act.put, List.setIfInBounds_toArray, List.set_cons_zero, List.set_cons_succ]
            rfl
          refine pure_ (i := 5) (N := (some 28)) (v := ?_) (a' := ?_) #[true, true, true, true, true, true, false, false, false, false, false, false, false, false, false, false, false, false, false] rfl rfl (by kernel_rfl) (fun _ _ _ h => h) (Or.inl ⟨by rfl, ?_⟩) ?_ ?_
          rotate_left
          · intro w'
            go_simp
            with_reducible rfl
          rotate_left
          · simp only [Act.put, List.setIfInBounds_toArray, List.set_cons_zero, List.set_cons_succ]
            rfl
          refine pure_ (i := 6) (N := (some 29)) (v := ?_) (a' := ?_) #[true, true, true, true, true, true, true, false, false, false, false, false, false, false, false, false, false, false, false] rfl rfl (by kernel_rfl) (fun _ _ _ h => h) (Or.inl ⟨by rfl, ?_⟩) ?_ ?_
          rotate_left
          · intro w'
            go_simp
            with_reducible rfl
          rotate_left
          · simp only [Act.put, List.setIfInBounds_toArray, List.set_cons_zero, List.set_cons_succ]
            rfl
          refine take_ (i := 7) (N := (some 30)) (v := ?_) (a' := ?_) #[true, true, true, true, true, true, true, true, false, false, false, false, false, false, false, false, false, false, false] rfl rfl (by kernel_rfl) (fun _ _ _ h => h) (Or.inl ⟨by rfl, ?_⟩) hHeld ?_ ?_
          rotate_left
          · rintro w' hS
            have hq := rcell H4.out.rd hS
            obtain ⟨hc1, hc2, hc3⟩ := hq
            go_simp
            with_reducible rfl
          rotate_left
          · simp only [Act.put, List.setIfInBounds_toArray, List.set_cons_zero, List.set_cons_succ]
            rfl
          refine pure_ (i := 8) (N := (some 31)) (v := ?_) (a' := ?_) #[true, true, true, true, true, true, true, true, true, false, false, false, false, false, false, false, false, false, false] rfl rfl (by kernel_rfl) (fun _ _ _ h => h) (Or.inl ⟨by rfl, ?_⟩) ?_ ?_
          rotate_left
          · intro w'
            go_simp
            with_reducible rfl
          rotate_left
          · simp only [Act.put, List.setIfInBounds_toArray, List.set_cons_zero, List.set_cons_succ]
            rfl
          refine pure_ (i := 9) (N := (some 32)) (v := ?_) (a' := ?_) #[true, true, true, true, true, true, true, true, true, true, false, false, false, false, false, false, false, false, false] rfl rfl (by kernel_rfl) (fun _ _ _ h => h) (Or.inl ⟨by rfl, ?_⟩) ?_ ?_
          rotate_left
          · intro w'
            go_simp
            with_reducible rfl
          rotate_left
          · simp only [Act.put, List.setIfInBounds_toArray, List.set_cons_zero, List.set_cons_succ]
            rfl
          refine take_ (i := 10) (N := (some 33)) (v := ?_) (a' := ?_) #[true, true, true, true, true, true, true, true, true, true, true, false, false, false, false, false, false, false, false] rfl rfl (by kernel_rfl) (fun _ _ _ h => h) (Or.inl ⟨by rfl, ?_⟩) hHeld ?_ ?_
          rotate_left
          · rintro w' hS
            have hc4 : w'.cell? ⟨f, 1, none⟩ = some (.bool R'.t) := (blk_cell ((hS.block f (blk_lt H4.out.ft)).trans H4.out.ft) 1).trans rfl
            go_simp
            with_reducible rfl
          rotate_left
          · simp only [Act.put, List.setIfInBounds_toArray, List.set_cons_zero, List.set_cons_succ]
            rfl
          refine pure_ (i := 11) (N := (some 34)) (v := ?_) (a' := ?_) #[true, true, true, true, true, true, true, true, true, true, true, true, false, false, false, false, false, false, false] rfl rfl (by kernel_rfl) (fun _ _ _ h => h) (Or.inl ⟨by rfl, ?_⟩) ?_ ?_
          rotate_left
          · intro w'
            go_simp
            with_reducible rfl
          rotate_left
          · simp only [Act.put, List.setIfInBounds_toArray, List.set_cons_zero, List.set_cons_succ]
            rfl
          refine pure_ (i := 12) (N := (some 35)) (v := undef) (a' := ?_) #[true, true, true, true, true, true, true, true, true, true, true, true, true, false, false, false, false, false, false] rfl rfl (by kernel_rfl) (fun _ _ _ h => h) (Or.inr ⟨by rfl, by rfl⟩) ?_ ?_
          rotate_left
          · simp only [Act.put, List.setIfInBounds_toArray, List.set_cons_zero, List.set_cons_succ]
            rfl
          refine pure_ (i := 13) (N := (some 36)) (v := undef) (a' := ?_) #[true, true, true, true, true, true, true, true, true, true, true, true, true, true, false, false, false, false, false] rfl rfl (by kernel_rfl) (fun _ _ _ h => h) (Or.inr ⟨by rfl, by rfl⟩) ?_ ?_
          rotate_left
          · simp only [Act.put, List.setIfInBounds_toArray, List.set_cons_zero, List.set_cons_succ]
            rfl
          refine pure_ (i := 14) (N := (some 37)) (v := undef) (a' := ?_) #[true, true, true, true, true, true, true, true, true, true, true, true, true, true, true, false, false, false, false] rfl rfl (by kernel_rfl) (fun _ _ _ h => h) (Or.inr ⟨by rfl, by rfl⟩) ?_ ?_
          rotate_left
          · simp only [Act.put, List.setIfInBounds_toArray, List.set_cons_zero, List.set_cons_succ]
            rfl
          refine pure_ (i := 15) (N := (some 38)) (v := ?_) (a' := ?_) #[true, true, true, true, true, true, true, true, true, true, true, true, true, true, true, true, false, false, false] rfl rfl (by kernel_rfl) (fun _ _ _ h => h) (Or.inl ⟨by rfl, ?_⟩) ?_ ?_
          rotate_left
          · intro w'
            go_simp
            with_reducible rfl
          rotate_left
          · simp only [Act.put, List.setIfInBounds_toArray, List.set_cons_zero, List.set_cons_succ]
            rfl
          refine pure_ (i := 16) (N := (some 39)) (v := ?_) (a' := ?_) #[true, true, true, true, true, true, true, true, true, true, true, true, true, true, true, true, true, false, false] rfl rfl (by kernel_rfl) (fun _ _ _ h => h) (Or.inl ⟨by rfl, ?_⟩) ?_ ?_
          rotate_left
          · intro w'
            go_simp
            with_reducible rfl
          rotate_left
          · simp only [Act.put, List.setIfInBounds_toArray, List.set_cons_zero, List.set_cons_succ]
            rfl
          refine pure_ (i := 17) (N := (some 40)) (v := ?_) (a' := ?_) #[true, true, true, true, true, true, true, true, true, true, true, true, true, true, true, true, true, true, false] rfl rfl (by kernel_rfl) (fun _ _ _ h => h) (Or.inl ⟨by rfl, ?_⟩) ?_ ?_
          rotate_left
          · intro w'
            go_simp
            with_reducible rfl
          rotate_left
          · simp only [Act.put, List.setIfInBounds_toArray, List.set_cons_zero, List.set_cons_succ]
            rfl
          refine last_ (i := 18) (N := none) #[true, true, true, true, true, true, true, true, true, true, true, true, true, true, true, true, true, true, true] rfl rfl (by kernel_rfl) (by decide) (fun K hK => ?_)
          refine stM (v := .bool true) (by rfl) rfl rfl rfl (H4.out.below HS.out).ft sz4 rfl rfl rfl (by simp) ?_
          intro w7 h7 b7 k7
          have kf7 := (Kf.of_below (r := r) (f := f) (H4.out.wsz HL.out) HS.out).trans (Kf.of_keep (r := r) (.inr rfl) (b7 _ HL.out) k7)
          have HT7 : R'.exT seen = true := by unfold Rp.exT; rw [ht]; rfl
          have H7 := Aside0.mk (show RS w7 r f (R'.exP seen) from ⟨(k7.2 r (blk_lt (H4.out.below HS.out).rd) H4.out.ne (by simp)).trans (H4.out.below HS.out).rd, by show w7.heap[f]? = some (.cells #[.int .i64 (R'.exB.outR 2).c, .bool (R'.exT seen)] 90 (0, 0)); rw [HT7]; exact h7⟩)
          have I7 := Aside0.mk (show RS w7 r2 f (R'.exI seen) from ⟨(k7.2 r2 (blk_lt (I4.out.below HS.out).rd) I4.out.ne (by simp)).trans (I4.out.below HS.out).rd, H7.out.ft⟩)
          have V7 := Mov.of_kf H4.out kf7
          have M7 := Aside0.mk (M4.out.kf H4.out kf7)
          have R7 := Aside0.mk (V7.row R4.out not3)
          have Y7 := Aside0.mk (V7.set Y4.out)
          have K7 := Aside0.mk (K4.out.trans (Kg.of_kf kf7))
          clear h7 b7 k7 kf7 HT7 V7
          refine hK.out _ _ ?_
          clear hK K
          refine done_ (by kernel_rfl) ?_
          go_wp2_with (first
              | (at_mapUpdate; refine Kd.Y_put (Kd.int .i64) (w0 := w7) w.heap.size 3 rfl 68 _ _ _ rfl Try.underlying68 Try.underlying3 Try.underlying4 vm seen R'.exK (ok := fun _ => True) rfl rfl rfl HWF.out (by have := Bi.out.2.1; simp only [maxLen]; omega) Y7.out (Below.refl _ _) K7.out.below.size ?_; intro w8 ho8 hb8 hm8; have M8 := Aside0.mk (M7.out.map hm8); have R8 := Aside0.mk (Kd.R_map R7.out hm8); have Y8 := Aside0.mk ho8; have H8 := Aside0.mk (show RS w8 r f (R'.exP seen) from H7.out.map hm8); have I8 := Aside0.mk (show RS w8 r2 f (R'.exI seen) from I7.out.map hm8); have K8 := Aside0.mk (K7.out.over hb8 HLW.out (Nat.le_refl _)); clear ho8 hb8 hm8)
              | ((refine (HT.out.calls (fun j => some j ≠ u6.ownBlock) R'.exK m' (R'.exP seen) (R'.exI seen) r2 _ K8.out HN.out H8.out I8.out (Oi.out.exI seen) M8.out (R_lt R8.out)).mono ?_); rintro e9 w9 ⟨rfl, i9, m9, j9, k9⟩; have V_ := Mov.of_kh H8.out I8.out M8.out k9; have M9 := Aside0.mk m9; have R9 := Aside0.mk (V_.row R8.out not3'); have Y9 := Aside0.mk (V_.set Y8.out); have I9 := Aside0.mk i9; have H9 := Aside0.mk (show RS w9 r f (exQ take lastf R' seen m') from j9); have K9 := Aside0.mk (Kh.inner K8.out HN.out k9); clear i9 m9 j9 k9 V_)
              | (go_at_call 51; (with_reducible refine (ok_c r f (exQ take lastf R' seen m') _ H9.out).mono ?_); rintro e10 w10 ⟨rfl, rfl⟩))
          go_roundg gk'
          case rel => exact ⟨xs, (exX take R' seen m').2.1, exN take lastf R' seen m', seen ++ [R'.exK], ⟨by unfold exN; rw [if_neg (by rw [HX.out]; decide)]; exact H9.out⟩, O3, M9, R9, Y9, K9, ⟨B3.out.1, B3.out.2.1, by have := B3.out.2.2; omega⟩, ⟨by rw [← E3.out.1]; unfold exO; rw [if_neg (by rw [HX.out]; decide), if_neg HC.out]; simp, E3.out.2⟩⟩
          case measure => omega
    · replace ht : R'.t = false := by simpa using ht
      have HTT := Aside0.mk ht
      by_cases hx : (exX take R' seen m').1 = true
      · have HX := Aside0.mk hx
        unfold exX at hx
        go_wp2_with (first
            | (go_at_call 99; (with_reducible refine (more_c r f R' _ Hi.out).mono ?_); rintro e1 w1 ⟨rfl, b1⟩; have V_ := Mov.of_below b1 []; have H1 := Aside0.mk (show RS w1 r f R' from Hi.out.below b1); have M1 := Aside0.mk (Mi.out.below b1); have R1 := Aside0.mk (V_.row Ri.out not3''); have Y1 := Aside0.mk (V_.set Yi.out); have K1 := Aside0.mk (Ki.out.over (b1.mono HBi.out) HLW.out (Nat.le_refl _)); clear b1 V_)
            | ((with_reducible refine gate_dst (N := 16) rfl ?_); refine ld (v := .bool R'.l) rfl rfl rfl H1.out.rd Try.underlying4 rfl rfl ?_)
            | (go_at_call 76; (with_reducible refine (allow_c lo r f R' _ (!R'.l) HL.out H1.out).mono ?_); rintro e2 w2 ⟨rfl, i2, k2⟩; have V2_ := Mov.of_kf H1.out k2; have M2 := Aside0.mk (M1.out.kf H1.out k2); have R2 := Aside0.mk (V2_.row R1.out not3); have Y2 := Aside0.mk (V2_.set Y1.out); clear V2_; have H2 := Aside0.mk (show RS w2 r f R'.exA from i2); have K2 := Aside0.mk (K1.out.trans (Kg.of_kf k2)); clear i2 k2)
            | (go_at_call 70; (with_reducible refine (exK_c lo r f R' _ HL.out HL2.out H2.out Oi.out).mono ?_); rintro e3 w3 ⟨rfl, i3, k3⟩; have V3_ := Mov.of_kf H2.out k3; have M3 := Aside0.mk (M2.out.kf H2.out k3); have R3 := Aside0.mk (V3_.row R2.out not3); have Y3 := Aside0.mk (V3_.set Y2.out); clear V3_; have H3 := Aside0.mk i3; have K3 := Aside0.mk (K2.out.trans (Kg.of_kf k3)); clear i3 k3)
            | (go_at_call 66; (with_reducible refine (rwithin_c lo r f R'.exB _ 2 2 rfl (by omega) (by omega) HL.out HL2.out H3.out Oi.out.exB).mono ?_); rintro e4 w4 ⟨r2, rfl, n4, i4, j4, k4⟩; have V4_ := Mov.of_kf H3.out k4; have M4 := Aside0.mk (M3.out.kf H3.out k4); have R4 := Aside0.mk (V4_.row R3.out not3); have Y4 := Aside0.mk (V4_.set Y3.out); clear V4_; have HN := Aside0.mk (Nat.le_trans K3.out.below.size n4); have H4 := Aside0.mk i4; have I4 := Aside0.mk j4; have K4 := Aside0.mk (K3.out.trans (Kg.of_kf k4)); have HNE := Aside0.mk (show r ≠ r2 from by have := H3.out.sz; omega); have HL3 := Aside0.mk (show lo ≤ r2 from Nat.le_trans (H3.out.wsz HL.out) n4); clear n4 i4 j4 k4))
        refine start_ (n := 19) (S := fun w' => Below w4.heap.size w4 w') (ds := [18]) #[false, false, false, false, false, false, false, false, false, false, false, false, false, false, false, false, false, false, false] (by kernel_rfl) rfl rfl (Below.refl w4.heap.size w4).drew (fun hHeld => ?_)
        have HS := Aside0.mk (Below.refl w4.heap.size w4).drew
        generalize w4.drew = w5 at HS hHeld ⊢
        refine pure_ (i := 0) (N := (some 23)) (v := ?_) (a' := ?_) #[true, false, false, false, false, false, false, false, false, false, false, false, false, false, false, false, false, false, false] rfl rfl (by kernel_rfl) (fun _ _ _ h => h) (Or.inl ⟨by rfl, ?_⟩) ?_ ?_
        rotate_left
        · intro w'
          go_simp
          with_reducible rfl
        rotate_left
        · simp only [Act.put, List.setIfInBounds_toArray, List.set_cons_zero, List.set_cons_succ]
          rfl
        refine pure_ (i := 1) (N := (some 24)) (v := ?_) (a' := ?_) #[true, true, false, false, false, false, false, false, false, false, false, false, false, false, false, false, false, false, false] rfl rfl (by kernel_rfl) (fun _ _ _ h => h) (Or.inl ⟨by rfl, ?_⟩) ?_ ?_
        rotate_left
        · intro w'
          go_simp
          with_reducible rfl
        rotate_left
        · simp only [Act.put, List.setIfInBounds_toArray, List.set_cons_zero, List.set_cons_succ]
          rfl
        refine pure_ (i := 2) (N := (some 25)) (v := ?_) (a' := ?_) #[true, true, true, false, false, false, false, false, false, false, false, false, false, false, false, false, false, false, false] rfl rfl (by kernel_rfl) (fun _ _ _ h => h) (Or.inl ⟨by rfl, ?_⟩) ?_ ?_
        rotate_left
        · intro w'
          go_simp
          with_reducible rfl
        rotate_left
        · simp only [Act.put, List.setIfInBounds_toArray, List.set_cons_zero, List.set_cons_succ]
          rfl
        refine take_ (i := 3) (N := (some 26)) (v := ?_) (a' := ?_) #[true, true, true, true, false, false, false, false, false, false, false, false, false, false, false, false, false, false, false] rfl rfl (by kernel_rfl) (fun _ _ _ h => h) (Or.inl ⟨by rfl, ?_⟩) hHeld ?_ ?_
        rotate_left
        · rintro w' hS
          have hq := rcell H4.out.rd hS
          obtain ⟨hc1, hc2, hc3⟩ := hq
          go_simp
          with_reducible rfl
        rotate_left
        · simp only [Act.put, List.setIfInBounds_toArray, List.set_cons_zero, List.set_cons_succ]
          rfl
        refine pure_ (i := 4) (N := (some 27)) (v := ?_) (a' := ?_) #[true, true, true, true, true, false, false, false, false, false, false, false, false, false, false, false, false, false, false] rfl rfl (by kernel_rfl) (fun _ _ _ h => h) (Or.inl ⟨by rfl, ?_⟩) ?_ ?_
        rotate_left
        · intro w'
          go_simp
          with_reducible rfl
        rotate_left
        · simp only [Act.put, List.setIfInBounds_toArray, List.set_cons_zero, List.set_cons_succ]
          rfl
        refine pure_ (i := 5) (N := (some 28)) (v := ?_) (a' := ?_) #[true, true, true, true, true, true, false, false, false, false, false, false, false, false, false, false, false, false, false] rfl rfl (by kernel_rfl) (fun _ _ _ h => h) (Or.inl ⟨by rfl, ?_⟩) ?_ ?_
        rotate_left
        · intro w'
          go_simp
          with_reducible rfl
        rotate_left
        · simp only [Act.put, List.setIfInBounds_toArray, List.set_cons_zero, List.set_cons_succ]
          rfl
        refine pure_ (i := 6) (N := (some 29)) (v := ?_) (a' := ?_) #[true, true, true, true, true, true, true, false, false, false, false, false, false, false, false, false, false, false, false] rfl rfl (by kernel_rfl) (fun _ _ _ h => h) (Or.inl ⟨by rfl, ?_⟩) ?_ ?_
        rotate_left
        · intro w'
          go_simp
          with_reducible rfl
        rotate_left
        · simp only [Act.put, List.setIfInBounds_toArray, List.set_cons_zero, List.set_cons_succ]
          rfl
        refine take_ (i := 7) (N := (some 30)) (v := ?_) (a' := ?_) #[true, true, true, true, true, true, true, true, false, false, false, false, false, false, false, false, false, false, false] rfl rfl (by kernel_rfl) (fun _ _ _ h => h) (Or.inl ⟨by rfl, ?_⟩) hHeld ?_ ?_
        rotate_left
        · rintro w' hS
          have hq := rcell H4.out.rd hS
          obtain ⟨hc1, hc2, hc3⟩ := hq
          go_simp
          with_reducible rfl
        rotate_left
        · simp only [Act.put, List.setIfInBounds_toArray, List.set_cons_zero, List.set_cons_succ]
          rfl
        refine pure_ (i := 8) (N := (some 31)) (v := ?_) (a' := ?_) #[true, true, true, true, true, true, true, true, true, false, false, false, false, false, false, false, false, false, false] rfl rfl (by kernel_rfl) (fun _ _ _ h => h) (Or.inl ⟨by rfl, ?_⟩) ?_ ?_
        rotate_left
        · intro w'
          go_simp
          with_reducible rfl
        rotate_left
        · simp only [Act.put, List.setIfInBounds_toArray, List.set_cons_zero, List.set_cons_succ]
          rfl
        refine pure_ (i := 9) (N := (some 32)) (v := ?_) (a' := ?_) #[true, true, true, true, true, true, true, true, true, true, false, false, false, false, false, false, false, false, false] rfl rfl (by kernel_rfl) (fun _ _ _ h => h) (Or.inl ⟨by rfl, ?_⟩) ?_ ?_
        rotate_left
        · intro w'
          go_simp
          with_reducible rfl
        rotate_left
        · simp only [Act.put, List.setIfInBounds_toArray, List.set_cons_zero, List.set_cons_succ]
          rfl
        refine take_ (i := 10) (N := (some 33)) (v := ?_) (a' := ?_) #[true, true, true, true, true, true, true, true, true, true, true, false, false, false, false, false, false, false, false] rfl rfl (by kernel_rfl) (fun _ _ _ h => h) (Or.inl ⟨by rfl, ?_⟩) hHeld ?_ ?_
        rotate_left
        · rintro w' hS
          have hc4 : w'.cell? ⟨f, 1, none⟩ = some (.bool R'.t) := (blk_cell ((hS.block f (blk_lt H4.out.ft)).trans H4.out.ft) 1).trans rfl
          go_simp
          with_reducible rfl
        rotate_left
        · simp only [Act.put, List.setIfInBounds_toArray, List.set_cons_zero, List.set_cons_succ]
          rfl
        refine pure_ (i := 11) (N := (some 34)) (v := ?_) (a' := ?_) #[true, true, true, true, true, true, true, true, true, true, true, true, false, false, false, false, false, false, false] rfl rfl (by kernel_rfl) (fun _ _ _ h => h) (Or.inl ⟨by rfl, ?_⟩) ?_ ?_
        rotate_left
        · intro w'
          go_simp
          with_reducible rfl
        rotate_left
        · simp only [Act.put, List.setIfInBounds_toArray, List.set_cons_zero, List.set_cons_succ]
          rfl
        refine pure_ (i := 12) (N := (some 35)) (v := ?_) (a' := ?_) #[true, true, true, true, true, true, true, true, true, true, true, true, true, false, false, false, false, false, false] rfl rfl (by kernel_rfl) (fun _ _ _ h => h) (Or.inl ⟨by rfl, ?_⟩) ?_ ?_
        rotate_left
        · intro w'
          go_simp
          with_reducible rfl
        rotate_left
        · simp only [Act.put, List.setIfInBounds_toArray, List.set_cons_zero, List.set_cons_succ]
          rfl
        refine pure_ (i := 13) (N := (some 36)) (v := ?_) (a' := ?_) #[true, true, true, true, true, true, true, true, true, true, true, true, true, true, false, false, false, false, false] rfl rfl (by kernel_rfl) (fun _ _ _ h => h) (Or.inl ⟨by rfl, ?_⟩) ?_ ?_
        rotate_left
        · intro w'
          go_simp
          with_reducible rfl
        rotate_left
        · simp only [Act.put, List.setIfInBounds_toArray, List.set_cons_zero, List.set_cons_succ]
          rfl
        refine take_ (i := 14) (N := (some 37)) (v := .bool (decide (R'.exK ∈ seen))) (a' := ?_) #[true, true, true, true, true, true, true, true, true, true, true, true, true, true, true, false, false, false, false] rfl rfl (by kernel_rfl) (fun _ _ _ h => h) (Or.inl ⟨by rfl, ?_⟩) hHeld ?_ ?_
        · rintro w' hS
          exact Y_exec (d := Kd.int .i64) (v := vm) (k := R'.exK) (base := w.heap.size) (ok := fun _ => True) (xs := seen) rfl rfl rfl HWF.out (Kd.Y_below Y4.out hS)
        rotate_left
        · simp only [Act.put, List.setIfInBounds_toArray, List.set_cons_zero, List.set_cons_succ]
          rfl
        refine pure_ (i := 15) (N := (some 38)) (v := ?_) (a' := ?_) #[true, true, true, true, true, true, true, true, true, true, true, true, true, true, true, true, false, false, false] rfl rfl (by kernel_rfl) (fun _ _ _ h => h) (Or.inl ⟨by rfl, ?_⟩) ?_ ?_
        rotate_left
        · intro w'
          go_simp
          with_reducible rfl
        rotate_left
        · simp only [Act.put, List.setIfInBounds_toArray, List.set_cons_zero, List.set_cons_succ]
          rfl
        refine pure_ (i := 16) (N := (some 39)) (v := ?_) (a' := ?_) #[true, true, true, true, true, true, true, true, true, true, true, true, true, true, true, true, true, false, false] rfl rfl (by kernel_rfl) (fun _ _ _ h => h) (Or.inl ⟨by rfl, ?_⟩) ?_ ?_
        rotate_left
        · intro w'
          go_simp
          with_reducible rfl
        rotate_left
        · simp only [Act.put, List.setIfInBounds_toArray, List.set_cons_zero, List.set_cons_succ]
          rfl
        refine pure_ (i := 17) (N := (some 40)) (v := ?_) (a' := ?_) #[true, true, true, true, true, true, true, true, true, true, true, true, true, true, true, true, true, true, false] rfl rfl (by kernel_rfl) (fun _ _ _ h => h) (Or.inl ⟨by rfl, ?_⟩) ?_ ?_
        rotate_left
        · intro w'
          go_simp
          with_reducible rfl
        rotate_left
        · simp only [Act.put, List.setIfInBounds_toArray, List.set_cons_zero, List.set_cons_succ]
          rfl
        refine last_ (i := 18) (N := none) #[true, true, true, true, true, true, true, true, true, true, true, true, true, true, true, true, true, true, true] rfl rfl (by kernel_rfl) (by decide) (fun K hK => ?_)
        refine stM (v := .bool (decide (R'.exK ∈ seen))) (by rfl) rfl rfl rfl (H4.out.below HS.out).ft sz4 rfl rfl rfl (by simp) ?_
        intro w7 h7 b7 k7
        have kf7 := (Kf.of_below (r := r) (f := f) (H4.out.wsz HL.out) HS.out).trans (Kf.of_keep (r := r) (.inr rfl) (b7 _ HL.out) k7)
        have HT7 : R'.exT seen = (decide (R'.exK ∈ seen)) := by unfold Rp.exT; rw [ht]; exact Bool.false_or _
        have H7 := Aside0.mk (show RS w7 r f (R'.exP seen) from ⟨(k7.2 r (blk_lt (H4.out.below HS.out).rd) H4.out.ne (by simp)).trans (H4.out.below HS.out).rd, by show w7.heap[f]? = some (.cells #[.int .i64 (R'.exB.outR 2).c, .bool (R'.exT seen)] 90 (0, 0)); rw [HT7]; exact h7⟩)
        have I7 := Aside0.mk (show RS w7 r2 f (R'.exI seen) from ⟨(k7.2 r2 (blk_lt (I4.out.below HS.out).rd) I4.out.ne (by simp)).trans (I4.out.below HS.out).rd, H7.out.ft⟩)
        have V7 := Mov.of_kf H4.out kf7
        have M7 := Aside0.mk (M4.out.kf H4.out kf7)
        have R7 := Aside0.mk (V7.row R4.out not3)
        have Y7 := Aside0.mk (V7.set Y4.out)
        have K7 := Aside0.mk (K4.out.trans (Kg.of_kf kf7))
        clear h7 b7 k7 kf7 HT7 V7
        refine hK.out _ _ ?_
        clear hK K
        refine done_ (by kernel_rfl) ?_
        go_wp2_with (first
            | (at_mapUpdate; refine Kd.Y_put (Kd.int .i64) (w0 := w7) w.heap.size 3 rfl 68 _ _ _ rfl Try.underlying68 Try.underlying3 Try.underlying4 vm seen R'.exK (ok := fun _ => True) rfl rfl rfl HWF.out (by have := Bi.out.2.1; simp only [maxLen]; omega) Y7.out (Below.refl _ _) K7.out.below.size ?_; intro w8 ho8 hb8 hm8; have M8 := Aside0.mk (M7.out.map hm8); have R8 := Aside0.mk (Kd.R_map R7.out hm8); have Y8 := Aside0.mk ho8; have H8 := Aside0.mk (show RS w8 r f (R'.exP seen) from H7.out.map hm8); have I8 := Aside0.mk (show RS w8 r2 f (R'.exI seen) from I7.out.map hm8); have K8 := Aside0.mk (K7.out.over hb8 HLW.out (Nat.le_refl _)); clear ho8 hb8 hm8)
            | ((refine (HT.out.calls (fun j => some j ≠ u6.ownBlock) R'.exK m' (R'.exP seen) (R'.exI seen) r2 _ K8.out HN.out H8.out I8.out (Oi.out.exI seen) M8.out (R_lt R8.out)).mono ?_); rintro e9 w9 ⟨rfl, i9, m9, j9, k9⟩; have V_ := Mov.of_kh H8.out I8.out M8.out k9; have M9 := Aside0.mk m9; have R9 := Aside0.mk (V_.row R8.out not3'); have Y9 := Aside0.mk (V_.set Y8.out); have I9 := Aside0.mk i9; have H9 := Aside0.mk (show RS w9 r f (exQ take lastf R' seen m') from j9); have K9 := Aside0.mk (Kh.inner K8.out HN.out k9); clear i9 m9 j9 k9 V_)
            | (go_at_call 77; (with_reducible refine (done_c lo r2 f (exX take R' seen m').2.2 _ HL.out I9.out).mono ?_); rintro e10 w10 ⟨rfl, i10, k10⟩; have V10_ := Mov.of_kf I9.out k10; have M10 := Aside0.mk (M9.out.kf I9.out k10); have R10 := Aside0.mk (V10_.row R9.out not3); have Y10 := Aside0.mk (V10_.set Y9.out); clear V10_; have H10 := Aside0.mk (show RS w10 r f ((exQ take lastf R' seen m').back (exX take R' seen m').2.2.done) from H9.out.back (I := R') HNE.out k10 i10); have K10 := Aside0.mk (Kg.inner K9.out HN.out (Kg.of_kf k10)); clear i10 k10))
        go_roundg gk'
        case rel => exact ⟨xs, (exX take R' seen m').2.1, exN take lastf R' seen m', seen ++ [R'.exK], ⟨by unfold exN; rw [if_pos HX.out]; exact H10.out⟩, O3, M10, R10, Y10, K10, ⟨B3.out.1, B3.out.2.1, by have := B3.out.2.2; omega⟩, ⟨by rw [← E3.out.1]; unfold exO; rw [if_pos HX.out]; simp, E3.out.2⟩⟩
        case measure => omega
      · replace hx : (exX take R' seen m').1 = false := by simpa using hx
        have HX := Aside0.mk hx
        by_cases hc : (exQ take lastf R' seen m').c = 0
        · have hc' : ((exQ take lastf R' seen m').c == 0) = true := beq_iff_eq.mpr hc
          have HC := Aside0.mk hc
          clear hc
          unfold exX at hx
          go_wp2_with (first
              | (go_at_call 99; (with_reducible refine (more_c r f R' _ Hi.out).mono ?_); rintro e1 w1 ⟨rfl, b1⟩; have V_ := Mov.of_below b1 []; have H1 := Aside0.mk (show RS w1 r f R' from Hi.out.below b1); have M1 := Aside0.mk (Mi.out.below b1); have R1 := Aside0.mk (V_.row Ri.out not3''); have Y1 := Aside0.mk (V_.set Yi.out); have K1 := Aside0.mk (Ki.out.over (b1.mono HBi.out) HLW.out (Nat.le_refl _)); clear b1 V_)
              | ((with_reducible refine gate_dst (N := 16) rfl ?_); refine ld (v := .bool R'.l) rfl rfl rfl H1.out.rd Try.underlying4 rfl rfl ?_)
              | (go_at_call 76; (with_reducible refine (allow_c lo r f R' _ (!R'.l) HL.out H1.out).mono ?_); rintro e2 w2 ⟨rfl, i2, k2⟩; have V2_ := Mov.of_kf H1.out k2; have M2 := Aside0.mk (M1.out.kf H1.out k2); have R2 := Aside0.mk (V2_.row R1.out not3); have Y2 := Aside0.mk (V2_.set Y1.out); clear V2_; have H2 := Aside0.mk (show RS w2 r f R'.exA from i2); have K2 := Aside0.mk (K1.out.trans (Kg.of_kf k2)); clear i2 k2)
              | (go_at_call 70; (with_reducible refine (exK_c lo r f R' _ HL.out HL2.out H2.out Oi.out).mono ?_); rintro e3 w3 ⟨rfl, i3, k3⟩; have V3_ := Mov.of_kf H2.out k3; have M3 := Aside0.mk (M2.out.kf H2.out k3); have R3 := Aside0.mk (V3_.row R2.out not3); have Y3 := Aside0.mk (V3_.set Y2.out); clear V3_; have H3 := Aside0.mk i3; have K3 := Aside0.mk (K2.out.trans (Kg.of_kf k3)); clear i3 k3)
              | (go_at_call 66; (with_reducible refine (rwithin_c lo r f R'.exB _ 2 2 rfl (by omega) (by omega) HL.out HL2.out H3.out Oi.out.exB).mono ?_); rintro e4 w4 ⟨r2, rfl, n4, i4, j4, k4⟩; have V4_ := Mov.of_kf H3.out k4; have M4 := Aside0.mk (M3.out.kf H3.out k4); have R4 := Aside0.mk (V4_.row R3.out not3); have Y4 := Aside0.mk (V4_.set Y3.out); clear V4_; have HN := Aside0.mk (Nat.le_trans K3.out.below.size n4); have H4 := Aside0.mk i4; have I4 := Aside0.mk j4; have K4 := Aside0.mk (K3.out.trans (Kg.of_kf k4)); have HNE := Aside0.mk (show r ≠ r2 from by have := H3.out.sz; omega); have HL3 := Aside0.mk (show lo ≤ r2 from Nat.le_trans (H3.out.wsz HL.out) n4); clear n4 i4 j4 k4))
          refine start_ (n := 19) (S := fun w' => Below w4.heap.size w4 w') (ds := [18]) #[false, false, false, false, false, false, false, false, false, false, false, false, false, false, false, false, false, false, false] (by kernel_rfl) rfl rfl (Below.refl w4.heap.size w4).drew (fun hHeld => ?_)
          have HS := Aside0.mk (Below.refl w4.heap.size w4).drew
          generalize w4.drew = w5 at HS hHeld ⊢
          refine pure_ (i := 0) (N := (some 23)) (v := ?_) (a' := ?_) #[true, false, false, false, false, false, false, false, false, false, false, false, false, false, false, false, false, false, false] rfl rfl (by kernel_rfl) (fun _ _ _ h => h) (Or.inl ⟨by rfl, ?_⟩) ?_ ?_
          rotate_left
          · intro w'
            go_simp
            with_reducible rfl
          rotate_left
          · simp only [Act.put, List.setIfInBounds_toArray, List.set_cons_zero, List.set_cons_succ]
            rfl
          refine pure_ (i := 1) (N := (some 24)) (v := ?_) (a' := ?_) #[true, true, false, false, false, false, false, false, false, false, false, false, false, false, false, false, false, false, false] rfl rfl (by kernel_rfl) (fun _ _ _ h => h) (Or.inl ⟨by rfl, ?_⟩) ?_ ?_
          rotate_left
          · intro w'
            go_simp
            with_reducible rfl
          rotate_left
          · simp only [Act.put, List.setIfInBounds_toArray, List.set_cons_zero, List.set_cons_succ]
            rfl
          refine pure_ (i := 2) (N := (some 25)) (v := ?_) (a' := ?_) #[true, true, true, false, false, false, false, false, false, false, false, false, false, false, false, false, false, false, false] rfl rfl (by kernel_rfl) (fun _ _ _ h => h) (Or.inl ⟨by rfl, ?_⟩) ?_ ?_
          rotate_left
          · intro w'
            go_simp
            with_reducible rfl
          rotate_left
          · simp only [Act.put, List.setIfInBounds_toArray, List.set_cons_zero, List.set_cons_succ]
            rfl
          refine take_ (i := 3) (N := (some 26)) (v := ?_) (a' := ?_) #[true, true, true, true, false, false, false, false, false, false, false, false, false, false, false, false, false, false, false] rfl rfl (by kernel_rfl) (fun _ _ _ h => h) (Or.inl ⟨by rfl, ?_⟩) hHeld ?_ ?_
          rotate_left
          · rintro w' hS
            have hq := rcell H4.out.rd hS
            obtain ⟨hc1, hc2, hc3⟩ := hq
            go_simp
            with_reducible rfl
          rotate_left
          · simp only [Act.put, List.setIfInBounds_toArray, List.set_cons_zero, List.set_cons_succ]
            rfl
          refine pure_ (i := 4) (N := (some 27)) (v := ?_) (a' := ?_) #[true, true, true, true, true, false, false, false, false, false, false, false, false, false, false, false, false, false, false] rfl rfl (by kernel_rfl) (fun _ _ _ h => h) (Or.inl ⟨by rfl, ?_⟩) ?_ ?_
          rotate_left
          · intro w'
            go_simp
            with_reducible rfl
          rotate_left
          · simp only [Act.put, List.setIfInBounds_toArray, List.set_cons_zero, List.set_cons_succ]
            rfl
          refine pure_ (i := 5) (N := (some 28)) (v := ?_) (a' := ?_) #[true, true, true, true, true, true, false, false, false, false, false, false, false, false, false, false, false, false, false] rfl rfl (by kernel_rfl) (fun _ _ _ h => h) (Or.inl ⟨by rfl, ?_⟩) ?_ ?_
          rotate_left
          · intro w'
            go_simp
            with_reducible rfl
          rotate_left
          · simp only [Act.put, List.setIfInBounds_toArray, List.set_cons_zero, List.set_cons_succ]
            rfl
          refine pure_ (i := 6) (N := (some 29)) (v := ?_) (a' := ?_) #[true, true, true, true, true, true, true, false, false, false, false, false, false, false, false, false, false, false, false] rfl rfl (by kernel_rfl) (fun _ _ _ h => h) (Or.inl ⟨by rfl, ?_⟩) ?_ ?_
          rotate_left
          · intro w'
            go_simp
            with_reducible rfl
          rotate_left
          · simp only [Act.put, List.setIfInBounds_toArray, List.set_cons_zero, List.set_cons_succ]
            rfl
          refine take_ (i := 7) (N := (some 30)) (v := ?_) (a' := ?_) #[true, true, true, true, true, true, true, true, false, false, false, false, false, false, false, false, false, false, false] rfl rfl (by kernel_rfl) (fun _ _ _ h => h) (Or.inl ⟨by rfl, ?_⟩) hHeld ?_ ?_
          rotate_left
          · rintro w' hS
            have hq := rcell H4.out.rd hS
            obtain ⟨hc1, hc2, hc3⟩ := hq
            go_simp
            with_reducible rfl
          rotate_left
          · simp only [Act.put, List.setIfInBounds_toArray, List.set_cons_zero, List.set_cons_succ]
            rfl
          refine pure_ (i := 8) (N := (some 31)) (v := ?_) (a' := ?_) #[true, true, true, true, true, true, true, true, true, false, false, false, false, false, false, false, false, false, false] rfl rfl (by kernel_rfl) (fun _ _ _ h => h) (Or.inl ⟨by rfl, ?_⟩) ?_ ?_
          rotate_left
          · intro w'
            go_simp
            with_reducible rfl
          rotate_left
          · simp only [Act.put, List.setIfInBounds_toArray, List.set_cons_zero, List.set_cons_succ]
            rfl
          refine pure_ (i := 9) (N := (some 32)) (v := ?_) (a' := ?_) #[true, true, true, true, true, true, true, true, true, true, false, false, false, false, false, false, false, false, false] rfl rfl (by kernel_rfl) (fun _ _ _ h => h) (Or.inl ⟨by rfl, ?_⟩) ?_ ?_
          rotate_left
          · intro w'
            go_simp
            with_reducible rfl
          rotate_left
          · simp only [Act.put, List.setIfInBounds_toArray, List.set_cons_zero, List.set_cons_succ]
            rfl
          refine take_ (i := 10) (N := (some 33)) (v := ?_) (a' := ?_) #[true, true, true, true, true, true, true, true, true, true, true, false, false, false, false, false, false, false, false] rfl rfl (by kernel_rfl) (fun _ _ _ h => h) (Or.inl ⟨by rfl, ?_⟩) hHeld ?_ ?_
          rotate_left
          · rintro w' hS
            have hc4 : w'.cell? ⟨f, 1, none⟩ = some (.bool R'.t) := (blk_cell ((hS.block f (blk_lt H4.out.ft)).trans H4.out.ft) 1).trans rfl
            go_simp
            with_reducible rfl
          rotate_left
          · simp only [Act.put, List.setIfInBounds_toArray, List.set_cons_zero, List.set_cons_succ]
            rfl
          refine pure_ (i := 11) (N := (some 34)) (v := ?_) (a' := ?_) #[true, true, true, true, true, true, true, true, true, true, true, true, false, false, false, false, false, false, false] rfl rfl (by kernel_rfl) (fun _ _ _ h => h) (Or.inl ⟨by rfl, ?_⟩) ?_ ?_
          rotate_left
          · intro w'
            go_simp
            with_reducible rfl
          rotate_left
          · simp only [Act.put, List.setIfInBounds_toArray, List.set_cons_zero, List.set_cons_succ]
            rfl
          refine pure_ (i := 12) (N := (some 35)) (v := ?_) (a' := ?_) #[true, true, true, true, true, true, true, true, true, true, true, true, true, false, false, false, false, false, false] rfl rfl (by kernel_rfl) (fun _ _ _ h => h) (Or.inl ⟨by rfl, ?_⟩) ?_ ?_
          rotate_left
          · intro w'
            go_simp
            with_reducible rfl
          rotate_left
          · simp only [Act.put, List.setIfInBounds_toArray, List.set_cons_zero, List.set_cons_succ]
            rfl
          refine pure_ (i := 13) (N := (some 36)) (v := ?_) (a' := ?_) #[true, true, true, true, true, true, true, true, true, true, true, true, true, true, false, false, false, false, false] rfl rfl (by kernel_rfl) (fun _ _ _ h => h) (Or.inl ⟨by rfl, ?_⟩) ?_ ?_
          rotate_left
          · intro w'
            go_simp
            with_reducible rfl
          rotate_left
          · simp only [Act.put, List.setIfInBounds_toArray, List.set_cons_zero, List.set_cons_succ]
            rfl
          refine take_ (i := 14) (N := (some 37)) (v := .bool (decide (R'.exK ∈ seen))) (a' := ?_) #[true, true, true, true, true, true, true, true, true, true, true, true, true, true, true, false, false, false, false] rfl rfl (by kernel_rfl) (fun _ _ _ h => h) (Or.inl ⟨by rfl, ?_⟩) hHeld ?_ ?_
          · rintro w' hS
            exact Y_exec (d := Kd.int .i64) (v := vm) (k := R'.exK) (base := w.heap.size) (ok := fun _ => True) (xs := seen) rfl rfl rfl HWF.out (Kd.Y_below Y4.out hS)
          rotate_left
          · simp only [Act.put, List.setIfInBounds_toArray, List.set_cons_zero, List.set_cons_succ]
            rfl
          refine pure_ (i := 15) (N := (some 38)) (v := ?_) (a' := ?_) #[true, true, true, true, true, true, true, true, true, true, true, true, true, true, true, true, false, false, false] rfl rfl (by kernel_rfl) (fun _ _ _ h => h) (Or.inl ⟨by rfl, ?_⟩) ?_ ?_
          rotate_left
          · intro w'
            go_simp
            with_reducible rfl
          rotate_left
          · simp only [Act.put, List.setIfInBounds_toArray, List.set_cons_zero, List.set_cons_succ]
            rfl
          refine pure_ (i := 16) (N := (some 39)) (v := ?_) (a' := ?_) #[true, true, true, true, true, true, true, true, true, true, true, true, true, true, true, true, true, false, false] rfl rfl (by kernel_rfl) (fun _ _ _ h => h) (Or.inl ⟨by rfl, ?_⟩) ?_ ?_
          rotate_left
          · intro w'
            go_simp
            with_reducible rfl
          rotate_left
          · simp only [Act.put, List.setIfInBounds_toArray, List.set_cons_zero, List.set_cons_succ]
            rfl
          refine pure_ (i := 17) (N := (some 40)) (v := ?_) (a' := ?_) #[true, true, true, true, true, true, true, true, true, true, true, true, true, true, true, true, true, true, false] rfl rfl (by kernel_rfl) (fun _ _ _ h => h) (Or.inl ⟨by rfl, ?_⟩) ?_ ?_
          rotate_left
          · intro w'
            go_simp
            with_reducible rfl
          rotate_left
          · simp only [Act.put, List.setIfInBounds_toArray, List.set_cons_zero, List.set_cons_succ]
            rfl
          refine last_ (i := 18) (N := none) #[true, true, true, true, true, true, true, true, true, true, true, true, true, true, true, true, true, true, true] rfl rfl (by kernel_rfl) (by decide) (fun K hK => ?_)
          refine stM (v := .bool (decide (R'.exK ∈ seen))) (by rfl) rfl rfl rfl (H4.out.below HS.out).ft sz4 rfl rfl rfl (by simp) ?_
          intro w7 h7 b7 k7
          have kf7 := (Kf.of_below (r := r) (f := f) (H4.out.wsz HL.out) HS.out).trans (Kf.of_keep (r := r) (.inr rfl) (b7 _ HL.out) k7)
          have HT7 : R'.exT seen = (decide (R'.exK ∈ seen)) := by unfold Rp.exT; rw [ht]; exact Bool.false_or _
          have H7 := Aside0.mk (show RS w7 r f (R'.exP seen) from ⟨(k7.2 r (blk_lt (H4.out.below HS.out).rd) H4.out.ne (by simp)).trans (H4.out.below HS.out).rd, by show w7.heap[f]? = some (.cells #[.int .i64 (R'.exB.outR 2).c, .bool (R'.exT seen)] 90 (0, 0)); rw [HT7]; exact h7⟩)
          have I7 := Aside0.mk (show RS w7 r2 f (R'.exI seen) from ⟨(k7.2 r2 (blk_lt (I4.out.below HS.out).rd) I4.out.ne (by simp)).trans (I4.out.below HS.out).rd, H7.out.ft⟩)
          have V7 := Mov.of_kf H4.out kf7
          have M7 := Aside0.mk (M4.out.kf H4.out kf7)
          have R7 := Aside0.mk (V7.row R4.out not3)
          have Y7 := Aside0.mk (V7.set Y4.out)
          have K7 := Aside0.mk (K4.out.trans (Kg.of_kf kf7))
          clear h7 b7 k7 kf7 HT7 V7
          refine hK.out _ _ ?_
          clear hK K
          refine done_ (by kernel_rfl) ?_
          go_wp2_with (first
              | (at_mapUpdate; refine Kd.Y_put (Kd.int .i64) (w0 := w7) w.heap.size 3 rfl 68 _ _ _ rfl Try.underlying68 Try.underlying3 Try.underlying4 vm seen R'.exK (ok := fun _ => True) rfl rfl rfl HWF.out (by have := Bi.out.2.1; simp only [maxLen]; omega) Y7.out (Below.refl _ _) K7.out.below.size ?_; intro w8 ho8 hb8 hm8; have M8 := Aside0.mk (M7.out.map hm8); have R8 := Aside0.mk (Kd.R_map R7.out hm8); have Y8 := Aside0.mk ho8; have H8 := Aside0.mk (show RS w8 r f (R'.exP seen) from H7.out.map hm8); have I8 := Aside0.mk (show RS w8 r2 f (R'.exI seen) from I7.out.map hm8); have K8 := Aside0.mk (K7.out.over hb8 HLW.out (Nat.le_refl _)); clear ho8 hb8 hm8)
              | ((refine (HT.out.calls (fun j => some j ≠ u6.ownBlock) R'.exK m' (R'.exP seen) (R'.exI seen) r2 _ K8.out HN.out H8.out I8.out (Oi.out.exI seen) M8.out (R_lt R8.out)).mono ?_); rintro e9 w9 ⟨rfl, i9, m9, j9, k9⟩; have V_ := Mov.of_kh H8.out I8.out M8.out k9; have M9 := Aside0.mk m9; have R9 := Aside0.mk (V_.row R8.out not3'); have Y9 := Aside0.mk (V_.set Y8.out); have I9 := Aside0.mk i9; have H9 := Aside0.mk (show RS w9 r f (exQ take lastf R' seen m') from j9); have K9 := Aside0.mk (Kh.inner K8.out HN.out k9); clear i9 m9 j9 k9 V_)
              | (go_at_call 51; (with_reducible refine (ok_c r f (exQ take lastf R' seen m') _ H9.out).mono ?_); rintro e10 w10 ⟨rfl, rfl⟩)
              | ((with_reducible refine gate_builtin (b := .append) (xs := #[.tmp 51, .tmp 53]) rfl ?_); at_builtin; refine Kd.R_append (Kd.int .i64) (w0 := w10) w.heap.size rfl (.tmp 51) (.tmp 53) 44 3 (.int .i64 0) 8 rfl Try.underlying44 info3 rfl (by decide) (by omega) u6 xs R'.exK [.int .i64 R'.exK] (fun _ => True) (fun _ => False) rfl rfl rfl (fun _ hk => hk.elim) (fun _ _ => trivial) R9.out (Below.refl _ _) K9.out.below.size (len_bd Bi.out.2.2 (mu_pos Oi.out.lo HMo.out) (by omega)) ?_; intro v11 w11 ho11 hb11 hg11 hat11; have M11 := Aside0.mk (M9.out.app R9.out hg11 hat11); have R11 := Aside0.mk ho11; have Y11 := Aside0.mk (Y_app Y9.out R9.out hg11); have H11 := Aside0.mk (show RS w11 r f (exQ take lastf R' seen m') from H9.out.app R9.out hg11); have K11 := Aside0.mk (K9.out.over hb11 HLW.out (Nat.le_refl _)); clear ho11 hb11 hg11 hat11))
          go_roundg gk'
          case rel => exact ⟨xs ++ [R'.exK], (exX take R' seen m').2.1, exN take lastf R' seen m', seen ++ [R'.exK], ⟨by unfold exN; rw [if_neg (by rw [HX.out]; decide)]; exact H11.out⟩, O3, M11, R11, Y11, K11, ⟨B3.out.1, B3.out.2.1, by have := B3.out.2.2; rw [List.length_append, List.length_singleton]; omega⟩, ⟨by rw [← E3.out.1]; unfold exO; rw [if_neg (by rw [HX.out]; decide), if_pos HC.out]; simp, E3.out.2⟩⟩
          case measure => omega
        · have hc' : ((exQ take lastf R' seen m').c == 0) = false := beq_eq_false_iff_ne.mpr hc
          have HC := Aside0.mk hc
          clear hc
          unfold exX at hx
          go_wp2_with (first
              | (go_at_call 99; (with_reducible refine (more_c r f R' _ Hi.out).mono ?_); rintro e1 w1 ⟨rfl, b1⟩; have V_ := Mov.of_below b1 []; have H1 := Aside0.mk (show RS w1 r f R' from Hi.out.below b1); have M1 := Aside0.mk (Mi.out.below b1); have R1 := Aside0.mk (V_.row Ri.out not3''); have Y1 := Aside0.mk (V_.set Yi.out); have K1 := Aside0.mk (Ki.out.over (b1.mono HBi.out) HLW.out (Nat.le_refl _)); clear b1 V_)
              | ((with_reducible refine gate_dst (N := 16) rfl ?_); refine ld (v := .bool R'.l) rfl rfl rfl H1.out.rd Try.underlying4 rfl rfl ?_)
              | (go_at_call 76; (with_reducible refine (allow_c lo r f R' _ (!R'.l) HL.out H1.out).mono ?_); rintro e2 w2 ⟨rfl, i2, k2⟩; have V2_ := Mov.of_kf H1.out k2; have M2 := Aside0.mk (M1.out.kf H1.out k2); have R2 := Aside0.mk (V2_.row R1.out not3); have Y2 := Aside0.mk (V2_.set Y1.out); clear V2_; have H2 := Aside0.mk (show RS w2 r f R'.exA from i2); have K2 := Aside0.mk (K1.out.trans (Kg.of_kf k2)); clear i2 k2)
              | (go_at_call 70; (with_reducible refine (exK_c lo r f R' _ HL.out HL2.out H2.out Oi.out).mono ?_); rintro e3 w3 ⟨rfl, i3, k3⟩; have V3_ := Mov.of_kf H2.out k3; have M3 := Aside0.mk (M2.out.kf H2.out k3); have R3 := Aside0.mk (V3_.row R2.out not3); have Y3 := Aside0.mk (V3_.set Y2.out); clear V3_; have H3 := Aside0.mk i3; have K3 := Aside0.mk (K2.out.trans (Kg.of_kf k3)); clear i3 k3)
              | (go_at_call 66; (with_reducible refine (rwithin_c lo r f R'.exB _ 2 2 rfl (by omega) (by omega) HL.out HL2.out H3.out Oi.out.exB).mono ?_); rintro e4 w4 ⟨r2, rfl, n4, i4, j4, k4⟩; have V4_ := Mov.of_kf H3.out k4; have M4 := Aside0.mk (M3.out.kf H3.out k4); have R4 := Aside0.mk (V4_.row R3.out not3); have Y4 := Aside0.mk (V4_.set Y3.out); clear V4_; have HN := Aside0.mk (Nat.le_trans K3.out.below.size n4); have H4 := Aside0.mk i4; have I4 := Aside0.mk j4; have K4 := Aside0.mk (K3.out.trans (Kg.of_kf k4)); have HNE := Aside0.mk (show r ≠ r2 from by have := H3.out.sz; omega); have HL3 := Aside0.mk (show lo ≤ r2 from Nat.le_trans (H3.out.wsz HL.out) n4); clear n4 i4 j4 k4))
          refine start_ (n := 19) (S := fun w' => Below w4.heap.size w4 w') (ds := [18]) #[false, false, false, false, false, false, false, false, false, false, false, false, false, false, false, false, false, false, false] (by kernel_rfl) rfl rfl (Below.refl w4.heap.size w4).drew (fun hHeld => ?_)
          have HS := Aside0.mk (Below.refl w4.heap.size w4).drew
          generalize w4.drew = w5 at HS hHeld ⊢
          refine pure_ (i := 0) (N := (some 23)) (v := ?_) (a' := ?_) #[true, false, false, false, false, false, false, false, false, false, false, false, false, false, false, false, false, false, false] rfl rfl (by kernel_rfl) (fun _ _ _ h => h) (Or.inl ⟨by rfl, ?_⟩) ?_ ?_
          rotate_left
          · intro w'
            go_simp
            with_reducible rfl
          rotate_left
          · simp only [Act.put, List.setIfInBounds_toArray, List.set_cons_zero, List.set_cons_succ]
            rfl
          refine pure_ (i := 1) (N := (some 24)) (v := ?_) (a' := ?_) #[true, true, false, false, false, false, false, false, false, false, false, false, false, false, false, false, false, false, false] rfl rfl (by kernel_rfl) (fun _ _ _ h => h) (Or.inl ⟨by rfl, ?_⟩) ?_ ?_
          rotate_left
          · intro w'
            go_simp
            with_reducible rfl
          rotate_left
          · simp only [Act.put, List.setIfInBounds_toArray, List.set_cons_zero, List.set_cons_succ]
            rfl
          refine pure_ (i := 2) (N := (some 25)) (v := ?_) (a' := ?_) #[true, true, true, false, false, false, false, false, false, false, false, false, false, false, false, false, false, false, false] rfl rfl (by kernel_rfl) (fun _ _ _ h => h) (Or.inl ⟨by rfl, ?_⟩) ?_ ?_
          rotate_left
          · intro w'
            go_simp
            with_reducible rfl
          rotate_left
          · simp only [Act.put, List.setIfInBounds_toArray, List.set_cons_zero, List.set_cons_succ]
            rfl
          refine take_ (i := 3) (N := (some 26)) (v := ?_) (a' := ?_) #[true, true, true, true, false, false, false, false, false, false, false, false, false, false, false, false, false, false, false] rfl rfl (by kernel_rfl) (fun _ _ _ h => h) (Or.inl ⟨by rfl, ?_⟩) hHeld ?_ ?_
          rotate_left
          · rintro w' hS
            have hq := rcell H4.out.rd hS
            obtain ⟨hc1, hc2, hc3⟩ := hq
            go_simp
            with_reducible rfl
          rotate_left
          · simp only [Act.put, List.setIfInBounds_toArray, List.set_cons_zero, List.set_cons_succ]
            rfl
          refine pure_ (i := 4) (N := (some 27)) (v := ?_) (a' := ?_) #[true, true, true, true, true, false, false, false, false, false, false, false, false, false, false, false, false, false, false] rfl rfl (by kernel_rfl) (fun _ _ _ h => h) (Or.inl ⟨by rfl, ?_⟩) ?_ ?_
          rotate_left
          · intro w'
            go_simp
            with_reducible rfl
          rotate_left
          · simp only [Act.put, List.setIfInBounds_toArray, List.set_cons_zero, List.set_cons_succ]
            rfl
          refine pure_ (i := 5) (N := (some 28)) (v := ?_) (a' := ?_) #[true, true, true, true, true, true, false, false, false, false, false, false, false, false, false, false, false, false, false] rfl rfl (by kernel_rfl) (fun _ _ _ h => h) (Or.inl ⟨by rfl, ?_⟩) ?_ ?_
          rotate_left
          · intro w'
            go_simp
            with_reducible rfl
          rotate_left
          · simp only [Act.put, List.setIfInBounds_toArray, List.set_cons_zero, List.set_cons_succ]
            rfl
          refine pure_ (i := 6) (N := (some 29)) (v := ?_) (a' := ?_) #[true, true, true, true, true, true, true, false, false, false, false, false, false, false, false, false, false, false, false] rfl rfl (by kernel_rfl) (fun _ _ _ h => h) (Or.inl ⟨by rfl, ?_⟩) ?_ ?_
          rotate_left
          · intro w'
            go_simp
            with_reducible rfl
          rotate_left
          · simp only [Act.put, List.setIfInBounds_toArray, List.set_cons_zero, List.set_cons_succ]
            rfl
          refine take_ (i := 7) (N := (some 30)) (v := ?_) (a' := ?_) #[true, true, true, true, true, true, true, true, false, false, false, false, false, false, false, false, false, false, false] rfl rfl (by kernel_rfl) (fun _ _ _ h => h) (Or.inl ⟨by rfl, ?_⟩) hHeld ?_ ?_
          rotate_left
          · rintro w' hS
            have hq := rcell H4.out.rd hS
            obtain ⟨hc1, hc2, hc3⟩ := hq
            go_simp
            with_reducible rfl
          rotate_left
          · simp only [Act.put, List.setIfInBounds_toArray, List.set_cons_zero, List.set_cons_succ]
            rfl
          refine pure_ (i := 8) (N := (some 31)) (v := ?_) (a' := ?_) #[true, true, true, true, true, true, true, true, true, false, false, false, false, false, false, false, false, false, false] rfl rfl (by kernel_rfl) (fun _ _ _ h => h) (Or.inl ⟨by rfl, ?_⟩) ?_ ?_
          rotate_left
          · intro w'
            go_simp
            with_reducible rfl
          rotate_left
          · simp only [Act.put, List.setIfInBounds_toArray, List.set_cons_zero, List.set_cons_succ]
            rfl
          refine pure_ (i := 9) (N := (some 32)) (v := ?_) (a' := ?_) #[true, true, true, true, true, true, true, true, true, true, false, false, false, false, false, false, false, false, false] rfl rfl (by kernel_rfl) (fun _ _ _ h => h) (Or.inl ⟨by rfl, ?_⟩) ?_ ?_
          rotate_left
          · intro w'
            go_simp
            with_reducible rfl
          rotate_left
          · simp only [Act.put, List.setIfInBounds_toArray, List.set_cons_zero, List.set_cons_succ]
            rfl
          refine take_ (i := 10) (N := (some 33)) (v := ?_) (a' := ?_) #[true, true, true, true, true, true, true, true, true, true, true, false, false, false, false, false, false, false, false] rfl rfl (by kernel_rfl) (fun _ _ _ h => h) (Or.inl ⟨by rfl, ?_⟩) hHeld ?_ ?_
          rotate_left
          · rintro w' hS
            have hc4 : w'.cell? ⟨f, 1, none⟩ = some (.bool R'.t) := (blk_cell ((hS.block f (blk_lt H4.out.ft)).trans H4.out.ft) 1).trans rfl
            go_simp
            with_reducible rfl
          rotate_left
          · simp only [Act.put, List.setIfInBounds_toArray, List.set_cons_zero, List.set_cons_succ]
            rfl
          refine pure_ (i := 11) (N := (some 34)) (v := ?_) (a' := ?_) #[true, true, true, true, true, true, true, true, true, true, true, true, false, false, false, false, false, false, false] rfl rfl (by kernel_rfl) (fun _ _ _ h => h) (Or.inl ⟨by rfl, ?_⟩) ?_ ?_
          rotate_left
          · intro w'
            go_simp
            with_reducible rfl
          rotate_left
          · simp only [Act.put, List.setIfInBounds_toArray, List.set_cons_zero, List.set_cons_succ]
            rfl
          refine pure_ (i := 12) (N := (some 35)) (v := ?_) (a' := ?_) #[true, true, true, true, true, true, true, true, true, true, true, true, true, false, false, false, false, false, false] rfl rfl (by kernel_rfl) (fun _ _ _ h => h) (Or.inl ⟨by rfl, ?_⟩) ?_ ?_
          rotate_left
          · intro w'
            go_simp
            with_reducible rfl
          rotate_left
          · simp only [Act.put, List.setIfInBounds_toArray, List.set_cons_zero, List.set_cons_succ]
            rfl
          refine pure_ (i := 13) (N := (some 36)) (v := ?_) (a' := ?_) #[true, true, true, true, true, true, true, true, true, true, true, true, true, true, false, false, false, false, false] rfl rfl (by kernel_rfl) (fun _ _ _ h => h) (Or.inl ⟨by rfl, ?_⟩) ?_ ?_
          rotate_left
          · intro w'
            go_simp
            with_reducible rfl
          rotate_left
          · simp only [Act.put, List.setIfInBounds_toArray, List.set_cons_zero, List.set_cons_succ]
            rfl
          refine take_ (i := 14) (N := (some 37)) (v := .bool (decide (R'.exK ∈ seen))) (a' := ?_) #[true, true, true, true, true, true, true, true, true, true, true, true, true, true, true, false, false, false, false] rfl rfl (by kernel_rfl) (fun _ _ _ h => h) (Or.inl ⟨by rfl, ?_⟩) hHeld ?_ ?_
          · rintro w' hS
            exact Y_exec (d := Kd.int .i64) (v := vm) (k := R'.exK) (base := w.heap.size) (ok := fun _ => True) (xs := seen) rfl rfl rfl HWF.out (Kd.Y_below Y4.out hS)
          rotate_left
          · simp only [Act.put, List.setIfInBounds_toArray, List.set_cons_zero, List.set_cons_succ]
            rfl
          refine pure_ (i := 15) (N := (some 38)) (v := ?_) (a' := ?_) #[true, true, true, true, true, true, true, true, true, true, true, true, true, true, true, true, false, false, false] rfl rfl (by kernel_rfl) (fun _ _ _ h => h) (Or.inl ⟨by rfl, ?_⟩) ?_ ?_
          rotate_left
          · intro w'
            go_simp
            with_reducible rfl
          rotate_left
          · simp only [Act.put, List.setIfInBounds_toArray, List.set_cons_zero, List.set_cons_succ]
            rfl
          refine pure_ (i := 16) (N := (some 39)) (v := ?_) (a' := ?_) #[true, true, true, true, true, true, true, true, true, true, true, true, true, true, true, true, true, false, false] rfl rfl (by kernel_rfl) (fun _ _ _ h => h) (Or.inl ⟨by rfl, ?_⟩) ?_ ?_
          rotate_left
          · intro w'
            go_simp
            with_reducible rfl
          rotate_left
          · simp only [Act.put, List.setIfInBounds_toArray, List.set_cons_zero, List.set_cons_succ]
            rfl
          refine pure_ (i := 17) (N := (some 40)) (v := ?_) (a' := ?_) #[true, true, true, true, true, true, true, true, true, true, true, true, true, true, true, true, true, true, false] rfl rfl (by kernel_rfl) (fun _ _ _ h => h) (Or.inl ⟨by rfl, ?_⟩) ?_ ?_
          rotate_left
          · intro w'
            go_simp
            with_reducible rfl
          rotate_left
          · simp only [Act.put, List.setIfInBounds_toArray, List.set_cons_zero, List.set_cons_succ]
            rfl
          refine last_ (i := 18) (N := none) #[true, true, true, true, true, true, true, true, true, true, true, true, true, true, true, true, true, true, true] rfl rfl (by kernel_rfl) (by decide) (fun K hK => ?_)
          refine stM (v := .bool (decide (R'.exK ∈ seen))) (by rfl) rfl rfl rfl (H4.out.below HS.out).ft sz4 rfl rfl rfl (by simp) ?_
          intro w7 h7 b7 k7
          have kf7 := (Kf.of_below (r := r) (f := f) (H4.out.wsz HL.out) HS.out).trans (Kf.of_keep (r := r) (.inr rfl) (b7 _ HL.out) k7)
          have HT7 : R'.exT seen = (decide (R'.exK ∈ seen)) := by unfold Rp.exT; rw [ht]; exact Bool.false_or _
          have H7 := Aside0.mk (show RS w7 r f (R'.exP seen) from ⟨(k7.2 r (blk_lt (H4.out.below HS.out).rd) H4.out.ne (by simp)).trans (H4.out.below HS.out).rd, by show w7.heap[f]? = some (.cells #[.int .i64 (R'.exB.outR 2).c, .bool (R'.exT seen)] 90 (0, 0)); rw [HT7]; exact h7⟩)
          have I7 := Aside0.mk (show RS w7 r2 f (R'.exI seen) from ⟨(k7.2 r2 (blk_lt (I4.out.below HS.out).rd) I4.out.ne (by simp)).trans (I4.out.below HS.out).rd, H7.out.ft⟩)
          have V7 := Mov.of_kf H4.out kf7
          have M7 := Aside0.mk (M4.out.kf H4.out kf7)
          have R7 := Aside0.mk (V7.row R4.out not3)
          have Y7 := Aside0.mk (V7.set Y4.out)
          have K7 := Aside0.mk (K4.out.trans (Kg.of_kf kf7))
          clear h7 b7 k7 kf7 HT7 V7
          refine hK.out _ _ ?_
          clear hK K
          refine done_ (by kernel_rfl) ?_
          go_wp2_with (first
              | (at_mapUpdate; refine Kd.Y_put (Kd.int .i64) (w0 := w7) w.heap.size 3 rfl 68 _ _ _ rfl Try.underlying68 Try.underlying3 Try.underlying4 vm seen R'.exK (ok := fun _ => True) rfl rfl rfl HWF.out (by have := Bi.out.2.1; simp only [maxLen]; omega) Y7.out (Below.refl _ _) K7.out.below.size ?_; intro w8 ho8 hb8 hm8; have M8 := Aside0.mk (M7.out.map hm8); have R8 := Aside0.mk (Kd.R_map R7.out hm8); have Y8 := Aside0.mk ho8; have H8 := Aside0.mk (show RS w8 r f (R'.exP seen) from H7.out.map hm8); have I8 := Aside0.mk (show RS w8 r2 f (R'.exI seen) from I7.out.map hm8); have K8 := Aside0.mk (K7.out.over hb8 HLW.out (Nat.le_refl _)); clear ho8 hb8 hm8)
              | ((refine (HT.out.calls (fun j => some j ≠ u6.ownBlock) R'.exK m' (R'.exP seen) (R'.exI seen) r2 _ K8.out HN.out H8.out I8.out (Oi.out.exI seen) M8.out (R_lt R8.out)).mono ?_); rintro e9 w9 ⟨rfl, i9, m9, j9, k9⟩; have V_ := Mov.of_kh H8.out I8.out M8.out k9; have M9 := Aside0.mk m9; have R9 := Aside0.mk (V_.row R8.out not3'); have Y9 := Aside0.mk (V_.set Y8.out); have I9 := Aside0.mk i9; have H9 := Aside0.mk (show RS w9 r f (exQ take lastf R' seen m') from j9); have K9 := Aside0.mk (Kh.inner K8.out HN.out k9); clear i9 m9 j9 k9 V_)
              | (go_at_call 51; (with_reducible refine (ok_c r f (exQ take lastf R' seen m') _ H9.out).mono ?_); rintro e10 w10 ⟨rfl, rfl⟩))
          go_roundg gk'
          case rel => exact ⟨xs, (exX take R' seen m').2.1, exN take lastf R' seen m', seen ++ [R'.exK], ⟨by unfold exN; rw [if_neg (by rw [HX.out]; decide)]; exact H9.out⟩, O3, M9, R9, Y9, K9, ⟨B3.out.1, B3.out.2.1, by have := B3.out.2.2; omega⟩, ⟨by rw [← E3.out.1]; unfold exO; rw [if_neg (by rw [HX.out]; decide), if_neg HC.out]; simp, E3.out.2⟩⟩
          case measure => omega
  · have hmf : R'.more = false := by simpa using hm
    have E1 := Aside0.mk (show xs = F.1 ∧ m' = F.2.1 ∧ R' = F.2.2 from by
      have h0 := Ei.out
      have h2 : exts take lastf gk seen m' R' = ([], m', R') := by
        cases gk with
        | zero => rfl
        | succ n => unfold exts; rw [if_neg hm]
      rw [h2] at h0
      exact ⟨by simpa using h0.1, congrArg Prod.fst h0.2, congrArg Prod.snd h0.2⟩)
    clear hm
    go_wp2_with (first
    | (go_at_call 99; (with_reducible refine (more_c r f R' _ Hi.out).mono ?_); rintro e1 w1 ⟨rfl, b1⟩; have V_ := Mov.of_below b1 []; have H1 := Aside0.mk (show RS w1 r f R' from Hi.out.below b1); have M1 := Aside0.mk (Mi.out.below b1); have R1 := Aside0.mk (V_.row Ri.out not3''); have Y1 := Aside0.mk (V_.set Yi.out); have K1 := Aside0.mk (Ki.out.over (b1.mono HBi.out) HLW.out (Nat.le_refl _)); clear b1 V_))
    go_ret
    exact ⟨u6, rfl, by rw [← E1.out.1]; exact Kd.R_lower R1.out (Nat.zero_le _), by rw [← E1.out.2.1]; exact M1.out.weaken (fun _ _ => trivial), by rw [← E1.out.2.2]; exact H1.out, K1.out⟩
end Go.Proofs.Ytlkebjkpmiehcaa.Ms
end
