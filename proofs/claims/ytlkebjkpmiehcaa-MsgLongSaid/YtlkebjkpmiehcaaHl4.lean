/- Words, contracts and lemmas that the claim needs, in the order in which they build. Conditions: each lemma's own. -/
import Derived.Laws.Tables
import Derived.Test.YtlkebjkpmiehcaaHl3
section
namespace Go.Proofs.Ytlkebjkpmiehcaa.Ms
open Go.RowKit Go.Proofs.YtlkebjkpmiehcaaW.PrintWords Go.Proofs.YtlkebjkpmiehcaaW.PrintLast Go.Proofs.YtlkebjkpmiehcaaW.PrintMore Go.Proofs.Ytlkebjkpmiehcaa.X
open Go.Proofs.Ytlkebjkpmiehcaa.Pure (nv numOf vecOf nv_bd nv_bd4 number_any vec_ok)
set_option linter.unusedVariables false
section
variable {ops : Array Oper} {rest : List Oper} {o : Oper} {a : Act} {Q : Exit → Act → World → Prop} {w : World}
theorem boxP {t : TypeId} (hgd : o.guard = none) {x : Operand} (ho : o.op = .box t x) {q : Option Addr} (hx : a.eval x = .pointer q)
    (H : ∀ g, g = w.heap.size → ∀ w1, w1.heap[g]? = some (.cells #[.pointer q] t (0, 0)) → Below w.heap.size w w1 → wpList Try.prog ops Q rest (a.put o.dst (.pointer (some ⟨g, 0, none⟩))) w1) : wpList Try.prog ops Q (o :: rest) a w := by
  refine Kd.event_run hgd ?_ (H _ rfl _ (blk_new w _) (below_alloc (Below.refl _ _) _))
  unfold execOp
  simp only [ho, hx]
  rfl
theorem zero87 : (Try.prog.info? 87).map (·.zero) = some (some (.pointer none)) := by kernel_rfl
theorem allocP {t : TypeId} (hz : (Try.prog.info? t).map (·.zero) = some (some (.pointer none))) (hgd : o.guard = none) (ho : o.op = .alloc t)
    (H : ∀ g, g = w.heap.size → ∀ w1, w1.heap[g]? = some (.cells #[.pointer none] t (0, 0)) → Below w.heap.size w w1 → wpList Try.prog ops Q rest (a.put o.dst (.pointer (some ⟨g, 0, none⟩))) w1) : wpList Try.prog ops Q (o :: rest) a w := by
  refine Kd.event_run hgd ?_ (H _ rfl _ (blk_new w (.cells #[.pointer none] t)) (below_alloc (Below.refl _ _) _))
  obtain ⟨i0, hi, hz⟩ := Option.map_eq_some_iff.1 hz
  unfold execOp
  simp only [ho, Instr.alloc, zeroValue, typeInfo, Sem.run_bind]
  simp [hi, hz]
  rfl
theorem sz87 : (Try.prog.info? 87).map (·.size) = some 1 := by kernel_rfl
end
def Rp.ceR (R : Rp) : Rp := (R.vecR 1 0 255).allow ((R.vecV 1 0 255).toList.isEmpty)
def Rp.ceV (R : Rp) : List ByteArray := allV oneCer (R.ceR.inR 3)
def Rp.ceN (R : Rp) : Rp := (R.ceR.outR 3).back (allR oneCer (R.ceR.inR 3))
theorem Rp.Ok.ceR {R : Rp} (h : R.Ok) : R.ceR.Ok := (h.vecR _ _ _).allow _
theorem Rp.Ok.ceN {R : Rp} (h : R.Ok) : R.ceN.Ok := (h.ceR.outR 3).back _
set_option maxRecDepth 100000 in
set_option maxHeartbeats 8000000 in
theorem certificate_c (lo r f gm : Nat) (R : Rp) (m : Mv) (w : World) (hl : lo ≤ f) (hl2 : lo ≤ r) (hg : lo ≤ gm) (h : RS w r f R) (ho : R.Ok) (hm : MO (fun _ => True) w gm m) :
    Calls Try.prog 69 #[.pointer (some ⟨r, 0, none⟩), .pointer (some ⟨gm, 0, none⟩)] w fun ex w' => ex = .returned (.tuple #[]) ∧ RS w' r f R.ceN ∧ MO (fun _ => True) w' gm { m with f14 := R.ceV } ∧ Kg lo r f gm w w' := by
  have H := Aside0.mk h
  have HL := Aside0.mk hl
  have HL2 := Aside0.mk hl2
  have HG := Aside0.mk hg
  have HO := Aside0.mk ho
  have HWL := Aside0.mk (h.wsz hl)
  have M := Aside0.mk hm
  have K := Aside0.mk (Kg.of_kf (g := gm) (Kf.refl lo r f w))
  clear h hl hl2 hg ho hm
  go_enter Try.func69, Try.ntmps69
  go_wp2_with (first
    | (go_at_call 71; (with_reducible refine (rvec_c lo r f R _ 1 1 rfl 0 255 (by omega) (by omega) HL.out HL2.out H.out HO.out).mono ?_); rintro e1 w1 ⟨rfl, i1, k1⟩; have M1 := Aside0.mk (M.out.kf H.out k1); have H1 := Aside0.mk i1; have K1 := Aside0.mk (K.out.trans (Kg.of_kf k1)); clear i1 k1)
    | (go_at_call 76; (with_reducible refine (allow_c lo r f (R.vecR 1 0 255) _ ((R.vecV 1 0 255).toList.isEmpty) HL.out H1.out).mono ?_); rintro e2 w2 ⟨rfl, i2, k2⟩; have M2 := Aside0.mk (M1.out.kf H1.out k2); have H2 := Aside0.mk (show RS w2 r f R.ceR from i2); have K2 := Aside0.mk (K1.out.trans (Kg.of_kf k2)); clear i2 k2)
    | (go_at_call 66; (with_reducible refine (rwithin_c lo r f R.ceR _ 3 3 rfl (by omega) (by omega) HL.out HL2.out H2.out HO.out.ceR).mono ?_); rintro e3 w3 ⟨r2, rfl, n1, i1, j1, k1⟩; have HN := Aside0.mk n1; have HP := Aside0.mk i1; have HI := Aside0.mk j1; have M3 := Aside0.mk (M2.out.kf H2.out k1); have KI := Aside0.mk k1; have HL3 := Aside0.mk (show lo ≤ r2 from Nat.le_trans (H2.out.wsz HL.out) n1); have HNE := Aside0.mk (show r ≠ r2 from by have := H2.out.sz; omega); clear n1 i1 j1 k1)
    | (go_at_call 100; (refine (all_str oneCert lo r2 f (R.ceR.inR 3) _ HL.out HL3.out HI.out (HO.out.ceR.inR 3)).mono ?_); rintro e4 w4 ⟨v4, rfl, r4, i4, k4⟩; obtain ⟨A4, c4, rfl⟩ := Kd.R_slice r4; have R4 := Aside0.mk (Kd.R_lower r4 (Nat.zero_le _)); have M4 := Aside0.mk (M3.out.kf HI.out k4); have H4 := Aside0.mk (show RS w4 r f R.ceN from HP.out.back (I := R) HNE.out k4 i4); have K4 := Aside0.mk (K2.out.trans (Kg.of_kf (KI.out.inner HN.out k4))); clear i4 k4 r4)
    | ((with_reducible refine gate_store (p := 16) rfl ?_); obtain ⟨hd_, hm_⟩ := M4.out; refine st (v := .slice A4 (allV oneCer (R.ceR.inR 3)).length c4) rfl rfl rfl hm_.box sz47' rfl rfl rfl (by rw [cells_size]; omega) ?_; intro w5 h3_ b3_ k3_; have M5 := Aside0.mk (hm_.s14 R4.out h3_ k3_); have H5 := Aside0.mk (H4.out.store hm_ k3_); have K5 := Aside0.mk (K4.out.trans (Kg.of_store (b3_ _ HG.out) k3_)); clear h3_ b3_ k3_ hm_))
  first | go_end0 | ((try simp only [Exit.inBlock, Exit.then]); refine bodyPost_ret (results_none rfl _ _ _) rfl ?_)
  exact ⟨rfl, H5.out, M5.out, K5.out⟩
def Rp.ti1 (R : Rp) : Rp := R.numR 4
def Rp.ti2 (R : Rp) : Rp := R.ti1.numR 4
def Rp.ti3 (R : Rp) : Rp := R.ti2.vecR 1 0 255
def Rp.ti4 (R : Rp) : Rp := R.ti3.vecR 2 1 65536
def Rp.tiM (R : Rp) (m : Mv) : Mv := { m with f17 := R.numV 4, f18 := R.ti1.numV 4, f19 := R.ti2.vecV 1 0 255, f16 := R.ti3.vecV 2 1 65536 }
theorem Rp.Ok.ti1 {R : Rp} (h : R.Ok) : R.ti1.Ok := h.numR 4
theorem Rp.Ok.ti2 {R : Rp} (h : R.Ok) : R.ti2.Ok := h.ti1.numR 4
theorem Rp.Ok.ti3 {R : Rp} (h : R.Ok) : R.ti3.Ok := h.ti2.vecR _ _ _
theorem Rp.Ok.ti4 {R : Rp} (h : R.Ok) : R.ti4.Ok := h.ti3.vecR _ _ _
set_option maxRecDepth 100000 in
set_option maxHeartbeats 8000000 in
theorem ticket_c (lo r f gm : Nat) (R : Rp) (m : Mv) (w : World) (hl : lo ≤ f) (hl2 : lo ≤ r) (hg : lo ≤ gm) (h : RS w r f R) (ho : R.Ok) (hm : MO (fun _ => True) w gm m) :
    Calls Try.prog 74 #[.pointer (some ⟨r, 0, none⟩), .pointer (some ⟨gm, 0, none⟩)] w fun ex w' => ex = .returned (.tuple #[]) ∧ RS w' r f R.ti4.barR ∧ MO (fun _ => True) w' gm (R.tiM m) ∧ Kg lo r f gm w w' := by
  have H := Aside0.mk h
  have HL := Aside0.mk hl
  have HL2 := Aside0.mk hl2
  have HG := Aside0.mk hg
  have HO := Aside0.mk ho
  have HWL := Aside0.mk (h.wsz hl)
  have M := Aside0.mk hm
  have K := Aside0.mk (Kg.of_kf (g := gm) (Kf.refl lo r f w))
  clear h hl hl2 hg ho hm
  go_enter Try.func74, Try.ntmps74
  go_wp2_with (first
    | (go_at_call 104; first | ((with_reducible refine (u32_c lo r f R _ HL.out HL2.out H.out HO.out).mono ?_); rintro e1 w1 ⟨rfl, i1, k1⟩; have M1 := Aside0.mk (M.out.kf H.out k1); have H1 := Aside0.mk i1; have K1 := Aside0.mk (K.out.trans (Kg.of_kf k1)); clear i1 k1; clear H) | ((with_reducible refine (u32_c lo r f R.ti1 _ HL.out HL2.out H1.out HO.out.ti1).mono ?_); rintro e2 w2 ⟨rfl, i1, k1⟩; have M2 := Aside0.mk (M1.out.kf H1.out k1); have H2 := Aside0.mk i1; have K2 := Aside0.mk (K1.out.trans (Kg.of_kf k1)); clear i1 k1))
    | ((with_reducible refine gate_store (p := 11) rfl ?_); obtain ⟨hd_, hm_⟩ := M2.out; refine st (v := .int .i64 (R.numV 4)) rfl rfl rfl hm_.box sz3' rfl rfl rfl (by rw [cells_size]; omega) ?_; intro w3 h3_ b3_ k3_; have M3 := Aside0.mk (hm_.s17 _ h3_ k3_); have H3 := Aside0.mk (H2.out.store hm_ k3_); have K3 := Aside0.mk (K2.out.trans (Kg.of_store (b3_ _ HG.out) k3_)); clear h3_ b3_ k3_ hm_)
    | ((with_reducible refine gate_store (p := 13) rfl ?_); obtain ⟨hd_, hm_⟩ := M3.out; refine st (v := .int .i64 (R.ti1.numV 4)) rfl rfl rfl hm_.box sz3' rfl rfl rfl (by rw [cells_size]; omega) ?_; intro w4 h3_ b3_ k3_; have M4 := Aside0.mk (hm_.s18 _ h3_ k3_); have H4 := Aside0.mk (H3.out.store hm_ k3_); have K4 := Aside0.mk (K3.out.trans (Kg.of_store (b3_ _ HG.out) k3_)); clear h3_ b3_ k3_ hm_)
    | (go_at_call 71; first | ((with_reducible refine (rvec_c lo r f R.ti2 _ 1 1 rfl 0 255 (by omega) (by omega) HL.out HL2.out H4.out HO.out.ti2).mono ?_); rintro e5 w5 ⟨rfl, i1, k1⟩; have M5 := Aside0.mk (M4.out.kf H4.out k1); have H5 := Aside0.mk i1; have K5 := Aside0.mk (K4.out.trans (Kg.of_kf k1)); clear i1 k1) | ((with_reducible refine (rvec_c lo r f R.ti3 _ 2 2 rfl 1 65536 (by omega) (by omega) HL.out HL2.out H6.out HO.out.ti3).mono ?_); rintro e7 w7 ⟨rfl, i1, k1⟩; have M7 := Aside0.mk (M6.out.kf H6.out k1); have H7 := Aside0.mk i1; have K7 := Aside0.mk (K6.out.trans (Kg.of_kf k1)); clear i1 k1))
    | ((with_reducible refine gate_store (p := 18) rfl ?_); obtain ⟨hd_, hm_⟩ := M5.out; refine st (v := .string (R.ti2.vecV 1 0 255)) rfl rfl rfl hm_.box sz9 rfl rfl rfl (by rw [cells_size]; omega) ?_; intro w6 h3_ b3_ k3_; have M6 := Aside0.mk (hm_.s19 _ h3_ k3_); have H6 := Aside0.mk (H5.out.store hm_ k3_); have K6 := Aside0.mk (K5.out.trans (Kg.of_store (b3_ _ HG.out) k3_)); clear h3_ b3_ k3_ hm_)
    | ((with_reducible refine gate_store (p := 23) rfl ?_); obtain ⟨hd_, hm_⟩ := M7.out; refine st (v := .string (R.ti3.vecV 2 1 65536)) rfl rfl rfl hm_.box sz9 rfl rfl rfl (by rw [cells_size]; omega) ?_; intro w8 h3_ b3_ k3_; have M8 := Aside0.mk (hm_.s16 _ h3_ k3_); have H8 := Aside0.mk (H7.out.store hm_ k3_); have K8 := Aside0.mk (K7.out.trans (Kg.of_store (b3_ _ HG.out) k3_)); clear h3_ b3_ k3_ hm_)
    | (go_at_call 102; (with_reducible refine (bare_c lo r f R.ti4 _ HL.out HL2.out H8.out HO.out.ti4).mono ?_); rintro e9 w9 ⟨rfl, i1, k1⟩; have M9 := Aside0.mk (M8.out.kf H8.out k1); have H9 := Aside0.mk i1; have K9 := Aside0.mk (K8.out.trans (Kg.of_kf k1)); clear i1 k1))
  first | go_end0 | ((try simp only [Exit.inBlock, Exit.then]); refine bodyPost_ret (results_none rfl _ _ _) rfl ?_)
  exact ⟨rfl, H9.out, M9.out, K9.out⟩
theorem MO.other {ok : Nat → Prop} {w w1 : World} {gm g : Nat} {m : Mv} {cs : Array Value} {t : TypeId} (a : MO ok w gm m) (hb : w.heap[g]? = some (.cells cs t (0, 0))) (h0 : t ≠ 49) (h3 : 3 ≠ t) (h9 : 9 ≠ t) (h66 : 66 ≠ t) (h111 : 111 ≠ t) (k : KeepBut w w1 g none) : MO ok w1 gm m := by
  obtain ⟨hd, a⟩ := a
  have hm : ∀ (j : Nat) (cs : Array Value) (t' : TypeId), w.heap[j]? = some (.cells cs t' (0, 0)) → t' ∉ [t] → w1.heap[j]? = some (.cells cs t' (0, 0)) := fun j cs t' hj ht => (k.2 j (blk_lt hj) (blk_ne hj hb (by intro e; exact ht (by simp [e]))) (by simp)).trans hj
  exact ⟨hd, a.move ((k.2 gm (blk_lt a.box) (blk_ne a.box hb (by intro e; exact h0 e.symm)) (by simp)).trans a.box) _ hm (by simpa using h3) (by simpa using h9) (by simpa using h66) (by simpa using h111)⟩
def Rp.h1 (R : Rp) : Rp := R.verR
def Rp.h2 (R : Rp) : Rp := R.h1.bytR 32
def Rp.h3 (R : Rp) : Rp := R.h2.vecR 1 0 32
def Rp.hM (R : Rp) (m : Mv) : Mv := { m with f1 := R.h1.bytV 32, f2 := R.h2.vecV 1 0 32 }
def Rp.c4 (R : Rp) : Rp := lstR (oneNum 2) R.h3 2
def Rp.c5 (R : Rp) : Rp := R.c4.vecR 1 0 255
def Rp.c6 (R : Rp) : Rp := R.c5.allow ((R.c4.vecV 1 0 255).toList == ([0] : List UInt8))
def Rp.cM (R : Rp) (m : Mv) : Mv := { R.hM m with f3 := lstV (oneNum 2) R.h3 2 }
def Rp.cX (R : Rp) (m : Mv) : List Int × Mv × Rp := exts cli pskL (R.c6.inR 2).s.size [] (R.cM m) (R.c6.inR 2)
def Rp.chM (R : Rp) (m : Mv) : Mv := { (R.cX m).2.1 with f13 := (R.cX m).1 }
def Rp.chR (R : Rp) (m : Mv) : Rp := (R.c6.outR 2).back (R.cX m).2.2
def Rp.s4 (R : Rp) : Rp := R.h3.numR 2
def Rp.s5 (R : Rp) : Rp := R.s4.numR 1
def Rp.s6 (R : Rp) : Rp := R.s5.allow (R.s4.numV 1 == 0)
def Rp.sM (R : Rp) (m : Mv) : Mv := { R.hM m with f3 := [R.h3.numV 2] }
def Rp.sX (R : Rp) (m : Mv) : List Int × Mv × Rp := exts srv sameL (R.s6.inR 2).s.size [] (R.sM m) (R.s6.inR 2)
def Rp.shM (R : Rp) (m : Mv) : Mv := { (R.sX m).2.1 with f13 := (R.sX m).1 }
def Rp.shR (R : Rp) (m : Mv) : Rp := (R.s6.outR 2).back (R.sX m).2.2
theorem Rp.Ok.h1 {R : Rp} (h : R.Ok) : R.h1.Ok := h.verR
theorem Rp.Ok.h2 {R : Rp} (h : R.Ok) : R.h2.Ok := h.h1.bytR (by omega)
theorem Rp.Ok.h3 {R : Rp} (h : R.Ok) : R.h3.Ok := h.h2.vecR _ _ _
theorem Rp.Ok.c4 {R : Rp} (h : R.Ok) : R.c4.Ok := h.h3.lstR 2
theorem Rp.Ok.c5 {R : Rp} (h : R.Ok) : R.c5.Ok := h.c4.vecR _ _ _
theorem Rp.Ok.c6 {R : Rp} (h : R.Ok) : R.c6.Ok := h.c5.allow _
theorem Rp.Ok.chR {R : Rp} (h : R.Ok) (m : Mv) : (R.chR m).Ok := (h.c6.outR 2).back _
theorem Rp.Ok.s4 {R : Rp} (h : R.Ok) : R.s4.Ok := h.h3.numR _
theorem Rp.Ok.s5 {R : Rp} (h : R.Ok) : R.s5.Ok := h.s4.numR _
theorem Rp.Ok.s6 {R : Rp} (h : R.Ok) : R.s6.Ok := h.s5.allow _
theorem Rp.Ok.shR {R : Rp} (h : R.Ok) (m : Mv) : (R.shR m).Ok := (h.s6.outR 2).back _
set_option maxRecDepth 100000 in
set_option maxHeartbeats 8000000 in
theorem clientHello_c (lo r f gm : Nat) (R : Rp) (m : Mv) (w : World) (hl : lo ≤ f) (hl2 : lo ≤ r) (hg : lo ≤ gm) (h : RS w r f R) (ho : R.Ok) (hm : MO (fun _ => True) w gm m) :
    Calls Try.prog 64 #[.pointer (some ⟨r, 0, none⟩), .pointer (some ⟨gm, 0, none⟩)] w fun ex w' => ex = .returned (.tuple #[]) ∧ RS w' r f (R.chR m) ∧ MO (fun _ => True) w' gm (R.chM m) ∧ Kg lo r f gm w w' := by
  have H := Aside0.mk h
  have HL := Aside0.mk hl
  have HL2 := Aside0.mk hl2
  have HG := Aside0.mk hg
  have HO := Aside0.mk ho
  have HWL := Aside0.mk (h.wsz hl)
  have M := Aside0.mk hm
  have K := Aside0.mk (Kg.of_kf (g := gm) (Kf.refl lo r f w))
  clear h hl hl2 hg ho hm
  go_enter Try.func64, Try.ntmps64
  go_wp2_with (first
    | ((with_reducible refine gate_dst (N := 3) rfl ?_); refine boxP rfl rfl rfl ?_; intro gb eb w0 h0_ b0_; have X0 := Aside0.mk h0_; have H0 := Aside0.mk (show RS w0 r f R from H.out.below b0_); have M0 := Aside0.mk (M.out.below b0_); have K0 := Aside0.mk (K.out.trans (Kg.of_kf (Kf.of_below (r := r) (f := f) HWL.out b0_))); clear h0_ b0_ eb)
    | (go_at_call 93; (with_reducible refine (version_c lo r f R _ HL.out HL2.out H0.out HO.out).mono ?_); rintro e1 w1 ⟨rfl, i1, k1⟩; have X1 := Aside0.mk (k1.keep gb _ X0.out (blk_ne X0.out H0.out.rd (by decide)) (blk_ne X0.out H0.out.ft (by decide))); have M1 := Aside0.mk (M0.out.kf H0.out k1); have H1 := Aside0.mk (show RS w1 r f R.h1 from i1); have K1 := Aside0.mk (K0.out.trans (Kg.of_kf k1)); clear i1 k1))
  refine start_ (n := 6) (S := fun w' => w'.heap[gb]? = some (.cells #[.pointer (some ⟨gm, 0, none⟩)] 85 (0, 0))) (ds := [5]) #[false, false, false, false, false, false] (by kernel_rfl) rfl rfl (((Below.refl w1.heap.size w1).drew.block gb (blk_lt X1.out)).trans X1.out) (fun hHeld => ?_)
  have HS1 := Aside0.mk (Below.refl w1.heap.size w1).drew
  generalize w1.drew = w1d at HS1 hHeld ⊢
  have XD1 := Aside0.mk hHeld
  have HD1 := Aside0.mk (H1.out.below HS1.out)
  have MD1 := Aside0.mk (M1.out.below HS1.out)
  have KD1 := Aside0.mk (K1.out.trans (Kg.of_kf (Kf.of_below (r := r) (f := f) (H1.out.wsz HL.out) HS1.out)))
  refine take_ (i := 0) (N := (some 8)) (v := ?_) (a' := ?_) #[true, false, false, false, false, false] rfl rfl (by kernel_rfl) (fun _ _ _ h => h) (Or.inl ⟨by rfl, ?_⟩) hHeld ?_ ?_
  rotate_left
  · rintro w' hS
    have hc : w'.cell? ⟨gb, 0, none⟩ = some (.pointer (some ⟨gm, 0, none⟩)) := (blk_cell hS 0).trans rfl
    go_simp
    with_reducible rfl
  rotate_left
  · simp only [Act.put, List.setIfInBounds_toArray, List.set_cons_zero, List.set_cons_succ]
    rfl
  refine pure_ (i := 1) (N := (some 9)) (v := ?_) (a' := ?_) #[true, true, false, false, false, false] rfl rfl (by kernel_rfl) (fun _ _ _ h => h) (Or.inl ⟨by rfl, ?_⟩) ?_ ?_
  rotate_left
  · intro w'
    go_simp
    with_reducible rfl
  rotate_left
  · simp only [Act.put, List.setIfInBounds_toArray, List.set_cons_zero, List.set_cons_succ]
    rfl
  refine one_ (i := 2) (N := (some 10)) #[true, true, true, false, false, false] rfl rfl (by kernel_rfl) (by decide) (fun K hK => ?_)
  refine goes_ (f := 73) Try.func73 (by kernel_rfl) rfl #[.pointer (some ⟨r, 0, none⟩), .int .i64 32] (by rfl) rfl rfl (by (try simp only [List.map_toArray, List.map_cons, List.map_nil]); first | done | rfl) ?_
  refine (bytes_c lo r f R.h1 _ 32 (by omega) (by omega) HL.out HL2.out HD1.out HO.out.h1).mono ?_
  rintro e w1c ⟨rfl, i_, k_⟩
  refine ⟨_, rfl, ?_⟩
  have XC1 := Aside0.mk (k_.keep gb _ XD1.out (blk_ne XD1.out HD1.out.rd (by decide)) (blk_ne XD1.out HD1.out.ft (by decide)))
  have MC1 := Aside0.mk (MD1.out.kf HD1.out k_)
  have HC1 := Aside0.mk (show RS w1c r f R.h2 from i_)
  have KC1 := Aside0.mk (KD1.out.trans (Kg.of_kf k_))
  clear i_ k_
  refine hK.out _ _ (XC1.out) (fun hHeld => ?_)
  clear hK K
  refine norm_ (a' := ?_) ?_ ?_
  rotate_left
  · show Act.put _ (some 10) _ = _
    simp only [Act.put, List.setIfInBounds_toArray, List.set_cons_zero, List.set_cons_succ]
    rfl
  refine pure_ (i := 3) (N := (some 11)) (v := ?_) (a' := ?_) #[true, true, true, true, false, false] rfl rfl (by kernel_rfl) (fun _ _ _ h => h) (Or.inl ⟨by rfl, ?_⟩) ?_ ?_
  rotate_left
  · intro w'
    go_simp
    with_reducible rfl
  rotate_left
  · simp only [Act.put, List.setIfInBounds_toArray, List.set_cons_zero, List.set_cons_succ]
    rfl
  refine pure_ (i := 4) (N := (some 12)) (v := ?_) (a' := ?_) #[true, true, true, true, true, false] rfl rfl (by kernel_rfl) (fun _ _ _ h => h) (Or.inl ⟨by rfl, ?_⟩) ?_ ?_
  rotate_left
  · intro w'
    go_simp
    with_reducible rfl
  rotate_left
  · simp only [Act.put, List.setIfInBounds_toArray, List.set_cons_zero, List.set_cons_succ]
    rfl
  refine last_ (i := 5) (N := none) #[true, true, true, true, true, true] rfl rfl (by kernel_rfl) (by decide) (fun K hK => ?_)
  obtain ⟨hd_, hm_⟩ := MC1.out
  refine stM (v := .string (R.h1.bytV 32)) (by rfl) rfl rfl rfl hm_.box sz9 rfl rfl rfl (by rw [cells_size]; omega) ?_
  intro w2 h3_ b3_ k3_
  have X2 := Aside0.mk ((k3_.2 gb (blk_lt XC1.out) (blk_ne XC1.out hm_.box (by decide)) (by simp)).trans XC1.out)
  have M2 := Aside0.mk (hm_.s1 _ h3_ k3_)
  have H2 := Aside0.mk (show RS w2 r f R.h2 from HC1.out.store hm_ k3_)
  have K2 := Aside0.mk (KC1.out.trans (Kg.of_store (b3_ _ HG.out) k3_))
  clear h3_ b3_ k3_ hm_
  refine hK.out _ _ ?_
  clear hK K
  refine done_ (by kernel_rfl) ?_
  go_wp2
  refine start_ (n := 6) (S := fun w' => w'.heap[gb]? = some (.cells #[.pointer (some ⟨gm, 0, none⟩)] 85 (0, 0))) (ds := [5]) #[false, false, false, false, false, false] (by kernel_rfl) rfl rfl (((Below.refl w2.heap.size w2).drew.block gb (blk_lt X2.out)).trans X2.out) (fun hHeld => ?_)
  have HS2 := Aside0.mk (Below.refl w2.heap.size w2).drew
  generalize w2.drew = w2d at HS2 hHeld ⊢
  have XD2 := Aside0.mk hHeld
  have HD2 := Aside0.mk (H2.out.below HS2.out)
  have MD2 := Aside0.mk (M2.out.below HS2.out)
  have KD2 := Aside0.mk (K2.out.trans (Kg.of_kf (Kf.of_below (r := r) (f := f) (H2.out.wsz HL.out) HS2.out)))
  refine take_ (i := 0) (N := (some 13)) (v := ?_) (a' := ?_) #[true, false, false, false, false, false] rfl rfl (by kernel_rfl) (fun _ _ _ h => h) (Or.inl ⟨by rfl, ?_⟩) hHeld ?_ ?_
  rotate_left
  · rintro w' hS
    have hc : w'.cell? ⟨gb, 0, none⟩ = some (.pointer (some ⟨gm, 0, none⟩)) := (blk_cell hS 0).trans rfl
    go_simp
    with_reducible rfl
  rotate_left
  · simp only [Act.put, List.setIfInBounds_toArray, List.set_cons_zero, List.set_cons_succ]
    rfl
  refine pure_ (i := 1) (N := (some 14)) (v := ?_) (a' := ?_) #[true, true, false, false, false, false] rfl rfl (by kernel_rfl) (fun _ _ _ h => h) (Or.inl ⟨by rfl, ?_⟩) ?_ ?_
  rotate_left
  · intro w'
    go_simp
    with_reducible rfl
  rotate_left
  · simp only [Act.put, List.setIfInBounds_toArray, List.set_cons_zero, List.set_cons_succ]
    rfl
  refine one_ (i := 2) (N := (some 15)) #[true, true, true, false, false, false] rfl rfl (by kernel_rfl) (by decide) (fun K hK => ?_)
  refine goes_ (f := 71) Try.func71 (by kernel_rfl) rfl #[.pointer (some ⟨r, 0, none⟩), .int .i64 1, .int .i64 0, .int .i64 32] (by rfl) rfl rfl (by (try simp only [List.map_toArray, List.map_cons, List.map_nil]); first | done | rfl) ?_
  refine (rvec_c lo r f R.h2 _ 1 1 rfl 0 32 (by omega) (by omega) HL.out HL2.out HD2.out HO.out.h2).mono ?_
  rintro e w2c ⟨rfl, i_, k_⟩
  refine ⟨_, rfl, ?_⟩
  have XC2 := Aside0.mk (k_.keep gb _ XD2.out (blk_ne XD2.out HD2.out.rd (by decide)) (blk_ne XD2.out HD2.out.ft (by decide)))
  have MC2 := Aside0.mk (MD2.out.kf HD2.out k_)
  have HC2 := Aside0.mk (show RS w2c r f R.h3 from i_)
  have KC2 := Aside0.mk (KD2.out.trans (Kg.of_kf k_))
  clear i_ k_
  refine hK.out _ _ (XC2.out) (fun hHeld => ?_)
  clear hK K
  refine norm_ (a' := ?_) ?_ ?_
  rotate_left
  · show Act.put _ (some 15) _ = _
    simp only [Act.put, List.setIfInBounds_toArray, List.set_cons_zero, List.set_cons_succ]
    rfl
  refine pure_ (i := 3) (N := (some 16)) (v := ?_) (a' := ?_) #[true, true, true, true, false, false] rfl rfl (by kernel_rfl) (fun _ _ _ h => h) (Or.inl ⟨by rfl, ?_⟩) ?_ ?_
  rotate_left
  · intro w'
    go_simp
    with_reducible rfl
  rotate_left
  · simp only [Act.put, List.setIfInBounds_toArray, List.set_cons_zero, List.set_cons_succ]
    rfl
  refine pure_ (i := 4) (N := (some 17)) (v := ?_) (a' := ?_) #[true, true, true, true, true, false] rfl rfl (by kernel_rfl) (fun _ _ _ h => h) (Or.inl ⟨by rfl, ?_⟩) ?_ ?_
  rotate_left
  · intro w'
    go_simp
    with_reducible rfl
  rotate_left
  · simp only [Act.put, List.setIfInBounds_toArray, List.set_cons_zero, List.set_cons_succ]
    rfl
  refine last_ (i := 5) (N := none) #[true, true, true, true, true, true] rfl rfl (by kernel_rfl) (by decide) (fun K hK => ?_)
  obtain ⟨hd_, hm_⟩ := MC2.out
  refine stM (v := .string (R.h2.vecV 1 0 32)) (by rfl) rfl rfl rfl hm_.box sz9 rfl rfl rfl (by rw [cells_size]; omega) ?_
  intro w3 h3_ b3_ k3_
  have X3 := Aside0.mk ((k3_.2 gb (blk_lt XC2.out) (blk_ne XC2.out hm_.box (by decide)) (by simp)).trans XC2.out)
  have M3 := Aside0.mk (hm_.s2 _ h3_ k3_)
  have H3 := Aside0.mk (show RS w3 r f R.h3 from HC2.out.store hm_ k3_)
  have K3 := Aside0.mk (KC2.out.trans (Kg.of_store (b3_ _ HG.out) k3_))
  clear h3_ b3_ k3_ hm_
  refine hK.out _ _ ?_
  clear hK K
  refine done_ (by kernel_rfl) ?_
  go_wp2
  refine start_ (n := 6) (S := fun w' => w'.heap[gb]? = some (.cells #[.pointer (some ⟨gm, 0, none⟩)] 85 (0, 0))) (ds := [5]) #[false, false, false, false, false, false] (by kernel_rfl) rfl rfl (((Below.refl w3.heap.size w3).drew.block gb (blk_lt X3.out)).trans X3.out) (fun hHeld => ?_)
  have HS3 := Aside0.mk (Below.refl w3.heap.size w3).drew
  generalize w3.drew = w3d at HS3 hHeld ⊢
  have XD3 := Aside0.mk hHeld
  have HD3 := Aside0.mk (H3.out.below HS3.out)
  have MD3 := Aside0.mk (M3.out.below HS3.out)
  have KD3 := Aside0.mk (K3.out.trans (Kg.of_kf (Kf.of_below (r := r) (f := f) (H3.out.wsz HL.out) HS3.out)))
  refine take_ (i := 0) (N := (some 18)) (v := ?_) (a' := ?_) #[true, false, false, false, false, false] rfl rfl (by kernel_rfl) (fun _ _ _ h => h) (Or.inl ⟨by rfl, ?_⟩) hHeld ?_ ?_
  rotate_left
  · rintro w' hS
    have hc : w'.cell? ⟨gb, 0, none⟩ = some (.pointer (some ⟨gm, 0, none⟩)) := (blk_cell hS 0).trans rfl
    go_simp
    with_reducible rfl
  rotate_left
  · simp only [Act.put, List.setIfInBounds_toArray, List.set_cons_zero, List.set_cons_succ]
    rfl
  refine pure_ (i := 1) (N := (some 19)) (v := ?_) (a' := ?_) #[true, true, false, false, false, false] rfl rfl (by kernel_rfl) (fun _ _ _ h => h) (Or.inl ⟨by rfl, ?_⟩) ?_ ?_
  rotate_left
  · intro w'
    go_simp
    with_reducible rfl
  rotate_left
  · simp only [Act.put, List.setIfInBounds_toArray, List.set_cons_zero, List.set_cons_succ]
    rfl
  refine one_ (i := 2) (N := (some 20)) #[true, true, true, false, false, false] rfl rfl (by kernel_rfl) (by decide) (fun K hK => ?_)
  refine goes_ (f := 94) Try.func94 (by kernel_rfl) rfl #[.pointer (some ⟨r, 0, none⟩), .int .i64 2, .func (.func 70) #[] #[]] (by rfl) rfl rfl (by (try simp only [List.map_toArray, List.map_cons, List.map_nil]); first | done | rfl) ?_
  refine (list_int oneU16 lo r f R.h3 _ 2 2 rfl (by omega) (by omega) HL.out HL2.out HD3.out HO.out.h3).mono ?_
  rintro e w3c ⟨v4, rfl, r_, i_, k_⟩
  obtain ⟨A4, c4, rfl⟩ := Kd.R_slice r_
  refine ⟨_, rfl, ?_⟩
  have XC3 := Aside0.mk (k_.keep gb _ XD3.out (blk_ne XD3.out HD3.out.rd (by decide)) (blk_ne XD3.out HD3.out.ft (by decide)))
  have MC3 := Aside0.mk (MD3.out.kf HD3.out k_)
  have HC3 := Aside0.mk (show RS w3c r f R.c4 from i_)
  have KC3 := Aside0.mk (KD3.out.trans (Kg.of_kf k_))
  have RC3 := Aside0.mk (Kd.R_lower r_ (Nat.zero_le _))
  clear r_
  clear i_ k_
  refine hK.out _ _ (XC3.out) (fun hHeld => ?_)
  clear hK K
  refine norm_ (a' := ?_) ?_ ?_
  rotate_left
  · show Act.put _ (some 20) _ = _
    simp only [Act.put, List.setIfInBounds_toArray, List.set_cons_zero, List.set_cons_succ]
    rfl
  refine pure_ (i := 3) (N := (some 21)) (v := ?_) (a' := ?_) #[true, true, true, true, false, false] rfl rfl (by kernel_rfl) (fun _ _ _ h => h) (Or.inl ⟨by rfl, ?_⟩) ?_ ?_
  rotate_left
  · intro w'
    go_simp
    with_reducible rfl
  rotate_left
  · simp only [Act.put, List.setIfInBounds_toArray, List.set_cons_zero, List.set_cons_succ]
    rfl
  refine pure_ (i := 4) (N := (some 22)) (v := ?_) (a' := ?_) #[true, true, true, true, true, false] rfl rfl (by kernel_rfl) (fun _ _ _ h => h) (Or.inl ⟨by rfl, ?_⟩) ?_ ?_
  rotate_left
  · intro w'
    go_simp
    with_reducible rfl
  rotate_left
  · simp only [Act.put, List.setIfInBounds_toArray, List.set_cons_zero, List.set_cons_succ]
    rfl
  refine last_ (i := 5) (N := none) #[true, true, true, true, true, true] rfl rfl (by kernel_rfl) (by decide) (fun K hK => ?_)
  obtain ⟨hd_, hm_⟩ := MC3.out
  refine stM (v := .slice A4 (lstV (oneNum 2) R.h3 2).length c4) (by rfl) rfl rfl rfl hm_.box sz44 rfl rfl rfl (by rw [cells_size]; omega) ?_
  intro w4 h3_ b3_ k3_
  have X4 := Aside0.mk ((k3_.2 gb (blk_lt XC3.out) (blk_ne XC3.out hm_.box (by decide)) (by simp)).trans XC3.out)
  have M4 := Aside0.mk (hm_.s3 RC3.out h3_ k3_)
  have H4 := Aside0.mk (show RS w4 r f R.c4 from HC3.out.store hm_ k3_)
  have K4 := Aside0.mk (KC3.out.trans (Kg.of_store (b3_ _ HG.out) k3_))
  clear h3_ b3_ k3_ hm_
  refine hK.out _ _ ?_
  clear hK K
  refine done_ (by kernel_rfl) ?_
  go_wp2_with (first
    | (go_at_call 71; (with_reducible refine (rvec_c lo r f R.c4 _ 1 1 rfl 0 255 (by omega) (by omega) HL.out HL2.out H4.out HO.out.c4).mono ?_); rintro e5 w5 ⟨rfl, i1, k1⟩; have X5 := Aside0.mk (k1.keep gb _ X4.out (blk_ne X4.out H4.out.rd (by decide)) (blk_ne X4.out H4.out.ft (by decide))); have M5 := Aside0.mk (M4.out.kf H4.out k1); have H5 := Aside0.mk (show RS w5 r f R.c5 from i1); have K5 := Aside0.mk (K4.out.trans (Kg.of_kf k1)); clear i1 k1)
    | (go_at_call 76; (with_reducible refine (allow_c lo r f R.c5 _ ((R.c4.vecV 1 0 255).toList == ([0] : List UInt8)) HL.out H5.out).mono ?_); rintro e6 w6 ⟨rfl, i1, k1⟩; have X6 := Aside0.mk (k1.keep gb _ X5.out (blk_ne X5.out H5.out.rd (by decide)) (blk_ne X5.out H5.out.ft (by decide))); have M6 := Aside0.mk (M5.out.kf H5.out k1); have H6 := Aside0.mk (show RS w6 r f R.c6 from i1); have K6 := Aside0.mk (K5.out.trans (Kg.of_kf k1)); clear i1 k1)
    | (go_at_call 66; (with_reducible refine (rwithin_c lo r f R.c6 _ 2 2 rfl (by omega) (by omega) HL.out HL2.out H6.out HO.out.c6).mono ?_); rintro e7 w7 ⟨r2, rfl, n1, i1, j1, k1⟩; have X7 := Aside0.mk (k1.keep gb _ X6.out (blk_ne X6.out H6.out.rd (by decide)) (blk_ne X6.out H6.out.ft (by decide))); have M7 := Aside0.mk (M6.out.kf H6.out k1); have HN2 := Aside0.mk (Nat.le_trans K6.out.below.size n1); have H7 := Aside0.mk i1; have I7 := Aside0.mk j1; have K7 := Aside0.mk (K6.out.trans (Kg.of_kf k1)); have HNE := Aside0.mk (show r ≠ r2 from by have := H6.out.sz; omega); have HL3 := Aside0.mk (show lo ≤ r2 from Nat.le_trans (H6.out.wsz HL.out) n1); clear n1 i1 j1 k1)
    | ((with_reducible refine gate_dst (N := 5) rfl ?_); refine allocP zero87 rfl rfl ?_; intro gi eg w8 h1 b1; have G8 := Aside0.mk h1; have X8 := Aside0.mk ((b1.block gb (blk_lt X7.out)).trans X7.out); have H8 := Aside0.mk (show RS w8 r f (R.c6.outR 2) from H7.out.below b1); have I8 := Aside0.mk (show RS w8 r2 f (R.c6.inR 2) from I7.out.below b1); have M8 := Aside0.mk (M7.out.below b1); have K8 := Aside0.mk (K7.out.trans (Kg.of_kf (Kf.of_below (r := r) (f := f) (H7.out.wsz HL.out) b1))); have HGI := Aside0.mk (show w.heap.size ≤ gi ∧ lo ≤ gi from by have := K7.out.below.size; have := HWL.out; omega); clear h1 b1 eg)
    | ((with_reducible refine gate_store (p := 5) rfl ?_); refine st (v := .pointer (some ⟨r2, 0, none⟩)) rfl rfl rfl G8.out sz87 rfl rfl rfl (by simp) ?_; intro w9 h3 b3 k3; have G9 := Aside0.mk (show w9.heap[gi]? = some (.cells #[.pointer (some ⟨r2, 0, none⟩)] 87 (0, 0)) from h3); have X9 := Aside0.mk ((k3.2 gb (blk_lt X8.out) (blk_ne X8.out G8.out (by decide)) (by simp)).trans X8.out); have HP9 := Aside0.mk (show RS w9 r f (R.c6.outR 2) from ⟨(k3.2 r (blk_lt H8.out.rd) (blk_ne H8.out.rd G8.out (by decide)) (by simp)).trans H8.out.rd, (k3.2 f (blk_lt H8.out.ft) (blk_ne H8.out.ft G8.out (by decide)) (by simp)).trans H8.out.ft⟩); have H9 := HP9; have I9 := Aside0.mk (show RS w9 r2 f (R.c6.inR 2) from ⟨(k3.2 r2 (blk_lt I8.out.rd) (blk_ne I8.out.rd G8.out (by decide)) (by simp)).trans I8.out.rd, HP9.out.ft⟩); have M9 := Aside0.mk (MO.other M8.out G8.out (by decide) (by decide) (by decide) (by decide) (by decide) k3); have K9 := Aside0.mk (Kg.over K8.out (b3 w.heap.size HGI.out.1) HWL.out (Nat.le_refl _)); clear h3 b3 k3))
  refine start_ (n := 7) (S := fun w' => w'.heap[gb]? = some (.cells #[.pointer (some ⟨gm, 0, none⟩)] 85 (0, 0)) ∧ w'.heap[gi]? = some (.cells #[.pointer (some ⟨r2, 0, none⟩)] 87 (0, 0))) (ds := [6]) #[false, false, false, false, false, false, false] (by kernel_rfl) rfl rfl ⟨(((Below.refl w9.heap.size w9).drew.block gb (blk_lt X9.out)).trans X9.out), (((Below.refl w9.heap.size w9).drew.block gi (blk_lt G9.out)).trans G9.out)⟩ (fun hHeld => ?_)
  have HSx := Aside0.mk (Below.refl w9.heap.size w9).drew
  generalize w9.drew = wd at HSx hHeld ⊢
  have XD := Aside0.mk hHeld.1
  have HD := Aside0.mk (H9.out.below HSx.out)
  have MD := Aside0.mk (M9.out.below HSx.out)
  have KD := Aside0.mk (K9.out.trans (Kg.of_kf (Kf.of_below (r := r) (f := f) (H9.out.wsz HL.out) HSx.out)))
  have GD := Aside0.mk hHeld.2
  have ID := Aside0.mk (I9.out.below HSx.out)
  refine take_ (i := 0) (N := (some 31)) (v := ?_) (a' := ?_) #[true, false, false, false, false, false, false] rfl rfl (by kernel_rfl) (fun _ _ _ h => h) (Or.inl ⟨by rfl, ?_⟩) hHeld ?_ ?_
  rotate_left
  · rintro w' hS
    have hc : w'.cell? ⟨gb, 0, none⟩ = some (.pointer (some ⟨gm, 0, none⟩)) := (blk_cell hS.1 0).trans rfl
    go_simp
    with_reducible rfl
  rotate_left
  · simp only [Act.put, List.setIfInBounds_toArray, List.set_cons_zero, List.set_cons_succ]
    rfl
  refine take_ (i := 1) (N := (some 32)) (v := ?_) (a' := ?_) #[true, true, false, false, false, false, false] rfl rfl (by kernel_rfl) (fun _ _ _ h => h) (Or.inl ⟨by rfl, ?_⟩) hHeld ?_ ?_
  rotate_left
  · rintro w' hS
    have hc : w'.cell? ⟨gi, 0, none⟩ = some (.pointer (some ⟨r2, 0, none⟩)) := (blk_cell hS.2 0).trans rfl
    go_simp
    with_reducible rfl
  rotate_left
  · simp only [Act.put, List.setIfInBounds_toArray, List.set_cons_zero, List.set_cons_succ]
    rfl
  refine pure_ (i := 2) (N := (some 33)) (v := ?_) (a' := ?_) #[true, true, true, false, false, false, false] rfl rfl (by kernel_rfl) (fun _ _ _ h => h) (Or.inl ⟨by rfl, ?_⟩) ?_ ?_
  rotate_left
  · intro w'
    go_simp
    with_reducible rfl
  rotate_left
  · simp only [Act.put, List.setIfInBounds_toArray, List.set_cons_zero, List.set_cons_succ]
    rfl
  refine one_ (i := 3) (N := (some 34)) #[true, true, true, true, false, false, false] rfl rfl (by kernel_rfl) (by decide) (fun K hK => ?_)
  have HPD := Aside0.mk (show RS wd r f (R.c6.outR 2) from HP9.out.below HSx.out)
  refine goes_ (f := 67) Try.func67 (by kernel_rfl) rfl #[.pointer (some ⟨r2, 0, none⟩), .func (.func 95) #[] #[.pointer (some ⟨gi, 0, none⟩), .pointer (some ⟨gb, 0, none⟩)]] (by rfl) rfl rfl (by (try simp only [List.map_toArray, List.map_cons, List.map_nil]); first | done | rfl) ?_
  refine (exts_c 95 #[.pointer (some ⟨gi, 0, none⟩), .pointer (some ⟨gb, 0, none⟩)] lo r2 f gm cli pskL (R.c6.inR 2) (R.cM m) _ (cliT_c lo r2 f gm gi gb wd HL.out HG.out (ID.out.wsz HL.out) HL3.out GD.out XD.out (blk_ne XD.out ID.out.rd (by decide)) (blk_ne XD.out ID.out.ft (by decide)) (by obtain ⟨_, z⟩ := MD.out; exact blk_ne XD.out z.box (by decide)) (blk_ne GD.out ID.out.rd (by decide)) (blk_ne GD.out ID.out.ft (by decide)) (by obtain ⟨_, z⟩ := MD.out; exact blk_ne GD.out z.box (by decide)) ID.out.sz.1) HL.out HL3.out ID.out (HO.out.c6.inR 2) MD.out).mono ?_
  rintro e wx ⟨vx, rfl, rx_, mx_, ix_, kx_⟩
  obtain ⟨Ax, cx, rfl⟩ := Kd.R_slice rx_
  refine ⟨_, rfl, ?_⟩
  have RX := Aside0.mk (show Kd.R (Kd.int .i64) 3 wx 0 (fun _ => True) (.slice Ax (R.cX m).1.length cx) (R.cX m).1 from rx_)
  have MX := Aside0.mk (show MO (fun _ => True) wx gm (R.cX m).2.1 from mx_)
  have HGR := Aside0.mk (show r ≠ gm from by obtain ⟨_, z⟩ := MD.out; exact blk_ne HPD.out.rd z.box (by decide))
  have HXx := Aside0.mk (show RS wx r f ((R.c6.outR 2).back (R.cX m).2.2) from ⟨kx_.keep r _ HPD.out.rd HNE.out HPD.out.ne HGR.out, ix_.ft⟩)
  have XX := Aside0.mk (kx_.keep gb _ XD.out (blk_ne XD.out ID.out.rd (by decide)) (blk_ne XD.out ID.out.ft (by decide)) (by obtain ⟨_, z⟩ := MD.out; exact blk_ne XD.out z.box (by decide)))
  have GX := Aside0.mk (kx_.keep gi _ GD.out (blk_ne GD.out ID.out.rd (by decide)) (blk_ne GD.out ID.out.ft (by decide)) (by obtain ⟨_, z⟩ := MD.out; exact blk_ne GD.out z.box (by decide)))
  have KX := Aside0.mk (Kg.inner KD.out HN2.out kx_)
  clear rx_ mx_ ix_ kx_
  refine hK.out _ _ (⟨XX.out, GX.out⟩) (fun hHeld => ?_)
  clear hK K
  refine norm_ (a' := ?_) ?_ ?_
  rotate_left
  · show Act.put _ (some 34) _ = _
    simp only [Act.put, List.setIfInBounds_toArray, List.set_cons_zero, List.set_cons_succ]
    rfl
  refine pure_ (i := 4) (N := (some 35)) (v := ?_) (a' := ?_) #[true, true, true, true, true, false, false] rfl rfl (by kernel_rfl) (fun _ _ _ h => h) (Or.inl ⟨by rfl, ?_⟩) ?_ ?_
  rotate_left
  · intro w'
    go_simp
    with_reducible rfl
  rotate_left
  · simp only [Act.put, List.setIfInBounds_toArray, List.set_cons_zero, List.set_cons_succ]
    rfl
  refine pure_ (i := 5) (N := (some 36)) (v := ?_) (a' := ?_) #[true, true, true, true, true, true, false] rfl rfl (by kernel_rfl) (fun _ _ _ h => h) (Or.inl ⟨by rfl, ?_⟩) ?_ ?_
  rotate_left
  · intro w'
    go_simp
    with_reducible rfl
  rotate_left
  · simp only [Act.put, List.setIfInBounds_toArray, List.set_cons_zero, List.set_cons_succ]
    rfl
  refine last_ (i := 6) (N := none) #[true, true, true, true, true, true, true] rfl rfl (by kernel_rfl) (by decide) (fun K hK => ?_)
  obtain ⟨hd_, hm_⟩ := MX.out
  refine stM (v := .slice Ax (R.cX m).1.length cx) (by rfl) rfl rfl rfl hm_.box sz44 rfl rfl rfl (by rw [cells_size]; omega) ?_
  intro wy h3_ b3_ k3_
  have MY := Aside0.mk (hm_.s13 RX.out h3_ k3_)
  have HY := Aside0.mk (HXx.out.store hm_ k3_)
  have KY := Aside0.mk (KX.out.trans (Kg.of_store (b3_ _ HG.out) k3_))
  clear h3_ b3_ k3_ hm_
  refine hK.out _ _ ?_
  clear hK K
  refine done_ (by kernel_rfl) ?_
  go_wp2
  first | go_end0 | ((try simp only [Exit.inBlock, Exit.then]); refine bodyPost_ret (results_none rfl _ _ _) rfl ?_)
  exact ⟨rfl, HY.out, MY.out, KY.out⟩
set_option maxRecDepth 100000 in
set_option maxHeartbeats 8000000 in
theorem serverHello_c (lo r f gm : Nat) (R : Rp) (m : Mv) (w : World) (hl : lo ≤ f) (hl2 : lo ≤ r) (hg : lo ≤ gm) (h : RS w r f R) (ho : R.Ok) (hm : MO (fun _ => True) w gm m) :
    Calls Try.prog 65 #[.pointer (some ⟨r, 0, none⟩), .pointer (some ⟨gm, 0, none⟩)] w fun ex w' => ex = .returned (.tuple #[]) ∧ RS w' r f (R.shR m) ∧ MO (fun _ => True) w' gm (R.shM m) ∧ Kg lo r f gm w w' := by
  have H := Aside0.mk h
  have HL := Aside0.mk hl
  have HL2 := Aside0.mk hl2
  have HG := Aside0.mk hg
  have HO := Aside0.mk ho
  have HWL := Aside0.mk (h.wsz hl)
  have M := Aside0.mk hm
  have K := Aside0.mk (Kg.of_kf (g := gm) (Kf.refl lo r f w))
  clear h hl hl2 hg ho hm
  go_enter Try.func65, Try.ntmps65
  go_wp2_with (first
    | ((with_reducible refine gate_dst (N := 3) rfl ?_); refine boxP rfl rfl rfl ?_; intro gb eb w0 h0_ b0_; have X0 := Aside0.mk h0_; have H0 := Aside0.mk (show RS w0 r f R from H.out.below b0_); have M0 := Aside0.mk (M.out.below b0_); have K0 := Aside0.mk (K.out.trans (Kg.of_kf (Kf.of_below (r := r) (f := f) HWL.out b0_))); clear h0_ b0_ eb)
    | (go_at_call 93; (with_reducible refine (version_c lo r f R _ HL.out HL2.out H0.out HO.out).mono ?_); rintro e1 w1 ⟨rfl, i1, k1⟩; have X1 := Aside0.mk (k1.keep gb _ X0.out (blk_ne X0.out H0.out.rd (by decide)) (blk_ne X0.out H0.out.ft (by decide))); have M1 := Aside0.mk (M0.out.kf H0.out k1); have H1 := Aside0.mk (show RS w1 r f R.h1 from i1); have K1 := Aside0.mk (K0.out.trans (Kg.of_kf k1)); clear i1 k1))
  refine start_ (n := 6) (S := fun w' => w'.heap[gb]? = some (.cells #[.pointer (some ⟨gm, 0, none⟩)] 85 (0, 0))) (ds := [5]) #[false, false, false, false, false, false] (by kernel_rfl) rfl rfl (((Below.refl w1.heap.size w1).drew.block gb (blk_lt X1.out)).trans X1.out) (fun hHeld => ?_)
  have HS1 := Aside0.mk (Below.refl w1.heap.size w1).drew
  generalize w1.drew = w1d at HS1 hHeld ⊢
  have XD1 := Aside0.mk hHeld
  have HD1 := Aside0.mk (H1.out.below HS1.out)
  have MD1 := Aside0.mk (M1.out.below HS1.out)
  have KD1 := Aside0.mk (K1.out.trans (Kg.of_kf (Kf.of_below (r := r) (f := f) (H1.out.wsz HL.out) HS1.out)))
  refine take_ (i := 0) (N := (some 7)) (v := ?_) (a' := ?_) #[true, false, false, false, false, false] rfl rfl (by kernel_rfl) (fun _ _ _ h => h) (Or.inl ⟨by rfl, ?_⟩) hHeld ?_ ?_
  rotate_left
  · rintro w' hS
    have hc : w'.cell? ⟨gb, 0, none⟩ = some (.pointer (some ⟨gm, 0, none⟩)) := (blk_cell hS 0).trans rfl
    go_simp
    with_reducible rfl
  rotate_left
  · simp only [Act.put, List.setIfInBounds_toArray, List.set_cons_zero, List.set_cons_succ]
    rfl
  refine pure_ (i := 1) (N := (some 8)) (v := ?_) (a' := ?_) #[true, true, false, false, false, false] rfl rfl (by kernel_rfl) (fun _ _ _ h => h) (Or.inl ⟨by rfl, ?_⟩) ?_ ?_
  rotate_left
  · intro w'
    go_simp
    with_reducible rfl
  rotate_left
  · simp only [Act.put, List.setIfInBounds_toArray, List.set_cons_zero, List.set_cons_succ]
    rfl
  refine one_ (i := 2) (N := (some 9)) #[true, true, true, false, false, false] rfl rfl (by kernel_rfl) (by decide) (fun K hK => ?_)
  refine goes_ (f := 73) Try.func73 (by kernel_rfl) rfl #[.pointer (some ⟨r, 0, none⟩), .int .i64 32] (by rfl) rfl rfl (by (try simp only [List.map_toArray, List.map_cons, List.map_nil]); first | done | rfl) ?_
  refine (bytes_c lo r f R.h1 _ 32 (by omega) (by omega) HL.out HL2.out HD1.out HO.out.h1).mono ?_
  rintro e w1c ⟨rfl, i_, k_⟩
  refine ⟨_, rfl, ?_⟩
  have XC1 := Aside0.mk (k_.keep gb _ XD1.out (blk_ne XD1.out HD1.out.rd (by decide)) (blk_ne XD1.out HD1.out.ft (by decide)))
  have MC1 := Aside0.mk (MD1.out.kf HD1.out k_)
  have HC1 := Aside0.mk (show RS w1c r f R.h2 from i_)
  have KC1 := Aside0.mk (KD1.out.trans (Kg.of_kf k_))
  clear i_ k_
  refine hK.out _ _ (XC1.out) (fun hHeld => ?_)
  clear hK K
  refine norm_ (a' := ?_) ?_ ?_
  rotate_left
  · show Act.put _ (some 9) _ = _
    simp only [Act.put, List.setIfInBounds_toArray, List.set_cons_zero, List.set_cons_succ]
    rfl
  refine pure_ (i := 3) (N := (some 10)) (v := ?_) (a' := ?_) #[true, true, true, true, false, false] rfl rfl (by kernel_rfl) (fun _ _ _ h => h) (Or.inl ⟨by rfl, ?_⟩) ?_ ?_
  rotate_left
  · intro w'
    go_simp
    with_reducible rfl
  rotate_left
  · simp only [Act.put, List.setIfInBounds_toArray, List.set_cons_zero, List.set_cons_succ]
    rfl
  refine pure_ (i := 4) (N := (some 11)) (v := ?_) (a' := ?_) #[true, true, true, true, true, false] rfl rfl (by kernel_rfl) (fun _ _ _ h => h) (Or.inl ⟨by rfl, ?_⟩) ?_ ?_
  rotate_left
  · intro w'
    go_simp
    with_reducible rfl
  rotate_left
  · simp only [Act.put, List.setIfInBounds_toArray, List.set_cons_zero, List.set_cons_succ]
    rfl
  refine last_ (i := 5) (N := none) #[true, true, true, true, true, true] rfl rfl (by kernel_rfl) (by decide) (fun K hK => ?_)
  obtain ⟨hd_, hm_⟩ := MC1.out
  refine stM (v := .string (R.h1.bytV 32)) (by rfl) rfl rfl rfl hm_.box sz9 rfl rfl rfl (by rw [cells_size]; omega) ?_
  intro w2 h3_ b3_ k3_
  have X2 := Aside0.mk ((k3_.2 gb (blk_lt XC1.out) (blk_ne XC1.out hm_.box (by decide)) (by simp)).trans XC1.out)
  have M2 := Aside0.mk (hm_.s1 _ h3_ k3_)
  have H2 := Aside0.mk (show RS w2 r f R.h2 from HC1.out.store hm_ k3_)
  have K2 := Aside0.mk (KC1.out.trans (Kg.of_store (b3_ _ HG.out) k3_))
  clear h3_ b3_ k3_ hm_
  refine hK.out _ _ ?_
  clear hK K
  refine done_ (by kernel_rfl) ?_
  go_wp2
  refine start_ (n := 6) (S := fun w' => w'.heap[gb]? = some (.cells #[.pointer (some ⟨gm, 0, none⟩)] 85 (0, 0))) (ds := [5]) #[false, false, false, false, false, false] (by kernel_rfl) rfl rfl (((Below.refl w2.heap.size w2).drew.block gb (blk_lt X2.out)).trans X2.out) (fun hHeld => ?_)
  have HS2 := Aside0.mk (Below.refl w2.heap.size w2).drew
  generalize w2.drew = w2d at HS2 hHeld ⊢
  have XD2 := Aside0.mk hHeld
  have HD2 := Aside0.mk (H2.out.below HS2.out)
  have MD2 := Aside0.mk (M2.out.below HS2.out)
  have KD2 := Aside0.mk (K2.out.trans (Kg.of_kf (Kf.of_below (r := r) (f := f) (H2.out.wsz HL.out) HS2.out)))
  refine take_ (i := 0) (N := (some 12)) (v := ?_) (a' := ?_) #[true, false, false, false, false, false] rfl rfl (by kernel_rfl) (fun _ _ _ h => h) (Or.inl ⟨by rfl, ?_⟩) hHeld ?_ ?_
  rotate_left
  · rintro w' hS
    have hc : w'.cell? ⟨gb, 0, none⟩ = some (.pointer (some ⟨gm, 0, none⟩)) := (blk_cell hS 0).trans rfl
    go_simp
    with_reducible rfl
  rotate_left
  · simp only [Act.put, List.setIfInBounds_toArray, List.set_cons_zero, List.set_cons_succ]
    rfl
  refine pure_ (i := 1) (N := (some 13)) (v := ?_) (a' := ?_) #[true, true, false, false, false, false] rfl rfl (by kernel_rfl) (fun _ _ _ h => h) (Or.inl ⟨by rfl, ?_⟩) ?_ ?_
  rotate_left
  · intro w'
    go_simp
    with_reducible rfl
  rotate_left
  · simp only [Act.put, List.setIfInBounds_toArray, List.set_cons_zero, List.set_cons_succ]
    rfl
  refine one_ (i := 2) (N := (some 14)) #[true, true, true, false, false, false] rfl rfl (by kernel_rfl) (by decide) (fun K hK => ?_)
  refine goes_ (f := 71) Try.func71 (by kernel_rfl) rfl #[.pointer (some ⟨r, 0, none⟩), .int .i64 1, .int .i64 0, .int .i64 32] (by rfl) rfl rfl (by (try simp only [List.map_toArray, List.map_cons, List.map_nil]); first | done | rfl) ?_
  refine (rvec_c lo r f R.h2 _ 1 1 rfl 0 32 (by omega) (by omega) HL.out HL2.out HD2.out HO.out.h2).mono ?_
  rintro e w2c ⟨rfl, i_, k_⟩
  refine ⟨_, rfl, ?_⟩
  have XC2 := Aside0.mk (k_.keep gb _ XD2.out (blk_ne XD2.out HD2.out.rd (by decide)) (blk_ne XD2.out HD2.out.ft (by decide)))
  have MC2 := Aside0.mk (MD2.out.kf HD2.out k_)
  have HC2 := Aside0.mk (show RS w2c r f R.h3 from i_)
  have KC2 := Aside0.mk (KD2.out.trans (Kg.of_kf k_))
  clear i_ k_
  refine hK.out _ _ (XC2.out) (fun hHeld => ?_)
  clear hK K
  refine norm_ (a' := ?_) ?_ ?_
  rotate_left
  · show Act.put _ (some 14) _ = _
    simp only [Act.put, List.setIfInBounds_toArray, List.set_cons_zero, List.set_cons_succ]
    rfl
  refine pure_ (i := 3) (N := (some 15)) (v := ?_) (a' := ?_) #[true, true, true, true, false, false] rfl rfl (by kernel_rfl) (fun _ _ _ h => h) (Or.inl ⟨by rfl, ?_⟩) ?_ ?_
  rotate_left
  · intro w'
    go_simp
    with_reducible rfl
  rotate_left
  · simp only [Act.put, List.setIfInBounds_toArray, List.set_cons_zero, List.set_cons_succ]
    rfl
  refine pure_ (i := 4) (N := (some 16)) (v := ?_) (a' := ?_) #[true, true, true, true, true, false] rfl rfl (by kernel_rfl) (fun _ _ _ h => h) (Or.inl ⟨by rfl, ?_⟩) ?_ ?_
  rotate_left
  · intro w'
    go_simp
    with_reducible rfl
  rotate_left
  · simp only [Act.put, List.setIfInBounds_toArray, List.set_cons_zero, List.set_cons_succ]
    rfl
  refine last_ (i := 5) (N := none) #[true, true, true, true, true, true] rfl rfl (by kernel_rfl) (by decide) (fun K hK => ?_)
  obtain ⟨hd_, hm_⟩ := MC2.out
  refine stM (v := .string (R.h2.vecV 1 0 32)) (by rfl) rfl rfl rfl hm_.box sz9 rfl rfl rfl (by rw [cells_size]; omega) ?_
  intro w3 h3_ b3_ k3_
  have X3 := Aside0.mk ((k3_.2 gb (blk_lt XC2.out) (blk_ne XC2.out hm_.box (by decide)) (by simp)).trans XC2.out)
  have M3 := Aside0.mk (hm_.s2 _ h3_ k3_)
  have H3 := Aside0.mk (show RS w3 r f R.h3 from HC2.out.store hm_ k3_)
  have K3 := Aside0.mk (KC2.out.trans (Kg.of_store (b3_ _ HG.out) k3_))
  clear h3_ b3_ k3_ hm_
  refine hK.out _ _ ?_
  clear hK K
  refine done_ (by kernel_rfl) ?_
  go_wp2
  refine start_ (n := 7) (S := fun w' => w'.heap[gb]? = some (.cells #[.pointer (some ⟨gm, 0, none⟩)] 85 (0, 0))) (ds := [6]) #[false, false, false, false, false, false, false] (by kernel_rfl) rfl rfl (((Below.refl w3.heap.size w3).drew.block gb (blk_lt X3.out)).trans X3.out) (fun hHeld => ?_)
  have HS3 := Aside0.mk (Below.refl w3.heap.size w3).drew
  generalize w3.drew = w3d at HS3 hHeld ⊢
  have XD3 := Aside0.mk hHeld
  have HD3 := Aside0.mk (H3.out.below HS3.out)
  have MD3 := Aside0.mk (M3.out.below HS3.out)
  have KD3 := Aside0.mk (K3.out.trans (Kg.of_kf (Kf.of_below (r := r) (f := f) (H3.out.wsz HL.out) HS3.out)))
  refine take_ (i := 0) (N := (some 17)) (v := ?_) (a' := ?_) #[true, false, false, false, false, false, false] rfl rfl (by kernel_rfl) (fun _ _ _ h => h) (Or.inl ⟨by rfl, ?_⟩) hHeld ?_ ?_
  rotate_left
  · rintro w' hS
    have hc : w'.cell? ⟨gb, 0, none⟩ = some (.pointer (some ⟨gm, 0, none⟩)) := (blk_cell hS 0).trans rfl
    go_simp
    with_reducible rfl
  rotate_left
  · simp only [Act.put, List.setIfInBounds_toArray, List.set_cons_zero, List.set_cons_succ]
    rfl
  refine pure_ (i := 1) (N := (some 18)) (v := ?_) (a' := ?_) #[true, true, false, false, false, false, false] rfl rfl (by kernel_rfl) (fun _ _ _ h => h) (Or.inl ⟨by rfl, ?_⟩) ?_ ?_
  rotate_left
  · intro w'
    go_simp
    with_reducible rfl
  rotate_left
  · simp only [Act.put, List.setIfInBounds_toArray, List.set_cons_zero, List.set_cons_succ]
    rfl
  refine one_ (i := 2) (N := (some 19)) #[true, true, true, false, false, false, false] rfl rfl (by kernel_rfl) (by decide) (fun K hK => ?_)
  refine goes_ (f := 70) Try.func70 (by kernel_rfl) rfl #[.pointer (some ⟨r, 0, none⟩)] (by rfl) rfl rfl (by (try simp only [List.map_toArray, List.map_cons, List.map_nil]); first | done | rfl) ?_
  refine (u16_c lo r f R.h3 _ HL.out HL2.out HD3.out HO.out.h3).mono ?_
  rintro e w3c ⟨rfl, i_, k_⟩
  refine ⟨_, rfl, ?_⟩
  have XC3 := Aside0.mk (k_.keep gb _ XD3.out (blk_ne XD3.out HD3.out.rd (by decide)) (blk_ne XD3.out HD3.out.ft (by decide)))
  have MC3 := Aside0.mk (MD3.out.kf HD3.out k_)
  have HC3 := Aside0.mk (show RS w3c r f R.s4 from i_)
  have KC3 := Aside0.mk (KD3.out.trans (Kg.of_kf k_))
  clear i_ k_
  refine hK.out _ _ (XC3.out) (fun hHeld => ?_)
  clear hK K
  refine norm_ (a' := ?_) ?_ ?_
  rotate_left
  · show Act.put _ (some 19) _ = _
    simp only [Act.put, List.setIfInBounds_toArray, List.set_cons_zero, List.set_cons_succ]
    rfl
  refine one_ (i := 3) (N := (some 20)) #[true, true, true, true, false, false, false] rfl rfl (by kernel_rfl) (by decide) (fun K hK => ?_)
  refine Kd.R_lit_step (Kd.int .i64) _ 3 (by rfl) (N := 20) rfl (xs := [(R.h3.numV 2)]) (inner := [.int .i64 (R.h3.numV 2)]) (ok := fun _ => True) (okp := fun _ => True) ?hr ?hp (fun _ hk => hk) trivial (Below.refl _ _) (Nat.le_refl _) (by simp) ?_
  (case hr => first | (go_simp; done) | (go_simp; rfl))
  (case hp => exact (Reps.one (show Kd.M (Kd.int .i64) _ _ _ (R.h3.numV 2) [.int .i64 (R.h3.numV 2)] from rfl) (Reps.none _ _)))
  intro v4 w3l ho_ hb_ hg_ hnew_
  clear hg_ hnew_
  obtain ⟨A4, c4, rfl⟩ := Kd.R_slice ho_
  have n1_ := Aside0.mk ((hb_.block gb (blk_lt XC3.out)).trans XC3.out)
  have n2_ := Aside0.mk (MC3.out.below hb_)
  have n3_ := Aside0.mk (show RS w3l r f R.s4 from HC3.out.below hb_)
  have n4_ := Aside0.mk (KC3.out.trans (Kg.of_kf (Kf.of_below (r := r) (f := f) (HC3.out.wsz HL.out) hb_)))
  have RC3 := Aside0.mk (Kd.R_lower ho_ (Nat.zero_le _))
  clear XC3 MC3 HC3 KC3 ho_ hb_
  have XC3 := n1_
  have MC3 := n2_
  have HC3 := n3_
  have KC3 := n4_
  clear n1_ n2_ n3_ n4_
  refine hK.out _ _ (XC3.out) (fun hHeld => ?_)
  clear hK K
  refine norm_ (a' := ?_) ?_ ?_
  rotate_left
  · show Act.put _ (some 20) _ = _
    simp only [Act.put, List.setIfInBounds_toArray, List.set_cons_zero, List.set_cons_succ]
    rfl
  refine pure_ (i := 4) (N := (some 21)) (v := ?_) (a' := ?_) #[true, true, true, true, true, false, false] rfl rfl (by kernel_rfl) (fun _ _ _ h => h) (Or.inl ⟨by rfl, ?_⟩) ?_ ?_
  rotate_left
  · intro w'
    go_simp
    with_reducible rfl
  rotate_left
  · simp only [Act.put, List.setIfInBounds_toArray, List.set_cons_zero, List.set_cons_succ]
    rfl
  refine pure_ (i := 5) (N := (some 22)) (v := ?_) (a' := ?_) #[true, true, true, true, true, true, false] rfl rfl (by kernel_rfl) (fun _ _ _ h => h) (Or.inl ⟨by rfl, ?_⟩) ?_ ?_
  rotate_left
  · intro w'
    go_simp
    with_reducible rfl
  rotate_left
  · simp only [Act.put, List.setIfInBounds_toArray, List.set_cons_zero, List.set_cons_succ]
    rfl
  refine last_ (i := 6) (N := none) #[true, true, true, true, true, true, true] rfl rfl (by kernel_rfl) (by decide) (fun K hK => ?_)
  obtain ⟨hd_, hm_⟩ := MC3.out
  refine stM (v := .slice A4 1 c4) (by rfl) rfl rfl rfl hm_.box sz44 rfl rfl rfl (by rw [cells_size]; omega) ?_
  intro w4 h3_ b3_ k3_
  have X4 := Aside0.mk ((k3_.2 gb (blk_lt XC3.out) (blk_ne XC3.out hm_.box (by decide)) (by simp)).trans XC3.out)
  have M4 := Aside0.mk (hm_.s3 RC3.out h3_ k3_)
  have H4 := Aside0.mk (show RS w4 r f R.s4 from HC3.out.store hm_ k3_)
  have K4 := Aside0.mk (KC3.out.trans (Kg.of_store (b3_ _ HG.out) k3_))
  clear h3_ b3_ k3_ hm_
  refine hK.out _ _ ?_
  clear hK K
  refine done_ (by kernel_rfl) ?_
  go_wp2_with (first
    | (go_at_call 75; (with_reducible refine (u8_c lo r f R.s4 _ HL.out HL2.out H4.out HO.out.s4).mono ?_); rintro e5 w5 ⟨rfl, i1, k1⟩; have X5 := Aside0.mk (k1.keep gb _ X4.out (blk_ne X4.out H4.out.rd (by decide)) (blk_ne X4.out H4.out.ft (by decide))); have M5 := Aside0.mk (M4.out.kf H4.out k1); have H5 := Aside0.mk (show RS w5 r f R.s5 from i1); have K5 := Aside0.mk (K4.out.trans (Kg.of_kf k1)); clear i1 k1)
    | (go_at_call 76; (with_reducible refine (allow_c lo r f R.s5 _ (R.s4.numV 1 == 0) HL.out H5.out).mono ?_); rintro e6 w6 ⟨rfl, i1, k1⟩; have X6 := Aside0.mk (k1.keep gb _ X5.out (blk_ne X5.out H5.out.rd (by decide)) (blk_ne X5.out H5.out.ft (by decide))); have M6 := Aside0.mk (M5.out.kf H5.out k1); have H6 := Aside0.mk (show RS w6 r f R.s6 from i1); have K6 := Aside0.mk (K5.out.trans (Kg.of_kf k1)); clear i1 k1))
  refine start_ (n := 8) (S := fun w' => w'.heap[gb]? = some (.cells #[.pointer (some ⟨gm, 0, none⟩)] 85 (0, 0))) (ds := [7]) #[false, false, false, false, false, false, false, false] (by kernel_rfl) rfl rfl (((Below.refl w6.heap.size w6).drew.block gb (blk_lt X6.out)).trans X6.out) (fun hHeld => ?_)
  have HSx := Aside0.mk (Below.refl w6.heap.size w6).drew
  generalize w6.drew = wd at HSx hHeld ⊢
  have XD := Aside0.mk hHeld
  have HD := Aside0.mk (H6.out.below HSx.out)
  have MD := Aside0.mk (M6.out.below HSx.out)
  have KD := Aside0.mk (K6.out.trans (Kg.of_kf (Kf.of_below (r := r) (f := f) (H6.out.wsz HL.out) HSx.out)))
  refine take_ (i := 0) (N := (some 29)) (v := ?_) (a' := ?_) #[true, false, false, false, false, false, false, false] rfl rfl (by kernel_rfl) (fun _ _ _ h => h) (Or.inl ⟨by rfl, ?_⟩) hHeld ?_ ?_
  rotate_left
  · rintro w' hS
    have hc : w'.cell? ⟨gb, 0, none⟩ = some (.pointer (some ⟨gm, 0, none⟩)) := (blk_cell hS 0).trans rfl
    go_simp
    with_reducible rfl
  rotate_left
  · simp only [Act.put, List.setIfInBounds_toArray, List.set_cons_zero, List.set_cons_succ]
    rfl
  refine pure_ (i := 1) (N := (some 30)) (v := ?_) (a' := ?_) #[true, true, false, false, false, false, false, false] rfl rfl (by kernel_rfl) (fun _ _ _ h => h) (Or.inl ⟨by rfl, ?_⟩) ?_ ?_
  rotate_left
  · intro w'
    go_simp
    with_reducible rfl
  rotate_left
  · simp only [Act.put, List.setIfInBounds_toArray, List.set_cons_zero, List.set_cons_succ]
    rfl
  refine pure_ (i := 3) (N := (some 32)) (v := ?_) (a' := ?_) #[true, true, false, true, false, false, false, false] rfl rfl (by kernel_rfl) (fun _ _ _ h => h) (Or.inl ⟨by rfl, ?_⟩) ?_ ?_
  rotate_left
  · intro w'
    go_simp
    with_reducible rfl
  rotate_left
  · simp only [Act.put, List.setIfInBounds_toArray, List.set_cons_zero, List.set_cons_succ]
    rfl
  refine one_ (i := 2) (N := (some 31)) #[true, true, true, true, false, false, false, false] rfl rfl (by kernel_rfl) (by decide) (fun K hK => ?_)
  refine goes_ (f := 66) Try.func66 (by kernel_rfl) rfl #[.pointer (some ⟨r, 0, none⟩), .int .i64 2] (by rfl) rfl rfl (by (try simp only [List.map_toArray, List.map_cons, List.map_nil]); first | done | rfl) ?_
  refine (rwithin_c lo r f R.s6 _ 2 2 rfl (by omega) (by omega) HL.out HL2.out HD.out HO.out.s6).mono ?_
  rintro e wi ⟨r2, rfl, n1_, i1_, j1_, k1_⟩
  refine ⟨_, rfl, ?_⟩
  have HN := Aside0.mk n1_
  have HI := Aside0.mk i1_
  have ID := Aside0.mk j1_
  have XI := Aside0.mk (k1_.keep gb _ XD.out (blk_ne XD.out HD.out.rd (by decide)) (blk_ne XD.out HD.out.ft (by decide)))
  have MI := Aside0.mk (MD.out.kf HD.out k1_)
  have KI := Aside0.mk (KD.out.trans (Kg.of_kf k1_))
  have HNE := Aside0.mk (show r ≠ r2 from by have := HD.out.sz; omega)
  have HL3 := Aside0.mk (show lo ≤ r2 from Nat.le_trans (HD.out.wsz HL.out) n1_)
  clear n1_ i1_ j1_ k1_
  refine hK.out _ _ (XI.out) (fun hHeld => ?_)
  clear hK K
  refine norm_ (a' := ?_) ?_ ?_
  rotate_left
  · show Act.put _ (some 31) _ = _
    simp only [Act.put, List.setIfInBounds_toArray, List.set_cons_zero, List.set_cons_succ]
    rfl
  refine one_ (i := 4) (N := (some 33)) #[true, true, true, true, true, false, false, false] rfl rfl (by kernel_rfl) (by decide) (fun K hK => ?_)
  refine goes_ (f := 67) Try.func67 (by kernel_rfl) rfl #[.pointer (some ⟨r2, 0, none⟩), .func (.func 97) #[] #[.pointer (some ⟨gb, 0, none⟩)]] (by rfl) rfl rfl (by (try simp only [List.map_toArray, List.map_cons, List.map_nil]); first | done | rfl) ?_
  refine (exts_c 97 #[.pointer (some ⟨gb, 0, none⟩)] lo r2 f gm srv sameL (R.s6.inR 2) (R.sM m) _ (srvT_c lo r2 f gm gb wi HL.out HG.out (ID.out.wsz HL.out) XI.out (blk_ne XI.out ID.out.rd (by decide)) (blk_ne XI.out ID.out.ft (by decide)) (by obtain ⟨_, z⟩ := MI.out; exact blk_ne XI.out z.box (by decide)) ID.out.sz.1) HL.out HL3.out ID.out (HO.out.s6.inR 2) MI.out).mono ?_
  rintro e wx ⟨vx, rfl, rx_, mx_, ix_, kx_⟩
  obtain ⟨Ax, cx, rfl⟩ := Kd.R_slice rx_
  refine ⟨_, rfl, ?_⟩
  have RX := Aside0.mk (show Kd.R (Kd.int .i64) 3 wx 0 (fun _ => True) (.slice Ax (R.sX m).1.length cx) (R.sX m).1 from rx_)
  have MX := Aside0.mk (show MO (fun _ => True) wx gm (R.sX m).2.1 from mx_)
  have HGR := Aside0.mk (show r ≠ gm from by obtain ⟨_, z⟩ := MI.out; exact blk_ne HI.out.rd z.box (by decide))
  have HXx := Aside0.mk (show RS wx r f ((R.s6.outR 2).back (R.sX m).2.2) from ⟨kx_.keep r _ HI.out.rd HNE.out HI.out.ne HGR.out, ix_.ft⟩)
  have XX := Aside0.mk (kx_.keep gb _ XI.out (blk_ne XI.out ID.out.rd (by decide)) (blk_ne XI.out ID.out.ft (by decide)) (by obtain ⟨_, z⟩ := MI.out; exact blk_ne XI.out z.box (by decide)))
  have KX := Aside0.mk (Kg.inner KI.out (Nat.le_trans KD.out.below.size HN.out) kx_)
  clear rx_ mx_ ix_ kx_
  refine hK.out _ _ (XX.out) (fun hHeld => ?_)
  clear hK K
  refine norm_ (a' := ?_) ?_ ?_
  rotate_left
  · show Act.put _ (some 33) _ = _
    simp only [Act.put, List.setIfInBounds_toArray, List.set_cons_zero, List.set_cons_succ]
    rfl
  refine pure_ (i := 5) (N := (some 34)) (v := ?_) (a' := ?_) #[true, true, true, true, true, true, false, false] rfl rfl (by kernel_rfl) (fun _ _ _ h => h) (Or.inl ⟨by rfl, ?_⟩) ?_ ?_
  rotate_left
  · intro w'
    go_simp
    with_reducible rfl
  rotate_left
  · simp only [Act.put, List.setIfInBounds_toArray, List.set_cons_zero, List.set_cons_succ]
    rfl
  refine pure_ (i := 6) (N := (some 35)) (v := ?_) (a' := ?_) #[true, true, true, true, true, true, true, false] rfl rfl (by kernel_rfl) (fun _ _ _ h => h) (Or.inl ⟨by rfl, ?_⟩) ?_ ?_
  rotate_left
  · intro w'
    go_simp
    with_reducible rfl
  rotate_left
  · simp only [Act.put, List.setIfInBounds_toArray, List.set_cons_zero, List.set_cons_succ]
    rfl
  refine last_ (i := 7) (N := none) #[true, true, true, true, true, true, true, true] rfl rfl (by kernel_rfl) (by decide) (fun K hK => ?_)
  obtain ⟨hd_, hm_⟩ := MX.out
  refine stM (v := .slice Ax (R.sX m).1.length cx) (by rfl) rfl rfl rfl hm_.box sz44 rfl rfl rfl (by rw [cells_size]; omega) ?_
  intro wy h3_ b3_ k3_
  have MY := Aside0.mk (hm_.s13 RX.out h3_ k3_)
  have HY := Aside0.mk (HXx.out.store hm_ k3_)
  have KY := Aside0.mk (KX.out.trans (Kg.of_store (b3_ _ HG.out) k3_))
  clear h3_ b3_ k3_ hm_
  refine hK.out _ _ ?_
  clear hK K
  refine done_ (by kernel_rfl) ?_
  go_wp2
  first | go_end0 | ((try simp only [Exit.inBlock, Exit.then]); refine bodyPost_ret (results_none rfl _ _ _) rfl ?_)
  exact ⟨rfl, HY.out, MY.out, KY.out⟩
end Go.Proofs.Ytlkebjkpmiehcaa.Ms
end
section
namespace Go.Proofs.Ytlkebjkpmiehcaa.Ms
open Go.RowKit Go.Proofs.YtlkebjkpmiehcaaW.PrintWords Go.Proofs.YtlkebjkpmiehcaaW.PrintLast Go.Proofs.YtlkebjkpmiehcaaW.PrintMore Go.Proofs.Ytlkebjkpmiehcaa.X
open Go.Proofs.Ytlkebjkpmiehcaa.Pure (nv numOf vecOf nv_bd nv_bd4 number_any vec_ok)
set_option linter.unusedVariables false
def fin32 (n : Int) : Bool := n == 32 || n == 48
theorem fin_f (n : Int) : slices_Contains_int_int.f 9 [32, 48] n = some (fin32 n) := by
  unfold slices_Contains_int_int.f slices_Index_int_int.f fin32
  by_cases h1 : n = 32
  · subst h1
    decide
  · by_cases h2 : n = 48
    · subst h2
      decide +kernel
    · have e : slices_Index_int_int.l0 9 [32, 48] n (([32, 48] : List Int).length : Int) 0 = some (-1) := by
        have r0 : rd [32, 48] 0 = 32 := rfl
        have r1 : rd [32, 48] 1 = 48 := rfl
        have w1 : wrap64 1 = 1 := by unfold wrap64; omega
        have w2 : wrap64 2 = 2 := by unfold wrap64; omega
        simp [slices_Index_int_int.l0, h1, h2, w1, w2, rd]
      rw [e]
      simp [beq_eq_false_iff_ne.mpr h1, beq_eq_false_iff_ne.mpr h2]
def Rp.f1 (R : Rp) : Rp := R.need (fin32 (R.s.size : Int))
def Rp.nX (R : Rp) (m : Mv) : List Int × Mv × Rp := exts nonT sameL (R.inR 2).s.size [] m (R.inR 2)
def Rp.u1 (R : Rp) : Rp := (R.numR 1).allow (decide (R.numV 1 ≤ 1))
def bodyP (R : Rp) (m : Mv) : Mv × Rp :=
  if m.f0 = 1 then (R.chM m, R.chR m)
  else if m.f0 = 2 then (R.shM m, R.shR m)
  else if m.f0 = 8 then ({ (R.nX m).2.1 with f13 := (R.nX m).1 }, (R.outR 2).back (R.nX m).2.2)
  else if m.f0 = 11 then ({ m with f14 := R.ceV }, R.ceN)
  else if m.f0 = 15 then ({ m with f15 := R.numV 2, f16 := (R.numR 2).vecV 2 0 65536 }, (R.numR 2).vecR 2 0 65536)
  else if m.f0 = 20 then ({ m with f16 := R.f1.bytV (R.s.size : Int) }, R.f1.bytR (R.s.size : Int))
  else if m.f0 = 4 then (R.tiM m, R.ti4.barR)
  else ({ m with f20 := R.numV 1 + 1 }, R.u1)
theorem Rp.Ok.f1 {R : Rp} (h : R.Ok) : R.f1.Ok := h.need _
theorem Rp.Ok.u1 {R : Rp} (h : R.Ok) : R.u1.Ok := (h.numR 1).allow _
set_option maxRecDepth 100000 in
set_option maxHeartbeats 8000000 in
theorem body_1 (lo r f gm : Nat) (R : Rp) (m : Mv) (w : World) (hk : m.f0 = 1) (hl : lo ≤ f) (hl2 : lo ≤ r) (hg : lo ≤ gm) (h : RS w r f R) (ho : R.Ok) (hm : MO (fun _ => True) w gm m) :
    Calls Try.prog 49 #[.pointer (some ⟨r, 0, none⟩), .pointer (some ⟨gm, 0, none⟩)] w fun ex w' => ex = .returned (.tuple #[]) ∧ RS w' r f (Rp.done (R.chR m)) ∧ MO (fun _ => True) w' gm (R.chM m) ∧ Kg lo r f gm w w' := by
  have HKK := Aside0.mk hk
  clear hk
  have H := Aside0.mk h
  have HL := Aside0.mk hl
  have HL2 := Aside0.mk hl2
  have HG := Aside0.mk hg
  have HO := Aside0.mk ho
  have HWL := Aside0.mk (h.wsz hl)
  have M := Aside0.mk hm
  have K := Aside0.mk (Kg.of_kf (g := gm) (Kf.refl lo r f w))
  clear h hl hl2 hg ho hm
  go_enter Try.func49, Try.ntmps49
  go_wp2_with (first
    | ((with_reducible refine gate_dst (N := 8) rfl ?_); obtain ⟨hd_, hm_⟩ := M.out; refine ld (v := .int .i64 1) rfl rfl rfl hm_.box Try.underlying3 rfl (by show some (Value.int .i64 m.f0) = _; rw [HKK.out]) ?_; clear hm_)
    | (go_at_call 64; (with_reducible refine (clientHello_c lo r f gm R m _ HL.out HL2.out HG.out H.out HO.out M.out).mono ?_); rintro e1 w1 ⟨rfl, i1, m1, k1⟩; have H1 := Aside0.mk i1; have M1 := Aside0.mk m1; have K1 := Aside0.mk k1; clear i1 m1 k1)
    | (go_at_call 77; (with_reducible refine (done_c lo r f (R.chR m) _ HL.out H1.out).mono ?_); rintro e20 w20 ⟨rfl, i20, k20⟩; have M20 := Aside0.mk (M1.out.kf H1.out k20); have H20 := Aside0.mk i20; have K20 := Aside0.mk (K1.out.trans (Kg.of_kf k20)); clear i20 k20))
  first | go_end0 | ((try simp only [Exit.inBlock, Exit.then]); refine bodyPost_ret (results_none rfl _ _ _) rfl ?_)
  exact ⟨rfl, H20.out, M20.out, K20.out⟩
set_option maxRecDepth 100000 in
set_option maxHeartbeats 8000000 in
theorem body_2 (lo r f gm : Nat) (R : Rp) (m : Mv) (w : World) (hk : m.f0 = 2) (hl : lo ≤ f) (hl2 : lo ≤ r) (hg : lo ≤ gm) (h : RS w r f R) (ho : R.Ok) (hm : MO (fun _ => True) w gm m) :
    Calls Try.prog 49 #[.pointer (some ⟨r, 0, none⟩), .pointer (some ⟨gm, 0, none⟩)] w fun ex w' => ex = .returned (.tuple #[]) ∧ RS w' r f (Rp.done (R.shR m)) ∧ MO (fun _ => True) w' gm (R.shM m) ∧ Kg lo r f gm w w' := by
  have HKK := Aside0.mk hk
  clear hk
  have H := Aside0.mk h
  have HL := Aside0.mk hl
  have HL2 := Aside0.mk hl2
  have HG := Aside0.mk hg
  have HO := Aside0.mk ho
  have HWL := Aside0.mk (h.wsz hl)
  have M := Aside0.mk hm
  have K := Aside0.mk (Kg.of_kf (g := gm) (Kf.refl lo r f w))
  clear h hl hl2 hg ho hm
  go_enter Try.func49, Try.ntmps49
  go_wp2_with (first
    | ((with_reducible refine gate_dst (N := 8) rfl ?_); obtain ⟨hd_, hm_⟩ := M.out; refine ld (v := .int .i64 2) rfl rfl rfl hm_.box Try.underlying3 rfl (by show some (Value.int .i64 m.f0) = _; rw [HKK.out]) ?_; clear hm_)
    | (go_at_call 65; (with_reducible refine (serverHello_c lo r f gm R m _ HL.out HL2.out HG.out H.out HO.out M.out).mono ?_); rintro e1 w1 ⟨rfl, i1, m1, k1⟩; have H1 := Aside0.mk i1; have M1 := Aside0.mk m1; have K1 := Aside0.mk k1; clear i1 m1 k1)
    | (go_at_call 77; (with_reducible refine (done_c lo r f (R.shR m) _ HL.out H1.out).mono ?_); rintro e20 w20 ⟨rfl, i20, k20⟩; have M20 := Aside0.mk (M1.out.kf H1.out k20); have H20 := Aside0.mk i20; have K20 := Aside0.mk (K1.out.trans (Kg.of_kf k20)); clear i20 k20))
  first | go_end0 | ((try simp only [Exit.inBlock, Exit.then]); refine bodyPost_ret (results_none rfl _ _ _) rfl ?_)
  exact ⟨rfl, H20.out, M20.out, K20.out⟩
set_option maxRecDepth 100000 in
set_option maxHeartbeats 8000000 in
theorem body_11 (lo r f gm : Nat) (R : Rp) (m : Mv) (w : World) (hk : m.f0 = 11) (hl : lo ≤ f) (hl2 : lo ≤ r) (hg : lo ≤ gm) (h : RS w r f R) (ho : R.Ok) (hm : MO (fun _ => True) w gm m) :
    Calls Try.prog 49 #[.pointer (some ⟨r, 0, none⟩), .pointer (some ⟨gm, 0, none⟩)] w fun ex w' => ex = .returned (.tuple #[]) ∧ RS w' r f (Rp.done R.ceN) ∧ MO (fun _ => True) w' gm { m with f14 := R.ceV } ∧ Kg lo r f gm w w' := by
  have HKK := Aside0.mk hk
  clear hk
  have H := Aside0.mk h
  have HL := Aside0.mk hl
  have HL2 := Aside0.mk hl2
  have HG := Aside0.mk hg
  have HO := Aside0.mk ho
  have HWL := Aside0.mk (h.wsz hl)
  have M := Aside0.mk hm
  have K := Aside0.mk (Kg.of_kf (g := gm) (Kf.refl lo r f w))
  clear h hl hl2 hg ho hm
  go_enter Try.func49, Try.ntmps49
  go_wp2_with (first
    | ((with_reducible refine gate_dst (N := 8) rfl ?_); obtain ⟨hd_, hm_⟩ := M.out; refine ld (v := .int .i64 11) rfl rfl rfl hm_.box Try.underlying3 rfl (by show some (Value.int .i64 m.f0) = _; rw [HKK.out]) ?_; clear hm_)
    | (go_at_call 69; (with_reducible refine (certificate_c lo r f gm R m _ HL.out HL2.out HG.out H.out HO.out M.out).mono ?_); rintro e1 w1 ⟨rfl, i1, m1, k1⟩; have H1 := Aside0.mk i1; have M1 := Aside0.mk m1; have K1 := Aside0.mk k1; clear i1 m1 k1)
    | (go_at_call 77; (with_reducible refine (done_c lo r f R.ceN _ HL.out H1.out).mono ?_); rintro e20 w20 ⟨rfl, i20, k20⟩; have M20 := Aside0.mk (M1.out.kf H1.out k20); have H20 := Aside0.mk i20; have K20 := Aside0.mk (K1.out.trans (Kg.of_kf k20)); clear i20 k20))
  first | go_end0 | ((try simp only [Exit.inBlock, Exit.then]); refine bodyPost_ret (results_none rfl _ _ _) rfl ?_)
  exact ⟨rfl, H20.out, M20.out, K20.out⟩
set_option maxRecDepth 100000 in
set_option maxHeartbeats 8000000 in
theorem body_4 (lo r f gm : Nat) (R : Rp) (m : Mv) (w : World) (hk : m.f0 = 4) (hl : lo ≤ f) (hl2 : lo ≤ r) (hg : lo ≤ gm) (h : RS w r f R) (ho : R.Ok) (hm : MO (fun _ => True) w gm m) :
    Calls Try.prog 49 #[.pointer (some ⟨r, 0, none⟩), .pointer (some ⟨gm, 0, none⟩)] w fun ex w' => ex = .returned (.tuple #[]) ∧ RS w' r f (Rp.done R.ti4.barR) ∧ MO (fun _ => True) w' gm (R.tiM m) ∧ Kg lo r f gm w w' := by
  have HKK := Aside0.mk hk
  clear hk
  have H := Aside0.mk h
  have HL := Aside0.mk hl
  have HL2 := Aside0.mk hl2
  have HG := Aside0.mk hg
  have HO := Aside0.mk ho
  have HWL := Aside0.mk (h.wsz hl)
  have M := Aside0.mk hm
  have K := Aside0.mk (Kg.of_kf (g := gm) (Kf.refl lo r f w))
  clear h hl hl2 hg ho hm
  go_enter Try.func49, Try.ntmps49
  go_wp2_with (first
    | ((with_reducible refine gate_dst (N := 8) rfl ?_); obtain ⟨hd_, hm_⟩ := M.out; refine ld (v := .int .i64 4) rfl rfl rfl hm_.box Try.underlying3 rfl (by show some (Value.int .i64 m.f0) = _; rw [HKK.out]) ?_; clear hm_)
    | (go_at_call 74; (with_reducible refine (ticket_c lo r f gm R m _ HL.out HL2.out HG.out H.out HO.out M.out).mono ?_); rintro e1 w1 ⟨rfl, i1, m1, k1⟩; have H1 := Aside0.mk i1; have M1 := Aside0.mk m1; have K1 := Aside0.mk k1; clear i1 m1 k1)
    | (go_at_call 77; (with_reducible refine (done_c lo r f R.ti4.barR _ HL.out H1.out).mono ?_); rintro e20 w20 ⟨rfl, i20, k20⟩; have M20 := Aside0.mk (M1.out.kf H1.out k20); have H20 := Aside0.mk i20; have K20 := Aside0.mk (K1.out.trans (Kg.of_kf k20)); clear i20 k20))
  first | go_end0 | ((try simp only [Exit.inBlock, Exit.then]); refine bodyPost_ret (results_none rfl _ _ _) rfl ?_)
  exact ⟨rfl, H20.out, M20.out, K20.out⟩
set_option maxRecDepth 100000 in
set_option maxHeartbeats 8000000 in
theorem body_15 (lo r f gm : Nat) (R : Rp) (m : Mv) (w : World) (hk : m.f0 = 15) (hl : lo ≤ f) (hl2 : lo ≤ r) (hg : lo ≤ gm) (h : RS w r f R) (ho : R.Ok) (hm : MO (fun _ => True) w gm m) :
    Calls Try.prog 49 #[.pointer (some ⟨r, 0, none⟩), .pointer (some ⟨gm, 0, none⟩)] w fun ex w' => ex = .returned (.tuple #[]) ∧ RS w' r f (Rp.done ((R.numR 2).vecR 2 0 65536)) ∧ MO (fun _ => True) w' gm { m with f15 := R.numV 2, f16 := (R.numR 2).vecV 2 0 65536 } ∧ Kg lo r f gm w w' := by
  have HKK := Aside0.mk hk
  clear hk
  have H := Aside0.mk h
  have HL := Aside0.mk hl
  have HL2 := Aside0.mk hl2
  have HG := Aside0.mk hg
  have HO := Aside0.mk ho
  have HWL := Aside0.mk (h.wsz hl)
  have M := Aside0.mk hm
  have K := Aside0.mk (Kg.of_kf (g := gm) (Kf.refl lo r f w))
  clear h hl hl2 hg ho hm
  go_enter Try.func49, Try.ntmps49
  go_wp2_with (first
    | ((with_reducible refine gate_dst (N := 8) rfl ?_); obtain ⟨hd_, hm_⟩ := M.out; refine ld (v := .int .i64 15) rfl rfl rfl hm_.box Try.underlying3 rfl (by show some (Value.int .i64 m.f0) = _; rw [HKK.out]) ?_; clear hm_)
    | (go_at_call 70; (with_reducible refine (u16_c lo r f R _ HL.out HL2.out H.out HO.out).mono ?_); rintro e1 w1 ⟨rfl, i1, k1⟩; have M1 := Aside0.mk (M.out.kf H.out k1); have H1 := Aside0.mk i1; have K1 := Aside0.mk (K.out.trans (Kg.of_kf k1)); clear i1 k1)
    | ((with_reducible refine gate_store (p := 49) rfl ?_); obtain ⟨hd_, hm_⟩ := M1.out; refine st (v := .int .i64 (R.numV 2)) rfl rfl rfl hm_.box sz3' rfl rfl rfl (by rw [cells_size]; omega) ?_; intro w2 h3_ b3_ k3_; have M2 := Aside0.mk (hm_.s15 _ h3_ k3_); have H2 := Aside0.mk (H1.out.store hm_ k3_); have K2 := Aside0.mk (K1.out.trans (Kg.of_store (b3_ _ HG.out) k3_)); clear h3_ b3_ k3_ hm_)
    | (go_at_call 71; (with_reducible refine (rvec_c lo r f (R.numR 2) _ 2 2 rfl 0 65536 (by omega) (by omega) HL.out HL2.out H2.out (HO.out.numR 2)).mono ?_); rintro e3 w3 ⟨rfl, i1, k1⟩; have M3 := Aside0.mk (M2.out.kf H2.out k1); have H3 := Aside0.mk i1; have K3 := Aside0.mk (K2.out.trans (Kg.of_kf k1)); clear i1 k1)
    | ((with_reducible refine gate_store (p := 54) rfl ?_); obtain ⟨hd_, hm_⟩ := M3.out; refine st (v := .string ((R.numR 2).vecV 2 0 65536)) rfl rfl rfl hm_.box sz9 rfl rfl rfl (by rw [cells_size]; omega) ?_; intro w4 h3_ b3_ k3_; have M4 := Aside0.mk (hm_.s16 _ h3_ k3_); have H4 := Aside0.mk (H3.out.store hm_ k3_); have K4 := Aside0.mk (K3.out.trans (Kg.of_store (b3_ _ HG.out) k3_)); clear h3_ b3_ k3_ hm_)
    | (go_at_call 77; (with_reducible refine (done_c lo r f ((R.numR 2).vecR 2 0 65536) _ HL.out H4.out).mono ?_); rintro e20 w20 ⟨rfl, i20, k20⟩; have M20 := Aside0.mk (M4.out.kf H4.out k20); have H20 := Aside0.mk i20; have K20 := Aside0.mk (K4.out.trans (Kg.of_kf k20)); clear i20 k20))
  first | go_end0 | ((try simp only [Exit.inBlock, Exit.then]); refine bodyPost_ret (results_none rfl _ _ _) rfl ?_)
  exact ⟨rfl, H20.out, M20.out, K20.out⟩
set_option maxRecDepth 100000 in
set_option maxHeartbeats 8000000 in
theorem body_8 (lo r f gm : Nat) (R : Rp) (m : Mv) (w : World) (hk : m.f0 = 8) (hl : lo ≤ f) (hl2 : lo ≤ r) (hg : lo ≤ gm) (h : RS w r f R) (ho : R.Ok) (hm : MO (fun _ => True) w gm m) :
    Calls Try.prog 49 #[.pointer (some ⟨r, 0, none⟩), .pointer (some ⟨gm, 0, none⟩)] w fun ex w' => ex = .returned (.tuple #[]) ∧ RS w' r f (Rp.done ((R.outR 2).back (R.nX m).2.2)) ∧ MO (fun _ => True) w' gm { (R.nX m).2.1 with f13 := (R.nX m).1 } ∧ Kg lo r f gm w w' := by
  have HKK := Aside0.mk hk
  clear hk
  have H := Aside0.mk h
  have HL := Aside0.mk hl
  have HL2 := Aside0.mk hl2
  have HG := Aside0.mk hg
  have HO := Aside0.mk ho
  have HWL := Aside0.mk (h.wsz hl)
  have M := Aside0.mk hm
  have K := Aside0.mk (Kg.of_kf (g := gm) (Kf.refl lo r f w))
  clear h hl hl2 hg ho hm
  go_enter Try.func49, Try.ntmps49
  go_wp2_with (first
    | ((with_reducible refine gate_dst (N := 8) rfl ?_); obtain ⟨hd_, hm_⟩ := M.out; refine ld (v := .int .i64 8) rfl rfl rfl hm_.box Try.underlying3 rfl (by show some (Value.int .i64 m.f0) = _; rw [HKK.out]) ?_; clear hm_)
    | (go_at_call 66; (with_reducible refine (rwithin_c lo r f R _ 2 2 rfl (by omega) (by omega) HL.out HL2.out H.out HO.out).mono ?_); rintro e3 w3 ⟨r2, rfl, n1, i1, j1, k1⟩; have HN := Aside0.mk n1; have HP := Aside0.mk i1; have HI := Aside0.mk j1; have M3 := Aside0.mk (M.out.kf H.out k1); have KI := Aside0.mk (K.out.trans (Kg.of_kf k1)); have HL3 := Aside0.mk (show lo ≤ r2 from Nat.le_trans (H.out.wsz HL.out) n1); have HNE := Aside0.mk (show r ≠ r2 from by have := H.out.sz; omega); clear n1 i1 j1 k1)
    | (go_at_call 67; (refine (exts_c 68 #[] lo r2 f gm nonT sameL (R.inR 2) m _ (nonT_c lo r2 f gm _) HL.out HL3.out HI.out (HO.out.inR 2) M3.out).mono ?_); rintro e4 w4 ⟨v4, rfl, r4, m4, i4, k4⟩; obtain ⟨A4, c4, rfl⟩ := Kd.R_slice r4; have R4 := Aside0.mk (show Kd.R (Kd.int .i64) 3 w4 0 (fun _ => True) (.slice A4 (R.nX m).1.length c4) (R.nX m).1 from r4); have M4 := Aside0.mk (show MO (fun _ => True) w4 gm (R.nX m).2.1 from m4); have HGR := Aside0.mk (show r ≠ gm from by obtain ⟨_, z⟩ := M3.out; exact blk_ne HP.out.rd z.box (by decide)); have H4 := Aside0.mk (show RS w4 r f ((R.outR 2).back (R.nX m).2.2) from ⟨k4.keep r _ HP.out.rd HNE.out HP.out.ne HGR.out, i4.ft⟩); have K4 := Aside0.mk (Kg.inner KI.out HN.out k4); clear i4 k4 r4 m4)
    | ((with_reducible refine gate_store (p := 37) rfl ?_); obtain ⟨hd_, hm_⟩ := M4.out; refine st (v := .slice A4 (R.nX m).1.length c4) rfl rfl rfl hm_.box sz44 rfl rfl rfl (by rw [cells_size]; omega) ?_; intro w5 h3_ b3_ k3_; have M5 := Aside0.mk (hm_.s13 R4.out h3_ k3_); have H5 := Aside0.mk (H4.out.store hm_ k3_); have K5 := Aside0.mk (K4.out.trans (Kg.of_store (b3_ _ HG.out) k3_)); clear h3_ b3_ k3_ hm_)
    | (go_at_call 77; (with_reducible refine (done_c lo r f ((R.outR 2).back (R.nX m).2.2) _ HL.out H5.out).mono ?_); rintro e20 w20 ⟨rfl, i20, k20⟩; have M20 := Aside0.mk (M5.out.kf H5.out k20); have H20 := Aside0.mk i20; have K20 := Aside0.mk (K5.out.trans (Kg.of_kf k20)); clear i20 k20))
  first | go_end0 | ((try simp only [Exit.inBlock, Exit.then]); refine bodyPost_ret (results_none rfl _ _ _) rfl ?_)
  exact ⟨rfl, H20.out, M20.out, K20.out⟩
set_option maxRecDepth 100000 in
set_option maxHeartbeats 8000000 in
theorem body_20 (lo r f gm : Nat) (R : Rp) (m : Mv) (w : World) (hk : m.f0 = 20) (hl : lo ≤ f) (hl2 : lo ≤ r) (hg : lo ≤ gm) (h : RS w r f R) (ho : R.Ok) (hm : MO (fun _ => True) w gm m) :
    Calls Try.prog 49 #[.pointer (some ⟨r, 0, none⟩), .pointer (some ⟨gm, 0, none⟩)] w fun ex w' => ex = .returned (.tuple #[]) ∧ RS w' r f (Rp.done (R.f1.bytR (R.s.size : Int))) ∧ MO (fun _ => True) w' gm { m with f16 := R.f1.bytV (R.s.size : Int) } ∧ Kg lo r f gm w w' := by
  have HKK := Aside0.mk hk
  clear hk
  have H := Aside0.mk h
  have HL := Aside0.mk hl
  have HL2 := Aside0.mk hl2
  have HG := Aside0.mk hg
  have HO := Aside0.mk ho
  have HWL := Aside0.mk (h.wsz hl)
  have M := Aside0.mk hm
  have K := Aside0.mk (Kg.of_kf (g := gm) (Kf.refl lo r f w))
  clear h hl hl2 hg ho hm
  go_enter Try.func49, Try.ntmps49
  go_wp2_with (first
    | ((with_reducible refine gate_dst (N := 8) rfl ?_); obtain ⟨hd_, hm_⟩ := M.out; refine ld (v := .int .i64 20) rfl rfl rfl hm_.box Try.underlying3 rfl (by show some (Value.int .i64 m.f0) = _; rw [HKK.out]) ?_; clear hm_))
  refine start_ (n := 9) (S := fun w' => Below w.heap.size w w') (ds := [8]) #[false, false, false, false, false, false, false, false, false] (by kernel_rfl) rfl rfl (Below.refl w.heap.size w).drew (fun hHeld => ?_)
  have KA := K
  have HS := Aside0.mk (Below.refl w.heap.size w).drew
  generalize w.drew = w7 at HS hHeld ⊢
  refine pure_ (i := 0) (N := (some 57)) (v := ?_) (a' := ?_) #[true, false, false, false, false, false, false, false, false] rfl rfl (by kernel_rfl) (fun _ _ _ h => h) (Or.inl ⟨by rfl, ?_⟩) ?_ ?_
  rotate_left
  · intro w'
    go_simp
    with_reducible rfl
  rotate_left
  · simp only [Act.put, List.setIfInBounds_toArray, List.set_cons_zero, List.set_cons_succ]
    rfl
  refine pure_ (i := 2) (N := (some 59)) (v := ?_) (a' := ?_) #[true, false, true, false, false, false, false, false, false] rfl rfl (by kernel_rfl) (fun _ _ _ h => h) (Or.inl ⟨by rfl, ?_⟩) ?_ ?_
  rotate_left
  · intro w'
    go_simp
    with_reducible rfl
  rotate_left
  · simp only [Act.put, List.setIfInBounds_toArray, List.set_cons_zero, List.set_cons_succ]
    rfl
  refine pure_ (i := 3) (N := (some 60)) (v := ?_) (a' := ?_) #[true, false, true, true, false, false, false, false, false] rfl rfl (by kernel_rfl) (fun _ _ _ h => h) (Or.inl ⟨by rfl, ?_⟩) ?_ ?_
  rotate_left
  · intro w'
    go_simp
    with_reducible rfl
  rotate_left
  · simp only [Act.put, List.setIfInBounds_toArray, List.set_cons_zero, List.set_cons_succ]
    rfl
  refine pure_ (i := 4) (N := (some 61)) (v := ?_) (a' := ?_) #[true, false, true, true, true, false, false, false, false] rfl rfl (by kernel_rfl) (fun _ _ _ h => h) (Or.inl ⟨by rfl, ?_⟩) ?_ ?_
  rotate_left
  · intro w'
    go_simp
    with_reducible rfl
  rotate_left
  · simp only [Act.put, List.setIfInBounds_toArray, List.set_cons_zero, List.set_cons_succ]
    rfl
  refine take_ (i := 5) (N := (some 62)) (v := ?_) (a' := ?_) #[true, false, true, true, true, true, false, false, false] rfl rfl (by kernel_rfl) (fun _ _ _ h => h) (Or.inl ⟨by rfl, ?_⟩) hHeld ?_ ?_
  rotate_left
  · rintro w' hS
    have hc := rcell H.out.rd hS
    obtain ⟨hc1, hc2, hc3⟩ := hc
    go_simp
    with_reducible rfl
  rotate_left
  · simp only [Act.put, List.setIfInBounds_toArray, List.set_cons_zero, List.set_cons_succ]
    rfl
  refine pure_ (i := 6) (N := (some 63)) (v := ?_) (a' := ?_) #[true, false, true, true, true, true, true, false, false] rfl rfl (by kernel_rfl) (fun _ _ _ h => h) (Or.inl ⟨by rfl, ?_⟩) ?_ ?_
  rotate_left
  · intro w'
    go_simp
    with_reducible rfl
  rotate_left
  · simp only [Act.put, List.setIfInBounds_toArray, List.set_cons_zero, List.set_cons_succ]
    rfl
  refine one_ (i := 1) (N := (some 58)) #[true, true, true, true, true, true, true, false, false] rfl rfl (by kernel_rfl) (by decide) (fun K hK => ?_)
  refine goes_ (f := 63) Try.func63 (by kernel_rfl) rfl #[] (by rfl) rfl rfl (by (try simp only [List.map_toArray, List.map_cons, List.map_nil]); first | done | rfl) ?_
  refine (msg_finished.calls [32, 48] _ rfl).mono ?_
  rintro e w8 ⟨v63, rfl, r63, b63⟩
  obtain ⟨A63, c63, e63, l63, C63⟩ := Kd.R_reads r63
  subst e63
  refine ⟨_, rfl, ?_⟩
  have HS8 := Aside0.mk (below_step HS.out b63)
  have R63 := Aside0.mk (show Kd.C (Kd.int .i64) w8 A63 2 [32, 48] from C63)
  clear r63 b63 C63
  refine hK.out _ _ (HS8.out) (fun hHeld => ?_)
  clear hK K
  refine norm_ (a' := ?_) ?_ ?_
  rotate_left
  · show Act.put _ (some 58) _ = _
    simp only [Act.put, List.setIfInBounds_toArray, List.set_cons_zero, List.set_cons_succ]
    rfl
  refine one_ (i := 7) (N := (some 64)) #[true, true, true, true, true, true, true, true, false] rfl rfl (by kernel_rfl) (by decide) (fun K hK => ?_)
  refine goes_ (f := 62) Try.func62 (by kernel_rfl) rfl #[.slice A63 2 c63, .int .i64 (R.s.size : Int)] (by rfl) rfl rfl (by (try simp only [List.map_toArray, List.map_cons, List.map_nil]); first | done | rfl) ?_
  refine (slices_Contains_int_int.calls 9 A63 c63 [32, 48] (R.s.size : Int) (fin32 (R.s.size : Int)) _ R63.out l63 (fin_f _)).mono ?_
  rintro e w9 ⟨rfl, d9⟩
  refine ⟨_, rfl, ?_⟩
  have HS9 := Aside0.mk (below_step HS8.out d9.below)
  clear d9
  refine hK.out _ _ (HS9.out) (fun hHeld => ?_)
  clear hK K
  refine norm_ (a' := ?_) ?_ ?_
  rotate_left
  · show Act.put _ (some 64) _ = _
    simp only [Act.put, List.setIfInBounds_toArray, List.set_cons_zero, List.set_cons_succ]
    rfl
  refine last_ (i := 8) (N := (some 65)) #[true, true, true, true, true, true, true, true, true] rfl rfl (by kernel_rfl) (by decide) (fun K hK => ?_)
  refine goes_ (f := 72) Try.func72 (by kernel_rfl) rfl #[.pointer (some ⟨r, 0, none⟩), .bool (fin32 (R.s.size : Int))] (by rfl) rfl rfl (by (try simp only [List.map_toArray, List.map_cons, List.map_nil]); first | done | rfl) ?_
  refine (rneed_c lo r f R _ (fin32 (R.s.size : Int)) HL.out (H.out.below HS9.out)).mono ?_
  rintro e w10 ⟨rfl, i10, k10⟩
  refine ⟨_, rfl, ?_⟩
  have M1 := Aside0.mk ((M.out.below HS9.out).kf (show RS w9 r f R from H.out.below HS9.out) k10)
  have H1 := Aside0.mk (show RS w10 r f R.f1 from i10)
  have K1 := Aside0.mk (KA.out.trans (Kg.of_kf ((Kf.of_below (r := r) (f := f) HWL.out HS9.out).trans k10)))
  clear i10 k10
  refine hK.out _ _ ?_
  clear hK K
  refine norm_ (a' := ?_) ?_ ?_
  rotate_left
  · show Act.put _ (some 65) _ = _
    simp only [Act.put, List.setIfInBounds_toArray, List.set_cons_zero, List.set_cons_succ]
    rfl
  refine done_ (by kernel_rfl) ?_
  go_wp2_with (first
    | ((with_reducible refine gate_dst (N := 71) rfl ?_); refine ld (v := .string R.s) rfl rfl rfl H1.out.rd Try.underlying9 rfl rfl ?_)
    | (go_at_call 73; (with_reducible refine (bytes_c lo r f R.f1 _ (R.s.size : Int) (by omega) (by have := HO.out.sz; omega) HL.out HL2.out H1.out HO.out.f1).mono ?_); rintro e2 w2 ⟨rfl, i1, k1⟩; have M2 := Aside0.mk (M1.out.kf H1.out k1); have H2 := Aside0.mk i1; have K2 := Aside0.mk (K1.out.trans (Kg.of_kf k1)); clear i1 k1)
    | ((with_reducible refine gate_store (p := 75) rfl ?_); obtain ⟨hd_, hm_⟩ := M2.out; refine st (v := .string (R.f1.bytV (R.s.size : Int))) rfl rfl rfl hm_.box sz9 rfl rfl rfl (by rw [cells_size]; omega) ?_; intro w3 h3_ b3_ k3_; have M3 := Aside0.mk (hm_.s16 _ h3_ k3_); have H3 := Aside0.mk (H2.out.store hm_ k3_); have K3 := Aside0.mk (K2.out.trans (Kg.of_store (b3_ _ HG.out) k3_)); clear h3_ b3_ k3_ hm_)
    | (go_at_call 77; (with_reducible refine (done_c lo r f (R.f1.bytR (R.s.size : Int)) _ HL.out H3.out).mono ?_); rintro e20 w20 ⟨rfl, i20, k20⟩; have M20 := Aside0.mk (M3.out.kf H3.out k20); have H20 := Aside0.mk i20; have K20 := Aside0.mk (K3.out.trans (Kg.of_kf k20)); clear i20 k20))
  first | go_end0 | ((try simp only [Exit.inBlock, Exit.then]); refine bodyPost_ret (results_none rfl _ _ _) rfl ?_)
  exact ⟨rfl, H20.out, M20.out, K20.out⟩
set_option maxRecDepth 100000 in
set_option maxHeartbeats 8000000 in
theorem body_no (lo r f gm : Nat) (R : Rp) (m : Mv) (w : World) (k0 : Int) (hk : m.f0 = k0) (n1 : (k0 == 1) = false) (n2 : (k0 == 2) = false) (n8 : (k0 == 8) = false) (n11 : (k0 == 11) = false) (n15 : (k0 == 15) = false) (n20 : (k0 == 20) = false) (n4 : (k0 == 4) = false) (hl : lo ≤ f) (hl2 : lo ≤ r) (hg : lo ≤ gm) (h : RS w r f R) (ho : R.Ok) (hm : MO (fun _ => True) w gm m) :
    Calls Try.prog 49 #[.pointer (some ⟨r, 0, none⟩), .pointer (some ⟨gm, 0, none⟩)] w fun ex w' => ex = .returned (.tuple #[]) ∧ RS w' r f (Rp.done R.u1) ∧ MO (fun _ => True) w' gm { m with f20 := R.numV 1 + 1 } ∧ Kg lo r f gm w w' := by
  have nb0 := (R.numV_bd 1).1
  have nb1 : R.numV 1 ≤ 255 := by have := (R.numV_bd 1).2; omega
  have HKK := Aside0.mk hk
  clear hk
  have H := Aside0.mk h
  have HL := Aside0.mk hl
  have HL2 := Aside0.mk hl2
  have HG := Aside0.mk hg
  have HO := Aside0.mk ho
  have HWL := Aside0.mk (h.wsz hl)
  have M := Aside0.mk hm
  have K := Aside0.mk (Kg.of_kf (g := gm) (Kf.refl lo r f w))
  clear h hl hl2 hg ho hm
  go_enter Try.func49, Try.ntmps49
  go_wp2_with (first
    | ((with_reducible refine gate_dst (N := 8) rfl ?_); obtain ⟨hd_, hm_⟩ := M.out; refine ld (v := .int .i64 k0) rfl rfl rfl hm_.box Try.underlying3 rfl (by show some (Value.int .i64 m.f0) = _; rw [HKK.out]) ?_; clear hm_)
    | (go_at_call 75; (with_reducible refine (u8_c lo r f R _ HL.out HL2.out H.out HO.out).mono ?_); rintro e1 w1 ⟨rfl, i1, k1⟩; have M1 := Aside0.mk (M.out.kf H.out k1); have H1 := Aside0.mk i1; have K1 := Aside0.mk (K.out.trans (Kg.of_kf k1)); clear i1 k1)
    | (go_at_call 76; (with_reducible refine (allow_c lo r f (R.numR 1) _ (decide (R.numV 1 ≤ 1)) HL.out H1.out).mono ?_); rintro e2 w2 ⟨rfl, i1, k1⟩; have M2 := Aside0.mk (M1.out.kf H1.out k1); have H2 := Aside0.mk (show RS w2 r f R.u1 from i1); have K2 := Aside0.mk (K1.out.trans (Kg.of_kf k1)); clear i1 k1)
    | ((with_reducible refine gate_store (p := 19) rfl ?_); obtain ⟨hd_, hm_⟩ := M2.out; refine st (v := .int .i64 (R.numV 1 + 1)) rfl rfl rfl hm_.box sz3' rfl rfl rfl (by rw [cells_size]; omega) ?_; intro w3 h3_ b3_ k3_; have M3 := Aside0.mk (hm_.s20 _ h3_ k3_); have H3 := Aside0.mk (H2.out.store hm_ k3_); have K3 := Aside0.mk (K2.out.trans (Kg.of_store (b3_ _ HG.out) k3_)); clear h3_ b3_ k3_ hm_)
    | (go_at_call 77; (with_reducible refine (done_c lo r f R.u1 _ HL.out H3.out).mono ?_); rintro e20 w20 ⟨rfl, i20, k20⟩; have M20 := Aside0.mk (M3.out.kf H3.out k20); have H20 := Aside0.mk i20; have K20 := Aside0.mk (K3.out.trans (Kg.of_kf k20)); clear i20 k20))
  first | go_end0 | ((try simp only [Exit.inBlock, Exit.then]); refine bodyPost_ret (results_none rfl _ _ _) rfl ?_)
  exact ⟨rfl, H20.out, M20.out, K20.out⟩
theorem body_c (lo r f gm : Nat) (R : Rp) (m : Mv) (w : World) (hl : lo ≤ f) (hl2 : lo ≤ r) (hg : lo ≤ gm) (h : RS w r f R) (ho : R.Ok) (hm : MO (fun _ => True) w gm m) :
    Calls Try.prog 49 #[.pointer (some ⟨r, 0, none⟩), .pointer (some ⟨gm, 0, none⟩)] w fun ex w' => ex = .returned (.tuple #[]) ∧ RS w' r f (Rp.done (bodyP R m).2) ∧ MO (fun _ => True) w' gm (bodyP R m).1 ∧ Kg lo r f gm w w' := by
  unfold bodyP
  by_cases e1 : m.f0 = 1
  · rw [if_pos e1]
    exact body_1 lo r f gm R m w e1 hl hl2 hg h ho hm
  rw [if_neg e1]
  by_cases e2 : m.f0 = 2
  · rw [if_pos e2]
    exact body_2 lo r f gm R m w e2 hl hl2 hg h ho hm
  rw [if_neg e2]
  by_cases e8 : m.f0 = 8
  · rw [if_pos e8]
    exact body_8 lo r f gm R m w e8 hl hl2 hg h ho hm
  rw [if_neg e8]
  by_cases e11 : m.f0 = 11
  · rw [if_pos e11]
    exact body_11 lo r f gm R m w e11 hl hl2 hg h ho hm
  rw [if_neg e11]
  by_cases e15 : m.f0 = 15
  · rw [if_pos e15]
    exact body_15 lo r f gm R m w e15 hl hl2 hg h ho hm
  rw [if_neg e15]
  by_cases e20 : m.f0 = 20
  · rw [if_pos e20]
    exact body_20 lo r f gm R m w e20 hl hl2 hg h ho hm
  rw [if_neg e20]
  by_cases e4 : m.f0 = 4
  · rw [if_pos e4]
    exact body_4 lo r f gm R m w e4 hl hl2 hg h ho hm
  rw [if_neg e4]
  exact body_no lo r f gm R m w _ rfl (beq_eq_false_iff_ne.mpr e1) (beq_eq_false_iff_ne.mpr e2) (beq_eq_false_iff_ne.mpr e8) (beq_eq_false_iff_ne.mpr e11) (beq_eq_false_iff_ne.mpr e15) (beq_eq_false_iff_ne.mpr e20) (beq_eq_false_iff_ne.mpr e4) hl hl2 hg h ho hm
end Go.Proofs.Ytlkebjkpmiehcaa.Ms
end
section
namespace Go.Proofs.Ytlkebjkpmiehcaa.Ms
open Go.RowKit Go.Proofs.YtlkebjkpmiehcaaW.PrintWords Go.Proofs.YtlkebjkpmiehcaaW.PrintLast Go.Proofs.YtlkebjkpmiehcaaW.PrintMore Go.Proofs.Ytlkebjkpmiehcaa.X
open Go.Proofs.Ytlkebjkpmiehcaa.Pure (nv numOf vecOf nv_bd nv_bd4 number_any vec_ok)
set_option linter.unusedVariables false
def zeroM : Mv := ⟨0, ⟨#[]⟩, ⟨#[]⟩, [], ⟨#[]⟩, [], [], [], [], [], [], [], 0, [], [], 0, ⟨#[]⟩, 0, 0, ⟨#[]⟩, 0⟩
def hd0 : Hd := ⟨none, 0, none, 0, none, 0, none, 0, none, 0, none, 0, none, 0, none, 0, none, 0, none, 0⟩
def getR (s : ByteArray) : Rp := ⟨s.extract 4 s.size, 0, 0, false, false⟩
def getB (s : ByteArray) : Mv × Rp := bodyP (getR s) { zeroM with f0 := bt s 0 }
def getF (s : ByteArray) : Rp := if (getB s).2.done.t = true then (getB s).2.done.fail 1702 else (getB s).2.done
def knownB (k : Int) : Bool := (msg_known.f k).getD false
def headed (s : ByteArray) : Bool := (numOf s 1 3).2.2 == 0 && (numOf s 1 3).1 == (s.size : Int) - 4 && decide ((s.size : Int) ≤ 65536)
def getM (s : ByteArray) : Mv × Int :=
  if s.size = 0 then (zeroM, 1701)
  else if knownB (bt s 0) = false then (zeroM, 1701)
  else if headed s = false then (zeroM, 1700)
  else if (getF s).c = 0 then ((getB s).1, 0) else (zeroM, (getF s).c)
theorem known_f (k : Int) : msg_known.f k = some (knownB k) := by
  unfold knownB msg_known.f
  repeat' split
  all_goals rfl
theorem built49 : Try.prog.built 49 [] = some zcells := by kernel_rfl
theorem built90 : Try.prog.built 90 [] = some #[.int .i64 0, .bool false] := by kernel_rfl
section
variable {ops : Array Oper} {rest : List Oper} {o : Oper} {a : Act} {Q : Exit → Act → World → Prop} {w : World}
theorem bld {t : TypeId} {fs : Array (Nat × Operand)} {vs : Array (Nat × Value)} {cs : Array Value} (hgd : o.guard = none) (ho : o.op = .build t fs) (hv : fs.map (fun x => (x.1, a.eval x.2)) = vs) (hb : Try.prog.built t vs.toList = some cs)
    (H : wpList Try.prog ops Q rest (a.put o.dst (.agg cs)) w) : wpList Try.prog ops Q (o :: rest) a w := by
  refine wpList_plain hgd fun K hK => ?_
  unfold Oper.wp execOp
  have hr := run_build (P := Try.prog) w t vs _ hb
  simp only [ho, Sem.run_bind]
  rw [hv, hr]
  exact hK _ _ H
theorem boxA {t : TypeId} (hgd : o.guard = none) {x : Operand} (ho : o.op = .box t x) {cs : Array Value} (hx : a.eval x = .agg cs)
    (H : ∀ g, g = w.heap.size → ∀ w1, w1.heap[g]? = some (.cells cs t (0, 0)) → Below w.heap.size w w1 → wpList Try.prog ops Q rest (a.put o.dst (.pointer (some ⟨g, 0, none⟩))) w1) : wpList Try.prog ops Q (o :: rest) a w := by
  refine Kd.event_run hgd ?_ (H _ rfl _ (blk_new w _) (below_alloc (Below.refl _ _) _))
  unfold execOp
  simp only [ho, hx]
  rfl
theorem alloc49' (hgd : o.guard = none) (ho : o.op = .alloc 49)
    (H : ∀ g, g = w.heap.size → ∀ w1, w1.heap[g]? = some (.cells zcells 49 (0, 0)) → Below w.heap.size w w1 → wpList Try.prog ops Q rest (a.put o.dst (.pointer (some ⟨g, 0, none⟩))) w1) : wpList Try.prog ops Q (o :: rest) a w := by
  refine Kd.event_run hgd ?_ (H _ rfl _ (blk_new w (.cells zcells 49)) (below_alloc (Below.refl _ _) _))
  obtain ⟨i0, hi, hz⟩ := Option.map_eq_some_iff.1 zero49
  unfold execOp
  simp only [ho, Instr.alloc, zeroValue, typeInfo, Sem.run_bind]
  simp [hi, hz]
  rfl
theorem stRowN {n : TypeId} {N : Nat} (hsz : (Try.prog.info? n).map (·.size) = some N) (hgd : o.guard = none) {p x : Operand} (ho : o.op = .store n p x) {g : Nat} (hp : a.eval p = .pointer (some ⟨g, 0, none⟩))
    {cs zs : Array Value} (hx : a.eval x = .agg cs) {t : TypeId} (h : w.heap[g]? = some (.cells zs t (0, 0))) (hz : zs.size = N) (hc : cs.size = N) (h1 : cs.toList.all (·.oneCell') = true)
    (H : ∀ w1, w1.heap[g]? = some (.cells cs t (0, 0)) → (∀ lo, lo ≤ g → Below lo w w1) → KeepBut w w1 g none → wpList Try.prog ops Q rest (a.put o.dst undef) w1) : wpList Try.prog ops Q (o :: rest) a w := by
  refine wpList_plain hgd fun K hK => wp_store_row n p x ho g cs hp hx t zs h (by rw [hc]; exact hsz) (by rw [hz, hc]) (by rw [← Array.all_toList]; exact h1) (hK _ _ (H _ ?_ ?_ ?_))
  · simp [World.setRow, Array.getElem?_modify, h]
  · intro lo hl
    refine ⟨rfl, rfl, rfl, by simp [World.setRow], fun k hk => ?_⟩
    simp only [World.setRow, Array.getElem?_modify]
    rw [if_neg (by omega)]
  · refine ⟨by simp [World.setRow], fun k hk hne _ => ?_⟩
    simp only [World.setRow, Array.getElem?_modify]
    rw [if_neg (Ne.symm hne)]
theorem stRowM {oi : Oper} {K : Act → World → Prop} {n : TypeId} {N : Nat} (hsz : (Try.prog.info? n).map (·.size) = some N) (hw : Region.wanted oi (yielded ops a.tmps) = true) (hN : oi.dst = none) {p x : Operand} (ho : oi.op = .store n p x) {g : Nat} (hp : a.eval p = .pointer (some ⟨g, 0, none⟩))
    {cs zs : Array Value} (hx : a.eval x = .agg cs) {t : TypeId} (h : w.heap[g]? = some (.cells zs t (0, 0))) (hz : zs.size = N) (hc : cs.size = N) (h1 : cs.toList.all (·.oneCell') = true)
    (H : ∀ w1, w1.heap[g]? = some (.cells cs t (0, 0)) → (∀ lo, lo ≤ g → Below lo w w1) → KeepBut w w1 g none → K a w1) : if Region.wanted oi (yielded ops a.tmps) = true then Oper.wp Try.prog oi a w K Q else K (a.put none undef) w := by
  rw [if_pos hw]
  refine wp_store_row n p x ho g cs hp hx t zs h (by rw [hc]; exact hsz) (by rw [hz, hc]) (by rw [← Array.all_toList]; exact h1) ?_
  have hput : a.put oi.dst undef = a := by rw [hN]; rfl
  rw [hput]
  refine H _ ?_ ?_ ?_
  · simp [World.setRow, Array.getElem?_modify, h]
  · intro lo hl
    refine ⟨rfl, rfl, rfl, by simp [World.setRow], fun k hk => ?_⟩
    simp only [World.setRow, Array.getElem?_modify]
    rw [if_neg (by omega)]
  · refine ⟨by simp [World.setRow], fun k hk hne _ => ?_⟩
    simp only [World.setRow, Array.getElem?_modify]
    rw [if_neg (Ne.symm hne)]
end
theorem b0_eq (s : ByteArray) (h : 0 < s.size) : wrap64 ((s[0]'h).toNat : Int) = bt s 0 := by
  have e := bt_at s 0 (by simpa using h)
  have hb := bt_range s 0
  rw [← e]
  show wrap64 ((s[0]'h).toNat : Int) = ((s[0]'h).toNat : Int)
  have : ((s[0]'h).toNat : Int) = bt s 0 := e
  unfold wrap64
  omega
theorem zreads (w : World) : Reads w zeroM hd0 := by
  constructor <;> first | exact C_nil _ _ | exact Nat.le_refl _
theorem cells_one (m : Mv) (h : Hd) : (cells m h).toList.all (·.oneCell') = true := rfl
set_option maxRecDepth 100000 in
set_option maxHeartbeats 8000000 in
theorem get_empty (s : ByteArray) (w : World) (hs : s.size ≤ 140737488351232) (he : s.size = 0) :
    Calls Try.prog 24 #[.string s] w fun ex w' => ex = .returned (.tuple #[.agg (cells zeroM hd0), .int .i64 1701]) ∧ Below w.heap.size w w' := by
  have e1 : s.toList.isEmpty = true := by rw [ByteArray.toList_eq, List.isEmpty_iff]; exact List.eq_nil_of_length_eq_zero (by simpa using he)
  clear he
  go_enter Try.func24, Try.ntmps24
  go_wp2_with (first
    | ((with_reducible refine gate_dst (N := 2) rfl ?_); refine alloc49' rfl rfl ?_; intro g2 eg w1 h1 b1; have HZ := Aside0.mk h1; have HB := Aside0.mk b1; have HE := Aside0.mk (show w.heap.size ≤ g2 from by omega); clear h1 b1 eg)
    | ((with_reducible refine gate_dst (N := 18) rfl ?_); refine bld rfl rfl (vs := #[]) (by simp) built49 ?_)
    | ((with_reducible refine gate_store (p := 2) rfl ?_); refine stRowN sz49 rfl rfl rfl rfl HZ.out rfl rfl rfl ?_; intro w9 h9 b9 k9; have HZ9 := Aside0.mk h9; have HB9 := Aside0.mk (HB.out.trans (b9 _ HE.out)); clear h9 b9 k9))
  refine bodyPost_ret (results_ct rfl _ _ g2 49 _ (0, 0) _ rfl HZ9.out Try.underlying49 rfl sz49) rfl ?_
  exact ⟨rfl, HB9.out⟩
set_option maxRecDepth 100000 in
set_option maxHeartbeats 8000000 in
theorem get_unknown (s : ByteArray) (w : World) (hs : s.size ≤ 140737488351232) (he : s.size ≠ 0) (hk : knownB (bt s 0) = false) :
    Calls Try.prog 24 #[.string s] w fun ex w' => ex = .returned (.tuple #[.agg (cells zeroM hd0), .int .i64 1701]) ∧ Below w.heap.size w w' := by
  have e1 : s.toList.isEmpty = false := by rw [ByteArray.toList_eq]; rw [List.isEmpty_eq_false_iff]; intro e; exact he (by simpa using congrArg List.length e)
  have HKN := Aside0.mk hk
  have HH := Aside0.mk (Nat.pos_of_ne_zero he)
  have hpos : 0 < s.size := HH.out
  have hb0 := bt_range s 0
  clear he hk
  go_enter Try.func24, Try.ntmps24
  go_wp2_with (first
    | ((with_reducible refine gate_dst (N := 2) rfl ?_); refine alloc49' rfl rfl ?_; intro g2 eg w1 h1 b1; have HZ := Aside0.mk h1; have HB := Aside0.mk b1; have HE := Aside0.mk (show w.heap.size ≤ g2 from by omega); clear h1 b1 eg)
    | (go_at_call 43; rw [b0_eq s HH.out]; (with_reducible refine (msg_known.calls (bt s 0) false _ (by rw [known_f, HKN.out])).mono ?_); rintro e2 w2 ⟨rfl, d2⟩; have HZ2 := Aside0.mk ((d2.below.block g2 (blk_lt HZ.out)).trans HZ.out); have HB2 := Aside0.mk (below_step HB.out d2.below); clear d2)
    | ((with_reducible refine gate_dst (N := 18) rfl ?_); refine bld rfl rfl (vs := #[]) (by simp) built49 ?_)
    | ((with_reducible refine gate_store (p := 2) rfl ?_); refine stRowN sz49 rfl rfl rfl rfl HZ2.out rfl rfl rfl ?_; intro w9 h9 b9 k9; have HZ9 := Aside0.mk h9; have HB9 := Aside0.mk (HB2.out.trans (b9 _ HE.out)); clear h9 b9 k9))
  refine bodyPost_ret (results_ct rfl _ _ g2 49 _ (0, 0) _ rfl HZ9.out Try.underlying49 rfl sz49) rfl ?_
  exact ⟨rfl, HB9.out⟩
theorem u24_at (s : ByteArray) (hs : s.size ≤ 140737488351232) : ∃ k, wire_U24.f k s 1 = some (numOf s 1 3) := by
  obtain ⟨k, hk⟩ := ev_at (number_any s 1 3 (by omega) hs)
  refine ⟨k, ?_⟩
  unfold wire_U24.f
  rw [xe_number, show (3 : Int) = ((3 : Nat) : Int) from rfl, hk]
  rfl
set_option maxRecDepth 100000 in
set_option maxHeartbeats 8000000 in
theorem get_form_a (s : ByteArray) (w : World) (hs : s.size ≤ 140737488351232) (he : s.size ≠ 0) (hk : knownB (bt s 0) = true) (k : Nat) (n q er : Int) (hu : wire_U24.f k s 1 = some (n, q, er)) (hq : er ≠ 0) :
    Calls Try.prog 24 #[.string s] w fun ex w' => ex = .returned (.tuple #[.agg (cells zeroM hd0), .int .i64 1700]) ∧ Below w.heap.size w w' := by
  have f1 : (er != 0) = true := by simpa using hq
  have e1 : s.toList.isEmpty = false := by rw [ByteArray.toList_eq]; rw [List.isEmpty_eq_false_iff]; intro e; exact he (by simpa using congrArg List.length e)
  have HKN := Aside0.mk hk
  have HH := Aside0.mk (Nat.pos_of_ne_zero he)
  have hpos : 0 < s.size := HH.out
  have hb0 := bt_range s 0
  clear he hk
  have HU := Aside0.mk hu
  clear hu
  go_enter Try.func24, Try.ntmps24
  go_wp2_with (first
    | ((with_reducible refine gate_dst (N := 2) rfl ?_); refine alloc49' rfl rfl ?_; intro g2 eg w1 h1 b1; have HZ := Aside0.mk h1; have HB := Aside0.mk b1; have HE := Aside0.mk (show w.heap.size ≤ g2 from by omega); clear h1 b1 eg)
    | (go_at_call 43; rw [b0_eq s HH.out]; (with_reducible refine (msg_known.calls (bt s 0) true _ (by rw [known_f, HKN.out])).mono ?_); rintro e2 w2 ⟨rfl, d2⟩; have HZ2 := Aside0.mk ((d2.below.block g2 (blk_lt HZ.out)).trans HZ.out); have HB2 := Aside0.mk (below_step HB.out d2.below); clear d2)
    | (go_at_call 48; (with_reducible refine (wire_U24.calls k s 1 _ _ _ _ HU.out).mono ?_); rintro e3 w3 ⟨rfl, d3⟩; have HZ3 := Aside0.mk ((d3.below.block g2 (blk_lt HZ2.out)).trans HZ2.out); have HB3 := Aside0.mk (below_step HB2.out d3.below); clear d3)
    | ((with_reducible refine gate_dst (N := 39) rfl ?_); refine bld rfl rfl (vs := #[]) (by simp) built49 ?_)
    | ((with_reducible refine gate_store (p := 2) rfl ?_); refine stRowN sz49 rfl rfl rfl rfl HZ3.out rfl rfl rfl ?_; intro w9 h9 b9 k9; have HZ9 := Aside0.mk h9; have HB9 := Aside0.mk (HB3.out.trans (b9 _ HE.out)); clear h9 b9 k9))
  refine bodyPost_ret (results_ct rfl _ _ g2 49 _ (0, 0) _ rfl HZ9.out Try.underlying49 rfl sz49) rfl ?_
  exact ⟨rfl, HB9.out⟩
set_option maxRecDepth 100000 in
set_option maxHeartbeats 8000000 in
theorem get_form_b (s : ByteArray) (w : World) (hs : s.size ≤ 140737488351232) (he : s.size ≠ 0) (hk : knownB (bt s 0) = true) (k : Nat) (n q er : Int) (hu : wire_U24.f k s 1 = some (n, q, er)) (hq : er = 0) (hn : n ≠ (s.size : Int) - 4) :
    Calls Try.prog 24 #[.string s] w fun ex w' => ex = .returned (.tuple #[.agg (cells zeroM hd0), .int .i64 1700]) ∧ Below w.heap.size w w' := by
  subst hq
  have f2 : (n != (s.size : Int) - 4) = true := by simpa using hn
  have e1 : s.toList.isEmpty = false := by rw [ByteArray.toList_eq]; rw [List.isEmpty_eq_false_iff]; intro e; exact he (by simpa using congrArg List.length e)
  have HKN := Aside0.mk hk
  have HH := Aside0.mk (Nat.pos_of_ne_zero he)
  have hpos : 0 < s.size := HH.out
  have hb0 := bt_range s 0
  clear he hk
  have HU := Aside0.mk hu
  clear hu
  go_enter Try.func24, Try.ntmps24
  go_wp2_with (first
    | ((with_reducible refine gate_dst (N := 2) rfl ?_); refine alloc49' rfl rfl ?_; intro g2 eg w1 h1 b1; have HZ := Aside0.mk h1; have HB := Aside0.mk b1; have HE := Aside0.mk (show w.heap.size ≤ g2 from by omega); clear h1 b1 eg)
    | (go_at_call 43; rw [b0_eq s HH.out]; (with_reducible refine (msg_known.calls (bt s 0) true _ (by rw [known_f, HKN.out])).mono ?_); rintro e2 w2 ⟨rfl, d2⟩; have HZ2 := Aside0.mk ((d2.below.block g2 (blk_lt HZ.out)).trans HZ.out); have HB2 := Aside0.mk (below_step HB.out d2.below); clear d2)
    | (go_at_call 48; (with_reducible refine (wire_U24.calls k s 1 _ _ _ _ HU.out).mono ?_); rintro e3 w3 ⟨rfl, d3⟩; have HZ3 := Aside0.mk ((d3.below.block g2 (blk_lt HZ2.out)).trans HZ2.out); have HB3 := Aside0.mk (below_step HB2.out d3.below); clear d3)
    | ((with_reducible refine gate_dst (N := 39) rfl ?_); refine bld rfl rfl (vs := #[]) (by simp) built49 ?_)
    | ((with_reducible refine gate_store (p := 2) rfl ?_); refine stRowN sz49 rfl rfl rfl rfl HZ3.out rfl rfl rfl ?_; intro w9 h9 b9 k9; have HZ9 := Aside0.mk h9; have HB9 := Aside0.mk (HB3.out.trans (b9 _ HE.out)); clear h9 b9 k9))
  refine bodyPost_ret (results_ct rfl _ _ g2 49 _ (0, 0) _ rfl HZ9.out Try.underlying49 rfl sz49) rfl ?_
  exact ⟨rfl, HB9.out⟩
set_option maxRecDepth 100000 in
set_option maxHeartbeats 8000000 in
theorem get_form_c (s : ByteArray) (w : World) (hs : s.size ≤ 140737488351232) (he : s.size ≠ 0) (hk : knownB (bt s 0) = true) (k : Nat) (n q er : Int) (hu : wire_U24.f k s 1 = some (n, q, er)) (hq : er = 0) (hn : n = (s.size : Int) - 4) (hz : 65536 < s.size) :
    Calls Try.prog 24 #[.string s] w fun ex w' => ex = .returned (.tuple #[.agg (cells zeroM hd0), .int .i64 1700]) ∧ Below w.heap.size w w' := by
  subst hq
  subst hn
  have f3 : decide (65536 < s.size) = true := decide_eq_true hz
  have f3b : decide ((65536 : Int) < (s.size : Int)) = true := decide_eq_true (by omega)
  have e1 : s.toList.isEmpty = false := by rw [ByteArray.toList_eq]; rw [List.isEmpty_eq_false_iff]; intro e; exact he (by simpa using congrArg List.length e)
  have HKN := Aside0.mk hk
  have HH := Aside0.mk (Nat.pos_of_ne_zero he)
  have hpos : 0 < s.size := HH.out
  have hb0 := bt_range s 0
  clear he hk
  have HU := Aside0.mk hu
  clear hu
  go_enter Try.func24, Try.ntmps24
  go_wp2_with (first
    | ((with_reducible refine gate_dst (N := 2) rfl ?_); refine alloc49' rfl rfl ?_; intro g2 eg w1 h1 b1; have HZ := Aside0.mk h1; have HB := Aside0.mk b1; have HE := Aside0.mk (show w.heap.size ≤ g2 from by omega); clear h1 b1 eg)
    | (go_at_call 43; rw [b0_eq s HH.out]; (with_reducible refine (msg_known.calls (bt s 0) true _ (by rw [known_f, HKN.out])).mono ?_); rintro e2 w2 ⟨rfl, d2⟩; have HZ2 := Aside0.mk ((d2.below.block g2 (blk_lt HZ.out)).trans HZ.out); have HB2 := Aside0.mk (below_step HB.out d2.below); clear d2)
    | (go_at_call 48; (with_reducible refine (wire_U24.calls k s 1 _ _ _ _ HU.out).mono ?_); rintro e3 w3 ⟨rfl, d3⟩; have HZ3 := Aside0.mk ((d3.below.block g2 (blk_lt HZ2.out)).trans HZ2.out); have HB3 := Aside0.mk (below_step HB2.out d3.below); clear d3)
    | ((with_reducible refine gate_dst (N := 39) rfl ?_); refine bld rfl rfl (vs := #[]) (by simp) built49 ?_)
    | ((with_reducible refine gate_store (p := 2) rfl ?_); refine stRowN sz49 rfl rfl rfl rfl HZ3.out rfl rfl rfl ?_; intro w9 h9 b9 k9; have HZ9 := Aside0.mk h9; have HB9 := Aside0.mk (HB3.out.trans (b9 _ HE.out)); clear h9 b9 k9))
  refine bodyPost_ret (results_ct rfl _ _ g2 49 _ (0, 0) _ rfl HZ9.out Try.underlying49 rfl sz49) rfl ?_
  exact ⟨rfl, HB9.out⟩
theorem MO.start {w : World} {gm : Nat} {k : Int} (h : w.heap[gm]? = some (.cells (cells { zeroM with f0 := k } hd0) 49 (0, 0))) : MO (fun _ => True) w gm { zeroM with f0 := k } :=
  ⟨hd0, h, Kd.R_nil _ _ _ _ _, Kd.R_nil _ _ _ _ _, Kd.R_nil _ _ _ _ _, Kd.R_nil _ _ _ _ _, Kd.R_nil _ _ _ _ _, Kd.R_nil _ _ _ _ _, Kd.R_nil _ _ _ _ _, Kd.R_nil _ _ _ _ _, Kd.R_nil _ _ _ _ _, Kd.R_nil _ _ _ _ _⟩
theorem getR_ok {s : ByteArray} (h : s.size ≤ 65536) : (getR s).Ok := ⟨Int.le_refl _, by show (0 : Int) ≤ _; omega, by show (s.extract 4 s.size).size ≤ _; rw [ByteArray.size_extract]; omega⟩
set_option maxRecDepth 100000 in
set_option maxHeartbeats 8000000 in
theorem get_t_ok (s : ByteArray) (w : World) (hs : s.size ≤ 140737488351232) (he : s.size ≠ 0) (hk : knownB (bt s 0) = true) (k : Nat) (q : Int) (hu : wire_U24.f k s 1 = some ((s.size : Int) - 4, q, 0)) (h4 : 4 ≤ s.size) (hz : s.size ≤ 65536) (ht : (getB s).2.done.t = true) (hc : (getF s).c = 0) :
    Calls Try.prog 24 #[.string s] w fun ex w' => ∃ h, ex = .returned (.tuple #[.agg (cells (getB s).1 h), .int .i64 0]) ∧ Reads w' (getB s).1 h ∧ Below w.heap.size w w' := by
  have e1 : s.toList.isEmpty = false := by rw [ByteArray.toList_eq]; rw [List.isEmpty_eq_false_iff]; intro e; exact he (by simpa using congrArg List.length e)
  have HKN := Aside0.mk hk
  have HH := Aside0.mk (Nat.pos_of_ne_zero he)
  have hpos : 0 < s.size := HH.out
  have hb0 := bt_range s 0
  clear he hk
  have f2 : ((s.size : Int) - 4 != (s.size : Int) - 4) = false := by simp
  have f3 : decide (65536 < s.size) = false := decide_eq_false (by omega)
  have f3b : decide ((65536 : Int) < (s.size : Int)) = false := decide_eq_false (by omega)
  have f4 : 4 ≤ s.size := h4
  have HRO := Aside0.mk (getR_ok hz)
  have HU := Aside0.mk hu
  have HT := Aside0.mk ht
  have hcb : ((getF s).c == 0) = true := by simpa using hc
  clear hu hc f4
  have f4 : 4 ≤ s.size := h4
  go_enter Try.func24, Try.ntmps24
  go_wp2_with (first
    | ((with_reducible refine gate_dst (N := 2) rfl ?_); refine alloc49' rfl rfl ?_; intro g2 eg w1 h1 b1; have HZ := Aside0.mk h1; have HB := Aside0.mk b1; have HE := Aside0.mk (show w.heap.size ≤ g2 from by omega); clear h1 b1 eg)
    | (go_at_call 43; rw [b0_eq s HH.out]; (with_reducible refine (msg_known.calls (bt s 0) true _ (by rw [known_f, HKN.out])).mono ?_); rintro e2 w2 ⟨rfl, d2⟩; have HZ2 := Aside0.mk ((d2.below.block g2 (blk_lt HZ.out)).trans HZ.out); have HB2 := Aside0.mk (below_step HB.out d2.below); clear d2)
    | (go_at_call 48; (with_reducible refine (wire_U24.calls k s 1 _ _ _ _ HU.out).mono ?_); rintro e3 w3 ⟨rfl, d3⟩; have HZ3 := Aside0.mk ((d3.below.block g2 (blk_lt HZ2.out)).trans HZ2.out); have HB3 := Aside0.mk (below_step HB2.out d3.below); clear d3)
    | ((with_reducible refine gate_dst (N := 7) rfl ?_); refine alloc49' rfl rfl ?_; intro gm eg w4 h4 b4; have HM4 := Aside0.mk h4; have HZ4 := Aside0.mk ((b4.block g2 (blk_lt HZ3.out)).trans HZ3.out); have HB4 := Aside0.mk (below_step HB3.out b4); have HGM := Aside0.mk (show w.heap.size ≤ gm ∧ g2 ≠ gm from by have := HB3.out.size; have := blk_lt HZ3.out; omega); clear h4 b4 eg)
    | ((with_reducible refine gate_store (p := 7) rfl ?_); refine stRowN (cs := cells { zeroM with f0 := wrap64 ((s[0]'HH.out).toNat : Int) } hd0) sz49 rfl rfl rfl rfl HM4.out rfl rfl (cells_one _ _) ?_; intro w5 h5 b5 k5; rw [b0_eq s HH.out] at h5; have M5 := Aside0.mk (MO.start h5); have HZ5 := Aside0.mk ((k5.2 g2 (blk_lt HZ4.out) HGM.out.2 (by simp)).trans HZ4.out); have HB5 := Aside0.mk (HB4.out.trans (b5 _ HGM.out.1)); clear h5 b5 k5)
    | ((with_reducible refine gate_dst (N := 46) rfl ?_); refine bld rfl rfl (vs := #[]) (by simp) built90 ?_)
    | ((with_reducible refine gate_dst (N := 47) rfl ?_); refine boxA rfl rfl rfl ?_; intro f eg w6 h6 b6; have HF6 := Aside0.mk h6; have M6 := Aside0.mk (M5.out.below b6); have HZ6 := Aside0.mk ((b6.block g2 (blk_lt HZ5.out)).trans HZ5.out); have HB6 := Aside0.mk (below_step HB5.out b6); have HFN := Aside0.mk (show w.heap.size ≤ f ∧ g2 ≠ f from by have := HB5.out.size; have := blk_lt HZ5.out; omega); clear h6 b6 eg)
    | ((with_reducible refine gate_dst (N := 48) rfl ?_); refine bld rfl rfl (vs := #[(0, .string (s.extract 4 s.size)), (2, .pointer (some ⟨f, 0, none⟩))]) (by rfl) (built92 _ _) ?_)
    | ((with_reducible refine gate_dst (N := 49) rfl ?_); refine boxA rfl rfl rfl ?_; intro r eg w7 h7 b7; have H7 := Aside0.mk (show RS w7 r f (getR s) from ⟨h7, (b7.block f (blk_lt HF6.out)).trans HF6.out⟩); have M7 := Aside0.mk (M6.out.below b7); have HZ7 := Aside0.mk ((b7.block g2 (blk_lt HZ6.out)).trans HZ6.out); have HB7 := Aside0.mk (below_step HB6.out b7); have HRN := Aside0.mk (show w.heap.size ≤ r ∧ g2 ≠ r from by have := HB6.out.size; have := blk_lt HZ6.out; omega); clear h7 b7 eg)
    | (go_at_call 49; (with_reducible refine (body_c w.heap.size r f gm (getR s) { zeroM with f0 := bt s 0 } _ HFN.out.1 HRN.out.1 HGM.out.1 H7.out HRO.out M7.out).mono ?_); rintro e8 w8 ⟨rfl, i8, m8, k8⟩; have H8 := Aside0.mk (show RS w8 r f (getB s).2.done from i8); have M8 := Aside0.mk (show MO (fun _ => True) w8 gm (getB s).1 from m8); have HZ8 := Aside0.mk (k8.keep g2 _ HZ7.out HRN.out.2 HFN.out.2 HGM.out.2); have HB8 := Aside0.mk (HB7.out.trans k8.below); clear i8 m8 k8)
    | ((with_reducible refine gate_dst (N := 55) rfl ?_); refine ld (v := .pointer (some ⟨f, 0, none⟩)) rfl rfl rfl H8.out.rd Try.underlying88 rfl rfl ?_)
    | ((with_reducible refine gate_dst (N := 58) rfl ?_); refine ld (v := .bool true) rfl rfl rfl H8.out.ft Try.underlying4 rfl (by show some (Value.bool (getB s).2.done.t) = _; rw [HT.out]) ?_)
    | (go_at_call 50; (with_reducible refine (fail_c w.heap.size r f (getB s).2.done _ 1702 HFN.out.1 H8.out).mono ?_); rintro e9 w9 ⟨rfl, i9, k9⟩; have H9 := Aside0.mk (show RS w9 r f (getF s) from by unfold getF; rw [if_pos HT.out]; exact i9); have M9 := Aside0.mk (M8.out.kf H8.out k9); have HZ9 := Aside0.mk (k9.keep g2 _ HZ8.out HRN.out.2 HFN.out.2); have HB9 := Aside0.mk (HB8.out.trans k9.below); clear i9 k9))
  obtain ⟨hd, hx⟩ := M9.out
  have HX9 := Aside0.mk hx
  clear hx
  go_wp2_with (first
    | (go_at_call 51; (with_reducible refine (ok_c r f (getF s) _ H9.out).mono ?_); rintro e10 w10 ⟨rfl, rfl⟩)
    | ((with_reducible refine gate_dst (N := 72) rfl ?_); refine wpList_load_row rfl 49 _ rfl gm rfl 49 _ (0, 0) _ HX9.out.box Try.underlying49 rfl sz49 ?_)
    | ((with_reducible refine gate_store (p := 2) rfl ?_); refine stRowN sz49 rfl rfl rfl rfl HZ9.out rfl rfl (cells_one _ _) ?_; intro w11 h11 b11 k11; have HZ11 := Aside0.mk h11; have HB11 := Aside0.mk (HB9.out.trans (b11 _ HE.out)); have X11 := Aside0.mk (HX9.out.move ((k11.2 gm (blk_lt HX9.out.box) (Ne.symm HGM.out.2) (by simp)).trans HX9.out.box) [49] (fun j cs t hj ht => (k11.2 j (blk_lt hj) (blk_ne hj HZ9.out (by intro e; exact ht (by simp [e]))) (by simp)).trans hj) (by decide) (by decide) (by decide) (by decide)); clear h11 b11 k11))
  refine bodyPost_ret (results_ct rfl _ _ g2 49 _ (0, 0) _ rfl HZ11.out Try.underlying49 rfl sz49) rfl ?_
  exact ⟨hd, rfl, X11.out.reads, HB11.out⟩
set_option maxRecDepth 100000 in
set_option maxHeartbeats 8000000 in
theorem get_t_no (s : ByteArray) (w : World) (hs : s.size ≤ 140737488351232) (he : s.size ≠ 0) (hk : knownB (bt s 0) = true) (k : Nat) (q : Int) (hu : wire_U24.f k s 1 = some ((s.size : Int) - 4, q, 0)) (h4 : 4 ≤ s.size) (hz : s.size ≤ 65536) (ht : (getB s).2.done.t = true) (hc : (getF s).c ≠ 0) :
    Calls Try.prog 24 #[.string s] w fun ex w' => ex = .returned (.tuple #[.agg (cells zeroM hd0), .int .i64 (getF s).c]) ∧ Below w.heap.size w w' := by
  have e1 : s.toList.isEmpty = false := by rw [ByteArray.toList_eq]; rw [List.isEmpty_eq_false_iff]; intro e; exact he (by simpa using congrArg List.length e)
  have HKN := Aside0.mk hk
  have HH := Aside0.mk (Nat.pos_of_ne_zero he)
  have hpos : 0 < s.size := HH.out
  have hb0 := bt_range s 0
  clear he hk
  have f2 : ((s.size : Int) - 4 != (s.size : Int) - 4) = false := by simp
  have f3 : decide (65536 < s.size) = false := decide_eq_false (by omega)
  have f3b : decide ((65536 : Int) < (s.size : Int)) = false := decide_eq_false (by omega)
  have f4 : 4 ≤ s.size := h4
  have HRO := Aside0.mk (getR_ok hz)
  have HU := Aside0.mk hu
  have HT := Aside0.mk ht
  have hcb : ((getF s).c == 0) = false := by simpa using hc
  clear hu hc f4
  have f4 : 4 ≤ s.size := h4
  go_enter Try.func24, Try.ntmps24
  go_wp2_with (first
    | ((with_reducible refine gate_dst (N := 2) rfl ?_); refine alloc49' rfl rfl ?_; intro g2 eg w1 h1 b1; have HZ := Aside0.mk h1; have HB := Aside0.mk b1; have HE := Aside0.mk (show w.heap.size ≤ g2 from by omega); clear h1 b1 eg)
    | (go_at_call 43; rw [b0_eq s HH.out]; (with_reducible refine (msg_known.calls (bt s 0) true _ (by rw [known_f, HKN.out])).mono ?_); rintro e2 w2 ⟨rfl, d2⟩; have HZ2 := Aside0.mk ((d2.below.block g2 (blk_lt HZ.out)).trans HZ.out); have HB2 := Aside0.mk (below_step HB.out d2.below); clear d2)
    | (go_at_call 48; (with_reducible refine (wire_U24.calls k s 1 _ _ _ _ HU.out).mono ?_); rintro e3 w3 ⟨rfl, d3⟩; have HZ3 := Aside0.mk ((d3.below.block g2 (blk_lt HZ2.out)).trans HZ2.out); have HB3 := Aside0.mk (below_step HB2.out d3.below); clear d3)
    | ((with_reducible refine gate_dst (N := 7) rfl ?_); refine alloc49' rfl rfl ?_; intro gm eg w4 h4 b4; have HM4 := Aside0.mk h4; have HZ4 := Aside0.mk ((b4.block g2 (blk_lt HZ3.out)).trans HZ3.out); have HB4 := Aside0.mk (below_step HB3.out b4); have HGM := Aside0.mk (show w.heap.size ≤ gm ∧ g2 ≠ gm from by have := HB3.out.size; have := blk_lt HZ3.out; omega); clear h4 b4 eg)
    | ((with_reducible refine gate_store (p := 7) rfl ?_); refine stRowN (cs := cells { zeroM with f0 := wrap64 ((s[0]'HH.out).toNat : Int) } hd0) sz49 rfl rfl rfl rfl HM4.out rfl rfl (cells_one _ _) ?_; intro w5 h5 b5 k5; rw [b0_eq s HH.out] at h5; have M5 := Aside0.mk (MO.start h5); have HZ5 := Aside0.mk ((k5.2 g2 (blk_lt HZ4.out) HGM.out.2 (by simp)).trans HZ4.out); have HB5 := Aside0.mk (HB4.out.trans (b5 _ HGM.out.1)); clear h5 b5 k5)
    | ((with_reducible refine gate_dst (N := 46) rfl ?_); refine bld rfl rfl (vs := #[]) (by simp) built90 ?_)
    | ((with_reducible refine gate_dst (N := 47) rfl ?_); refine boxA rfl rfl rfl ?_; intro f eg w6 h6 b6; have HF6 := Aside0.mk h6; have M6 := Aside0.mk (M5.out.below b6); have HZ6 := Aside0.mk ((b6.block g2 (blk_lt HZ5.out)).trans HZ5.out); have HB6 := Aside0.mk (below_step HB5.out b6); have HFN := Aside0.mk (show w.heap.size ≤ f ∧ g2 ≠ f from by have := HB5.out.size; have := blk_lt HZ5.out; omega); clear h6 b6 eg)
    | ((with_reducible refine gate_dst (N := 48) rfl ?_); refine bld rfl rfl (vs := #[(0, .string (s.extract 4 s.size)), (2, .pointer (some ⟨f, 0, none⟩))]) (by rfl) (built92 _ _) ?_)
    | ((with_reducible refine gate_dst (N := 49) rfl ?_); refine boxA rfl rfl rfl ?_; intro r eg w7 h7 b7; have H7 := Aside0.mk (show RS w7 r f (getR s) from ⟨h7, (b7.block f (blk_lt HF6.out)).trans HF6.out⟩); have M7 := Aside0.mk (M6.out.below b7); have HZ7 := Aside0.mk ((b7.block g2 (blk_lt HZ6.out)).trans HZ6.out); have HB7 := Aside0.mk (below_step HB6.out b7); have HRN := Aside0.mk (show w.heap.size ≤ r ∧ g2 ≠ r from by have := HB6.out.size; have := blk_lt HZ6.out; omega); clear h7 b7 eg)
    | (go_at_call 49; (with_reducible refine (body_c w.heap.size r f gm (getR s) { zeroM with f0 := bt s 0 } _ HFN.out.1 HRN.out.1 HGM.out.1 H7.out HRO.out M7.out).mono ?_); rintro e8 w8 ⟨rfl, i8, m8, k8⟩; have H8 := Aside0.mk (show RS w8 r f (getB s).2.done from i8); have M8 := Aside0.mk (show MO (fun _ => True) w8 gm (getB s).1 from m8); have HZ8 := Aside0.mk (k8.keep g2 _ HZ7.out HRN.out.2 HFN.out.2 HGM.out.2); have HB8 := Aside0.mk (HB7.out.trans k8.below); clear i8 m8 k8)
    | ((with_reducible refine gate_dst (N := 55) rfl ?_); refine ld (v := .pointer (some ⟨f, 0, none⟩)) rfl rfl rfl H8.out.rd Try.underlying88 rfl rfl ?_)
    | ((with_reducible refine gate_dst (N := 58) rfl ?_); refine ld (v := .bool true) rfl rfl rfl H8.out.ft Try.underlying4 rfl (by show some (Value.bool (getB s).2.done.t) = _; rw [HT.out]) ?_)
    | (go_at_call 50; (with_reducible refine (fail_c w.heap.size r f (getB s).2.done _ 1702 HFN.out.1 H8.out).mono ?_); rintro e9 w9 ⟨rfl, i9, k9⟩; have H9 := Aside0.mk (show RS w9 r f (getF s) from by unfold getF; rw [if_pos HT.out]; exact i9); have M9 := Aside0.mk (M8.out.kf H8.out k9); have HZ9 := Aside0.mk (k9.keep g2 _ HZ8.out HRN.out.2 HFN.out.2); have HB9 := Aside0.mk (HB8.out.trans k9.below); clear i9 k9))
  go_wp2_with (first
    | (go_at_call 51; (with_reducible refine (ok_c r f (getF s) _ H9.out).mono ?_); rintro e10 w10 ⟨rfl, rfl⟩))
  refine start_ (n := 10) (S := fun w' => w'.heap[r]? = some (.cells #[.string (getF s).s, .int .i64 (getF s).p, .pointer (some ⟨f, 0, none⟩), .bool (getF s).l] 92 (0, 0)) ∧ w'.heap[f]? = some (.cells #[.int .i64 (getF s).c, .bool (getF s).t] 90 (0, 0))) (ds := []) #[false, false, false, false, false, false, false, false, false, false] (by kernel_rfl) rfl rfl ⟨(((Below.refl w10.heap.size w10).drew.block r (blk_lt H9.out.rd)).trans H9.out.rd), (((Below.refl w10.heap.size w10).drew.block f (blk_lt H9.out.ft)).trans H9.out.ft)⟩ (fun hHeld => ?_)
  have HS := Aside0.mk (Below.refl w10.heap.size w10).drew
  generalize w10.drew = wd at HS hHeld ⊢
  have HHD := Aside0.mk hHeld
  have HZD := Aside0.mk ((HS.out.block g2 (blk_lt HZ9.out)).trans HZ9.out)
  have HBD := Aside0.mk (below_step HB9.out HS.out)
  refine take_ (i := 0) (N := (some 64)) (v := .agg zcells) (a' := ?_) #[true, false, false, false, false, false, false, false, false, false] rfl rfl (by kernel_rfl) (fun _ _ _ h => h) (Or.inl ⟨by rfl, ?_⟩) hHeld ?_ ?_
  · rintro w' hS
    have hb := run_build (P := Try.prog) w' 49 #[] _ built49
    first | (go_simp; done) | (go_simp; rfl) | (simp [execOp, Act.eval, Sem.run_bind, hb]; done)
  rotate_left
  · simp only [Act.put, List.setIfInBounds_toArray, List.set_cons_zero, List.set_cons_succ]
    rfl
  refine pure_ (i := 1) (N := (some 65)) (v := ?_) (a' := ?_) #[true, true, false, false, false, false, false, false, false, false] rfl rfl (by kernel_rfl) (fun _ _ _ h => h) (Or.inl ⟨by rfl, ?_⟩) ?_ ?_
  rotate_left
  · intro w'
    go_simp
    with_reducible rfl
  rotate_left
  · simp only [Act.put, List.setIfInBounds_toArray, List.set_cons_zero, List.set_cons_succ]
    rfl
  refine pure_ (i := 2) (N := (some 66)) (v := ?_) (a' := ?_) #[true, true, true, false, false, false, false, false, false, false] rfl rfl (by kernel_rfl) (fun _ _ _ h => h) (Or.inl ⟨by rfl, ?_⟩) ?_ ?_
  rotate_left
  · intro w'
    go_simp
    with_reducible rfl
  rotate_left
  · simp only [Act.put, List.setIfInBounds_toArray, List.set_cons_zero, List.set_cons_succ]
    rfl
  refine pure_ (i := 3) (N := (some 67)) (v := ?_) (a' := ?_) #[true, true, true, true, false, false, false, false, false, false] rfl rfl (by kernel_rfl) (fun _ _ _ h => h) (Or.inl ⟨by rfl, ?_⟩) ?_ ?_
  rotate_left
  · intro w'
    go_simp
    with_reducible rfl
  rotate_left
  · simp only [Act.put, List.setIfInBounds_toArray, List.set_cons_zero, List.set_cons_succ]
    rfl
  refine take_ (i := 4) (N := (some 68)) (v := ?_) (a' := ?_) #[true, true, true, true, true, false, false, false, false, false] rfl rfl (by kernel_rfl) (fun _ _ _ h => h) (Or.inl ⟨by rfl, ?_⟩) hHeld ?_ ?_
  rotate_left
  · rintro w' hS
    have hc : w'.cell? ⟨r, 2, none⟩ = some (.pointer (some ⟨f, 0, none⟩)) := (blk_cell hS.1 2).trans rfl
    go_simp
    with_reducible rfl
  rotate_left
  · simp only [Act.put, List.setIfInBounds_toArray, List.set_cons_zero, List.set_cons_succ]
    rfl
  refine pure_ (i := 5) (N := (some 69)) (v := ?_) (a' := ?_) #[true, true, true, true, true, true, false, false, false, false] rfl rfl (by kernel_rfl) (fun _ _ _ h => h) (Or.inl ⟨by rfl, ?_⟩) ?_ ?_
  rotate_left
  · intro w'
    go_simp
    with_reducible rfl
  rotate_left
  · simp only [Act.put, List.setIfInBounds_toArray, List.set_cons_zero, List.set_cons_succ]
    rfl
  refine pure_ (i := 6) (N := (some 70)) (v := ?_) (a' := ?_) #[true, true, true, true, true, true, true, false, false, false] rfl rfl (by kernel_rfl) (fun _ _ _ h => h) (Or.inl ⟨by rfl, ?_⟩) ?_ ?_
  rotate_left
  · intro w'
    go_simp
    with_reducible rfl
  rotate_left
  · simp only [Act.put, List.setIfInBounds_toArray, List.set_cons_zero, List.set_cons_succ]
    rfl
  refine take_ (i := 7) (N := (some 71)) (v := ?_) (a' := ?_) #[true, true, true, true, true, true, true, true, false, false] rfl rfl (by kernel_rfl) (fun _ _ _ h => h) (Or.inl ⟨by rfl, ?_⟩) hHeld ?_ ?_
  rotate_left
  · rintro w' hS
    have hc : w'.cell? ⟨f, 0, none⟩ = some (.int .i64 (getF s).c) := (blk_cell hS.2 0).trans rfl
    go_simp
    with_reducible rfl
  rotate_left
  · simp only [Act.put, List.setIfInBounds_toArray, List.set_cons_zero, List.set_cons_succ]
    rfl
  refine one_ (i := 8) (N := none) #[true, true, true, true, true, true, true, true, true, false] rfl rfl (by kernel_rfl) (by decide) (fun K hK => ?_)
  refine stRowM sz49 (by rfl) rfl rfl rfl rfl HZD.out rfl rfl rfl ?_
  intro w11 h11 b11 k11
  have HZ11 := Aside0.mk h11
  have HB11 := Aside0.mk (HBD.out.trans (b11 _ HE.out))
  have HH11 := Aside0.mk (And.intro ((k11.2 r (blk_lt HHD.out.1) (Ne.symm HRN.out.2) (by simp)).trans HHD.out.1) ((k11.2 f (blk_lt HHD.out.2) (Ne.symm HFN.out.2) (by simp)).trans HHD.out.2))
  clear h11 b11 k11
  refine hK.out _ _ (HH11.out) (fun hHeld => ?_)
  clear hK K
  refine pure_ (i := 9) (N := (some 3)) (v := ?_) (a' := ?_) #[true, true, true, true, true, true, true, true, true, true] rfl rfl (by kernel_rfl) (fun _ _ _ h => h) (Or.inl ⟨by rfl, ?_⟩) ?_ ?_
  rotate_left
  · intro w'
    go_simp
    with_reducible rfl
  rotate_left
  · simp only [Act.put, List.setIfInBounds_toArray, List.set_cons_zero, List.set_cons_succ]
    rfl
  refine done_ (by kernel_rfl) ?_
  go_wp2
  refine bodyPost_ret (results_ct rfl _ _ g2 49 _ (0, 0) _ rfl HZ11.out Try.underlying49 rfl sz49) rfl ?_
  exact ⟨rfl, HB11.out⟩
set_option maxRecDepth 100000 in
set_option maxHeartbeats 8000000 in
theorem get_f_ok (s : ByteArray) (w : World) (hs : s.size ≤ 140737488351232) (he : s.size ≠ 0) (hk : knownB (bt s 0) = true) (k : Nat) (q : Int) (hu : wire_U24.f k s 1 = some ((s.size : Int) - 4, q, 0)) (h4 : 4 ≤ s.size) (hz : s.size ≤ 65536) (ht : (getB s).2.done.t = false) (hc : (getF s).c = 0) :
    Calls Try.prog 24 #[.string s] w fun ex w' => ∃ h, ex = .returned (.tuple #[.agg (cells (getB s).1 h), .int .i64 0]) ∧ Reads w' (getB s).1 h ∧ Below w.heap.size w w' := by
  have e1 : s.toList.isEmpty = false := by rw [ByteArray.toList_eq]; rw [List.isEmpty_eq_false_iff]; intro e; exact he (by simpa using congrArg List.length e)
  have HKN := Aside0.mk hk
  have HH := Aside0.mk (Nat.pos_of_ne_zero he)
  have hpos : 0 < s.size := HH.out
  have hb0 := bt_range s 0
  clear he hk
  have f2 : ((s.size : Int) - 4 != (s.size : Int) - 4) = false := by simp
  have f3 : decide (65536 < s.size) = false := decide_eq_false (by omega)
  have f3b : decide ((65536 : Int) < (s.size : Int)) = false := decide_eq_false (by omega)
  have f4 : 4 ≤ s.size := h4
  have HRO := Aside0.mk (getR_ok hz)
  have HU := Aside0.mk hu
  have HT := Aside0.mk ht
  have hcb : ((getF s).c == 0) = true := by simpa using hc
  clear hu hc f4
  have f4 : 4 ≤ s.size := h4
  go_enter Try.func24, Try.ntmps24
  go_wp2_with (first
    | ((with_reducible refine gate_dst (N := 2) rfl ?_); refine alloc49' rfl rfl ?_; intro g2 eg w1 h1 b1; have HZ := Aside0.mk h1; have HB := Aside0.mk b1; have HE := Aside0.mk (show w.heap.size ≤ g2 from by omega); clear h1 b1 eg)
    | (go_at_call 43; rw [b0_eq s HH.out]; (with_reducible refine (msg_known.calls (bt s 0) true _ (by rw [known_f, HKN.out])).mono ?_); rintro e2 w2 ⟨rfl, d2⟩; have HZ2 := Aside0.mk ((d2.below.block g2 (blk_lt HZ.out)).trans HZ.out); have HB2 := Aside0.mk (below_step HB.out d2.below); clear d2)
    | (go_at_call 48; (with_reducible refine (wire_U24.calls k s 1 _ _ _ _ HU.out).mono ?_); rintro e3 w3 ⟨rfl, d3⟩; have HZ3 := Aside0.mk ((d3.below.block g2 (blk_lt HZ2.out)).trans HZ2.out); have HB3 := Aside0.mk (below_step HB2.out d3.below); clear d3)
    | ((with_reducible refine gate_dst (N := 7) rfl ?_); refine alloc49' rfl rfl ?_; intro gm eg w4 h4 b4; have HM4 := Aside0.mk h4; have HZ4 := Aside0.mk ((b4.block g2 (blk_lt HZ3.out)).trans HZ3.out); have HB4 := Aside0.mk (below_step HB3.out b4); have HGM := Aside0.mk (show w.heap.size ≤ gm ∧ g2 ≠ gm from by have := HB3.out.size; have := blk_lt HZ3.out; omega); clear h4 b4 eg)
    | ((with_reducible refine gate_store (p := 7) rfl ?_); refine stRowN (cs := cells { zeroM with f0 := wrap64 ((s[0]'HH.out).toNat : Int) } hd0) sz49 rfl rfl rfl rfl HM4.out rfl rfl (cells_one _ _) ?_; intro w5 h5 b5 k5; rw [b0_eq s HH.out] at h5; have M5 := Aside0.mk (MO.start h5); have HZ5 := Aside0.mk ((k5.2 g2 (blk_lt HZ4.out) HGM.out.2 (by simp)).trans HZ4.out); have HB5 := Aside0.mk (HB4.out.trans (b5 _ HGM.out.1)); clear h5 b5 k5)
    | ((with_reducible refine gate_dst (N := 46) rfl ?_); refine bld rfl rfl (vs := #[]) (by simp) built90 ?_)
    | ((with_reducible refine gate_dst (N := 47) rfl ?_); refine boxA rfl rfl rfl ?_; intro f eg w6 h6 b6; have HF6 := Aside0.mk h6; have M6 := Aside0.mk (M5.out.below b6); have HZ6 := Aside0.mk ((b6.block g2 (blk_lt HZ5.out)).trans HZ5.out); have HB6 := Aside0.mk (below_step HB5.out b6); have HFN := Aside0.mk (show w.heap.size ≤ f ∧ g2 ≠ f from by have := HB5.out.size; have := blk_lt HZ5.out; omega); clear h6 b6 eg)
    | ((with_reducible refine gate_dst (N := 48) rfl ?_); refine bld rfl rfl (vs := #[(0, .string (s.extract 4 s.size)), (2, .pointer (some ⟨f, 0, none⟩))]) (by rfl) (built92 _ _) ?_)
    | ((with_reducible refine gate_dst (N := 49) rfl ?_); refine boxA rfl rfl rfl ?_; intro r eg w7 h7 b7; have H7 := Aside0.mk (show RS w7 r f (getR s) from ⟨h7, (b7.block f (blk_lt HF6.out)).trans HF6.out⟩); have M7 := Aside0.mk (M6.out.below b7); have HZ7 := Aside0.mk ((b7.block g2 (blk_lt HZ6.out)).trans HZ6.out); have HB7 := Aside0.mk (below_step HB6.out b7); have HRN := Aside0.mk (show w.heap.size ≤ r ∧ g2 ≠ r from by have := HB6.out.size; have := blk_lt HZ6.out; omega); clear h7 b7 eg)
    | (go_at_call 49; (with_reducible refine (body_c w.heap.size r f gm (getR s) { zeroM with f0 := bt s 0 } _ HFN.out.1 HRN.out.1 HGM.out.1 H7.out HRO.out M7.out).mono ?_); rintro e8 w8 ⟨rfl, i8, m8, k8⟩; have H8 := Aside0.mk (show RS w8 r f (getB s).2.done from i8); have M8 := Aside0.mk (show MO (fun _ => True) w8 gm (getB s).1 from m8); have HZ8 := Aside0.mk (k8.keep g2 _ HZ7.out HRN.out.2 HFN.out.2 HGM.out.2); have HB8 := Aside0.mk (HB7.out.trans k8.below); clear i8 m8 k8)
    | ((with_reducible refine gate_dst (N := 55) rfl ?_); refine ld (v := .pointer (some ⟨f, 0, none⟩)) rfl rfl rfl H8.out.rd Try.underlying88 rfl rfl ?_)
    | ((with_reducible refine gate_dst (N := 58) rfl ?_); refine ld (v := .bool false) rfl rfl rfl H8.out.ft Try.underlying4 rfl (by show some (Value.bool (getB s).2.done.t) = _; rw [HT.out]) ?_))
  have H9 := Aside0.mk (show RS w8 r f (getF s) from by unfold getF; rw [if_neg (by rw [HT.out]; decide)]; exact H8.out)
  have M9 := M8
  have HZ9 := HZ8
  have HB9 := HB8
  obtain ⟨hd, hx⟩ := M9.out
  have HX9 := Aside0.mk hx
  clear hx
  go_wp2_with (first
    | (go_at_call 51; (with_reducible refine (ok_c r f (getF s) _ H9.out).mono ?_); rintro e10 w10 ⟨rfl, rfl⟩)
    | ((with_reducible refine gate_dst (N := 72) rfl ?_); refine wpList_load_row rfl 49 _ rfl gm rfl 49 _ (0, 0) _ HX9.out.box Try.underlying49 rfl sz49 ?_)
    | ((with_reducible refine gate_store (p := 2) rfl ?_); refine stRowN sz49 rfl rfl rfl rfl HZ9.out rfl rfl (cells_one _ _) ?_; intro w11 h11 b11 k11; have HZ11 := Aside0.mk h11; have HB11 := Aside0.mk (HB9.out.trans (b11 _ HE.out)); have X11 := Aside0.mk (HX9.out.move ((k11.2 gm (blk_lt HX9.out.box) (Ne.symm HGM.out.2) (by simp)).trans HX9.out.box) [49] (fun j cs t hj ht => (k11.2 j (blk_lt hj) (blk_ne hj HZ9.out (by intro e; exact ht (by simp [e]))) (by simp)).trans hj) (by decide) (by decide) (by decide) (by decide)); clear h11 b11 k11))
  refine bodyPost_ret (results_ct rfl _ _ g2 49 _ (0, 0) _ rfl HZ11.out Try.underlying49 rfl sz49) rfl ?_
  exact ⟨hd, rfl, X11.out.reads, HB11.out⟩
set_option maxRecDepth 100000 in
set_option maxHeartbeats 8000000 in
theorem get_f_no (s : ByteArray) (w : World) (hs : s.size ≤ 140737488351232) (he : s.size ≠ 0) (hk : knownB (bt s 0) = true) (k : Nat) (q : Int) (hu : wire_U24.f k s 1 = some ((s.size : Int) - 4, q, 0)) (h4 : 4 ≤ s.size) (hz : s.size ≤ 65536) (ht : (getB s).2.done.t = false) (hc : (getF s).c ≠ 0) :
    Calls Try.prog 24 #[.string s] w fun ex w' => ex = .returned (.tuple #[.agg (cells zeroM hd0), .int .i64 (getF s).c]) ∧ Below w.heap.size w w' := by
  have e1 : s.toList.isEmpty = false := by rw [ByteArray.toList_eq]; rw [List.isEmpty_eq_false_iff]; intro e; exact he (by simpa using congrArg List.length e)
  have HKN := Aside0.mk hk
  have HH := Aside0.mk (Nat.pos_of_ne_zero he)
  have hpos : 0 < s.size := HH.out
  have hb0 := bt_range s 0
  clear he hk
  have f2 : ((s.size : Int) - 4 != (s.size : Int) - 4) = false := by simp
  have f3 : decide (65536 < s.size) = false := decide_eq_false (by omega)
  have f3b : decide ((65536 : Int) < (s.size : Int)) = false := decide_eq_false (by omega)
  have f4 : 4 ≤ s.size := h4
  have HRO := Aside0.mk (getR_ok hz)
  have HU := Aside0.mk hu
  have HT := Aside0.mk ht
  have hcb : ((getF s).c == 0) = false := by simpa using hc
  clear hu hc f4
  have f4 : 4 ≤ s.size := h4
  go_enter Try.func24, Try.ntmps24
  go_wp2_with (first
    | ((with_reducible refine gate_dst (N := 2) rfl ?_); refine alloc49' rfl rfl ?_; intro g2 eg w1 h1 b1; have HZ := Aside0.mk h1; have HB := Aside0.mk b1; have HE := Aside0.mk (show w.heap.size ≤ g2 from by omega); clear h1 b1 eg)
    | (go_at_call 43; rw [b0_eq s HH.out]; (with_reducible refine (msg_known.calls (bt s 0) true _ (by rw [known_f, HKN.out])).mono ?_); rintro e2 w2 ⟨rfl, d2⟩; have HZ2 := Aside0.mk ((d2.below.block g2 (blk_lt HZ.out)).trans HZ.out); have HB2 := Aside0.mk (below_step HB.out d2.below); clear d2)
    | (go_at_call 48; (with_reducible refine (wire_U24.calls k s 1 _ _ _ _ HU.out).mono ?_); rintro e3 w3 ⟨rfl, d3⟩; have HZ3 := Aside0.mk ((d3.below.block g2 (blk_lt HZ2.out)).trans HZ2.out); have HB3 := Aside0.mk (below_step HB2.out d3.below); clear d3)
    | ((with_reducible refine gate_dst (N := 7) rfl ?_); refine alloc49' rfl rfl ?_; intro gm eg w4 h4 b4; have HM4 := Aside0.mk h4; have HZ4 := Aside0.mk ((b4.block g2 (blk_lt HZ3.out)).trans HZ3.out); have HB4 := Aside0.mk (below_step HB3.out b4); have HGM := Aside0.mk (show w.heap.size ≤ gm ∧ g2 ≠ gm from by have := HB3.out.size; have := blk_lt HZ3.out; omega); clear h4 b4 eg)
    | ((with_reducible refine gate_store (p := 7) rfl ?_); refine stRowN (cs := cells { zeroM with f0 := wrap64 ((s[0]'HH.out).toNat : Int) } hd0) sz49 rfl rfl rfl rfl HM4.out rfl rfl (cells_one _ _) ?_; intro w5 h5 b5 k5; rw [b0_eq s HH.out] at h5; have M5 := Aside0.mk (MO.start h5); have HZ5 := Aside0.mk ((k5.2 g2 (blk_lt HZ4.out) HGM.out.2 (by simp)).trans HZ4.out); have HB5 := Aside0.mk (HB4.out.trans (b5 _ HGM.out.1)); clear h5 b5 k5)
    | ((with_reducible refine gate_dst (N := 46) rfl ?_); refine bld rfl rfl (vs := #[]) (by simp) built90 ?_)
    | ((with_reducible refine gate_dst (N := 47) rfl ?_); refine boxA rfl rfl rfl ?_; intro f eg w6 h6 b6; have HF6 := Aside0.mk h6; have M6 := Aside0.mk (M5.out.below b6); have HZ6 := Aside0.mk ((b6.block g2 (blk_lt HZ5.out)).trans HZ5.out); have HB6 := Aside0.mk (below_step HB5.out b6); have HFN := Aside0.mk (show w.heap.size ≤ f ∧ g2 ≠ f from by have := HB5.out.size; have := blk_lt HZ5.out; omega); clear h6 b6 eg)
    | ((with_reducible refine gate_dst (N := 48) rfl ?_); refine bld rfl rfl (vs := #[(0, .string (s.extract 4 s.size)), (2, .pointer (some ⟨f, 0, none⟩))]) (by rfl) (built92 _ _) ?_)
    | ((with_reducible refine gate_dst (N := 49) rfl ?_); refine boxA rfl rfl rfl ?_; intro r eg w7 h7 b7; have H7 := Aside0.mk (show RS w7 r f (getR s) from ⟨h7, (b7.block f (blk_lt HF6.out)).trans HF6.out⟩); have M7 := Aside0.mk (M6.out.below b7); have HZ7 := Aside0.mk ((b7.block g2 (blk_lt HZ6.out)).trans HZ6.out); have HB7 := Aside0.mk (below_step HB6.out b7); have HRN := Aside0.mk (show w.heap.size ≤ r ∧ g2 ≠ r from by have := HB6.out.size; have := blk_lt HZ6.out; omega); clear h7 b7 eg)
    | (go_at_call 49; (with_reducible refine (body_c w.heap.size r f gm (getR s) { zeroM with f0 := bt s 0 } _ HFN.out.1 HRN.out.1 HGM.out.1 H7.out HRO.out M7.out).mono ?_); rintro e8 w8 ⟨rfl, i8, m8, k8⟩; have H8 := Aside0.mk (show RS w8 r f (getB s).2.done from i8); have M8 := Aside0.mk (show MO (fun _ => True) w8 gm (getB s).1 from m8); have HZ8 := Aside0.mk (k8.keep g2 _ HZ7.out HRN.out.2 HFN.out.2 HGM.out.2); have HB8 := Aside0.mk (HB7.out.trans k8.below); clear i8 m8 k8)
    | ((with_reducible refine gate_dst (N := 55) rfl ?_); refine ld (v := .pointer (some ⟨f, 0, none⟩)) rfl rfl rfl H8.out.rd Try.underlying88 rfl rfl ?_)
    | ((with_reducible refine gate_dst (N := 58) rfl ?_); refine ld (v := .bool false) rfl rfl rfl H8.out.ft Try.underlying4 rfl (by show some (Value.bool (getB s).2.done.t) = _; rw [HT.out]) ?_))
  have H9 := Aside0.mk (show RS w8 r f (getF s) from by unfold getF; rw [if_neg (by rw [HT.out]; decide)]; exact H8.out)
  have M9 := M8
  have HZ9 := HZ8
  have HB9 := HB8
  go_wp2_with (first
    | (go_at_call 51; (with_reducible refine (ok_c r f (getF s) _ H9.out).mono ?_); rintro e10 w10 ⟨rfl, rfl⟩))
  refine start_ (n := 10) (S := fun w' => w'.heap[r]? = some (.cells #[.string (getF s).s, .int .i64 (getF s).p, .pointer (some ⟨f, 0, none⟩), .bool (getF s).l] 92 (0, 0)) ∧ w'.heap[f]? = some (.cells #[.int .i64 (getF s).c, .bool (getF s).t] 90 (0, 0))) (ds := []) #[false, false, false, false, false, false, false, false, false, false] (by kernel_rfl) rfl rfl ⟨(((Below.refl w10.heap.size w10).drew.block r (blk_lt H9.out.rd)).trans H9.out.rd), (((Below.refl w10.heap.size w10).drew.block f (blk_lt H9.out.ft)).trans H9.out.ft)⟩ (fun hHeld => ?_)
  have HS := Aside0.mk (Below.refl w10.heap.size w10).drew
  generalize w10.drew = wd at HS hHeld ⊢
  have HHD := Aside0.mk hHeld
  have HZD := Aside0.mk ((HS.out.block g2 (blk_lt HZ9.out)).trans HZ9.out)
  have HBD := Aside0.mk (below_step HB9.out HS.out)
  refine take_ (i := 0) (N := (some 64)) (v := .agg zcells) (a' := ?_) #[true, false, false, false, false, false, false, false, false, false] rfl rfl (by kernel_rfl) (fun _ _ _ h => h) (Or.inl ⟨by rfl, ?_⟩) hHeld ?_ ?_
  · rintro w' hS
    have hb := run_build (P := Try.prog) w' 49 #[] _ built49
    first | (go_simp; done) | (go_simp; rfl) | (simp [execOp, Act.eval, Sem.run_bind, hb]; done)
  rotate_left
  · simp only [Act.put, List.setIfInBounds_toArray, List.set_cons_zero, List.set_cons_succ]
    rfl
  refine pure_ (i := 1) (N := (some 65)) (v := ?_) (a' := ?_) #[true, true, false, false, false, false, false, false, false, false] rfl rfl (by kernel_rfl) (fun _ _ _ h => h) (Or.inl ⟨by rfl, ?_⟩) ?_ ?_
  rotate_left
  · intro w'
    go_simp
    with_reducible rfl
  rotate_left
  · simp only [Act.put, List.setIfInBounds_toArray, List.set_cons_zero, List.set_cons_succ]
    rfl
  refine pure_ (i := 2) (N := (some 66)) (v := ?_) (a' := ?_) #[true, true, true, false, false, false, false, false, false, false] rfl rfl (by kernel_rfl) (fun _ _ _ h => h) (Or.inl ⟨by rfl, ?_⟩) ?_ ?_
  rotate_left
  · intro w'
    go_simp
    with_reducible rfl
  rotate_left
  · simp only [Act.put, List.setIfInBounds_toArray, List.set_cons_zero, List.set_cons_succ]
    rfl
  refine pure_ (i := 3) (N := (some 67)) (v := ?_) (a' := ?_) #[true, true, true, true, false, false, false, false, false, false] rfl rfl (by kernel_rfl) (fun _ _ _ h => h) (Or.inl ⟨by rfl, ?_⟩) ?_ ?_
  rotate_left
  · intro w'
    go_simp
    with_reducible rfl
  rotate_left
  · simp only [Act.put, List.setIfInBounds_toArray, List.set_cons_zero, List.set_cons_succ]
    rfl
  refine take_ (i := 4) (N := (some 68)) (v := ?_) (a' := ?_) #[true, true, true, true, true, false, false, false, false, false] rfl rfl (by kernel_rfl) (fun _ _ _ h => h) (Or.inl ⟨by rfl, ?_⟩) hHeld ?_ ?_
  rotate_left
  · rintro w' hS
    have hc : w'.cell? ⟨r, 2, none⟩ = some (.pointer (some ⟨f, 0, none⟩)) := (blk_cell hS.1 2).trans rfl
    go_simp
    with_reducible rfl
  rotate_left
  · simp only [Act.put, List.setIfInBounds_toArray, List.set_cons_zero, List.set_cons_succ]
    rfl
  refine pure_ (i := 5) (N := (some 69)) (v := ?_) (a' := ?_) #[true, true, true, true, true, true, false, false, false, false] rfl rfl (by kernel_rfl) (fun _ _ _ h => h) (Or.inl ⟨by rfl, ?_⟩) ?_ ?_
  rotate_left
  · intro w'
    go_simp
    with_reducible rfl
  rotate_left
  · simp only [Act.put, List.setIfInBounds_toArray, List.set_cons_zero, List.set_cons_succ]
    rfl
  refine pure_ (i := 6) (N := (some 70)) (v := ?_) (a' := ?_) #[true, true, true, true, true, true, true, false, false, false] rfl rfl (by kernel_rfl) (fun _ _ _ h => h) (Or.inl ⟨by rfl, ?_⟩) ?_ ?_
  rotate_left
  · intro w'
    go_simp
    with_reducible rfl
  rotate_left
  · simp only [Act.put, List.setIfInBounds_toArray, List.set_cons_zero, List.set_cons_succ]
    rfl
  refine take_ (i := 7) (N := (some 71)) (v := ?_) (a' := ?_) #[true, true, true, true, true, true, true, true, false, false] rfl rfl (by kernel_rfl) (fun _ _ _ h => h) (Or.inl ⟨by rfl, ?_⟩) hHeld ?_ ?_
  rotate_left
  · rintro w' hS
    have hc : w'.cell? ⟨f, 0, none⟩ = some (.int .i64 (getF s).c) := (blk_cell hS.2 0).trans rfl
    go_simp
    with_reducible rfl
  rotate_left
  · simp only [Act.put, List.setIfInBounds_toArray, List.set_cons_zero, List.set_cons_succ]
    rfl
  refine one_ (i := 8) (N := none) #[true, true, true, true, true, true, true, true, true, false] rfl rfl (by kernel_rfl) (by decide) (fun K hK => ?_)
  refine stRowM sz49 (by rfl) rfl rfl rfl rfl HZD.out rfl rfl rfl ?_
  intro w11 h11 b11 k11
  have HZ11 := Aside0.mk h11
  have HB11 := Aside0.mk (HBD.out.trans (b11 _ HE.out))
  have HH11 := Aside0.mk (And.intro ((k11.2 r (blk_lt HHD.out.1) (Ne.symm HRN.out.2) (by simp)).trans HHD.out.1) ((k11.2 f (blk_lt HHD.out.2) (Ne.symm HFN.out.2) (by simp)).trans HHD.out.2))
  clear h11 b11 k11
  refine hK.out _ _ (HH11.out) (fun hHeld => ?_)
  clear hK K
  refine pure_ (i := 9) (N := (some 3)) (v := ?_) (a' := ?_) #[true, true, true, true, true, true, true, true, true, true] rfl rfl (by kernel_rfl) (fun _ _ _ h => h) (Or.inl ⟨by rfl, ?_⟩) ?_ ?_
  rotate_left
  · intro w'
    go_simp
    with_reducible rfl
  rotate_left
  · simp only [Act.put, List.setIfInBounds_toArray, List.set_cons_zero, List.set_cons_succ]
    rfl
  refine done_ (by kernel_rfl) ?_
  go_wp2
  refine bodyPost_ret (results_ct rfl _ _ g2 49 _ (0, 0) _ rfl HZ11.out Try.underlying49 rfl sz49) rfl ?_
  exact ⟨rfl, HB11.out⟩
end Go.Proofs.Ytlkebjkpmiehcaa.Ms
end
section
namespace Go.Proofs.Ytlkebjkpmiehcaa.Ms
open Go.RowKit Go.Proofs.YtlkebjkpmiehcaaW.PrintWords Go.Proofs.YtlkebjkpmiehcaaW.PrintLast Go.Proofs.YtlkebjkpmiehcaaW.PrintMore Go.Proofs.Ytlkebjkpmiehcaa.X
open Go.Proofs.Ytlkebjkpmiehcaa.Pure (nv numOf vecOf nv_bd nv_bd4 number_any vec_ok)
set_option linter.unusedVariables false
theorem get_c (s : ByteArray) (w : World) (hs : s.size ≤ 140737488351232) :
    Calls Try.prog 24 #[.string s] w fun ex w' => ∃ h, ex = .returned (.tuple #[.agg (cells (getM s).1 h), .int .i64 (getM s).2]) ∧ Reads w' (getM s).1 h ∧ Below w.heap.size w w' := by
  by_cases he : s.size = 0
  · have e : getM s = (zeroM, 1701) := by unfold getM; rw [if_pos he]
    rw [e]
    exact (get_empty s w hs he).mono fun ex w' ⟨h1, h2⟩ => ⟨hd0, h1, zreads _, h2⟩
  by_cases hk : knownB (bt s 0) = false
  · have e : getM s = (zeroM, 1701) := by unfold getM; rw [if_neg he, if_pos hk]
    rw [e]
    exact (get_unknown s w hs he hk).mono fun ex w' ⟨h1, h2⟩ => ⟨hd0, h1, zreads _, h2⟩
  have hk' : knownB (bt s 0) = true := by simpa using hk
  obtain ⟨k, hk2⟩ := u24_at s hs
  obtain ⟨T, hT⟩ : ∃ T, numOf s 1 3 = T := ⟨_, rfl⟩
  obtain ⟨n, q, er⟩ := T
  rw [hT] at hk2
  by_cases h1 : er = 0
  · by_cases h2 : n = (s.size : Int) - 4
    · by_cases h3 : s.size ≤ 65536
      · subst h1
        subst h2
        have hh : headed s = true := by
          unfold headed
          rw [hT]
          simp only [beq_self_eq_true, Bool.true_and]
          exact decide_eq_true (by omega)
        have h4 : 4 ≤ s.size := by
          rcases num_ok (s := s) (p := 1) (n := 3) (by omega) (by omega) with ⟨_, _, hx⟩ | hx
          · omega
          · rw [hT] at hx
            exact absurd (congrArg (fun x => x.2.2) hx) (by simp)
        have e0 : getM s = if (getF s).c = 0 then ((getB s).1, 0) else (zeroM, (getF s).c) := by
          unfold getM
          rw [if_neg he, if_neg hk, if_neg (by rw [hh]; decide)]
        by_cases hc : (getF s).c = 0
        · rw [e0, if_pos hc]
          by_cases ht : (getB s).2.done.t = true
          · exact get_t_ok s w hs he hk' k q hk2 h4 h3 ht hc
          · exact get_f_ok s w hs he hk' k q hk2 h4 h3 (by simpa using ht) hc
        · rw [e0, if_neg hc]
          by_cases ht : (getB s).2.done.t = true
          · exact (get_t_no s w hs he hk' k q hk2 h4 h3 ht hc).mono fun ex w' ⟨h1, h2⟩ => ⟨hd0, h1, zreads _, h2⟩
          · exact (get_f_no s w hs he hk' k q hk2 h4 h3 (by simpa using ht) hc).mono fun ex w' ⟨h1, h2⟩ => ⟨hd0, h1, zreads _, h2⟩
      · have hh : headed s = false := by
          unfold headed
          rw [show decide ((s.size : Int) ≤ 65536) = false from decide_eq_false (by omega)]
          simp
        have e : getM s = (zeroM, 1700) := by unfold getM; rw [if_neg he, if_neg hk, if_pos hh]
        rw [e]
        exact (get_form_c s w hs he hk' k n q er hk2 h1 h2 (by omega)).mono fun ex w' ⟨h1, h2⟩ => ⟨hd0, h1, zreads _, h2⟩
    · have hh : headed s = false := by
        unfold headed
        rw [hT]
        rw [show ((n : Int) == (s.size : Int) - 4) = false from beq_eq_false_iff_ne.mpr h2]
        simp
      have e : getM s = (zeroM, 1700) := by unfold getM; rw [if_neg he, if_neg hk, if_pos hh]
      rw [e]
      exact (get_form_b s w hs he hk' k n q er hk2 h1 h2).mono fun ex w' ⟨h1, h2⟩ => ⟨hd0, h1, zreads _, h2⟩
  · have hh : headed s = false := by
      unfold headed
      rw [hT]
      rw [show ((er : Int) == 0) = false from beq_eq_false_iff_ne.mpr h1]
      simp
    have e : getM s = (zeroM, 1700) := by unfold getM; rw [if_neg he, if_neg hk, if_pos hh]
    rw [e]
    exact (get_form_a s w hs he hk' k n q er hk2 h1).mono fun ex w' ⟨h1, h2⟩ => ⟨hd0, h1, zreads _, h2⟩
end Go.Proofs.Ytlkebjkpmiehcaa.Ms
end
section
namespace Go.Proofs.Ytlkebjkpmiehcaa.Ms
open Go.RowKit Go.Proofs.YtlkebjkpmiehcaaW.PrintWords Go.Proofs.YtlkebjkpmiehcaaW.PrintLast Go.Proofs.YtlkebjkpmiehcaaW.PrintMore Go.Proofs.Ytlkebjkpmiehcaa.X
set_option linter.unusedVariables false
theorem stRow49 {ops : Array Oper} {rest : List Oper} {o : Oper} {a : Act} {Q : Exit → Act → World → Prop} {w : World} {p x : Operand} (hgd : o.guard = none) (ho : o.op = .store 49 p x) {g : Nat} (hp : a.eval p = .pointer (some ⟨g, 0, none⟩))
    {cs zs : Array Value} (hx : a.eval x = .agg cs) {t : TypeId} (h : w.heap[g]? = some (.cells zs t (0, 0))) (hz : zs.size = 21) (hc : cs.size = 21) (h1 : cs.toList.all (·.oneCell') = true)
    (H : ∀ w1, w1.heap[g]? = some (.cells cs t (0, 0)) → (∀ lo, lo ≤ g → Below lo w w1) → wpList Try.prog ops Q rest (a.put o.dst undef) w1) : wpList Try.prog ops Q (o :: rest) a w := by
  refine wpList_plain hgd fun K hK => wp_store_row 49 p x ho g cs hp hx t zs h (by rw [hc]; exact sz49) (by rw [hz, hc]) (by rw [← Array.all_toList]; exact h1) (hK _ _ (H _ ?_ ?_))
  · simp [World.setRow, Array.getElem?_modify, h]
  · intro lo hl
    refine ⟨rfl, rfl, rfl, by simp [World.setRow], fun k hk => ?_⟩
    simp only [World.setRow, Array.getElem?_modify]
    rw [if_neg (by omega)]
set_option maxRecDepth 100000 in
set_option maxHeartbeats 8000000 in
theorem un1 (f1 f2 f4 f16 f19 : ByteArray) (f12 f15 f17 f18 f20 : Int) (A3 A5 A6 A7 A8 A9 A10 A11 A13 A14 : Option Addr) (n3 c3 n5 c5 n6 c6 n7 c7 n8 c8 n9 c9 n10 c10 n11 c11 n13 c13 n14 c14 : Nat) (w : World) : Calls Try.prog 46 #[.agg #[.int .i64 1, .string f1, .string f2, .slice A3 n3 c3, .string f4, .slice A5 n5 c5, .slice A6 n6 c6, .slice A7 n7 c7, .slice A8 n8 c8, .slice A9 n9 c9, .slice A10 n10 c10, .slice A11 n11 c11, .int .i64 f12, .slice A13 n13 c13, .slice A14 n14 c14, .int .i64 f15, .string f16, .int .i64 f17, .int .i64 f18, .string f19, .int .i64 f20]] w fun e w' => e = .returned (.agg #[.int .i64 1, .string ⟨#[]⟩, .string ⟨#[]⟩, .slice none 0 0, .string ⟨#[]⟩, .slice none 0 0, .slice none 0 0, .slice none 0 0, .slice none 0 0, .slice none 0 0, .slice none 0 0, .slice none 0 0, .int .i64 f12, .slice A13 n13 c13, .slice A14 n14 c14, .int .i64 f15, .string f16, .int .i64 f17, .int .i64 f18, .string f19, .int .i64 f20]) ∧ Below w.heap.size w w' := by
  go_enter Try.func46, Try.ntmps46
  go_wp2_with (first
    | ((with_reducible refine gate_dst (N := 1) rfl ?_); refine box49 rfl rfl rfl ?_; intro g1 e1 w1 h1 b1; have HM := Aside0.mk h1; have HB := Aside0.mk b1; have HE1 := Aside0.mk e1; clear h1 b1 e1)
    | ((with_reducible refine gate_dst (N := 2) rfl ?_); refine alloc49 rfl rfl ?_; intro g2 e2 zs hzs w2 h2 b2; have HNE := Aside0.mk (show g2 ≠ g1 from by have := blk_lt HM.out; omega); have HZ := Aside0.mk h2; have HL2 := Aside0.mk (show w.heap.size ≤ g2 from by have := HB.out.size; omega); have HZS := Aside0.mk hzs; have n_ := Aside0.mk ((b2.block g1 (blk_lt HM.out)).trans HM.out); clear HM; have HM := n_; clear n_; have n_ := Aside0.mk (below_step HB.out b2); clear HB; have HB := n_; clear n_ h2 b2 e2 hzs)
    | ((with_reducible refine gate_dst (N := 4) rfl ?_); refine ld rfl rfl rfl HM.out Try.underlying3 rfl rfl ?_)
    | ((with_reducible refine gate_dst (N := 25) rfl ?_); refine ld rfl rfl rfl HM.out Try.underlying3 rfl rfl ?_)
    | ((with_reducible refine gate_dst (N := 42) rfl ?_); refine wpList_load_row rfl 49 _ rfl g1 rfl 49 _ (0, 0) _ HM.out Try.underlying49 rfl sz49 ?_)
    | ((with_reducible refine gate_store (p := 2) rfl ?_); refine stRow49 rfl rfl rfl rfl HZ.out HZS.out rfl rfl ?_; intro w3 h3 b3; have HZ3 := Aside0.mk h3; have HB3 := Aside0.mk (HB.out.trans (b3 _ HL2.out)); clear h3 b3)
    | (refine st rfl rfl rfl HM.out (by first | exact sz3 | exact sz9 | exact sz44 | exact sz45 | exact sz46 | exact sz47) rfl rfl rfl (by simp) ?_; intro w3 h3 b3 k3; simp only [List.setIfInBounds_toArray, List.set_cons_succ, List.set_cons_zero, Act.eval] at h3; have n_ := Aside0.mk h3; clear HM; have HM := n_; clear n_; have n_ := Aside0.mk ((k3.2 g2 (blk_lt HZ.out) HNE.out (by simp)).trans HZ.out); clear HZ; have HZ := n_; clear n_; have n_ := Aside0.mk (HB.out.trans (b3 _ (Nat.le_of_eq HE1.out.symm))); clear HB; have HB := n_; clear n_ h3 b3 k3))
  refine bodyPost_ret (results_cell_row rfl _ _ g2 49 _ (0, 0) _ rfl HZ3.out Try.underlying49 rfl sz49) rfl ?_
  exact ⟨rfl, HB3.out⟩
set_option maxRecDepth 100000 in
set_option maxHeartbeats 8000000 in
theorem un2 (f1 f2 f4 f16 f19 : ByteArray) (f12 f15 f17 f18 f20 : Int) (A3 A5 A6 A7 A8 A9 A10 A11 A13 A14 : Option Addr) (n3 c3 n5 c5 n6 c6 n7 c7 n8 c8 n9 c9 n10 c10 n11 c11 n13 c13 n14 c14 : Nat) (w : World) : Calls Try.prog 46 #[.agg #[.int .i64 2, .string f1, .string f2, .slice A3 n3 c3, .string f4, .slice A5 n5 c5, .slice A6 n6 c6, .slice A7 n7 c7, .slice A8 n8 c8, .slice A9 n9 c9, .slice A10 n10 c10, .slice A11 n11 c11, .int .i64 f12, .slice A13 n13 c13, .slice A14 n14 c14, .int .i64 f15, .string f16, .int .i64 f17, .int .i64 f18, .string f19, .int .i64 f20]] w fun e w' => e = .returned (.agg #[.int .i64 2, .string ⟨#[]⟩, .string ⟨#[]⟩, .slice none 0 0, .string f4, .slice none 0 0, .slice none 0 0, .slice A7 n7 c7, .slice A8 n8 c8, .slice none 0 0, .slice A10 n10 c10, .slice A11 n11 c11, .int .i64 0, .slice A13 n13 c13, .slice A14 n14 c14, .int .i64 f15, .string f16, .int .i64 f17, .int .i64 f18, .string f19, .int .i64 f20]) ∧ Below w.heap.size w w' := by
  go_enter Try.func46, Try.ntmps46
  go_wp2_with (first
    | ((with_reducible refine gate_dst (N := 1) rfl ?_); refine box49 rfl rfl rfl ?_; intro g1 e1 w1 h1 b1; have HM := Aside0.mk h1; have HB := Aside0.mk b1; have HE1 := Aside0.mk e1; clear h1 b1 e1)
    | ((with_reducible refine gate_dst (N := 2) rfl ?_); refine alloc49 rfl rfl ?_; intro g2 e2 zs hzs w2 h2 b2; have HNE := Aside0.mk (show g2 ≠ g1 from by have := blk_lt HM.out; omega); have HZ := Aside0.mk h2; have HL2 := Aside0.mk (show w.heap.size ≤ g2 from by have := HB.out.size; omega); have HZS := Aside0.mk hzs; have n_ := Aside0.mk ((b2.block g1 (blk_lt HM.out)).trans HM.out); clear HM; have HM := n_; clear n_; have n_ := Aside0.mk (below_step HB.out b2); clear HB; have HB := n_; clear n_ h2 b2 e2 hzs)
    | ((with_reducible refine gate_dst (N := 4) rfl ?_); refine ld rfl rfl rfl HM.out Try.underlying3 rfl rfl ?_)
    | ((with_reducible refine gate_dst (N := 25) rfl ?_); refine ld rfl rfl rfl HM.out Try.underlying3 rfl rfl ?_)
    | ((with_reducible refine gate_dst (N := 42) rfl ?_); refine wpList_load_row rfl 49 _ rfl g1 rfl 49 _ (0, 0) _ HM.out Try.underlying49 rfl sz49 ?_)
    | ((with_reducible refine gate_store (p := 2) rfl ?_); refine stRow49 rfl rfl rfl rfl HZ.out HZS.out rfl rfl ?_; intro w3 h3 b3; have HZ3 := Aside0.mk h3; have HB3 := Aside0.mk (HB.out.trans (b3 _ HL2.out)); clear h3 b3)
    | (refine st rfl rfl rfl HM.out (by first | exact sz3 | exact sz9 | exact sz44 | exact sz45 | exact sz46 | exact sz47) rfl rfl rfl (by simp) ?_; intro w3 h3 b3 k3; simp only [List.setIfInBounds_toArray, List.set_cons_succ, List.set_cons_zero, Act.eval] at h3; have n_ := Aside0.mk h3; clear HM; have HM := n_; clear n_; have n_ := Aside0.mk ((k3.2 g2 (blk_lt HZ.out) HNE.out (by simp)).trans HZ.out); clear HZ; have HZ := n_; clear n_; have n_ := Aside0.mk (HB.out.trans (b3 _ (Nat.le_of_eq HE1.out.symm))); clear HB; have HB := n_; clear n_ h3 b3 k3))
  refine bodyPost_ret (results_cell_row rfl _ _ g2 49 _ (0, 0) _ rfl HZ3.out Try.underlying49 rfl sz49) rfl ?_
  exact ⟨rfl, HB3.out⟩
set_option maxRecDepth 100000 in
set_option maxHeartbeats 8000000 in
theorem un11 (f1 f2 f4 f16 f19 : ByteArray) (f12 f15 f17 f18 f20 : Int) (A3 A5 A6 A7 A8 A9 A10 A11 A13 A14 : Option Addr) (n3 c3 n5 c5 n6 c6 n7 c7 n8 c8 n9 c9 n10 c10 n11 c11 n13 c13 n14 c14 : Nat) (w : World) : Calls Try.prog 46 #[.agg #[.int .i64 11, .string f1, .string f2, .slice A3 n3 c3, .string f4, .slice A5 n5 c5, .slice A6 n6 c6, .slice A7 n7 c7, .slice A8 n8 c8, .slice A9 n9 c9, .slice A10 n10 c10, .slice A11 n11 c11, .int .i64 f12, .slice A13 n13 c13, .slice A14 n14 c14, .int .i64 f15, .string f16, .int .i64 f17, .int .i64 f18, .string f19, .int .i64 f20]] w fun e w' => e = .returned (.agg #[.int .i64 11, .string f1, .string f2, .slice A3 n3 c3, .string f4, .slice A5 n5 c5, .slice A6 n6 c6, .slice A7 n7 c7, .slice A8 n8 c8, .slice A9 n9 c9, .slice A10 n10 c10, .slice A11 n11 c11, .int .i64 f12, .slice A13 n13 c13, .slice none 0 0, .int .i64 f15, .string f16, .int .i64 f17, .int .i64 f18, .string f19, .int .i64 f20]) ∧ Below w.heap.size w w' := by
  go_enter Try.func46, Try.ntmps46
  go_wp2_with (first
    | ((with_reducible refine gate_dst (N := 1) rfl ?_); refine box49 rfl rfl rfl ?_; intro g1 e1 w1 h1 b1; have HM := Aside0.mk h1; have HB := Aside0.mk b1; have HE1 := Aside0.mk e1; clear h1 b1 e1)
    | ((with_reducible refine gate_dst (N := 2) rfl ?_); refine alloc49 rfl rfl ?_; intro g2 e2 zs hzs w2 h2 b2; have HNE := Aside0.mk (show g2 ≠ g1 from by have := blk_lt HM.out; omega); have HZ := Aside0.mk h2; have HL2 := Aside0.mk (show w.heap.size ≤ g2 from by have := HB.out.size; omega); have HZS := Aside0.mk hzs; have n_ := Aside0.mk ((b2.block g1 (blk_lt HM.out)).trans HM.out); clear HM; have HM := n_; clear n_; have n_ := Aside0.mk (below_step HB.out b2); clear HB; have HB := n_; clear n_ h2 b2 e2 hzs)
    | ((with_reducible refine gate_dst (N := 4) rfl ?_); refine ld rfl rfl rfl HM.out Try.underlying3 rfl rfl ?_)
    | ((with_reducible refine gate_dst (N := 25) rfl ?_); refine ld rfl rfl rfl HM.out Try.underlying3 rfl rfl ?_)
    | ((with_reducible refine gate_dst (N := 42) rfl ?_); refine wpList_load_row rfl 49 _ rfl g1 rfl 49 _ (0, 0) _ HM.out Try.underlying49 rfl sz49 ?_)
    | ((with_reducible refine gate_store (p := 2) rfl ?_); refine stRow49 rfl rfl rfl rfl HZ.out HZS.out rfl rfl ?_; intro w3 h3 b3; have HZ3 := Aside0.mk h3; have HB3 := Aside0.mk (HB.out.trans (b3 _ HL2.out)); clear h3 b3)
    | (refine st rfl rfl rfl HM.out (by first | exact sz3 | exact sz9 | exact sz44 | exact sz45 | exact sz46 | exact sz47) rfl rfl rfl (by simp) ?_; intro w3 h3 b3 k3; simp only [List.setIfInBounds_toArray, List.set_cons_succ, List.set_cons_zero, Act.eval] at h3; have n_ := Aside0.mk h3; clear HM; have HM := n_; clear n_; have n_ := Aside0.mk ((k3.2 g2 (blk_lt HZ.out) HNE.out (by simp)).trans HZ.out); clear HZ; have HZ := n_; clear n_; have n_ := Aside0.mk (HB.out.trans (b3 _ (Nat.le_of_eq HE1.out.symm))); clear HB; have HB := n_; clear n_ h3 b3 k3))
  refine bodyPost_ret (results_cell_row rfl _ _ g2 49 _ (0, 0) _ rfl HZ3.out Try.underlying49 rfl sz49) rfl ?_
  exact ⟨rfl, HB3.out⟩
set_option maxRecDepth 100000 in
set_option maxHeartbeats 8000000 in
theorem un4 (f1 f2 f4 f16 f19 : ByteArray) (f12 f15 f17 f18 f20 : Int) (A3 A5 A6 A7 A8 A9 A10 A11 A13 A14 : Option Addr) (n3 c3 n5 c5 n6 c6 n7 c7 n8 c8 n9 c9 n10 c10 n11 c11 n13 c13 n14 c14 : Nat) (w : World) : Calls Try.prog 46 #[.agg #[.int .i64 4, .string f1, .string f2, .slice A3 n3 c3, .string f4, .slice A5 n5 c5, .slice A6 n6 c6, .slice A7 n7 c7, .slice A8 n8 c8, .slice A9 n9 c9, .slice A10 n10 c10, .slice A11 n11 c11, .int .i64 f12, .slice A13 n13 c13, .slice A14 n14 c14, .int .i64 f15, .string f16, .int .i64 f17, .int .i64 f18, .string f19, .int .i64 f20]] w fun e w' => e = .returned (.agg #[.int .i64 4, .string f1, .string f2, .slice A3 n3 c3, .string f4, .slice A5 n5 c5, .slice A6 n6 c6, .slice A7 n7 c7, .slice A8 n8 c8, .slice A9 n9 c9, .slice A10 n10 c10, .slice A11 n11 c11, .int .i64 f12, .slice A13 n13 c13, .slice A14 n14 c14, .int .i64 f15, .string ⟨#[]⟩, .int .i64 0, .int .i64 0, .string ⟨#[]⟩, .int .i64 f20]) ∧ Below w.heap.size w w' := by
  go_enter Try.func46, Try.ntmps46
  go_wp2_with (first
    | ((with_reducible refine gate_dst (N := 1) rfl ?_); refine box49 rfl rfl rfl ?_; intro g1 e1 w1 h1 b1; have HM := Aside0.mk h1; have HB := Aside0.mk b1; have HE1 := Aside0.mk e1; clear h1 b1 e1)
    | ((with_reducible refine gate_dst (N := 2) rfl ?_); refine alloc49 rfl rfl ?_; intro g2 e2 zs hzs w2 h2 b2; have HNE := Aside0.mk (show g2 ≠ g1 from by have := blk_lt HM.out; omega); have HZ := Aside0.mk h2; have HL2 := Aside0.mk (show w.heap.size ≤ g2 from by have := HB.out.size; omega); have HZS := Aside0.mk hzs; have n_ := Aside0.mk ((b2.block g1 (blk_lt HM.out)).trans HM.out); clear HM; have HM := n_; clear n_; have n_ := Aside0.mk (below_step HB.out b2); clear HB; have HB := n_; clear n_ h2 b2 e2 hzs)
    | ((with_reducible refine gate_dst (N := 4) rfl ?_); refine ld rfl rfl rfl HM.out Try.underlying3 rfl rfl ?_)
    | ((with_reducible refine gate_dst (N := 25) rfl ?_); refine ld rfl rfl rfl HM.out Try.underlying3 rfl rfl ?_)
    | ((with_reducible refine gate_dst (N := 42) rfl ?_); refine wpList_load_row rfl 49 _ rfl g1 rfl 49 _ (0, 0) _ HM.out Try.underlying49 rfl sz49 ?_)
    | ((with_reducible refine gate_store (p := 2) rfl ?_); refine stRow49 rfl rfl rfl rfl HZ.out HZS.out rfl rfl ?_; intro w3 h3 b3; have HZ3 := Aside0.mk h3; have HB3 := Aside0.mk (HB.out.trans (b3 _ HL2.out)); clear h3 b3)
    | (refine st rfl rfl rfl HM.out (by first | exact sz3 | exact sz9 | exact sz44 | exact sz45 | exact sz46 | exact sz47) rfl rfl rfl (by simp) ?_; intro w3 h3 b3 k3; simp only [List.setIfInBounds_toArray, List.set_cons_succ, List.set_cons_zero, Act.eval] at h3; have n_ := Aside0.mk h3; clear HM; have HM := n_; clear n_; have n_ := Aside0.mk ((k3.2 g2 (blk_lt HZ.out) HNE.out (by simp)).trans HZ.out); clear HZ; have HZ := n_; clear n_; have n_ := Aside0.mk (HB.out.trans (b3 _ (Nat.le_of_eq HE1.out.symm))); clear HB; have HB := n_; clear n_ h3 b3 k3))
  refine bodyPost_ret (results_cell_row rfl _ _ g2 49 _ (0, 0) _ rfl HZ3.out Try.underlying49 rfl sz49) rfl ?_
  exact ⟨rfl, HB3.out⟩
set_option maxRecDepth 100000 in
set_option maxHeartbeats 8000000 in
theorem un20 (f1 f2 f4 f16 f19 : ByteArray) (f12 f15 f17 f18 f20 : Int) (A3 A5 A6 A7 A8 A9 A10 A11 A13 A14 : Option Addr) (n3 c3 n5 c5 n6 c6 n7 c7 n8 c8 n9 c9 n10 c10 n11 c11 n13 c13 n14 c14 : Nat) (w : World) : Calls Try.prog 46 #[.agg #[.int .i64 20, .string f1, .string f2, .slice A3 n3 c3, .string f4, .slice A5 n5 c5, .slice A6 n6 c6, .slice A7 n7 c7, .slice A8 n8 c8, .slice A9 n9 c9, .slice A10 n10 c10, .slice A11 n11 c11, .int .i64 f12, .slice A13 n13 c13, .slice A14 n14 c14, .int .i64 f15, .string f16, .int .i64 f17, .int .i64 f18, .string f19, .int .i64 f20]] w fun e w' => e = .returned (.agg #[.int .i64 20, .string f1, .string f2, .slice A3 n3 c3, .string f4, .slice A5 n5 c5, .slice A6 n6 c6, .slice A7 n7 c7, .slice A8 n8 c8, .slice A9 n9 c9, .slice A10 n10 c10, .slice A11 n11 c11, .int .i64 f12, .slice A13 n13 c13, .slice A14 n14 c14, .int .i64 f15, .string ⟨#[]⟩, .int .i64 f17, .int .i64 f18, .string f19, .int .i64 f20]) ∧ Below w.heap.size w w' := by
  go_enter Try.func46, Try.ntmps46
  go_wp2_with (first
    | ((with_reducible refine gate_dst (N := 1) rfl ?_); refine box49 rfl rfl rfl ?_; intro g1 e1 w1 h1 b1; have HM := Aside0.mk h1; have HB := Aside0.mk b1; have HE1 := Aside0.mk e1; clear h1 b1 e1)
    | ((with_reducible refine gate_dst (N := 2) rfl ?_); refine alloc49 rfl rfl ?_; intro g2 e2 zs hzs w2 h2 b2; have HNE := Aside0.mk (show g2 ≠ g1 from by have := blk_lt HM.out; omega); have HZ := Aside0.mk h2; have HL2 := Aside0.mk (show w.heap.size ≤ g2 from by have := HB.out.size; omega); have HZS := Aside0.mk hzs; have n_ := Aside0.mk ((b2.block g1 (blk_lt HM.out)).trans HM.out); clear HM; have HM := n_; clear n_; have n_ := Aside0.mk (below_step HB.out b2); clear HB; have HB := n_; clear n_ h2 b2 e2 hzs)
    | ((with_reducible refine gate_dst (N := 4) rfl ?_); refine ld rfl rfl rfl HM.out Try.underlying3 rfl rfl ?_)
    | ((with_reducible refine gate_dst (N := 25) rfl ?_); refine ld rfl rfl rfl HM.out Try.underlying3 rfl rfl ?_)
    | ((with_reducible refine gate_dst (N := 42) rfl ?_); refine wpList_load_row rfl 49 _ rfl g1 rfl 49 _ (0, 0) _ HM.out Try.underlying49 rfl sz49 ?_)
    | ((with_reducible refine gate_store (p := 2) rfl ?_); refine stRow49 rfl rfl rfl rfl HZ.out HZS.out rfl rfl ?_; intro w3 h3 b3; have HZ3 := Aside0.mk h3; have HB3 := Aside0.mk (HB.out.trans (b3 _ HL2.out)); clear h3 b3)
    | (refine st rfl rfl rfl HM.out (by first | exact sz3 | exact sz9 | exact sz44 | exact sz45 | exact sz46 | exact sz47) rfl rfl rfl (by simp) ?_; intro w3 h3 b3 k3; simp only [List.setIfInBounds_toArray, List.set_cons_succ, List.set_cons_zero, Act.eval] at h3; have n_ := Aside0.mk h3; clear HM; have HM := n_; clear n_; have n_ := Aside0.mk ((k3.2 g2 (blk_lt HZ.out) HNE.out (by simp)).trans HZ.out); clear HZ; have HZ := n_; clear n_; have n_ := Aside0.mk (HB.out.trans (b3 _ (Nat.le_of_eq HE1.out.symm))); clear HB; have HB := n_; clear n_ h3 b3 k3))
  refine bodyPost_ret (results_cell_row rfl _ _ g2 49 _ (0, 0) _ rfl HZ3.out Try.underlying49 rfl sz49) rfl ?_
  exact ⟨rfl, HB3.out⟩
set_option maxRecDepth 100000 in
set_option maxHeartbeats 8000000 in
theorem un15 (f1 f2 f4 f16 f19 : ByteArray) (f12 f15 f17 f18 f20 : Int) (A3 A5 A6 A7 A8 A9 A10 A11 A13 A14 : Option Addr) (n3 c3 n5 c5 n6 c6 n7 c7 n8 c8 n9 c9 n10 c10 n11 c11 n13 c13 n14 c14 : Nat) (w : World) : Calls Try.prog 46 #[.agg #[.int .i64 15, .string f1, .string f2, .slice A3 n3 c3, .string f4, .slice A5 n5 c5, .slice A6 n6 c6, .slice A7 n7 c7, .slice A8 n8 c8, .slice A9 n9 c9, .slice A10 n10 c10, .slice A11 n11 c11, .int .i64 f12, .slice A13 n13 c13, .slice A14 n14 c14, .int .i64 f15, .string f16, .int .i64 f17, .int .i64 f18, .string f19, .int .i64 f20]] w fun e w' => e = .returned (.agg #[.int .i64 15, .string f1, .string f2, .slice A3 n3 c3, .string f4, .slice A5 n5 c5, .slice A6 n6 c6, .slice A7 n7 c7, .slice A8 n8 c8, .slice A9 n9 c9, .slice A10 n10 c10, .slice A11 n11 c11, .int .i64 f12, .slice A13 n13 c13, .slice A14 n14 c14, .int .i64 0, .string ⟨#[]⟩, .int .i64 f17, .int .i64 f18, .string f19, .int .i64 f20]) ∧ Below w.heap.size w w' := by
  go_enter Try.func46, Try.ntmps46
  go_wp2_with (first
    | ((with_reducible refine gate_dst (N := 1) rfl ?_); refine box49 rfl rfl rfl ?_; intro g1 e1 w1 h1 b1; have HM := Aside0.mk h1; have HB := Aside0.mk b1; have HE1 := Aside0.mk e1; clear h1 b1 e1)
    | ((with_reducible refine gate_dst (N := 2) rfl ?_); refine alloc49 rfl rfl ?_; intro g2 e2 zs hzs w2 h2 b2; have HNE := Aside0.mk (show g2 ≠ g1 from by have := blk_lt HM.out; omega); have HZ := Aside0.mk h2; have HL2 := Aside0.mk (show w.heap.size ≤ g2 from by have := HB.out.size; omega); have HZS := Aside0.mk hzs; have n_ := Aside0.mk ((b2.block g1 (blk_lt HM.out)).trans HM.out); clear HM; have HM := n_; clear n_; have n_ := Aside0.mk (below_step HB.out b2); clear HB; have HB := n_; clear n_ h2 b2 e2 hzs)
    | ((with_reducible refine gate_dst (N := 4) rfl ?_); refine ld rfl rfl rfl HM.out Try.underlying3 rfl rfl ?_)
    | ((with_reducible refine gate_dst (N := 25) rfl ?_); refine ld rfl rfl rfl HM.out Try.underlying3 rfl rfl ?_)
    | ((with_reducible refine gate_dst (N := 42) rfl ?_); refine wpList_load_row rfl 49 _ rfl g1 rfl 49 _ (0, 0) _ HM.out Try.underlying49 rfl sz49 ?_)
    | ((with_reducible refine gate_store (p := 2) rfl ?_); refine stRow49 rfl rfl rfl rfl HZ.out HZS.out rfl rfl ?_; intro w3 h3 b3; have HZ3 := Aside0.mk h3; have HB3 := Aside0.mk (HB.out.trans (b3 _ HL2.out)); clear h3 b3)
    | (refine st rfl rfl rfl HM.out (by first | exact sz3 | exact sz9 | exact sz44 | exact sz45 | exact sz46 | exact sz47) rfl rfl rfl (by simp) ?_; intro w3 h3 b3 k3; simp only [List.setIfInBounds_toArray, List.set_cons_succ, List.set_cons_zero, Act.eval] at h3; have n_ := Aside0.mk h3; clear HM; have HM := n_; clear n_; have n_ := Aside0.mk ((k3.2 g2 (blk_lt HZ.out) HNE.out (by simp)).trans HZ.out); clear HZ; have HZ := n_; clear n_; have n_ := Aside0.mk (HB.out.trans (b3 _ (Nat.le_of_eq HE1.out.symm))); clear HB; have HB := n_; clear n_ h3 b3 k3))
  refine bodyPost_ret (results_cell_row rfl _ _ g2 49 _ (0, 0) _ rfl HZ3.out Try.underlying49 rfl sz49) rfl ?_
  exact ⟨rfl, HB3.out⟩
set_option maxRecDepth 100000 in
set_option maxHeartbeats 8000000 in
theorem un24 (f1 f2 f4 f16 f19 : ByteArray) (f12 f15 f17 f18 f20 : Int) (A3 A5 A6 A7 A8 A9 A10 A11 A13 A14 : Option Addr) (n3 c3 n5 c5 n6 c6 n7 c7 n8 c8 n9 c9 n10 c10 n11 c11 n13 c13 n14 c14 : Nat) (w : World) : Calls Try.prog 46 #[.agg #[.int .i64 24, .string f1, .string f2, .slice A3 n3 c3, .string f4, .slice A5 n5 c5, .slice A6 n6 c6, .slice A7 n7 c7, .slice A8 n8 c8, .slice A9 n9 c9, .slice A10 n10 c10, .slice A11 n11 c11, .int .i64 f12, .slice A13 n13 c13, .slice A14 n14 c14, .int .i64 f15, .string f16, .int .i64 f17, .int .i64 f18, .string f19, .int .i64 f20]] w fun e w' => e = .returned (.agg #[.int .i64 24, .string f1, .string f2, .slice A3 n3 c3, .string f4, .slice A5 n5 c5, .slice A6 n6 c6, .slice A7 n7 c7, .slice A8 n8 c8, .slice A9 n9 c9, .slice A10 n10 c10, .slice A11 n11 c11, .int .i64 f12, .slice A13 n13 c13, .slice A14 n14 c14, .int .i64 f15, .string f16, .int .i64 f17, .int .i64 f18, .string f19, .int .i64 0]) ∧ Below w.heap.size w w' := by
  go_enter Try.func46, Try.ntmps46
  go_wp2_with (first
    | ((with_reducible refine gate_dst (N := 1) rfl ?_); refine box49 rfl rfl rfl ?_; intro g1 e1 w1 h1 b1; have HM := Aside0.mk h1; have HB := Aside0.mk b1; have HE1 := Aside0.mk e1; clear h1 b1 e1)
    | ((with_reducible refine gate_dst (N := 2) rfl ?_); refine alloc49 rfl rfl ?_; intro g2 e2 zs hzs w2 h2 b2; have HNE := Aside0.mk (show g2 ≠ g1 from by have := blk_lt HM.out; omega); have HZ := Aside0.mk h2; have HL2 := Aside0.mk (show w.heap.size ≤ g2 from by have := HB.out.size; omega); have HZS := Aside0.mk hzs; have n_ := Aside0.mk ((b2.block g1 (blk_lt HM.out)).trans HM.out); clear HM; have HM := n_; clear n_; have n_ := Aside0.mk (below_step HB.out b2); clear HB; have HB := n_; clear n_ h2 b2 e2 hzs)
    | ((with_reducible refine gate_dst (N := 4) rfl ?_); refine ld rfl rfl rfl HM.out Try.underlying3 rfl rfl ?_)
    | ((with_reducible refine gate_dst (N := 25) rfl ?_); refine ld rfl rfl rfl HM.out Try.underlying3 rfl rfl ?_)
    | ((with_reducible refine gate_dst (N := 42) rfl ?_); refine wpList_load_row rfl 49 _ rfl g1 rfl 49 _ (0, 0) _ HM.out Try.underlying49 rfl sz49 ?_)
    | ((with_reducible refine gate_store (p := 2) rfl ?_); refine stRow49 rfl rfl rfl rfl HZ.out HZS.out rfl rfl ?_; intro w3 h3 b3; have HZ3 := Aside0.mk h3; have HB3 := Aside0.mk (HB.out.trans (b3 _ HL2.out)); clear h3 b3)
    | (refine st rfl rfl rfl HM.out (by first | exact sz3 | exact sz9 | exact sz44 | exact sz45 | exact sz46 | exact sz47) rfl rfl rfl (by simp) ?_; intro w3 h3 b3 k3; simp only [List.setIfInBounds_toArray, List.set_cons_succ, List.set_cons_zero, Act.eval] at h3; have n_ := Aside0.mk h3; clear HM; have HM := n_; clear n_; have n_ := Aside0.mk ((k3.2 g2 (blk_lt HZ.out) HNE.out (by simp)).trans HZ.out); clear HZ; have HZ := n_; clear n_; have n_ := Aside0.mk (HB.out.trans (b3 _ (Nat.le_of_eq HE1.out.symm))); clear HB; have HB := n_; clear n_ h3 b3 k3))
  refine bodyPost_ret (results_cell_row rfl _ _ g2 49 _ (0, 0) _ rfl HZ3.out Try.underlying49 rfl sz49) rfl ?_
  exact ⟨rfl, HB3.out⟩
set_option maxRecDepth 100000 in
set_option maxHeartbeats 8000000 in
theorem un0 (f1 f2 f4 f16 f19 : ByteArray) (f12 f15 f17 f18 f20 : Int) (A3 A5 A6 A7 A8 A9 A10 A11 A13 A14 : Option Addr) (n3 c3 n5 c5 n6 c6 n7 c7 n8 c8 n9 c9 n10 c10 n11 c11 n13 c13 n14 c14 : Nat) (f0 : Int) (h1 : (f0 == 1) = false) (h2 : (f0 == 2) = false) (h11 : (f0 == 11) = false) (h4 : (f0 == 4) = false) (h20 : (f0 == 20) = false) (h15 : (f0 == 15) = false) (h24 : (f0 == 24) = false) (w : World) : Calls Try.prog 46 #[.agg #[.int .i64 f0, .string f1, .string f2, .slice A3 n3 c3, .string f4, .slice A5 n5 c5, .slice A6 n6 c6, .slice A7 n7 c7, .slice A8 n8 c8, .slice A9 n9 c9, .slice A10 n10 c10, .slice A11 n11 c11, .int .i64 f12, .slice A13 n13 c13, .slice A14 n14 c14, .int .i64 f15, .string f16, .int .i64 f17, .int .i64 f18, .string f19, .int .i64 f20]] w fun e w' => e = .returned (.agg #[.int .i64 f0, .string f1, .string f2, .slice A3 n3 c3, .string f4, .slice A5 n5 c5, .slice A6 n6 c6, .slice A7 n7 c7, .slice A8 n8 c8, .slice A9 n9 c9, .slice A10 n10 c10, .slice A11 n11 c11, .int .i64 f12, .slice A13 n13 c13, .slice A14 n14 c14, .int .i64 f15, .string f16, .int .i64 f17, .int .i64 f18, .string f19, .int .i64 f20]) ∧ Below w.heap.size w w' := by
  go_enter Try.func46, Try.ntmps46
  go_wp2_with (first
    | ((with_reducible refine gate_dst (N := 1) rfl ?_); refine box49 rfl rfl rfl ?_; intro g1 e1 w1 h1 b1; have HM := Aside0.mk h1; have HB := Aside0.mk b1; have HE1 := Aside0.mk e1; clear h1 b1 e1)
    | ((with_reducible refine gate_dst (N := 2) rfl ?_); refine alloc49 rfl rfl ?_; intro g2 e2 zs hzs w2 h2 b2; have HNE := Aside0.mk (show g2 ≠ g1 from by have := blk_lt HM.out; omega); have HZ := Aside0.mk h2; have HL2 := Aside0.mk (show w.heap.size ≤ g2 from by have := HB.out.size; omega); have HZS := Aside0.mk hzs; have n_ := Aside0.mk ((b2.block g1 (blk_lt HM.out)).trans HM.out); clear HM; have HM := n_; clear n_; have n_ := Aside0.mk (below_step HB.out b2); clear HB; have HB := n_; clear n_ h2 b2 e2 hzs)
    | ((with_reducible refine gate_dst (N := 4) rfl ?_); refine ld rfl rfl rfl HM.out Try.underlying3 rfl rfl ?_)
    | ((with_reducible refine gate_dst (N := 25) rfl ?_); refine ld rfl rfl rfl HM.out Try.underlying3 rfl rfl ?_)
    | ((with_reducible refine gate_dst (N := 42) rfl ?_); refine wpList_load_row rfl 49 _ rfl g1 rfl 49 _ (0, 0) _ HM.out Try.underlying49 rfl sz49 ?_)
    | ((with_reducible refine gate_store (p := 2) rfl ?_); refine stRow49 rfl rfl rfl rfl HZ.out HZS.out rfl rfl ?_; intro w3 h3 b3; have HZ3 := Aside0.mk h3; have HB3 := Aside0.mk (HB.out.trans (b3 _ HL2.out)); clear h3 b3)
    | (refine st rfl rfl rfl HM.out (by first | exact sz3 | exact sz9 | exact sz44 | exact sz45 | exact sz46 | exact sz47) rfl rfl rfl (by simp) ?_; intro w3 h3 b3 k3; simp only [List.setIfInBounds_toArray, List.set_cons_succ, List.set_cons_zero, Act.eval] at h3; have n_ := Aside0.mk h3; clear HM; have HM := n_; clear n_; have n_ := Aside0.mk ((k3.2 g2 (blk_lt HZ.out) HNE.out (by simp)).trans HZ.out); clear HZ; have HZ := n_; clear n_; have n_ := Aside0.mk (HB.out.trans (b3 _ (Nat.le_of_eq HE1.out.symm))); clear HB; have HB := n_; clear n_ h3 b3 k3))
  refine bodyPost_ret (results_cell_row rfl _ _ g2 49 _ (0, 0) _ rfl HZ3.out Try.underlying49 rfl sz49) rfl ?_
  exact ⟨rfl, HB3.out⟩
theorem unused_calls (m : Mv) (h : Hd) (w : World) : Calls Try.prog 46 #[.agg (cells m h)] w fun e w' => e = .returned (.agg (cells m.unused (h.unused m))) ∧ Below w.heap.size w w' := by
  obtain ⟨f0, f1, f2, f3, f4, f5, f6, f7, f8, f9, f10, f11, f12, f13, f14, f15, f16, f17, f18, f19, f20⟩ := m
  obtain ⟨A3, c3, A5, c5, A6, c6, A7, c7, A8, c8, A9, c9, A10, c10, A11, c11, A13, c13, A14, c14⟩ := h
  by_cases h1 : f0 = 1
  · subst h1
    exact un1 f1 f2 f4 f16 f19 f12 f15 f17 f18 f20 A3 A5 A6 A7 A8 A9 A10 A11 A13 A14 _ c3 _ c5 _ c6 _ c7 _ c8 _ c9 _ c10 _ c11 _ c13 _ c14 w
  by_cases h2 : f0 = 2
  · subst h2
    exact un2 f1 f2 f4 f16 f19 f12 f15 f17 f18 f20 A3 A5 A6 A7 A8 A9 A10 A11 A13 A14 _ c3 _ c5 _ c6 _ c7 _ c8 _ c9 _ c10 _ c11 _ c13 _ c14 w
  by_cases h11 : f0 = 11
  · subst h11
    exact un11 f1 f2 f4 f16 f19 f12 f15 f17 f18 f20 A3 A5 A6 A7 A8 A9 A10 A11 A13 A14 _ c3 _ c5 _ c6 _ c7 _ c8 _ c9 _ c10 _ c11 _ c13 _ c14 w
  by_cases h4 : f0 = 4
  · subst h4
    exact un4 f1 f2 f4 f16 f19 f12 f15 f17 f18 f20 A3 A5 A6 A7 A8 A9 A10 A11 A13 A14 _ c3 _ c5 _ c6 _ c7 _ c8 _ c9 _ c10 _ c11 _ c13 _ c14 w
  by_cases h20 : f0 = 20
  · subst h20
    exact un20 f1 f2 f4 f16 f19 f12 f15 f17 f18 f20 A3 A5 A6 A7 A8 A9 A10 A11 A13 A14 _ c3 _ c5 _ c6 _ c7 _ c8 _ c9 _ c10 _ c11 _ c13 _ c14 w
  by_cases h15 : f0 = 15
  · subst h15
    exact un15 f1 f2 f4 f16 f19 f12 f15 f17 f18 f20 A3 A5 A6 A7 A8 A9 A10 A11 A13 A14 _ c3 _ c5 _ c6 _ c7 _ c8 _ c9 _ c10 _ c11 _ c13 _ c14 w
  by_cases h24 : f0 = 24
  · subst h24
    exact un24 f1 f2 f4 f16 f19 f12 f15 f17 f18 f20 A3 A5 A6 A7 A8 A9 A10 A11 A13 A14 _ c3 _ c5 _ c6 _ c7 _ c8 _ c9 _ c10 _ c11 _ c13 _ c14 w
  simp only [Mv.unused, Hd.unused, if_neg h1, if_neg h2, if_neg h11, if_neg h4, if_neg h20, if_neg h15, if_neg h24]
  exact un0 f1 f2 f4 f16 f19 f12 f15 f17 f18 f20 A3 A5 A6 A7 A8 A9 A10 A11 A13 A14 _ c3 _ c5 _ c6 _ c7 _ c8 _ c9 _ c10 _ c11 _ c13 _ c14 f0 (beq_eq_false_iff_ne.mpr h1) (beq_eq_false_iff_ne.mpr h2) (beq_eq_false_iff_ne.mpr h11) (beq_eq_false_iff_ne.mpr h4) (beq_eq_false_iff_ne.mpr h20) (beq_eq_false_iff_ne.mpr h15) (beq_eq_false_iff_ne.mpr h24) w
end Go.Proofs.Ytlkebjkpmiehcaa.Ms
end
section
namespace Go.Proofs.Ytlkebjkpmiehcaa.Ms
open Go.RowKit Go.Proofs.YtlkebjkpmiehcaaW.PrintWords Go.Proofs.YtlkebjkpmiehcaaW.PrintLast Go.Proofs.YtlkebjkpmiehcaaW.PrintMore Go.Proofs.Ytlkebjkpmiehcaa.X
set_option linter.unusedVariables false
def pv (v : ByteArray) (n : Int) : ByteArray × Int := (wire_PutVec.f v n).getD (ByteArray.empty, 101)
def nm (x n : Int) : ByteArray × Int := (wire_Put.f x n).getD (ByteArray.empty, 101)
theorem bytes_some (x n : Int) (h1 : 1 ≤ n) (h4 : n ≤ 4) : ∃ r, wire_Bytes.f x n = some r ∧ r.size = n.toNat := by
  have : n = 1 ∨ n = 2 ∨ n = 3 ∨ n = 4 := by omega
  rcases this with rfl | rfl | rfl | rfl
  all_goals exact ⟨_, rfl, rfl⟩
theorem w8 (n : Int) (h1 : 1 ≤ n) (h4 : n ≤ 4) : wrap64 (8 * n) = 8 * n := (i64_w _).symm.trans (IntWalk.i64_in _ (by omega))
theorem pv_ex (v : ByteArray) (n : Int) (h1 : 1 ≤ n) (h3 : n ≤ 3) (hv : v.size ≤ 140737488355328) : ∃ r, wire_PutVec.f v n = some r ∧ r.1.size ≤ 3 + v.size ∧ ((r.2 = 0 ∧ r.1.size = n.toNat + v.size) ∨ (r.2 = 101 ∧ r.1 = ByteArray.empty)) := by
  obtain ⟨r, hr, hs⟩ := bytes_some v.size n h1 (by omega)
  unfold wire_PutVec.f
  rw [w8 n h1 (by omega), if_neg (by omega), if_neg (by omega), if_pos (by omega), hr]
  simp only [Option.bind_some]
  have hz : (r ++ v).size = n.toNat + v.size := by rw [ByteArray.size_append, hs]
  by_cases h : shr .i64 (v.size : Int) (8 * n) = 0
  · rw [if_pos h, if_pos (by omega)]
    exact ⟨_, rfl, by show (r ++ v).size ≤ _; omega, .inl ⟨rfl, hz⟩⟩
  · rw [if_neg h]
    exact ⟨_, rfl, by show (0 : Nat) ≤ _; omega, .inr ⟨rfl, rfl⟩⟩
theorem pv_some (v : ByteArray) (n : Int) (h1 : 1 ≤ n) (h3 : n ≤ 3) (hv : v.size ≤ 140737488355328) : wire_PutVec.f v n = some ((pv v n).1, (pv v n).2) := by
  obtain ⟨r, hr, _⟩ := pv_ex v n h1 h3 hv
  unfold pv
  rw [hr]
  rfl
theorem pv_size (v : ByteArray) (n : Int) (h1 : 1 ≤ n) (h3 : n ≤ 3) (hv : v.size ≤ 140737488355328) : (pv v n).1.size ≤ 3 + v.size := by
  obtain ⟨r, hr, hs, _⟩ := pv_ex v n h1 h3 hv
  unfold pv
  rw [hr]
  exact hs
theorem nm_ex (x n : Int) (h1 : 1 ≤ n) (h4 : n ≤ 4) : ∃ r, wire_Put.f x n = some r ∧ r.1.size ≤ 4 := by
  obtain ⟨r, hr, hs⟩ := bytes_some x n h1 h4
  unfold wire_Put.f
  rw [w8 n h1 h4, if_neg (by omega), if_neg (by omega), hr]
  simp only [Option.bind_some]
  by_cases h0 : x < 0
  · rw [if_pos h0]
    exact ⟨_, rfl, by show (0 : Nat) ≤ _; omega⟩
  · rw [if_neg h0, if_pos (by omega)]
    by_cases h : shr .i64 x (8 * n) = 0
    · rw [if_pos h]
      exact ⟨_, rfl, by show r.size ≤ 4; omega⟩
    · rw [if_neg h]
      exact ⟨_, rfl, by show (0 : Nat) ≤ _; omega⟩
theorem nm_some (x n : Int) (h1 : 1 ≤ n) (h4 : n ≤ 4) : wire_Put.f x n = some ((nm x n).1, (nm x n).2) := by
  obtain ⟨r, hr, _⟩ := nm_ex x n h1 h4
  unfold nm
  rw [hr]
  rfl
theorem nm_size (x n : Int) (h1 : 1 ≤ n) (h4 : n ≤ 4) : (nm x n).1.size ≤ 4 := by
  obtain ⟨r, hr, hs⟩ := nm_ex x n h1 h4
  unfold nm
  rw [hr]
  exact hs
theorem num_calls' (lo g : Nat) (s : ByteArray) (b : Bool) (x size : Int) (w : World) (h : Wt lo w g s b) (h1 : 1 ≤ size) (h4 : size ≤ 4) (hn : s.size + 4 ≤ 140737488355328) :
    Calls Try.prog 60 #[.pointer (some ⟨g, 0, none⟩), .int .i64 x, .int .i64 size] w fun ex w' => ex = .returned (.tuple #[]) ∧ Wt lo w' g (s ++ (nm x size).1) (b || !((nm x size).2 == 0)) ∧ Fr lo g w w' :=
  num_calls lo g s _ b x size _ w h (nm_some x size h1 h4) (by have := nm_size x size h1 h4; omega)
theorem vec_calls' (lo g : Nat) (s v : ByteArray) (b : Bool) (size least most : Int) (w : World) (h : Wt lo w g s b) (h1 : 1 ≤ size) (h3 : size ≤ 3) (hn : s.size + 3 + v.size ≤ 140737488355328) :
    Calls Try.prog 57 #[.pointer (some ⟨g, 0, none⟩), .string v, .int .i64 size, .int .i64 least, .int .i64 most] w fun ex w' => ex = .returned (.tuple #[]) ∧ Wt lo w' g (s ++ (pv v size).1) (b || !(vecOk v (pv v size).2 least most)) ∧ Fr lo g w w' :=
  vec_calls lo g s v _ b size least most _ w h (pv_some v size h1 h3 (by omega)) (by have := pv_size v size h1 h3 (by omega); omega)
theorem within_calls' (lo g k : Nat) (cap : Array Value) (s u : ByteArray) (b bu : Bool) (size : Int) (w : World) (h : Wt lo w g s b)
    (eg : ∀ args w, (callFunc k args).run Try.prog w = .ok (.enter k args) w) (hw : Writes k cap w u bu) (h1 : 1 ≤ size) (h3 : size ≤ 3) (hn : s.size + 3 + u.size ≤ 140737488355328) :
    Calls Try.prog 58 #[.pointer (some ⟨g, 0, none⟩), .int .i64 size, .func (.func k) #[] cap] w fun ex w' => ex = .returned (.tuple #[]) ∧ Wt lo w' g (s ++ (pv u size).1) ((b || !(!bu)) || !(vecOk u (pv u size).2 0 16777216)) ∧ Fr lo g w w' :=
  within_calls lo g k cap s u _ b bu size _ w h eg hw (pv_some u size h1 h3 (by omega)) (by have := pv_size u size h1 h3 (by omega); omega)
end Go.Proofs.Ytlkebjkpmiehcaa.Ms
end
section
namespace Go.Proofs.Ytlkebjkpmiehcaa.Ms
open Go.RowKit Go.Proofs.YtlkebjkpmiehcaaW.PrintWords Go.Proofs.YtlkebjkpmiehcaaW.PrintLast Go.Proofs.YtlkebjkpmiehcaaW.PrintMore Go.Proofs.Ytlkebjkpmiehcaa.X
set_option linter.unusedVariables false
def certStep (p : ByteArray × Bool) (c : ByteArray) : ByteArray × Bool :=
  ((p.1 ++ (pv c 3).1) ++ (pv ⟨#[]⟩ 2).1, (p.2 || !(vecOk c (pv c 3).2 1 16777216)) || !(vecOk ⟨#[]⟩ (pv ⟨#[]⟩ 2).2 0 0))
def certW (l : List ByteArray) : ByteArray × Bool := l.foldl certStep (ByteArray.empty, false)
def csz (l : List ByteArray) : Nat := (l.map fun c => c.size + 6).sum
theorem csz_step (l : List ByteArray) (i : Nat) (h : i < l.length) : csz (l.take (i + 1)) = csz (l.take i) + ((rdOf ByteArray.empty l (i : Int)).size + 6) := by
  unfold csz rdOf
  rw [Int.toNat_natCast, List.take_add_one, List.map_append, List.sum_append, List.getD_eq_getElem?_getD, List.getElem?_eq_getElem h]
  simp
theorem csz_le (l : List ByteArray) (i : Nat) : csz (l.take i) ≤ csz l := by
  unfold csz
  conv => rhs; rw [← List.take_append_drop i l, List.map_append, List.sum_append]
  exact Nat.le_add_right _ _
theorem certW_step (l : List ByteArray) (i : Nat) (h : i < l.length) : certW (l.take (i + 1)) = certStep (certW (l.take i)) (rdOf ByteArray.empty l (i : Int)) := by
  unfold certW rdOf
  rw [Int.toNat_natCast, List.take_add_one, List.foldl_append, List.getD_eq_getElem?_getD, List.getElem?_eq_getElem h]
  simp
theorem pv2 : (pv ⟨#[]⟩ 2).1.size ≤ 3 := by have := pv_size ⟨#[]⟩ 2 (by omega) (by omega) (by show (0 : Nat) ≤ _; omega); exact Nat.le_trans this (by show 3 + 0 ≤ 3; omega)
theorem certW_size (l : List ByteArray) (hl : csz l ≤ 140737488355328) : ∀ i, i ≤ l.length → (certW (l.take i)).1.size ≤ csz (l.take i)
  | 0, _ => by simp [certW, csz]
  | i + 1, h => by
    have ih := certW_size l hl i (by omega)
    have hc := csz_step l i h
    have hb := csz_le l (i + 1)
    rw [certW_step l i h]
    unfold certStep
    simp only [ByteArray.size_append]
    have h1 := pv_size (rdOf ByteArray.empty l (i : Int)) 3 (by omega) (by omega) (by omega)
    have h2 := pv2
    omega
structure Cap (w0 w : World) (gb gm : Nat) (cs : Array Value) : Prop where
  box : w.heap[gb]? = some (.cells #[.pointer (some ⟨gm, 0, none⟩)] 85 (0, 0))
  msg : w.heap[gm]? = some (.cells cs 49 (0, 0))
  below : Below w0.heap.size w0 w
theorem Cap.fr {w0 w w' : World} {lo g gb gm : Nat} {cs : Array Value} (h : Cap w0 w gb gm cs) (f : Fr lo g w w') (hl : w0.heap.size ≤ lo) (h1 : gb ≠ g) (h2 : gm ≠ g) : Cap w0 w' gb gm cs :=
  ⟨f.keep _ _ _ h.box h1 (by decide), f.keep _ _ _ h.msg h2 (by decide), h.below.trans (f.below.mono hl)⟩
theorem Cap.over {w0 w w' : World} {gb gm : Nat} {cs : Array Value} (h : Cap w0 w gb gm cs) (b : Below w.heap.size w w') : Cap w0 w' gb gm cs :=
  ⟨(b.block gb (blk_lt h.box)).trans h.box, (b.block gm (blk_lt h.msg)).trans h.msg, h.below.trans (b.mono h.below.size)⟩
set_option maxRecDepth 100000 in
set_option maxHeartbeats 8000000 in
theorem certs_calls (lo g gb gm : Nat) (cs : Array Value) (A : Option Addr) (c : Nat) (l : List ByteArray) (w0 w : World) (hl : w0.heap.size ≤ lo) (h1 : gb ≠ g) (h2 : gm ≠ g) (hcap : Cap w0 w gb gm cs) (hc : cs[14]? = some (.slice A l.length c))
    (hr : Kd.C Kd.string w0 A l.length l) (hlc : l.length ≤ c) (hsz : csz l ≤ 140737488355328) (h : Wt lo w g ByteArray.empty false) :
    Calls Try.prog 59 #[.pointer (some ⟨g, 0, none⟩), .pointer (some ⟨gb, 0, none⟩)] w fun ex w' => ex = .returned (.tuple #[]) ∧ Wt lo w' g (certW l).1 (certW l).2 ∧ Fr lo g w w' := by
  have HW := Aside0.mk h
  have HC := Aside0.mk hcap
  have HR := Aside0.mk hr
  have HS := Aside0.mk hsz
  have HL := Aside0.mk hl
  have HV := Aside0.mk hc
  have HLM := Aside0.mk (show l.length ≤ 140737488355328 from by
    have : ∀ l : List ByteArray, l.length ≤ csz l := by
      intro l
      induction l with
      | nil => exact Nat.zero_le _
      | cons a r ih => simp only [csz, List.map_cons, List.sum_cons, List.length_cons] at ih ⊢; omega
    exact Nat.le_trans (this l) hsz)
  have H1 := Aside0.mk h1
  have H2 := Aside0.mk h2
  clear h hcap hr hsz hl h1 h2 hc
  go_enter Try.func59, Try.ntmps59
  go_wp2_with (first
    | ((with_reducible refine gate_dst (N := 5) rfl ?_); refine ld rfl rfl rfl HC.out.box Try.underlying85 rfl rfl ?_)
    | ((with_reducible refine gate_dst (N := 8) rfl ?_); refine ld rfl rfl rfl HC.out.msg Try.underlying47 rfl HV.out ?_))
  go_loopw [10] (fun v wr => ∃ i : Nat, i ≤ l.length ∧ v = .int .i64 i ∧ Aside0 (Wt lo wr g (certW (l.take i)).1 (certW (l.take i)).2) ∧ Aside0 (Fr lo g w wr)) (fun v _ => l.length - (intOf v).toNat)
  case atStart => exact ⟨0, by omega, rfl, HW, ⟨Fr.refl _ _ _⟩⟩
  case round =>
  obtain ⟨i, hi, rfl, HWi, HFi⟩ := hrel
  by_cases hlt : i < l.length
  · have t1 : decide ((i : Int) < (l.length : Int)) = true := decide_eq_true (by omega)
    have p : (0 : Int) ≤ (i : Int) := by omega
    have q : (i : Int) < (l.length : Int) := by omega
    have HCi := Aside0.mk (HC.out.fr HFi.out HL.out H1.out H2.out)
    obtain ⟨ad, e0, hx⟩ := Kd.at_string (Kd.C_below HR.out HCi.out.below) (i : Int) p q
    cases e0
    have hsi := certW_size l HS.out i hi
    have hst := csz_step l i hlt
    have hle := csz_le l (i + 1)
    obtain ⟨s, hs⟩ : ∃ s, s = rdOf ByteArray.empty l (i : Int) := ⟨_, rfl⟩
    rw [← hs] at hx hst
    rw [Int.toNat_natCast] at hx
    have HSE := Aside0.mk hs
    have HN1 := Aside0.mk (show (certW (l.take i)).1.size + 3 + s.size ≤ 140737488355328 from by have := HS.out; omega)
    have HN2 := Aside0.mk (show ((certW (l.take i)).1 ++ (pv s 3).1).size + 3 + (⟨#[]⟩ : ByteArray).size ≤ 140737488355328 from by
      have := HS.out
      have h3 := pv_size s 3 (by omega) (by omega) (by omega)
      rw [ByteArray.size_append]
      show _ + 3 + 0 ≤ _
      omega)
    have p' := eq_true p
    have q' := eq_true q
    have z1 : IntKind.i64.wrap ((i : Int) + 1) = (i : Int) + 1 := IntWalk.i64_in _ (by have := HLM.out; omega)
    clear hs hsi hst hle p q
    go_wp2_with (first
      | (go_at_call 57; first
        | ((with_reducible refine (vec_calls' lo g _ s _ 3 1 16777216 _ HWi.out (by omega) (by omega) HN1.out).mono ?_); rintro e1 w1 ⟨rfl, i1, f1⟩; have HW1 := Aside0.mk i1; have HF1 := Aside0.mk (HFi.out.trans f1); clear i1 f1 hx)
        | ((with_reducible refine (vec_calls' lo g _ ⟨#[]⟩ _ 2 0 0 _ HW1.out (by omega) (by omega) HN2.out).mono ?_); rintro e2 w2 ⟨rfl, i2, f2⟩; have HW2 := Aside0.mk i2; have HF2 := Aside0.mk (HF1.out.trans f2); clear i2 f2)))
    go_roundw
    case rel => first | exact ⟨i + 1, by omega, by go_num, ⟨by rw [certW_step l i hlt, ← HSE.out]; exact HW2.out⟩, HF2⟩ | ((repeat apply Exists.intro); exact ⟨⟨i + 1, by omega, by go_num, ⟨by rw [certW_step l i hlt, ← HSE.out]; exact HW2.out⟩, HF2⟩, rfl⟩)
    case measure => simp [intOf]; omega
  · have t1 : decide ((i : Int) < (l.length : Int)) = false := decide_eq_false (by omega)
    have hie : l.take i = l := List.take_of_length_le (by omega)
    rw [hie] at HWi
    clear hie
    go_wp2
    first | go_end0 | ((try simp only [Exit.inBlock, Exit.then]); refine bodyPost_ret (results_none rfl _ _ _) rfl ?_)
    exact ⟨rfl, HWi.out, HFi.out⟩
end Go.Proofs.Ytlkebjkpmiehcaa.Ms
end
section
namespace Go.Proofs.Ytlkebjkpmiehcaa.Ms
open Go.RowKit Go.Proofs.YtlkebjkpmiehcaaW.PrintWords Go.Proofs.YtlkebjkpmiehcaaW.PrintLast Go.Proofs.YtlkebjkpmiehcaaW.PrintMore Go.Proofs.Ytlkebjkpmiehcaa.X
set_option linter.unusedVariables false
theorem box85 {ops : Array Oper} {rest : List Oper} {o : Oper} {a : Act} {Q : Exit → Act → World → Prop} {w : World} {x : Operand} (hgd : o.guard = none) (ho : o.op = .box 85 x) {q : Option Addr} (hx : a.eval x = .pointer q)
    (H : ∀ g, g = w.heap.size → ∀ w1, w1.heap[g]? = some (.cells #[.pointer q] 85 (0, 0)) → Below w.heap.size w w1 → wpList Try.prog ops Q rest (a.put o.dst (.pointer (some ⟨g, 0, none⟩))) w1) : wpList Try.prog ops Q (o :: rest) a w := by
  refine Kd.event_run hgd ?_ (H _ rfl _ (blk_new w _) (below_alloc (Below.refl _ _) _))
  unfold execOp
  simp only [ho, hx]
  rfl
theorem enters59 : ∀ args w, (callFunc 59 args).run Try.prog w = .ok (.enter 59 args) w := fun args w => enters_ Try.func59 (by kernel_rfl) rfl args w
structure At (w0 w : World) (lo g gm : Nat) (cs : Array Value) : Prop where
  wt : Wt lo w g ByteArray.empty false
  box : w.heap[gm]? = some (.cells cs 49 (0, 0))
  lt : gm < lo
  below : Below w0.heap.size w0 w
  le : w0.heap.size ≤ lo
theorem cellB {w : World} {g : Nat} {v : Value} (h : w.heap[g]? = some (.cells #[v] 85 (0, 0))) : w.cell? ⟨g, 0, none⟩ = some v := (blk_cell h 0).trans rfl
set_option maxRecDepth 100000 in
set_option maxHeartbeats 8000000 in
theorem body24 (lo g gm : Nat) (cs : Array Value) (w0 w : World) (h : At w0 w lo g gm cs) (hk : cs[0]? = some (.int .i64 24)) (u : Int) (hu : cs[20]? = some (.int .i64 u)) :
    Calls Try.prog 44 #[.pointer (some ⟨g, 0, none⟩), .pointer (some ⟨gm, 0, none⟩)] w fun ex w' => ex = .returned (.tuple #[]) ∧ Wt lo w' g (ByteArray.empty ++ (nm (wrap64 (u - 1)) 1).1) ((false || !(u == 1 || u == 2)) || !((nm (wrap64 (u - 1)) 1).2 == 0)) ∧ Fr lo g w w' := by
  have HW := Aside0.mk h.wt
  have HM := Aside0.mk h.box
  have HB := Aside0.mk h.below
  have HL := Aside0.mk h.le
  have HNM := Aside0.mk (show gm ≠ g from by have := h.wt.lt; have := h.lt; omega)
  have HV0 := Aside0.mk hk
  have HV20 := Aside0.mk hu
  have HN := Aside0.mk (show (ByteArray.empty).size + 4 ≤ 140737488355328 from by show 0 + 4 ≤ _; omega)
  clear h hk hu
  by_cases c1 : u = 1
  · have c1b : (u == 1) = true := beq_iff_eq.mpr c1
    clear c1
    rw [c1b]
    go_enter Try.func44, Try.ntmps44
    go_wp2_with (first
    | ((with_reducible refine gate_dst (N := 3) rfl ?_); refine box85 rfl rfl rfl ?_; intro gb eb w1 h1 b1; have HW1 := Aside0.mk (HW.out.below b1); have HF := Aside0.mk (Fr.of_below (g := g) HW.out.size b1); have HC := Aside0.mk (Cap.mk (w0 := w0) h1 ((b1.block gm (blk_lt HM.out)).trans HM.out) (HB.out.trans (b1.mono HB.out.size))); have HNB := Aside0.mk (show gb ≠ g from by have := HW.out.lt; omega); have hcb := cellB h1; have hcm := (blk_cell HC.out.msg 20).trans HV20.out; clear h1 b1 eb)
    | ((with_reducible refine gate_dst (N := 4) rfl ?_); refine ld rfl rfl rfl HC.out.box Try.underlying85 rfl rfl ?_)
    | ((with_reducible refine gate_dst (N := 7) rfl ?_); refine ld rfl rfl rfl HC.out.msg Try.underlying3 rfl HV0.out ?_)
    | ((with_reducible refine gate_dst (N := 9) rfl ?_); refine ld rfl rfl rfl HC.out.box Try.underlying85 rfl rfl ?_)
    | ((with_reducible refine gate_dst (N := 12) rfl ?_); refine ld rfl rfl rfl HC.out.msg Try.underlying3 rfl HV20.out ?_)
    | ((with_reducible refine gate_dst (N := 23) rfl ?_); refine ld rfl rfl rfl HC.out.box Try.underlying85 rfl rfl ?_)
    | ((with_reducible refine gate_dst (N := 26) rfl ?_); refine ld rfl rfl rfl HC.out.msg Try.underlying3 rfl HV20.out ?_)
    | (go_at_call 61; first
      | ((with_reducible refine (need_calls lo g _ _ true _ HW1.out).mono ?_); rintro e2 w2 ⟨rfl, i2, b2, k2⟩; have HW2 := Aside0.mk i2; have f2 := Fr.of_keep b2 k2; have n_ := Aside0.mk (HF.out.trans f2); clear HF; have HF := n_; clear n_; have n_ := Aside0.mk (HC.out.fr f2 HL.out HNB.out HNM.out); clear HC; have HC := n_; clear n_; clear i2 b2 k2 f2))
    | (go_at_call 60; first
      | ((with_reducible refine (num_calls' lo g _ _ (wrap64 (u - 1)) 1 _ HW2.out (by omega) (by omega) HN.out).mono ?_); rintro e3 w3 ⟨rfl, i3, f3⟩; have HW3 := Aside0.mk i3; have n_ := Aside0.mk (HF.out.trans f3); clear HF; have HF := n_; clear n_; have n_ := Aside0.mk (HC.out.fr f3 HL.out HNB.out HNM.out); clear HC; have HC := n_; clear n_; clear i3 f3)))
    first | go_end0 | ((try simp only [Exit.inBlock, Exit.then]); refine bodyPost_ret (results_none rfl _ _ _) rfl ?_)
    exact ⟨rfl, HW3.out, HF.out⟩
  · have c1b : (u == 1) = false := beq_eq_false_iff_ne.mpr c1
    clear c1
    by_cases c2 : u = 2
    · have c2b : (u == 2) = true := beq_iff_eq.mpr c2
      clear c2
      rw [c1b, c2b]
      go_enter Try.func44, Try.ntmps44
      go_wp2_with (first
    | ((with_reducible refine gate_dst (N := 3) rfl ?_); refine box85 rfl rfl rfl ?_; intro gb eb w1 h1 b1; have HW1 := Aside0.mk (HW.out.below b1); have HF := Aside0.mk (Fr.of_below (g := g) HW.out.size b1); have HC := Aside0.mk (Cap.mk (w0 := w0) h1 ((b1.block gm (blk_lt HM.out)).trans HM.out) (HB.out.trans (b1.mono HB.out.size))); have HNB := Aside0.mk (show gb ≠ g from by have := HW.out.lt; omega); have hcb := cellB h1; have hcm := (blk_cell HC.out.msg 20).trans HV20.out; clear h1 b1 eb)
    | ((with_reducible refine gate_dst (N := 4) rfl ?_); refine ld rfl rfl rfl HC.out.box Try.underlying85 rfl rfl ?_)
    | ((with_reducible refine gate_dst (N := 7) rfl ?_); refine ld rfl rfl rfl HC.out.msg Try.underlying3 rfl HV0.out ?_)
    | ((with_reducible refine gate_dst (N := 9) rfl ?_); refine ld rfl rfl rfl HC.out.box Try.underlying85 rfl rfl ?_)
    | ((with_reducible refine gate_dst (N := 12) rfl ?_); refine ld rfl rfl rfl HC.out.msg Try.underlying3 rfl HV20.out ?_)
    | ((with_reducible refine gate_dst (N := 23) rfl ?_); refine ld rfl rfl rfl HC.out.box Try.underlying85 rfl rfl ?_)
    | ((with_reducible refine gate_dst (N := 26) rfl ?_); refine ld rfl rfl rfl HC.out.msg Try.underlying3 rfl HV20.out ?_)
    | (go_at_call 61; first
      | ((with_reducible refine (need_calls lo g _ _ true _ HW1.out).mono ?_); rintro e2 w2 ⟨rfl, i2, b2, k2⟩; have HW2 := Aside0.mk i2; have f2 := Fr.of_keep b2 k2; have n_ := Aside0.mk (HF.out.trans f2); clear HF; have HF := n_; clear n_; have n_ := Aside0.mk (HC.out.fr f2 HL.out HNB.out HNM.out); clear HC; have HC := n_; clear n_; clear i2 b2 k2 f2))
    | (go_at_call 60; first
      | ((with_reducible refine (num_calls' lo g _ _ (wrap64 (u - 1)) 1 _ HW2.out (by omega) (by omega) HN.out).mono ?_); rintro e3 w3 ⟨rfl, i3, f3⟩; have HW3 := Aside0.mk i3; have n_ := Aside0.mk (HF.out.trans f3); clear HF; have HF := n_; clear n_; have n_ := Aside0.mk (HC.out.fr f3 HL.out HNB.out HNM.out); clear HC; have HC := n_; clear n_; clear i3 f3)))
      first | go_end0 | ((try simp only [Exit.inBlock, Exit.then]); refine bodyPost_ret (results_none rfl _ _ _) rfl ?_)
      exact ⟨rfl, HW3.out, HF.out⟩
    · have c2b : (u == 2) = false := beq_eq_false_iff_ne.mpr c2
      clear c2
      rw [c1b, c2b]
      go_enter Try.func44, Try.ntmps44
      go_wp2_with (first
    | ((with_reducible refine gate_dst (N := 3) rfl ?_); refine box85 rfl rfl rfl ?_; intro gb eb w1 h1 b1; have HW1 := Aside0.mk (HW.out.below b1); have HF := Aside0.mk (Fr.of_below (g := g) HW.out.size b1); have HC := Aside0.mk (Cap.mk (w0 := w0) h1 ((b1.block gm (blk_lt HM.out)).trans HM.out) (HB.out.trans (b1.mono HB.out.size))); have HNB := Aside0.mk (show gb ≠ g from by have := HW.out.lt; omega); have hcb := cellB h1; have hcm := (blk_cell HC.out.msg 20).trans HV20.out; clear h1 b1 eb)
    | ((with_reducible refine gate_dst (N := 4) rfl ?_); refine ld rfl rfl rfl HC.out.box Try.underlying85 rfl rfl ?_)
    | ((with_reducible refine gate_dst (N := 7) rfl ?_); refine ld rfl rfl rfl HC.out.msg Try.underlying3 rfl HV0.out ?_)
    | ((with_reducible refine gate_dst (N := 9) rfl ?_); refine ld rfl rfl rfl HC.out.box Try.underlying85 rfl rfl ?_)
    | ((with_reducible refine gate_dst (N := 12) rfl ?_); refine ld rfl rfl rfl HC.out.msg Try.underlying3 rfl HV20.out ?_)
    | ((with_reducible refine gate_dst (N := 23) rfl ?_); refine ld rfl rfl rfl HC.out.box Try.underlying85 rfl rfl ?_)
    | ((with_reducible refine gate_dst (N := 26) rfl ?_); refine ld rfl rfl rfl HC.out.msg Try.underlying3 rfl HV20.out ?_)
    | (go_at_call 61; first
      | ((with_reducible refine (need_calls lo g _ _ false _ HW1.out).mono ?_); rintro e2 w2 ⟨rfl, i2, b2, k2⟩; have HW2 := Aside0.mk i2; have f2 := Fr.of_keep b2 k2; have n_ := Aside0.mk (HF.out.trans f2); clear HF; have HF := n_; clear n_; have n_ := Aside0.mk (HC.out.fr f2 HL.out HNB.out HNM.out); clear HC; have HC := n_; clear n_; clear i2 b2 k2 f2))
    | (go_at_call 60; first
      | ((with_reducible refine (num_calls' lo g _ _ (wrap64 (u - 1)) 1 _ HW2.out (by omega) (by omega) HN.out).mono ?_); rintro e3 w3 ⟨rfl, i3, f3⟩; have HW3 := Aside0.mk i3; have n_ := Aside0.mk (HF.out.trans f3); clear HF; have HF := n_; clear n_; have n_ := Aside0.mk (HC.out.fr f3 HL.out HNB.out HNM.out); clear HC; have HC := n_; clear n_; clear i3 f3)))
      first | go_end0 | ((try simp only [Exit.inBlock, Exit.then]); refine bodyPost_ret (results_none rfl _ _ _) rfl ?_)
      exact ⟨rfl, HW3.out, HF.out⟩
set_option maxRecDepth 100000 in
set_option maxHeartbeats 8000000 in
theorem body11 (lo g gm : Nat) (cs : Array Value) (w0 w : World) (h : At w0 w lo g gm cs) (hk : cs[0]? = some (.int .i64 11)) (A : Option Addr) (c : Nat) (l : List ByteArray) (hu : cs[14]? = some (.slice A l.length c)) (hr : Kd.C Kd.string w0 A l.length l) (hlc : l.length ≤ c) (hsz : csz l + 16 ≤ 140737488355328) :
    Calls Try.prog 44 #[.pointer (some ⟨g, 0, none⟩), .pointer (some ⟨gm, 0, none⟩)] w fun ex w' => ex = .returned (.tuple #[]) ∧ Wt lo w' g ((ByteArray.empty ++ (pv ⟨#[]⟩ 1).1) ++ (pv (certW l).1 3).1) (((false || !(vecOk ⟨#[]⟩ (pv ⟨#[]⟩ 1).2 0 0)) || !(!(certW l).2)) || !(vecOk (certW l).1 (pv (certW l).1 3).2 0 16777216)) ∧ Fr lo g w w' := by
  have HW := Aside0.mk h.wt
  have HM := Aside0.mk h.box
  have HB := Aside0.mk h.below
  have HL := Aside0.mk h.le
  have HNM := Aside0.mk (show gm ≠ g from by have := h.wt.lt; have := h.lt; omega)
  have HV0 := Aside0.mk hk
  have HV14 := Aside0.mk hu
  have HR := Aside0.mk hr
  have HLC := Aside0.mk hlc
  have HS := Aside0.mk hsz
  have HN := Aside0.mk (show (ByteArray.empty).size + 3 + (⟨#[]⟩ : ByteArray).size ≤ 140737488355328 from by show 0 + 3 + 0 ≤ _; omega)
  have HN2 := Aside0.mk (show (ByteArray.empty ++ (pv ⟨#[]⟩ 1).1).size + 3 + (certW l).1.size ≤ 140737488355328 from by
    have h1 := pv_size ⟨#[]⟩ 1 (by omega) (by omega) (by show (0 : Nat) ≤ _; omega)
    have h2 := certW_size l (by omega) l.length (Nat.le_refl _)
    rw [List.take_length] at h2
    rw [ByteArray.size_append]
    have h3 : (⟨#[]⟩ : ByteArray).size = 0 := rfl
    have h4 : (ByteArray.empty).size = 0 := rfl
    omega)
  have hmf : ∀ fn first cap w, (Instr.makeFunc fn first cap).run Try.prog w = .ok (.func fn first cap) w := fun _ _ _ _ => rfl
  clear h hk hu hr hlc hsz
  go_enter Try.func44, Try.ntmps44
  go_wp2_with (first
    | ((with_reducible refine gate_dst (N := 3) rfl ?_); refine box85 rfl rfl rfl ?_; intro gb eb w1 h1 b1; have HW1 := Aside0.mk (HW.out.below b1); have HF := Aside0.mk (Fr.of_below (g := g) HW.out.size b1); have HC := Aside0.mk (Cap.mk (w0 := w0) h1 ((b1.block gm (blk_lt HM.out)).trans HM.out) (HB.out.trans (b1.mono HB.out.size))); have HNB := Aside0.mk (show gb ≠ g from by have := HW.out.lt; omega); clear h1 b1 eb)
    | ((with_reducible refine gate_dst (N := 4) rfl ?_); refine ld rfl rfl rfl HC.out.box Try.underlying85 rfl rfl ?_)
    | ((with_reducible refine gate_dst (N := 7) rfl ?_); refine ld rfl rfl rfl HC.out.msg Try.underlying3 rfl HV0.out ?_)
    | (go_at_call 57; first
      | ((with_reducible refine (vec_calls' lo g _ ⟨#[]⟩ _ 1 0 0 _ HW1.out (by omega) (by omega) HN.out).mono ?_); rintro e2 w2 ⟨rfl, i2, f2⟩; have HW2 := Aside0.mk i2; have n_ := Aside0.mk (HF.out.trans f2); clear HF; have HF := n_; clear n_; have n_ := Aside0.mk (HC.out.fr f2 HL.out HNB.out HNM.out); clear HC; have HC := n_; clear n_; clear i2 f2))
    | (go_at_call 58; first
      | ((refine (within_calls' lo g 59 _ _ (certW l).1 _ (certW l).2 3 _ HW2.out enters59 (by intro w1 g1 b1 t1; exact certs_calls _ g1 _ gm cs A c l w0 w1 HC.out.below.size (by have := t1.lt; have := blk_lt HC.out.box; omega) (by have := t1.lt; have := blk_lt HC.out.msg; omega) (HC.out.over b1) HV14.out HR.out HLC.out (by have := HS.out; omega) t1) (by omega) (by omega) HN2.out).mono ?_); rintro e3 w3 ⟨rfl, i3, f3⟩; have HW3 := Aside0.mk i3; have n_ := Aside0.mk (HF.out.trans f3); clear HF; have HF := n_; clear n_; have n_ := Aside0.mk (HC.out.fr f3 HL.out HNB.out HNM.out); clear HC; have HC := n_; clear n_; clear i3 f3)))
  first | go_end0 | ((try simp only [Exit.inBlock, Exit.then]); refine bodyPost_ret (results_none rfl _ _ _) rfl ?_)
  exact ⟨rfl, HW3.out, HF.out⟩
end Go.Proofs.Ytlkebjkpmiehcaa.Ms
end
section
namespace Go.Proofs.Ytlkebjkpmiehcaa.Ms
open Go.RowKit Go.Proofs.YtlkebjkpmiehcaaW.PrintWords Go.Proofs.YtlkebjkpmiehcaaW.PrintLast Go.Proofs.YtlkebjkpmiehcaaW.PrintMore Go.Proofs.Ytlkebjkpmiehcaa.X
set_option linter.unusedVariables false
abbrev Bodies (m : Mv) (h : Hd) (w0 : World) (u : ByteArray) (bu : Bool) : Prop := ∀ w lo g gm, At w0 w lo g gm (cells m h) →
  Calls Try.prog 44 #[.pointer (some ⟨g, 0, none⟩), .pointer (some ⟨gm, 0, none⟩)] w fun ex w' => ex = .returned (.tuple #[]) ∧ Wt lo w' g u bu ∧ Fr lo g w w'
def be3 (n : Nat) : ByteArray := (wire_Bytes.f n 3).getD ByteArray.empty
theorem be3_some (n : Nat) : wire_Bytes.f n 3 = some (be3 n) := rfl
theorem un_reads {w : World} {m : Mv} {h : Hd} (r : Reads w m h) : Reads w m.unused (h.unused m) := by
  unfold Mv.unused Hd.unused
  repeat' split
  all_goals (constructor <;> first | exact C_nil _ _ | exact Nat.zero_le _ | exact r.r3 | exact r.r5 | exact r.r6 | exact r.r7 | exact r.r8 | exact r.r9 | exact r.r10 | exact r.r11 | exact r.r13 | exact r.r14 | exact r.l3 | exact r.l5 | exact r.l6 | exact r.l7 | exact r.l8 | exact r.l9 | exact r.l10 | exact r.l11 | exact r.l13 | exact r.l14)
set_option maxRecDepth 100000 in
set_option maxHeartbeats 8000000 in
theorem put_bad (m : Mv) (h : Hd) (u : ByteArray) (w : World) (hk : msg_known.f m.f0 = some true) (hr : Reads w m h) (ht : m.unused.texts ≤ 9223372036854775807) (hl : m.unused.lists ≤ 9223372036854775807) (hy : Bodies m h w u true) :
    Calls Try.prog 23 #[.agg (cells m h)] w fun ex w' => ex = .returned (.tuple #[.string ⟨#[]⟩, .int .i64 1700]) ∧ Below w.heap.size w w' := by
  have HK := Aside0.mk hk
  have HR := Aside0.mk hr
  have HY := Aside0.mk hy
  have HT := Aside0.mk ht
  have HL := Aside0.mk hl
  clear hk hr hy ht hl
  go_enter Try.func23, Try.ntmps23
  go_wp2_with (first
    | ((with_reducible refine gate_dst (N := 1) rfl ?_); refine box49 rfl rfl rfl ?_; intro gm e1 w1 h1 b1; have HM := Aside0.mk h1; have HB := Aside0.mk b1; have HE := Aside0.mk (blk_lt h1); clear h1 b1 e1)
    | ((with_reducible refine gate_dst (N := 6) rfl ?_); refine ld (v := .int .i64 m.f0) rfl rfl rfl HM.out Try.underlying3 rfl rfl ?_)
    | (go_at_call 43; (with_reducible refine (msg_known.calls m.f0 true _ HK.out).mono ?_); rintro e2 w2 ⟨rfl, d2⟩; have HM2 := Aside0.mk ((d2.below.block gm (blk_lt HM.out)).trans HM.out); have HB2 := Aside0.mk (below_step HB.out d2.below); clear d2)
    | ((with_reducible refine gate_dst (N := 9) rfl ?_); refine build83 rfl rfl ?_)
    | ((with_reducible refine gate_dst (N := 10) rfl ?_); refine box83 rfl _ rfl rfl ?_; intro g eg w3 i3 b3; have HA := Aside0.mk (At.mk (w0 := w) i3 ((b3.block gm (blk_lt HM2.out)).trans HM2.out) (blk_lt HM2.out) (below_step HB2.out b3) HB2.out.size); clear i3 b3 eg)
    | (go_at_call 44; (refine (HY.out _ _ _ _ HA.out).mono ?_); rintro e4 w4 ⟨rfl, i4, f4⟩; have HM4 := Aside0.mk (f4.keep _ _ _ HA.out.box (by have := HA.out.lt; have := HA.out.wt.lt; omega) (by decide)); have HB4 := Aside0.mk (HA.out.below.trans (f4.below.mono HA.out.le)); obtain ⟨v4, h4, l4, o4⟩ := i4; obtain ⟨A4, c4, rfl⟩ := own_slice o4; have HG4 := Aside0.mk h4; have HO4 := Aside0.mk o4; have hcb := cell1 h4; have hc0 := cell0 h4; clear h4 o4 f4))
  go_ret2
  exact ⟨rfl, HB4.out⟩
set_option maxRecDepth 100000 in
set_option maxHeartbeats 8000000 in
theorem put_long (m : Mv) (h : Hd) (u : ByteArray) (w : World) (hk : msg_known.f m.f0 = some true) (hr : Reads w m h) (ht : m.unused.texts ≤ 9223372036854775807) (hl : m.unused.lists ≤ 9223372036854775807) (hy : Bodies m h w u false) (hz : m.unused.zero = true) (hs : 65532 < u.size) :
    Calls Try.prog 23 #[.agg (cells m h)] w fun ex w' => ex = .returned (.tuple #[.string ⟨#[]⟩, .int .i64 1700]) ∧ Below w.heap.size w w' := by
  have HK := Aside0.mk hk
  have HR := Aside0.mk hr
  have HY := Aside0.mk hy
  have HT := Aside0.mk ht
  have HL := Aside0.mk hl
  clear hk hr hy ht hl
  have hs1 : decide ((65532 : Int) < (u.size : Int)) = true := decide_eq_true (by omega)
  go_enter Try.func23, Try.ntmps23
  go_wp2_with (first
    | ((with_reducible refine gate_dst (N := 1) rfl ?_); refine box49 rfl rfl rfl ?_; intro gm e1 w1 h1 b1; have HM := Aside0.mk h1; have HB := Aside0.mk b1; have HE := Aside0.mk (blk_lt h1); clear h1 b1 e1)
    | ((with_reducible refine gate_dst (N := 6) rfl ?_); refine ld (v := .int .i64 m.f0) rfl rfl rfl HM.out Try.underlying3 rfl rfl ?_)
    | (go_at_call 43; (with_reducible refine (msg_known.calls m.f0 true _ HK.out).mono ?_); rintro e2 w2 ⟨rfl, d2⟩; have HM2 := Aside0.mk ((d2.below.block gm (blk_lt HM.out)).trans HM.out); have HB2 := Aside0.mk (below_step HB.out d2.below); clear d2)
    | ((with_reducible refine gate_dst (N := 9) rfl ?_); refine build83 rfl rfl ?_)
    | ((with_reducible refine gate_dst (N := 10) rfl ?_); refine box83 rfl _ rfl rfl ?_; intro g eg w3 i3 b3; have HA := Aside0.mk (At.mk (w0 := w) i3 ((b3.block gm (blk_lt HM2.out)).trans HM2.out) (blk_lt HM2.out) (below_step HB2.out b3) HB2.out.size); clear i3 b3 eg)
    | (go_at_call 44; (refine (HY.out _ _ _ _ HA.out).mono ?_); rintro e4 w4 ⟨rfl, i4, f4⟩; have HM4 := Aside0.mk (f4.keep _ _ _ HA.out.box (by have := HA.out.lt; have := HA.out.wt.lt; omega) (by decide)); have HB4 := Aside0.mk (HA.out.below.trans (f4.below.mono HA.out.le)); obtain ⟨v4, h4, l4, o4⟩ := i4; obtain ⟨A4, c4, rfl⟩ := own_slice o4; have HG4 := Aside0.mk h4; have HO4 := Aside0.mk o4; have hcb := cell1 h4; have hc0 := cell0 h4; clear h4 o4 f4)
    | ((with_reducible refine gate_dst (N := 18) rfl ?_); refine gate_guard rfl ?_; refine wpList_load_row rfl 49 _ rfl gm rfl 49 _ (0, 0) _ HM4.out Try.underlying49 rfl sz49 ?_)
    | (go_at_call 46; (with_reducible refine (unused_calls m h _).mono ?_); rintro e5 w5 ⟨rfl, b5⟩; have HG5 := Aside0.mk ((b5.block g (blk_lt HG4.out)).trans HG4.out); have HM5 := Aside0.mk ((b5.block gm (blk_lt HM4.out)).trans HM4.out); have HO5 := Aside0.mk (HO4.out.kept (grown_of_below b5 none) (by cases A4 <;> simp [Value.ownBlock])); have HB5 := Aside0.mk (below_step HB4.out b5); clear b5 hcb hc0)
    | (go_at_call 45; (with_reducible refine (zero_calls m.unused (h.unused m) _ (un_reads (HR.out.below HB5.out)) HT.out HL.out).mono ?_); rintro e6 w6 ⟨rfl, b6⟩; have HG6 := Aside0.mk ((b6.block g (blk_lt HG5.out)).trans HG5.out); have HM6 := Aside0.mk ((b6.block gm (blk_lt HM5.out)).trans HM5.out); have HO6 := Aside0.mk (HO5.out.kept (grown_of_below b6 none) (by cases A4 <;> simp [Value.ownBlock])); have HB6 := Aside0.mk (below_step HB5.out b6); have hc0 := cell0 HG6.out; clear b6))
  go_ret2
  exact ⟨rfl, HB6.out⟩
end Go.Proofs.Ytlkebjkpmiehcaa.Ms
end
section
namespace Go.Proofs.Ytlkebjkpmiehcaa.Ms
open Go.RowKit Go.Proofs.YtlkebjkpmiehcaaW.PrintWords Go.Proofs.YtlkebjkpmiehcaaW.PrintLast Go.Proofs.YtlkebjkpmiehcaaW.PrintMore Go.Proofs.Ytlkebjkpmiehcaa.X
set_option linter.unusedVariables false
def framed (k : Int) (u : ByteArray) : ByteArray := strOfNums [k % 256] ++ be3 u.size ++ u
set_option maxRecDepth 100000 in
set_option maxHeartbeats 8000000 in
theorem put_ok (m : Mv) (h : Hd) (u : ByteArray) (w : World) (hk : msg_known.f m.f0 = some true) (hr : Reads w m h) (ht : m.unused.texts ≤ 9223372036854775807) (hl : m.unused.lists ≤ 9223372036854775807) (hy : Bodies m h w u false) (hz : m.unused.zero = true) (hs : u.size ≤ 65532) :
    Calls Try.prog 23 #[.agg (cells m h)] w fun ex w' => ex = .returned (.tuple #[.string (framed m.f0 u), .int .i64 0]) ∧ Below w.heap.size w w' := by
  have HK := Aside0.mk hk
  have HR := Aside0.mk hr
  have HY := Aside0.mk hy
  have HT := Aside0.mk ht
  have HL := Aside0.mk hl
  clear hk hr hy ht hl
  have hs1 : decide ((65532 : Int) < (u.size : Int)) = false := decide_eq_false (by omega)
  obtain ⟨t, ht0⟩ : ∃ t, be3 u.size = t := ⟨_, rfl⟩
  have HBE := Aside0.mk (show wire_Bytes.f (u.size : Int) 3 = some t from by rw [← ht0]; exact be3_some _)
  obtain ⟨y, hy0⟩ : ∃ y : List Int, y = [m.f0 % 256] := ⟨_, rfl⟩
  have Ny := Aside0.mk hy0
  have hc1 : (strOfNums y).size + t.size ≤ 9223372036854775807 := by
    obtain ⟨r, h1, h2⟩ := bytes_some u.size 3 (by omega) (by omega)
    rw [HBE.out] at h1
    cases h1
    rw [hy0, h2]
    show 1 + 3 ≤ 9223372036854775807
    omega
  have c1 := eq_true hc1
  have c1f : (9223372036854775807 < (strOfNums y).size + t.size) = False := eq_false (Nat.not_lt.2 hc1)
  obtain ⟨z, hz0⟩ : ∃ z, strOfNums y ++ t = z := ⟨_, rfl⟩
  have hc2 : z.size + u.size ≤ 9223372036854775807 := by
    obtain ⟨r, h1, h2⟩ := bytes_some u.size 3 (by omega) (by omega)
    rw [HBE.out] at h1
    cases h1
    rw [← hz0, ByteArray.size_append, hy0, h2]
    have : (strOfNums [m.f0 % 256]).size = 1 := rfl
    omega
  have c2 := eq_true hc2
  have c2f : (9223372036854775807 < z.size + u.size) = False := eq_false (Nat.not_lt.2 hc2)
  obtain ⟨f, hf0⟩ : ∃ f, z ++ u = f := ⟨_, rfl⟩
  have Sf := Aside0.mk (show framed m.f0 u = f from by unfold framed; rw [ht0, ← hy0, hz0, hf0])
  clear ht0 hy0 hc1 hc2
  go_enter Try.func23, Try.ntmps23
  go_wp2_with (first
    | ((with_reducible refine gate_dst (N := 1) rfl ?_); refine box49 rfl rfl rfl ?_; intro gm e1 w1 h1 b1; have HM := Aside0.mk h1; have HB := Aside0.mk b1; have HE := Aside0.mk (blk_lt h1); clear h1 b1 e1)
    | ((with_reducible refine gate_dst (N := 6) rfl ?_); refine ld (v := .int .i64 m.f0) rfl rfl rfl HM.out Try.underlying3 rfl rfl ?_)
    | (go_at_call 43; (with_reducible refine (msg_known.calls m.f0 true _ HK.out).mono ?_); rintro e2 w2 ⟨rfl, d2⟩; have HM2 := Aside0.mk ((d2.below.block gm (blk_lt HM.out)).trans HM.out); have HB2 := Aside0.mk (below_step HB.out d2.below); clear d2)
    | ((with_reducible refine gate_dst (N := 9) rfl ?_); refine build83 rfl rfl ?_)
    | ((with_reducible refine gate_dst (N := 10) rfl ?_); refine box83 rfl _ rfl rfl ?_; intro g eg w3 i3 b3; have HA := Aside0.mk (At.mk (w0 := w) i3 ((b3.block gm (blk_lt HM2.out)).trans HM2.out) (blk_lt HM2.out) (below_step HB2.out b3) HB2.out.size); clear i3 b3 eg)
    | (go_at_call 44; (refine (HY.out _ _ _ _ HA.out).mono ?_); rintro e4 w4 ⟨rfl, i4, f4⟩; have HM4 := Aside0.mk (f4.keep _ _ _ HA.out.box (by have := HA.out.lt; have := HA.out.wt.lt; omega) (by decide)); have HB4 := Aside0.mk (HA.out.below.trans (f4.below.mono HA.out.le)); obtain ⟨v4, h4, l4, o4⟩ := i4; obtain ⟨A4, c4, rfl⟩ := own_slice o4; have HG4 := Aside0.mk h4; have HO4 := Aside0.mk o4; have hcb := cell1 h4; have hc0 := cell0 h4; clear h4 o4 f4)
    | ((with_reducible refine gate_dst (N := 18) rfl ?_); refine gate_guard rfl ?_; refine wpList_load_row rfl 49 _ rfl gm rfl 49 _ (0, 0) _ HM4.out Try.underlying49 rfl sz49 ?_)
    | (go_at_call 46; (with_reducible refine (unused_calls m h _).mono ?_); rintro e5 w5 ⟨rfl, b5⟩; have HG5 := Aside0.mk ((b5.block g (blk_lt HG4.out)).trans HG4.out); have HM5 := Aside0.mk ((b5.block gm (blk_lt HM4.out)).trans HM4.out); have HO5 := Aside0.mk (HO4.out.kept (grown_of_below b5 none) (by cases A4 <;> simp [Value.ownBlock])); have HB5 := Aside0.mk (below_step HB4.out b5); clear b5 hcb hc0)
    | (go_at_call 45; (with_reducible refine (zero_calls m.unused (h.unused m) _ (un_reads (HR.out.below HB5.out)) HT.out HL.out).mono ?_); rintro e6 w6 ⟨rfl, b6⟩; have HG6 := Aside0.mk ((b6.block g (blk_lt HG5.out)).trans HG5.out); have HM6 := Aside0.mk ((b6.block gm (blk_lt HM5.out)).trans HM5.out); have HO6 := Aside0.mk (HO5.out.kept (grown_of_below b6 none) (by cases A4 <;> simp [Value.ownBlock])); have HB6 := Aside0.mk (below_step HB5.out b6); have hc0 := cell0 HG6.out; clear b6))
  clear hc0
  refine start_ (n := 20) (S := fun w' => Below w6.heap.size w6 w') (ds := []) #[false, false, false, false, false, false, false, false, false, false, false, false, false, false, false, false, false, false, false, false] (by kernel_rfl) rfl rfl (Below.refl w6.heap.size w6).drew (fun hHeld => ?_)
  have HS7 := Aside0.mk (Below.refl w6.heap.size w6).drew
  generalize w6.drew = w7 at HS7 hHeld ⊢
  refine pure_ (i := 0) (N := (some 31)) (v := ?_) (a' := ?_) #[true, false, false, false, false, false, false, false, false, false, false, false, false, false, false, false, false, false, false, false] rfl rfl (by kernel_rfl) (fun _ _ _ h => h) (Or.inl ⟨by rfl, ?_⟩) ?_ ?_
  rotate_left
  · intro w'
    go_simp
    with_reducible rfl
  rotate_left
  · simp only [Act.put, List.setIfInBounds_toArray, List.set_cons_zero, List.set_cons_succ]
    rfl
  refine take_ (i := 1) (N := (some 32)) (v := ?_) (a' := ?_) #[true, true, false, false, false, false, false, false, false, false, false, false, false, false, false, false, false, false, false, false] rfl rfl (by kernel_rfl) (fun _ _ _ h => h) (Or.inl ⟨by rfl, ?_⟩) hHeld ?_ ?_
  rotate_left
  · rintro w' hS
    have hc : w'.cell? ⟨gm, 0, none⟩ = some (.int .i64 m.f0) := (blk_cell ((hS.block gm (blk_lt HM6.out)).trans HM6.out) 0).trans rfl
    go_simp
    with_reducible rfl
  rotate_left
  · simp only [Act.put, List.setIfInBounds_toArray, List.set_cons_zero, List.set_cons_succ]
    rfl
  refine pure_ (i := 2) (N := (some 33)) (v := ?_) (a' := ?_) #[true, true, true, false, false, false, false, false, false, false, false, false, false, false, false, false, false, false, false, false] rfl rfl (by kernel_rfl) (fun _ _ _ h => h) (Or.inl ⟨by rfl, ?_⟩) ?_ ?_
  rotate_left
  · intro w'
    go_simp
    with_reducible rfl
  rotate_left
  · simp only [Act.put, List.setIfInBounds_toArray, List.set_cons_zero, List.set_cons_succ]
    rfl
  refine pure_ (i := 5) (N := (some 36)) (v := ?_) (a' := ?_) #[true, true, true, false, false, true, false, false, false, false, false, false, false, false, false, false, false, false, false, false] rfl rfl (by kernel_rfl) (fun _ _ _ h => h) (Or.inl ⟨by rfl, ?_⟩) ?_ ?_
  rotate_left
  · intro w'
    go_simp
    with_reducible rfl
  rotate_left
  · simp only [Act.put, List.setIfInBounds_toArray, List.set_cons_zero, List.set_cons_succ]
    rfl
  refine pure_ (i := 6) (N := (some 37)) (v := ?_) (a' := ?_) #[true, true, true, false, false, true, true, false, false, false, false, false, false, false, false, false, false, false, false, false] rfl rfl (by kernel_rfl) (fun _ _ _ h => h) (Or.inl ⟨by rfl, ?_⟩) ?_ ?_
  rotate_left
  · intro w'
    go_simp
    with_reducible rfl
  rotate_left
  · simp only [Act.put, List.setIfInBounds_toArray, List.set_cons_zero, List.set_cons_succ]
    rfl
  refine pure_ (i := 7) (N := (some 38)) (v := ?_) (a' := ?_) #[true, true, true, false, false, true, true, true, false, false, false, false, false, false, false, false, false, false, false, false] rfl rfl (by kernel_rfl) (fun _ _ _ h => h) (Or.inl ⟨by rfl, ?_⟩) ?_ ?_
  rotate_left
  · intro w'
    go_simp
    with_reducible rfl
  rotate_left
  · simp only [Act.put, List.setIfInBounds_toArray, List.set_cons_zero, List.set_cons_succ]
    rfl
  refine take_ (i := 8) (N := (some 39)) (v := ?_) (a' := ?_) #[true, true, true, false, false, true, true, true, true, false, false, false, false, false, false, false, false, false, false, false] rfl rfl (by kernel_rfl) (fun _ _ _ h => h) (Or.inl ⟨by rfl, ?_⟩) hHeld ?_ ?_
  rotate_left
  · rintro w' hS
    have hc := cell0 ((hS.block g (blk_lt HG6.out)).trans HG6.out)
    go_simp
    with_reducible rfl
  rotate_left
  · simp only [Act.put, List.setIfInBounds_toArray, List.set_cons_zero, List.set_cons_succ]
    rfl
  refine pure_ (i := 9) (N := (some 40)) (v := ?_) (a' := ?_) #[true, true, true, false, false, true, true, true, true, true, false, false, false, false, false, false, false, false, false, false] rfl rfl (by kernel_rfl) (fun _ _ _ h => h) (Or.inl ⟨by rfl, ?_⟩) ?_ ?_
  rotate_left
  · intro w'
    go_simp
    with_reducible rfl
  rotate_left
  · simp only [Act.put, List.setIfInBounds_toArray, List.set_cons_zero, List.set_cons_succ]
    rfl
  refine pure_ (i := 12) (N := (some 43)) (v := ?_) (a' := ?_) #[true, true, true, false, false, true, true, true, true, true, false, false, true, false, false, false, false, false, false, false] rfl rfl (by kernel_rfl) (fun _ _ _ h => h) (Or.inl ⟨by rfl, ?_⟩) ?_ ?_
  rotate_left
  · intro w'
    go_simp
    with_reducible rfl
  rotate_left
  · simp only [Act.put, List.setIfInBounds_toArray, List.set_cons_zero, List.set_cons_succ]
    rfl
  refine pure_ (i := 13) (N := (some 44)) (v := ?_) (a' := ?_) #[true, true, true, false, false, true, true, true, true, true, false, false, true, true, false, false, false, false, false, false] rfl rfl (by kernel_rfl) (fun _ _ _ h => h) (Or.inl ⟨by rfl, ?_⟩) ?_ ?_
  rotate_left
  · intro w'
    go_simp
    with_reducible rfl
  rotate_left
  · simp only [Act.put, List.setIfInBounds_toArray, List.set_cons_zero, List.set_cons_succ]
    rfl
  refine pure_ (i := 14) (N := (some 45)) (v := ?_) (a' := ?_) #[true, true, true, false, false, true, true, true, true, true, false, false, true, true, true, false, false, false, false, false] rfl rfl (by kernel_rfl) (fun _ _ _ h => h) (Or.inl ⟨by rfl, ?_⟩) ?_ ?_
  rotate_left
  · intro w'
    go_simp
    with_reducible rfl
  rotate_left
  · simp only [Act.put, List.setIfInBounds_toArray, List.set_cons_zero, List.set_cons_succ]
    rfl
  refine take_ (i := 15) (N := (some 46)) (v := ?_) (a' := ?_) #[true, true, true, false, false, true, true, true, true, true, false, false, true, true, true, true, false, false, false, false] rfl rfl (by kernel_rfl) (fun _ _ _ h => h) (Or.inl ⟨by rfl, ?_⟩) hHeld ?_ ?_
  rotate_left
  · rintro w' hS
    have hc := cell0 ((hS.block g (blk_lt HG6.out)).trans HG6.out)
    go_simp
    with_reducible rfl
  rotate_left
  · simp only [Act.put, List.setIfInBounds_toArray, List.set_cons_zero, List.set_cons_succ]
    rfl
  refine take_ (i := 16) (N := (some 47)) (v := ?_) (a' := ?_) #[true, true, true, false, false, true, true, true, true, true, false, false, true, true, true, true, true, false, false, false] rfl rfl (by kernel_rfl) (fun _ _ _ h => h) (Or.inl ⟨by rfl, ?_⟩) hHeld ?_ ?_
  rotate_left
  · rintro w' hS
    have hcv := own_bytes (HO6.out.kept (grown_of_below hS none) (by cases A4 <;> simp [Value.ownBlock]))
    go_simp
    with_reducible rfl
  rotate_left
  · simp only [Act.put, List.setIfInBounds_toArray, List.set_cons_zero, List.set_cons_succ]
    rfl
  refine two_ (i := 3) (j := 10) (Ni := some 34) (Nj := some 41) #[true, true, true, true, false, true, true, true, true, true, false, false, true, true, true, true, true, false, false, false] #[true, true, true, false, false, true, true, true, true, true, true, false, true, true, true, true, true, false, false, false] rfl rfl rfl rfl (by kernel_rfl) (by decide) (by decide) (fun K hK => ?_) (fun K hK => ?_)
  · refine Kd.R_lit_step (Kd.int .u8) _ 5 ?hg (N := 34) ?hd (xs := ([(m.f0) % 256] : List Int)) (inner := [.int .u8 ((m.f0) % 256)]) (ok := fun _ => True) (okp := fun _ => True) ?hr ?hp (fun _ hk => hk) trivial (Below.refl _ _) (Nat.le_refl _) (by simp) ?_; (case hd => rfl); (case hg => rfl); (case hr => first | (go_simp; done) | (go_simp; rfl)); (case hp => exact (Reps.one (show Kd.M (Kd.int .u8) _ _ _ ((m.f0) % 256) [.int .u8 ((m.f0) % 256)] from rfl) (Reps.none _ _)))
    intro vy wy ho hb hg_ hnew_
    clear hg_ hnew_
    (first | rw [← Ny.out] at ho | (simp only [Int.reduceToNat] at ho; rw [← Ny.out] at ho))
    have HO := Aside0.mk ho
    have n_ := Aside0.mk (below_step HS7.out hb)
    clear HS7
    have HS7 := n_
    clear n_ ho hb
    refine hK.out _ _ HS7.out (fun hHeld => ?_)
    clear hK K
    refine norm_ (a' := ?_) ?_ ?_
    rotate_left
    · show Act.put _ (some 34) _ = _
      simp only [Act.put, List.setIfInBounds_toArray, List.set_cons_zero, List.set_cons_succ]
      rfl
    refine two_ (i := 4) (j := 10) (Ni := some 35) (Nj := some 41) #[true, true, true, true, true, true, true, true, true, true, false, false, true, true, true, true, true, false, false, false] #[true, true, true, true, false, true, true, true, true, true, true, false, true, true, true, true, true, false, false, false] rfl rfl rfl rfl (by kernel_rfl) (by decide) (by decide) (fun K hK => ?_) (fun K hK => ?_)
    · have hcv8 := own_string (P := Try.prog) Try.underlying39 Try.underlying5 Try.underlying9 (Kd.own_of_R HO.out)
      refine value_ (w1 := ?_) (v := ?_) (by rfl) rfl ?_ ?_
      rotate_left 2
      · go_simp
        constructor
        · rfl
        · rfl
      clear hcv8
      refine hK.out _ _ HS7.out (fun hHeld => ?_)
      clear hK K
      refine norm_ (a' := ?_) ?_ ?_
      rotate_left
      · show Act.put _ (some 35) _ = _
        simp only [Act.put, List.setIfInBounds_toArray, List.set_cons_zero, List.set_cons_succ]
        rfl
      refine one_ (i := 10) (N := (some 41)) #[true, true, true, true, true, true, true, true, true, true, true, false, true, true, true, true, true, false, false, false] rfl rfl (by kernel_rfl) (by decide) (fun K hK => ?_)
      refine goes_ Try.func47 (by kernel_rfl) rfl #[.int .i64 (u.size : Int), .int .i64 3] (by rfl) rfl rfl (by (try simp only [List.map_toArray, List.map_cons, List.map_nil]); first | done | rfl) ?_
      with_reducible refine (wire_Bytes.calls (u.size : Int) 3 t _ HBE.out).mono ?_
      rintro e wz ⟨rfl, hb⟩
      refine ⟨_, rfl, ?_⟩
      have n1_ := Aside0.mk (Kd.R_below HO.out hb)
      clear HO
      have HO := n1_
      clear n1_
      have n_ := Aside0.mk (below_step HS7.out hb)
      clear HS7
      have HS7 := n_
      clear n_ hb
      refine hK.out _ _ HS7.out (fun hHeld => ?_)
      clear hK K
      refine norm_ (a' := ?_) ?_ ?_
      rotate_left
      · show Act.put _ (some 41) _ = _
        simp only [Act.put, List.setIfInBounds_toArray, List.set_cons_zero, List.set_cons_succ]
        rfl
      refine pure_ (i := 11) (N := (some 42)) (v := ?_) (a' := ?_) #[true, true, true, true, true, true, true, true, true, true, true, true, true, true, true, true, true, false, false, false] rfl rfl (by kernel_rfl) (fun _ _ _ h => h) (Or.inl ⟨by rfl, ?_⟩) ?_ ?_
      rotate_left
      · intro w'
        go_simp
        with_reducible rfl
      rotate_left
      · simp only [Act.put, List.setIfInBounds_toArray, List.set_cons_zero, List.set_cons_succ]
        rfl
      refine pure_ (i := 17) (N := (some 48)) (v := ?_) (a' := ?_) #[true, true, true, true, true, true, true, true, true, true, true, true, true, true, true, true, true, true, false, false] rfl rfl (by kernel_rfl) (fun _ _ _ h => h) (Or.inl ⟨by rfl, ?_⟩) ?_ ?_
      rotate_left
      · intro w'
        go_simp
        with_reducible rfl
      rotate_left
      · simp only [Act.put, List.setIfInBounds_toArray, List.set_cons_zero, List.set_cons_succ]
        rfl
      refine pure_ (i := 18) (N := (some 2)) (v := ?_) (a' := ?_) #[true, true, true, true, true, true, true, true, true, true, true, true, true, true, true, true, true, true, true, false] rfl rfl (by kernel_rfl) (fun _ _ _ h => h) (Or.inl ⟨by rfl, ?_⟩) ?_ ?_
      rotate_left
      · intro w'
        go_simp
        with_reducible rfl
      rotate_left
      · simp only [Act.put, List.setIfInBounds_toArray, List.set_cons_zero, List.set_cons_succ]
        rfl
      refine pure_ (i := 19) (N := (some 3)) (v := ?_) (a' := ?_) #[true, true, true, true, true, true, true, true, true, true, true, true, true, true, true, true, true, true, true, true] rfl rfl (by kernel_rfl) (fun _ _ _ h => h) (Or.inl ⟨by rfl, ?_⟩) ?_ ?_
      rotate_left
      · intro w'
        go_simp
        with_reducible rfl
      rotate_left
      · simp only [Act.put, List.setIfInBounds_toArray, List.set_cons_zero, List.set_cons_succ]
        rfl
      refine done_ (by kernel_rfl) ?_
      go_wp2
      go_ret2
      exact ⟨by rw [Sf.out]; rfl, below_step HB6.out HS7.out⟩
    · refine goes_ Try.func47 (by kernel_rfl) rfl #[.int .i64 (u.size : Int), .int .i64 3] (by rfl) rfl rfl (by (try simp only [List.map_toArray, List.map_cons, List.map_nil]); first | done | rfl) ?_
      with_reducible refine (wire_Bytes.calls (u.size : Int) 3 t _ HBE.out).mono ?_
      rintro e wz ⟨rfl, hb⟩
      refine ⟨_, rfl, ?_⟩
      have n1_ := Aside0.mk (Kd.R_below HO.out hb)
      clear HO
      have HO := n1_
      clear n1_
      have n_ := Aside0.mk (below_step HS7.out hb)
      clear HS7
      have HS7 := n_
      clear n_ hb
      refine hK.out _ _ HS7.out (fun hHeld => ?_)
      clear hK K
      refine norm_ (a' := ?_) ?_ ?_
      rotate_left
      · show Act.put _ (some 41) _ = _
        simp only [Act.put, List.setIfInBounds_toArray, List.set_cons_zero, List.set_cons_succ]
        rfl
      refine one_ (i := 4) (N := (some 35)) #[true, true, true, true, true, true, true, true, true, true, true, false, true, true, true, true, true, false, false, false] rfl rfl (by kernel_rfl) (by decide) (fun K hK => ?_)
      have hcv8 := own_string (P := Try.prog) Try.underlying39 Try.underlying5 Try.underlying9 (Kd.own_of_R HO.out)
      refine value_ (w1 := ?_) (v := ?_) (by rfl) rfl ?_ ?_
      rotate_left 2
      · go_simp
        constructor
        · rfl
        · rfl
      clear hcv8
      refine hK.out _ _ HS7.out (fun hHeld => ?_)
      clear hK K
      refine norm_ (a' := ?_) ?_ ?_
      rotate_left
      · show Act.put _ (some 35) _ = _
        simp only [Act.put, List.setIfInBounds_toArray, List.set_cons_zero, List.set_cons_succ]
        rfl
      refine pure_ (i := 11) (N := (some 42)) (v := ?_) (a' := ?_) #[true, true, true, true, true, true, true, true, true, true, true, true, true, true, true, true, true, false, false, false] rfl rfl (by kernel_rfl) (fun _ _ _ h => h) (Or.inl ⟨by rfl, ?_⟩) ?_ ?_
      rotate_left
      · intro w'
        go_simp
        with_reducible rfl
      rotate_left
      · simp only [Act.put, List.setIfInBounds_toArray, List.set_cons_zero, List.set_cons_succ]
        rfl
      refine pure_ (i := 17) (N := (some 48)) (v := ?_) (a' := ?_) #[true, true, true, true, true, true, true, true, true, true, true, true, true, true, true, true, true, true, false, false] rfl rfl (by kernel_rfl) (fun _ _ _ h => h) (Or.inl ⟨by rfl, ?_⟩) ?_ ?_
      rotate_left
      · intro w'
        go_simp
        with_reducible rfl
      rotate_left
      · simp only [Act.put, List.setIfInBounds_toArray, List.set_cons_zero, List.set_cons_succ]
        rfl
      refine pure_ (i := 18) (N := (some 2)) (v := ?_) (a' := ?_) #[true, true, true, true, true, true, true, true, true, true, true, true, true, true, true, true, true, true, true, false] rfl rfl (by kernel_rfl) (fun _ _ _ h => h) (Or.inl ⟨by rfl, ?_⟩) ?_ ?_
      rotate_left
      · intro w'
        go_simp
        with_reducible rfl
      rotate_left
      · simp only [Act.put, List.setIfInBounds_toArray, List.set_cons_zero, List.set_cons_succ]
        rfl
      refine pure_ (i := 19) (N := (some 3)) (v := ?_) (a' := ?_) #[true, true, true, true, true, true, true, true, true, true, true, true, true, true, true, true, true, true, true, true] rfl rfl (by kernel_rfl) (fun _ _ _ h => h) (Or.inl ⟨by rfl, ?_⟩) ?_ ?_
      rotate_left
      · intro w'
        go_simp
        with_reducible rfl
      rotate_left
      · simp only [Act.put, List.setIfInBounds_toArray, List.set_cons_zero, List.set_cons_succ]
        rfl
      refine done_ (by kernel_rfl) ?_
      go_wp2
      go_ret2
      exact ⟨by rw [Sf.out]; rfl, below_step HB6.out HS7.out⟩
  · refine goes_ Try.func47 (by kernel_rfl) rfl #[.int .i64 (u.size : Int), .int .i64 3] (by rfl) rfl rfl (by (try simp only [List.map_toArray, List.map_cons, List.map_nil]); first | done | rfl) ?_
    with_reducible refine (wire_Bytes.calls (u.size : Int) 3 t _ HBE.out).mono ?_
    rintro e wz ⟨rfl, hb⟩
    refine ⟨_, rfl, ?_⟩
    have n_ := Aside0.mk (below_step HS7.out hb)
    clear HS7
    have HS7 := n_
    clear n_ hb
    refine hK.out _ _ HS7.out (fun hHeld => ?_)
    clear hK K
    refine norm_ (a' := ?_) ?_ ?_
    rotate_left
    · show Act.put _ (some 41) _ = _
      simp only [Act.put, List.setIfInBounds_toArray, List.set_cons_zero, List.set_cons_succ]
      rfl
    refine one_ (i := 3) (N := (some 34)) #[true, true, true, true, false, true, true, true, true, true, true, false, true, true, true, true, true, false, false, false] rfl rfl (by kernel_rfl) (by decide) (fun K hK => ?_)
    refine Kd.R_lit_step (Kd.int .u8) _ 5 ?hg (N := 34) ?hd (xs := ([(m.f0) % 256] : List Int)) (inner := [.int .u8 ((m.f0) % 256)]) (ok := fun _ => True) (okp := fun _ => True) ?hr ?hp (fun _ hk => hk) trivial (Below.refl _ _) (Nat.le_refl _) (by simp) ?_; (case hd => rfl); (case hg => rfl); (case hr => first | (go_simp; done) | (go_simp; rfl)); (case hp => exact (Reps.one (show Kd.M (Kd.int .u8) _ _ _ ((m.f0) % 256) [.int .u8 ((m.f0) % 256)] from rfl) (Reps.none _ _)))
    intro vy wy ho hb hg_ hnew_
    clear hg_ hnew_
    (first | rw [← Ny.out] at ho | (simp only [Int.reduceToNat] at ho; rw [← Ny.out] at ho))
    have HO := Aside0.mk ho
    have n_ := Aside0.mk (below_step HS7.out hb)
    clear HS7
    have HS7 := n_
    clear n_ ho hb
    refine hK.out _ _ HS7.out (fun hHeld => ?_)
    clear hK K
    refine norm_ (a' := ?_) ?_ ?_
    rotate_left
    · show Act.put _ (some 34) _ = _
      simp only [Act.put, List.setIfInBounds_toArray, List.set_cons_zero, List.set_cons_succ]
      rfl
    refine one_ (i := 4) (N := (some 35)) #[true, true, true, true, true, true, true, true, true, true, true, false, true, true, true, true, true, false, false, false] rfl rfl (by kernel_rfl) (by decide) (fun K hK => ?_)
    have hcv8 := own_string (P := Try.prog) Try.underlying39 Try.underlying5 Try.underlying9 (Kd.own_of_R HO.out)
    refine value_ (w1 := ?_) (v := ?_) (by rfl) rfl ?_ ?_
    rotate_left 2
    · go_simp
      constructor
      · rfl
      · rfl
    clear hcv8
    refine hK.out _ _ HS7.out (fun hHeld => ?_)
    clear hK K
    refine norm_ (a' := ?_) ?_ ?_
    rotate_left
    · show Act.put _ (some 35) _ = _
      simp only [Act.put, List.setIfInBounds_toArray, List.set_cons_zero, List.set_cons_succ]
      rfl
    refine pure_ (i := 11) (N := (some 42)) (v := ?_) (a' := ?_) #[true, true, true, true, true, true, true, true, true, true, true, true, true, true, true, true, true, false, false, false] rfl rfl (by kernel_rfl) (fun _ _ _ h => h) (Or.inl ⟨by rfl, ?_⟩) ?_ ?_
    rotate_left
    · intro w'
      go_simp
      with_reducible rfl
    rotate_left
    · simp only [Act.put, List.setIfInBounds_toArray, List.set_cons_zero, List.set_cons_succ]
      rfl
    refine pure_ (i := 17) (N := (some 48)) (v := ?_) (a' := ?_) #[true, true, true, true, true, true, true, true, true, true, true, true, true, true, true, true, true, true, false, false] rfl rfl (by kernel_rfl) (fun _ _ _ h => h) (Or.inl ⟨by rfl, ?_⟩) ?_ ?_
    rotate_left
    · intro w'
      go_simp
      with_reducible rfl
    rotate_left
    · simp only [Act.put, List.setIfInBounds_toArray, List.set_cons_zero, List.set_cons_succ]
      rfl
    refine pure_ (i := 18) (N := (some 2)) (v := ?_) (a' := ?_) #[true, true, true, true, true, true, true, true, true, true, true, true, true, true, true, true, true, true, true, false] rfl rfl (by kernel_rfl) (fun _ _ _ h => h) (Or.inl ⟨by rfl, ?_⟩) ?_ ?_
    rotate_left
    · intro w'
      go_simp
      with_reducible rfl
    rotate_left
    · simp only [Act.put, List.setIfInBounds_toArray, List.set_cons_zero, List.set_cons_succ]
      rfl
    refine pure_ (i := 19) (N := (some 3)) (v := ?_) (a' := ?_) #[true, true, true, true, true, true, true, true, true, true, true, true, true, true, true, true, true, true, true, true] rfl rfl (by kernel_rfl) (fun _ _ _ h => h) (Or.inl ⟨by rfl, ?_⟩) ?_ ?_
    rotate_left
    · intro w'
      go_simp
      with_reducible rfl
    rotate_left
    · simp only [Act.put, List.setIfInBounds_toArray, List.set_cons_zero, List.set_cons_succ]
      rfl
    refine done_ (by kernel_rfl) ?_
    go_wp2
    go_ret2
    exact ⟨by rw [Sf.out]; rfl, below_step HB6.out HS7.out⟩
end Go.Proofs.Ytlkebjkpmiehcaa.Ms
end
section
namespace Go.Proofs.Ytlkebjkpmiehcaa.X
open Go.RowKit Go.Proofs.YtlkebjkpmiehcaaW.PrintWords Go.Proofs.YtlkebjkpmiehcaaW.PrintLast Go.Proofs.YtlkebjkpmiehcaaW.PrintMore
attribute [local go_sem] max2_int min2_int max_two min_two max_three min_three max_four min_four   
set_option linter.unusedVariables false
set_option linter.unusedSimpArgs false
theorem eqA41 (d : Nat) (w : World) (x0 y0 : Int) (x1 y1 : ByteArray) :
    (Op.equalIn (d + 2) 41 (.agg #[.int .i64 x0, .string x1]) (.agg #[.int .i64 y0, .string y1])).run Try.prog w = .ok (x0 == y0 && (x1.toList == y1.toList)) w := by
  refine eqA_of Try.underlying41 (by kernel_rfl) ?_
  refine eqf_cons (by rfl) (by go_simp; rfl) (by go_simp; rfl) (by go_simp) ?_
  exact eqf_last (by rfl) (by go_simp; rfl) (by go_simp; rfl) (by go_simp)
end Go.Proofs.Ytlkebjkpmiehcaa.X
end
section
namespace Go.Proofs.Ytlkebjkpmiehcaa.X
open Go.RowKit Go.Proofs.YtlkebjkpmiehcaaW.PrintWords Go.Proofs.YtlkebjkpmiehcaaW.PrintLast Go.Proofs.YtlkebjkpmiehcaaW.PrintMore
attribute [local go_sem] max2_int min2_int max_two min_two max_three min_three max_four min_four   
set_option linter.unusedVariables false
set_option linter.unusedSimpArgs false
attribute [local go_sem high] eqA41
def halberdlaw0_SameExts.l0 : Nat → List (S41) → List (S41) → Int → Option (Bool)
  | 0, _, _, _ => none
  | k + 1, x0, x1, x5 => if x5 < (x0.length : Int) then (if 0 ≤ x5 then (if x5 < (x1.length : Int) then (if (!(((rd_T41 x0 x5).f0) == ((rd_T41 x1 x5).f0)) || (!((((rd_T41 x0 x5).f1).toList) == (((rd_T41 x1 x5).f1).toList)))) = true then (some false) else (halberdlaw0_SameExts.l0 k x0 x1 (wrap64 (x5 + 1)))) else (none)) else (none)) else (some true)
def halberdlaw0_SameExts.f (k : Nat) (l0 : List (S41)) (l1 : List (S41)) : Option (Bool) := if (l0.length : Int) = (l1.length : Int) then (halberdlaw0_SameExts.l0 k l0 l1 0) else (some false)
theorem halberdlaw0_SameExts.mono_l : ∀ k, (∀ y0 y1 y2, LeO (halberdlaw0_SameExts.l0 k y0 y1 y2) (halberdlaw0_SameExts.l0 (k + 1) y0 y1 y2))
  | 0 => fun _ _ _ r h => by simp [halberdlaw0_SameExts.l0] at h
  | k + 1 => by
    have ih0 := halberdlaw0_SameExts.mono_l k
    · intro y0 y1 y2
      unfold halberdlaw0_SameExts.l0
      repeat' first
      | (with_reducible exact ih0 _ _ _)
      | (with_reducible exact LeO.refl _)
      | (with_reducible exact LeO.none _)
      | (with_reducible refine LeO.ite ?_ ?_)
      | (with_reducible refine LeO.bind ?_ (fun _ => ?_))
      | exact ih0 _ _ _
      | exact LeO.none _
      | refine LeO.ite ?_ ?_
      | refine LeO.bind ?_ (fun _ => ?_)
theorem halberdlaw0_SameExts.mono : ∀ a0 a1 k, LeO (halberdlaw0_SameExts.f k a0 a1) (halberdlaw0_SameExts.f (k + 1) a0 a1) := by
  intro a0 a1 k
  have ih0 := halberdlaw0_SameExts.mono_l k
  unfold halberdlaw0_SameExts.f
  repeat' first
      | (with_reducible exact ih0 _ _ _)
      | (with_reducible exact LeO.refl _)
      | (with_reducible exact LeO.none _)
      | (with_reducible refine LeO.ite ?_ ?_)
      | (with_reducible refine LeO.bind ?_ (fun _ => ?_))
      | exact ih0 _ _ _
      | exact LeO.none _
      | refine LeO.ite ?_ ?_
      | refine LeO.bind ?_ (fun _ => ?_)
set_option maxHeartbeats 8000000 in
set_option maxRecDepth 100000 in
theorem halberdlaw0_SameExts.calls (k : Nat) (A0 : Option Addr) (c0 : Nat) (l0 : List (S41)) (A1 : Option Addr) (c1 : Nat) (l1 : List (S41)) (r : Bool) (w : World) (hr0 : Kd.C k41 w A0 l0.length l0) (hc0 : l0.length ≤ c0) (hr1 : Kd.C k41 w A1 l1.length l1) (hc1 : l1.length ≤ c1) (h : halberdlaw0_SameExts.f k l0 l1 = some r) :
    Calls Try.prog 17 #[.slice A0 l0.length c0, .slice A1 l1.length c1] w fun e w' => e = .returned (.bool r) ∧ Drawn0 w w' := by
  have hu41 := Try.underlying41
  have HR0 := Aside0.mk hr0
  have HC0 := Aside0.mk hc0
  clear hr0 hc0
  have HR1 := Aside0.mk hr1
  have HC1 := Aside0.mk hc1
  clear hr1 hc1
  have H : (if (l0.length : Int) = (l1.length : Int) then (halberdlaw0_SameExts.l0 k l0 l1 0) else (some false)) = some r := h
  clear h
  by_cases c3 : (l0.length : Int) = (l1.length : Int)
  · rw [if_pos c3] at H
    have c3b0 : ((l0.length : Int) == (l1.length : Int)) = true := beq_iff_eq.mpr c3
    have c3b1 : ((l0.length : Int) != (l1.length : Int)) = false := bne_eq_false_iff_eq.mpr c3
    have c3b2 : (l0.length == l1.length) = true := by first | simpa using c3 | (simp at c3 ⊢; omega)
    clear c3
    have H' := Aside0.mk H
    clear H
    go_enter Try.func17, Try.ntmps17
    go_wp2
    repeat (go_quiet (fail); try go_wp2)
    go_loopg [5] k (fun kq v5 w' => ∃ (x5_1 : Int), v5 = .int .i64 x5_1 ∧ Aside0 (halberdlaw0_SameExts.l0 kq l0 l1 x5_1 = some r) ∧ Aside0 (kq ≤ k) ∧ Drawn0 w w')
    case atStart => exact ⟨(0), (by first | rfl | (simp; done) | (simp [*]; done)), H', ⟨Nat.le_refl _⟩, by repeat (first | exact Drawn0.refl _ | apply Drawn0.step)⟩
    case round =>
      clear H'
      try clear c1
      try clear p2
      try clear c3
      try clear c3b0
      try clear c3b1
      try clear c3b2
      obtain ⟨x5_1, rfl, HA, HK1, ⟨m1, rfl⟩⟩ := hrel
      cases gk with
      | zero => exact absurd HA.out (by simp [halberdlaw0_SameExts.l0])
      | succ k1 =>
        have H := HA.out
        clear HA
        simp only [halberdlaw0_SameExts.l0] at H
        by_cases c4 : x5_1 < (l0.length : Int)
        · rw [if_pos c4] at H
          have c4b0 : decide (x5_1 < (l0.length : Int)) = true := decide_eq_true c4
          clear c4
          by_cases c5 : 0 ≤ x5_1
          · rw [if_pos c5] at H
            have c5b0 : decide (0 ≤ x5_1) = true := decide_eq_true c5
            clear c5
            by_cases c6 : x5_1 < (l1.length : Int)
            · rw [if_pos c6] at H
              have c6b0 : decide (x5_1 < (l1.length : Int)) = true := decide_eq_true c6
              clear c6
              by_cases c7 : (!(((rd_T41 l0 x5_1).f0) == ((rd_T41 l1 x5_1).f0)) || (!((((rd_T41 l0 x5_1).f1).toList) == (((rd_T41 l1 x5_1).f1).toList)))) = true
              · rw [if_pos c7] at H
                have c7b0 : (!(((rd_T41 l0 x5_1).f0) == ((rd_T41 l1 x5_1).f0)) || (!((((rd_T41 l0 x5_1).f1).toList) == (((rd_T41 l1 x5_1).f1).toList)))) = true := c7
                clear c7
                obtain rfl := Option.some.inj H
                have p189 : 0 ≤ (x5_1 : Int) := of_decide_eq_true (by first | (with_reducible assumption) | assumption)
                have q189 : x5_1 < (l0.length : Int) := of_decide_eq_true (by first | (with_reducible assumption) | assumption)
                obtain ⟨ad189, e189, hx189_0, hx189_1⟩ := at_T41 HR0.out x5_1 p189 q189
                cases e189
                replace p189 := eq_true p189
                replace q189 := eq_true q189
                have p190 : 0 ≤ (x5_1 : Int) := of_decide_eq_true (by first | (with_reducible assumption) | assumption)
                have q190 : x5_1 < (l1.length : Int) := of_decide_eq_true (by first | (with_reducible assumption) | assumption)
                obtain ⟨ad190, e190, hx190_0, hx190_1⟩ := at_T41 HR1.out x5_1 p190 q190
                cases e190
                replace p190 := eq_true p190
                replace q190 := eq_true q190
                go_wp2
                repeat (go_quiet (fail); try go_wp2)
                go_ret
                exact ⟨by first | rfl | (simp; done) | (simp [*]; done), by repeat (first | exact Drawn0.refl _ | apply Drawn0.step)⟩
              · rw [if_neg c7] at H
                have c7b0 : (!(((rd_T41 l0 x5_1).f0) == ((rd_T41 l1 x5_1).f0)) || (!((((rd_T41 l0 x5_1).f1).toList) == (((rd_T41 l1 x5_1).f1).toList)))) = false := by simpa using c7
                clear c7
                have H' := Aside0.mk H
                clear H
                have p189 : 0 ≤ (x5_1 : Int) := of_decide_eq_true (by first | (with_reducible assumption) | assumption)
                have q189 : x5_1 < (l0.length : Int) := of_decide_eq_true (by first | (with_reducible assumption) | assumption)
                obtain ⟨ad189, e189, hx189_0, hx189_1⟩ := at_T41 HR0.out x5_1 p189 q189
                cases e189
                replace p189 := eq_true p189
                replace q189 := eq_true q189
                have p190 : 0 ≤ (x5_1 : Int) := of_decide_eq_true (by first | (with_reducible assumption) | assumption)
                have q190 : x5_1 < (l1.length : Int) := of_decide_eq_true (by first | (with_reducible assumption) | assumption)
                obtain ⟨ad190, e190, hx190_0, hx190_1⟩ := at_T41 HR1.out x5_1 p190 q190
                cases e190
                replace p190 := eq_true p190
                replace q190 := eq_true q190
                go_wp2
                repeat (go_quiet (fail); try go_wp2)
                go_roundg k1
                case measure => have := HK1.out; omega
                case rel => exact ⟨(wrap64 (x5_1 + 1)), (by first | rfl | (simp; done) | (simp [*]; done)), H', ⟨by have := HK1.out; omega⟩, by repeat (first | exact Drawn0.refl _ | apply Drawn0.step)⟩
            · rw [if_neg c6] at H
              exact absurd H (by simp)
          · rw [if_neg c5] at H
            exact absurd H (by simp)
        · rw [if_neg c4] at H
          have c4b0 : decide (x5_1 < (l0.length : Int)) = false := decide_eq_false c4
          clear c4
          obtain rfl := Option.some.inj H
          go_wp2
          repeat (go_quiet (fail); try go_wp2)
          go_ret
          exact ⟨by first | rfl | (simp; done) | (simp [*]; done), by repeat (first | exact Drawn0.refl _ | apply Drawn0.step)⟩
  · rw [if_neg c3] at H
    have c3b0 : ((l0.length : Int) == (l1.length : Int)) = false := beq_eq_false_iff_ne.mpr c3
    have c3b1 : ((l0.length : Int) != (l1.length : Int)) = true := bne_iff_ne.mpr c3
    have c3b2 : (l0.length == l1.length) = false := by first | simpa using c3 | (simp at c3 ⊢; omega)
    obtain rfl := Option.some.inj H
    go_enter Try.func17, Try.ntmps17
    go_wp2
    repeat (go_quiet (fail); try go_wp2)
    go_ret
    exact ⟨by first | rfl | (simp; done) | (simp [*]; done), by repeat (first | exact Drawn0.refl _ | apply Drawn0.step)⟩
def halberdlaw0_Num.f (a0 : Int) : Option (Int) := some a0
set_option maxHeartbeats 8000000 in
set_option maxRecDepth 100000 in
theorem halberdlaw0_Num.calls (a0 : Int) (r : Int) (w : World) (h : halberdlaw0_Num.f a0 = some r) :
    Calls Try.prog 18 #[.int .i64 a0] w fun e w' => e = .returned (.int .i64 r) ∧ Drawn0 w w' := by
  have H : (some a0) = some r := h
  clear h
  obtain rfl := Option.some.inj H
  go_enter Try.func18, Try.ntmps18
  go_wp2
  go_ret
  exact ⟨by first | rfl | (simp; done) | (simp [*]; done), by repeat (first | exact Drawn0.refl _ | apply Drawn0.step)⟩
def halberdlaw0_KeptExts.f (k : Nat) (l0 : List (S41)) (l1 : List (S41)) : Option (Bool) := if 0 ≤ (wrap64 ((l0.length : Int) + 2)) then (if (wrap64 ((l0.length : Int) + 2)) ≤ (l0.length : Int) then ((some (l0.take ((wrap64 ((l0.length : Int) + 2)) : Int).toNat : List (S41))).bind fun y191 => ((halberdlaw0_SameExts.f k l0 l1).bind fun t195 => (if t195 = true then (if 0 ≤ (l1.length : Int) then (if (l1.length : Int) < (y191.length : Int) then (if (((rd_T41 y191 (l1.length : Int)).f0) == 77777 && ((((rd_T41 y191 (l1.length : Int)).f1).toList).isEmpty)) = true then (if 0 ≤ (wrap64 ((l1.length : Int) + 1)) then (if (wrap64 ((l1.length : Int) + 1)) < (y191.length : Int) then (some (((rd_T41 y191 (wrap64 ((l1.length : Int) + 1))).f0) == 77777 && ((((rd_T41 y191 (wrap64 ((l1.length : Int) + 1))).f1).toList).isEmpty))) else (none)) else (none)) else (some false)) else (none)) else (none)) else (some false)))) else (none)) else (none)
theorem halberdlaw0_KeptExts.mono : ∀ a0 a1 k, LeO (halberdlaw0_KeptExts.f k a0 a1) (halberdlaw0_KeptExts.f (k + 1) a0 a1) := by
  intro a0 a1 k
  unfold halberdlaw0_KeptExts.f
  repeat' first
      | (with_reducible exact halberdlaw0_SameExts.mono _ _ _)
      | (with_reducible exact LeO.refl _)
      | (with_reducible exact LeO.none _)
      | (with_reducible refine LeO.ite ?_ ?_)
      | (with_reducible refine LeO.bind ?_ (fun _ => ?_))
      | exact halberdlaw0_SameExts.mono _ _ _
      | exact LeO.none _
      | refine LeO.ite ?_ ?_
      | refine LeO.bind ?_ (fun _ => ?_)
set_option maxHeartbeats 8000000 in
set_option maxRecDepth 100000 in
theorem halberdlaw0_KeptExts.calls (k : Nat) (A0 : Option Addr) (c0 : Nat) (l0 : List (S41)) (A1 : Option Addr) (c1 : Nat) (l1 : List (S41)) (r : Bool) (w : World) (hr0 : Kd.C k41 w A0 l0.length l0) (hc0 : l0.length ≤ c0) (hr1 : Kd.C k41 w A1 l1.length l1) (hc1 : l1.length ≤ c1) (h : halberdlaw0_KeptExts.f k l0 l1 = some r) :
    Calls Try.prog 19 #[.slice A0 l0.length c0, .slice A1 l1.length c1] w fun e w' => e = .returned (.bool r) ∧ Drawn0 w w' := by
  have hu41 := Try.underlying41
  have HR0 := Aside0.mk hr0
  have HC0 := Aside0.mk hc0
  clear hr0 hc0
  have HR1 := Aside0.mk hr1
  have HC1 := Aside0.mk hc1
  clear hr1 hc1
  have H : (if 0 ≤ (wrap64 ((l0.length : Int) + 2)) then (if (wrap64 ((l0.length : Int) + 2)) ≤ (l0.length : Int) then ((some (l0.take ((wrap64 ((l0.length : Int) + 2)) : Int).toNat : List (S41))).bind fun y191 => ((halberdlaw0_SameExts.f k l0 l1).bind fun t195 => (if t195 = true then (if 0 ≤ (l1.length : Int) then (if (l1.length : Int) < (y191.length : Int) then (if (((rd_T41 y191 (l1.length : Int)).f0) == 77777 && ((((rd_T41 y191 (l1.length : Int)).f1).toList).isEmpty)) = true then (if 0 ≤ (wrap64 ((l1.length : Int) + 1)) then (if (wrap64 ((l1.length : Int) + 1)) < (y191.length : Int) then (some (((rd_T41 y191 (wrap64 ((l1.length : Int) + 1))).f0) == 77777 && ((((rd_T41 y191 (wrap64 ((l1.length : Int) + 1))).f1).toList).isEmpty))) else (none)) else (none)) else (some false)) else (none)) else (none)) else (some false)))) else (none)) else (none)) = some r := h
  clear h
  obtain ⟨ji3, hji3⟩ : ∃ j_ : Int, (wrap64 ((l0.length : Int) + 2)) = j_ := ⟨_, rfl⟩
  replace H : (if 0 ≤ (ji3) then (if (ji3) ≤ (l0.length : Int) then ((some (l0.take ((ji3) : Int).toNat : List (S41))).bind fun y191 => ((halberdlaw0_SameExts.f k l0 l1).bind fun t195 => (if t195 = true then (if 0 ≤ (l1.length : Int) then (if (l1.length : Int) < (y191.length : Int) then (if (((rd_T41 y191 (l1.length : Int)).f0) == 77777 && ((((rd_T41 y191 (l1.length : Int)).f1).toList).isEmpty)) = true then (if 0 ≤ (wrap64 ((l1.length : Int) + 1)) then (if (wrap64 ((l1.length : Int) + 1)) < (y191.length : Int) then (some (((rd_T41 y191 (wrap64 ((l1.length : Int) + 1))).f0) == 77777 && ((((rd_T41 y191 (wrap64 ((l1.length : Int) + 1))).f1).toList).isEmpty))) else (none)) else (none)) else (some false)) else (none)) else (none)) else (some false)))) else (none)) else (none)) = some r := by first | (rw [hji3] at H; exact H) | (simp only [hji3] at H ⊢; exact H)
  have hji3w : (IntKind.i64.wrap ((l0.length : Int) + 2)) = ji3 := (i64_w _).trans hji3
  by_cases c4 : 0 ≤ (ji3)
  · rw [if_pos c4] at H
    have c4b0 := eq_true c4
    have c4b1 : decide (0 ≤ (ji3)) = true := decide_eq_true c4
    clear c4
    by_cases c5 : (ji3) ≤ (l0.length : Int)
    · rw [if_pos c5] at H
      have c5b0 := eq_true c5
      have c5b1 : decide ((ji3) ≤ (l0.length : Int)) = true := decide_eq_true c5
      clear c5
      obtain ⟨y191, hy191⟩ : ∃ y_ : List (S41), y_ = (l0.take ((ji3) : Int).toNat) := ⟨_, rfl⟩
      replace H : ((halberdlaw0_SameExts.f k l0 l1).bind fun t195 => (if t195 = true then (if 0 ≤ (l1.length : Int) then (if (l1.length : Int) < (y191.length : Int) then (if (((rd_T41 y191 (l1.length : Int)).f0) == 77777 && ((((rd_T41 y191 (l1.length : Int)).f1).toList).isEmpty)) = true then (if 0 ≤ (wrap64 ((l1.length : Int) + 1)) then (if (wrap64 ((l1.length : Int) + 1)) < (y191.length : Int) then (some (((rd_T41 y191 (wrap64 ((l1.length : Int) + 1))).f0) == 77777 && ((((rd_T41 y191 (wrap64 ((l1.length : Int) + 1))).f1).toList).isEmpty))) else (none)) else (none)) else (some false)) else (none)) else (none)) else (some false))) = some r := by first | (rw [hy191]; with_reducible exact H) | (have H2_ := (Option.bind_some _ _).symm.trans H; rw [hy191]; with_reducible exact H2_) | (have H2_ := (Option.bind_some _ _).symm.trans H; with_reducible exact H2_) | with_reducible exact H | (rw [hy191]; exact H) | exact H
      have Ny191 := Aside0.mk hy191
      clear hy191
      replace H := Option.bind_eq_some_iff.mp H
      obtain ⟨t195, A60, H⟩ := H
      replace H : (if t195 = true then (if 0 ≤ (l1.length : Int) then (if (l1.length : Int) < (y191.length : Int) then (if (((rd_T41 y191 (l1.length : Int)).f0) == 77777 && ((((rd_T41 y191 (l1.length : Int)).f1).toList).isEmpty)) = true then (if 0 ≤ (wrap64 ((l1.length : Int) + 1)) then (if (wrap64 ((l1.length : Int) + 1)) < (y191.length : Int) then (some (((rd_T41 y191 (wrap64 ((l1.length : Int) + 1))).f0) == 77777 && ((((rd_T41 y191 (wrap64 ((l1.length : Int) + 1))).f1).toList).isEmpty))) else (none)) else (none)) else (some false)) else (none)) else (none)) else (some false)) = some r := H
      have A6 := Aside0.mk A60
      clear A60
      by_cases c7 : t195 = true
      · subst c7
        have H1 : (if 0 ≤ (l1.length : Int) then (if (l1.length : Int) < (y191.length : Int) then (if (((rd_T41 y191 (l1.length : Int)).f0) == 77777 && ((((rd_T41 y191 (l1.length : Int)).f1).toList).isEmpty)) = true then (if 0 ≤ (wrap64 ((l1.length : Int) + 1)) then (if (wrap64 ((l1.length : Int) + 1)) < (y191.length : Int) then (some (((rd_T41 y191 (wrap64 ((l1.length : Int) + 1))).f0) == 77777 && ((((rd_T41 y191 (wrap64 ((l1.length : Int) + 1))).f1).toList).isEmpty))) else (none)) else (none)) else (some false)) else (none)) else (none)) = some r := by rw [if_pos rfl] at H; exact H
        clear H
        have H := H1
        clear H1
        by_cases c8 : 0 ≤ (l1.length : Int)
        · rw [if_pos c8] at H
          have c8b0 : decide (0 ≤ (l1.length : Int)) = true := decide_eq_true c8
          have c8b1 : decide (0 ≤ l1.length) = true := decide_eq_true (by omega)
          clear c8
          by_cases c9 : (l1.length : Int) < (y191.length : Int)
          · rw [if_pos c9] at H
            have c9b0 : decide ((l1.length : Int) < (y191.length : Int)) = true := decide_eq_true c9
            have c9b1 : decide (l1.length < y191.length) = true := decide_eq_true (Int.ofNat_lt.mp c9)
            clear c9
            by_cases c10 : (((rd_T41 y191 (l1.length : Int)).f0) == 77777 && ((((rd_T41 y191 (l1.length : Int)).f1).toList).isEmpty)) = true
            · rw [if_pos c10] at H
              have c10b0 : (((rd_T41 y191 (l1.length : Int)).f0) == 77777 && ((((rd_T41 y191 (l1.length : Int)).f1).toList).isEmpty)) = true := c10
              (try (have c10b1 : decide (((rd_T41 y191 (l1.length : Int)).f0) = 77777 && ((((rd_T41 y191 (l1.length : Int)).f1).toList).isEmpty)) = true := by simpa using c10))
              (try (have c10b2 : (((rd_T41 y191 (l1.length : Int)).f0) == 77777 && ((((rd_T41 y191 (l1.length : Int)).f1).toList).isEmpty)) = true := by simpa using c10))
              clear c10
              obtain ⟨ji11, hji11⟩ : ∃ j_ : Int, (wrap64 ((l1.length : Int) + 1)) = j_ := ⟨_, rfl⟩
              replace H : (if 0 ≤ (ji11) then (if (ji11) < (y191.length : Int) then (some (((rd_T41 y191 (ji11)).f0) == 77777 && ((((rd_T41 y191 (ji11)).f1).toList).isEmpty))) else (none)) else (none)) = some r := by first | (rw [hji11] at H; exact H) | (simp only [hji11] at H ⊢; exact H)
              (try rw [hji11] at A6)
              have hji11w : (IntKind.i64.wrap ((l1.length : Int) + 1)) = ji11 := (i64_w _).trans hji11
              by_cases c12 : 0 ≤ (ji11)
              · rw [if_pos c12] at H
                have c12b0 : decide (0 ≤ (ji11)) = true := decide_eq_true c12
                clear c12
                by_cases c13 : (ji11) < (y191.length : Int)
                · rw [if_pos c13] at H
                  have c13b0 : decide ((ji11) < (y191.length : Int)) = true := decide_eq_true c13
                  clear c13
                  obtain rfl := Option.some.inj H
                  have q14 : ((ji3) : Int) ≤ ((l0.length : Int) : Int) := of_decide_eq_true (by first | (with_reducible assumption) | assumption)
                  obtain ⟨i014, hi014, _, hsz14, _⟩ := info_parts info41
                  have hroom14 : l0.length ≤ c0 := HC0.out
                  have hC14 : Kd.C k41 _ A0 l0.length l0 := HR0.out
                  have hcut14 := cut_to (P := Try.prog) 22 41 .i64 Try.underlying22 hi014 A0 l0.length c0 (ji3) (of_decide_eq_true (by first | (with_reducible assumption) | assumption)) q14 hroom14
                  have hr14 := Kd.C_take (m := ((ji3) : Int).toNat) hC14 (by omega)
                  have hy14 : y191.length = ((ji3) : Int).toNat := (by rw [Ny191.out, List.length_take]; omega)
                  rw [← Ny191.out] at hr14
                  rw [← hy14] at hcut14
                  have HR194 := Aside0.mk hr14
                  have HC194 := Aside0.mk (show y191.length ≤ c0 from by omega)
                  clear hr14 hC14 hroom14 hi014 hsz14
                  have KY14 := Aside0.mk hy14
                  clear hy14
                  replace q14 := eq_true q14
                  go_enter Try.func19, Try.ntmps19
                  go_wp2_with (first | ((with_reducible refine gate_callee (f := 17) rfl ?_); refine goesL_ (some 13) rfl rfl Try.func17 (by kernel_rfl) rfl #[.slice A0 l0.length c0, .slice A1 l1.length c1] rfl (by (try simp only [List.map_toArray, List.map_cons, List.map_nil]); first | done | rfl | (simp only [List.length_drop, List.length_take]; rfl)) ?_; (with_reducible refine (halberdlaw0_SameExts.calls k _ _ l0 _ _ l1 true _ ?side1 ?side2 ?side3 ?side4 A6.out).mono ?_); (case side1 => repeat (first | exact HR0.out | (with_reducible refine Kd.C_alloc ?_ _) | (with_reducible refine Kd.C_drewN ?_ _) | (with_reducible refine Kd.C_drew ?_))); (case side2 => exact HC0.out); (case side3 => repeat (first | exact HR1.out | (with_reducible refine Kd.C_alloc ?_ _) | (with_reducible refine Kd.C_drewN ?_ _) | (with_reducible refine Kd.C_drew ?_))); (case side4 => exact HC1.out); rintro e w' ⟨rfl, ⟨nd, rfl⟩⟩; refine ⟨_, rfl, ?_⟩; have p196 : 0 ≤ ((l1.length : Int) : Int) := of_decide_eq_true (by first | (with_reducible assumption) | assumption); have q196 : (l1.length : Int) < (y191.length : Int) := of_decide_eq_true (by first | (with_reducible assumption) | assumption); obtain ⟨ad196, e196, hx196_0, hx196_1⟩ := at_T41 HR194.out (l1.length : Int) p196 q196; cases e196; (try simp only [Go.IntWalk.toNatUp] at hx196_0); (try simp only [Go.IntWalk.toNatUp] at hx196_1); replace p196 := eq_true p196; replace q196 := eq_true q196; have p197 : 0 ≤ ((ji11) : Int) := of_decide_eq_true (by first | (with_reducible assumption) | assumption); have q197 : (ji11) < (y191.length : Int) := of_decide_eq_true (by first | (with_reducible assumption) | assumption); obtain ⟨ad197, e197, hx197_0, hx197_1⟩ := at_T41 HR194.out (ji11) p197 q197; obtain rfl : ad196 = ad197 := (by injection e197); replace p197 := eq_true p197; replace q197 := eq_true q197))
                  go_ret
                  exact ⟨by first | rfl | (simp; done) | (simp only [← hji3, ← hji11] <;> (first | rfl | simp)) | (simp [*]; done), by repeat (first | exact Drawn0.refl _ | apply Drawn0.step)⟩
                · rw [if_neg c13] at H
                  exact absurd H (by simp)
              · rw [if_neg c12] at H
                exact absurd H (by simp)
            · rw [if_neg c10] at H
              have c10b0 : (((rd_T41 y191 (l1.length : Int)).f0) == 77777 && ((((rd_T41 y191 (l1.length : Int)).f1).toList).isEmpty)) = false := by simpa using c10
              (try (have c10b1 : decide (((rd_T41 y191 (l1.length : Int)).f0) = 77777 && ((((rd_T41 y191 (l1.length : Int)).f1).toList).isEmpty)) = false := by simpa using c10))
              (try (have c10b2 : (((rd_T41 y191 (l1.length : Int)).f0) == 77777 && ((((rd_T41 y191 (l1.length : Int)).f1).toList).isEmpty)) = false := by simpa using c10))
              (try (have c10b3 : ¬ (((rd_T41 y191 (l1.length : Int)).f0) = 77777 && ((((rd_T41 y191 (l1.length : Int)).f1).toList).isEmpty)) := by simpa using c10))
              clear c10
              obtain rfl := Option.some.inj H
              have q15 : ((ji3) : Int) ≤ ((l0.length : Int) : Int) := of_decide_eq_true (by first | (with_reducible assumption) | assumption)
              obtain ⟨i015, hi015, _, hsz15, _⟩ := info_parts info41
              have hroom15 : l0.length ≤ c0 := HC0.out
              have hC15 : Kd.C k41 _ A0 l0.length l0 := HR0.out
              have hcut15 := cut_to (P := Try.prog) 22 41 .i64 Try.underlying22 hi015 A0 l0.length c0 (ji3) (of_decide_eq_true (by first | (with_reducible assumption) | assumption)) q15 hroom15
              have hr15 := Kd.C_take (m := ((ji3) : Int).toNat) hC15 (by omega)
              have hy15 : y191.length = ((ji3) : Int).toNat := (by rw [Ny191.out, List.length_take]; omega)
              rw [← Ny191.out] at hr15
              rw [← hy15] at hcut15
              have HR194 := Aside0.mk hr15
              have HC194 := Aside0.mk (show y191.length ≤ c0 from by omega)
              clear hr15 hC15 hroom15 hi015 hsz15
              have KY15 := Aside0.mk hy15
              clear hy15
              replace q15 := eq_true q15
              go_enter Try.func19, Try.ntmps19
              go_wp2_with (first | ((with_reducible refine gate_callee (f := 17) rfl ?_); refine goesL_ (some 13) rfl rfl Try.func17 (by kernel_rfl) rfl #[.slice A0 l0.length c0, .slice A1 l1.length c1] rfl (by (try simp only [List.map_toArray, List.map_cons, List.map_nil]); first | done | rfl | (simp only [List.length_drop, List.length_take]; rfl)) ?_; (with_reducible refine (halberdlaw0_SameExts.calls k _ _ l0 _ _ l1 true _ ?side1 ?side2 ?side3 ?side4 A6.out).mono ?_); (case side1 => repeat (first | exact HR0.out | (with_reducible refine Kd.C_alloc ?_ _) | (with_reducible refine Kd.C_drewN ?_ _) | (with_reducible refine Kd.C_drew ?_))); (case side2 => exact HC0.out); (case side3 => repeat (first | exact HR1.out | (with_reducible refine Kd.C_alloc ?_ _) | (with_reducible refine Kd.C_drewN ?_ _) | (with_reducible refine Kd.C_drew ?_))); (case side4 => exact HC1.out); rintro e w' ⟨rfl, ⟨nd, rfl⟩⟩; refine ⟨_, rfl, ?_⟩; have p196 : 0 ≤ ((l1.length : Int) : Int) := of_decide_eq_true (by first | (with_reducible assumption) | assumption); have q196 : (l1.length : Int) < (y191.length : Int) := of_decide_eq_true (by first | (with_reducible assumption) | assumption); obtain ⟨ad196, e196, hx196_0, hx196_1⟩ := at_T41 HR194.out (l1.length : Int) p196 q196; cases e196; (try simp only [Go.IntWalk.toNatUp] at hx196_0); (try simp only [Go.IntWalk.toNatUp] at hx196_1); replace p196 := eq_true p196; replace q196 := eq_true q196))
              go_ret
              exact ⟨by first | rfl | (simp; done) | (simp only [← hji3] <;> (first | rfl | simp)) | (simp [*]; done), by repeat (first | exact Drawn0.refl _ | apply Drawn0.step)⟩
          · rw [if_neg c9] at H
            exact absurd H (by simp)
        · rw [if_neg c8] at H
          exact absurd H (by simp)
      · replace c7 := Bool.eq_false_iff.mpr c7
        subst c7
        have H1 : (some false) = some r := by rw [if_neg (show ¬ (false = true) by decide)] at H; exact H
        clear H
        have H := H1
        clear H1
        obtain rfl := Option.some.inj H
        have q16 : ((ji3) : Int) ≤ ((l0.length : Int) : Int) := of_decide_eq_true (by first | (with_reducible assumption) | assumption)
        obtain ⟨i016, hi016, _, hsz16, _⟩ := info_parts info41
        have hroom16 : l0.length ≤ c0 := HC0.out
        have hC16 : Kd.C k41 _ A0 l0.length l0 := HR0.out
        have hcut16 := cut_to (P := Try.prog) 22 41 .i64 Try.underlying22 hi016 A0 l0.length c0 (ji3) (of_decide_eq_true (by first | (with_reducible assumption) | assumption)) q16 hroom16
        have hr16 := Kd.C_take (m := ((ji3) : Int).toNat) hC16 (by omega)
        have hy16 : y191.length = ((ji3) : Int).toNat := (by rw [Ny191.out, List.length_take]; omega)
        rw [← Ny191.out] at hr16
        rw [← hy16] at hcut16
        have HR194 := Aside0.mk hr16
        have HC194 := Aside0.mk (show y191.length ≤ c0 from by omega)
        clear hr16 hC16 hroom16 hi016 hsz16
        have KY16 := Aside0.mk hy16
        clear hy16
        replace q16 := eq_true q16
        go_enter Try.func19, Try.ntmps19
        go_wp2_with (first | ((with_reducible refine gate_callee (f := 17) rfl ?_); refine goesL_ (some 13) rfl rfl Try.func17 (by kernel_rfl) rfl #[.slice A0 l0.length c0, .slice A1 l1.length c1] rfl (by (try simp only [List.map_toArray, List.map_cons, List.map_nil]); first | done | rfl | (simp only [List.length_drop, List.length_take]; rfl)) ?_; (with_reducible refine (halberdlaw0_SameExts.calls k _ _ l0 _ _ l1 false _ ?side1 ?side2 ?side3 ?side4 A6.out).mono ?_); (case side1 => repeat (first | exact HR0.out | (with_reducible refine Kd.C_alloc ?_ _) | (with_reducible refine Kd.C_drewN ?_ _) | (with_reducible refine Kd.C_drew ?_))); (case side2 => exact HC0.out); (case side3 => repeat (first | exact HR1.out | (with_reducible refine Kd.C_alloc ?_ _) | (with_reducible refine Kd.C_drewN ?_ _) | (with_reducible refine Kd.C_drew ?_))); (case side4 => exact HC1.out); rintro e w' ⟨rfl, ⟨nd, rfl⟩⟩; refine ⟨_, rfl, ?_⟩))
        go_ret
        exact ⟨by first | rfl | (simp; done) | (simp only [← hji3] <;> (first | rfl | simp)) | (simp [*]; done), by repeat (first | exact Drawn0.refl _ | apply Drawn0.step)⟩
    · rw [if_neg c5] at H
      exact absurd H (by simp)
  · rw [if_neg c4] at H
    exact absurd H (by simp)
def halberdlaw0_SpoilExts.l0 : Nat → List (S41) → Int → Option ((List (S41)))
  | 0, _, _ => none
  | k + 1, x0, x2 => if x2 < (x0.length : Int) then (if 0 ≤ x2 then (halberdlaw0_SpoilExts.l0 k (x0.set (x2 : Int).toNat (⟨Go.bits .xor .i64 ((rd_T41 x0 x2).f0) 90, (rd_T41 x0 x2).f1⟩ : S41)) (wrap64 (x2 + 1))) else (none)) else (some x0)
def halberdlaw0_SpoilExts.f (k : Nat) (l0 : List (S41)) : Option ((List (S41))) := halberdlaw0_SpoilExts.l0 k l0 0
theorem halberdlaw0_SpoilExts.mono_l : ∀ k, (∀ y0 y1, LeO (halberdlaw0_SpoilExts.l0 k y0 y1) (halberdlaw0_SpoilExts.l0 (k + 1) y0 y1))
  | 0 => fun _ _ r h => by simp [halberdlaw0_SpoilExts.l0] at h
  | k + 1 => by
    have ih0 := halberdlaw0_SpoilExts.mono_l k
    · intro y0 y1
      unfold halberdlaw0_SpoilExts.l0
      repeat' first
      | (with_reducible exact ih0 _ _)
      | (with_reducible exact LeO.refl _)
      | (with_reducible exact LeO.none _)
      | (with_reducible refine LeO.ite ?_ ?_)
      | (with_reducible refine LeO.bind ?_ (fun _ => ?_))
      | exact ih0 _ _
      | exact LeO.none _
      | refine LeO.ite ?_ ?_
      | refine LeO.bind ?_ (fun _ => ?_)
theorem halberdlaw0_SpoilExts.mono : ∀ a0 k, LeO (halberdlaw0_SpoilExts.f k a0) (halberdlaw0_SpoilExts.f (k + 1) a0) := by
  intro a0 k
  have ih0 := halberdlaw0_SpoilExts.mono_l k
  unfold halberdlaw0_SpoilExts.f
  repeat' first
      | (with_reducible exact ih0 _ _)
      | (with_reducible exact LeO.refl _)
      | (with_reducible exact LeO.none _)
      | (with_reducible refine LeO.ite ?_ ?_)
      | (with_reducible refine LeO.bind ?_ (fun _ => ?_))
      | exact ih0 _ _
      | exact LeO.none _
      | refine LeO.ite ?_ ?_
      | refine LeO.bind ?_ (fun _ => ?_)
set_option maxHeartbeats 8000000 in
set_option maxRecDepth 100000 in
theorem halberdlaw0_SpoilExts.calls (k : Nat) (P0_ : Nat → Prop) (u9000_ : Value) (l0 : List (S41)) (r : List (S41)) (w0 w : World) (hB : Below w0.heap.size w0 w) (ho0 : Kd.R k41 41 w w0.heap.size P0_ u9000_ l0) (h : halberdlaw0_SpoilExts.f k l0 = some r) :
    Calls Try.prog 20 #[u9000_] w fun e w' => e = .returned (.tuple #[]) ∧ Kd.R k41 41 w' w0.heap.size (fun k_ => (P0_ k_ ∨ w.heap.size ≤ k_)) u9000_ r ∧ Below w0.heap.size w0 w' ∧ Kept w w' (fun k_ => P0_ k_) := by
  have HO0 := Aside0.mk (show Kd.R k41 41 w w0.heap.size (fun k_ => (P0_ k_ ∨ w.heap.size ≤ k_)) u9000_ l0 from Kd.R_mono ho0 (fun k_ hk => (.inl hk)))
  have HK := Aside0.mk (Kept.refl w (fun k_ => P0_ k_))
  have HW0 := Aside0.mk hB.size
  have HB := Aside0.mk hB
  clear hB
  have H : (halberdlaw0_SpoilExts.l0 k l0 0) = some r := h
  clear h
  have H' := Aside0.mk H
  clear H
  go_enter Try.func20, Try.ntmps20
  go_wp2
  go_loopg [2] k (fun kq v2 w' => ∃ (x0_1 : List (S41)) (x2_1 : Int), v2 = .int .i64 x2_1 ∧ Aside0 (halberdlaw0_SpoilExts.l0 kq x0_1 x2_1 = some r) ∧ Aside0 (kq ≤ k) ∧ Aside0 (Kd.R k41 41 w' w0.heap.size (fun k_ => (P0_ k_ ∨ w.heap.size ≤ k_)) u9000_ x0_1) ∧ Aside0 (Kept w w' (fun k_ => P0_ k_)) ∧ Aside0 (Below w0.heap.size w0 w'))
  case atStart => exact ⟨(l0), (0), (by first | rfl | (simp; done) | (simp [*]; done)), H', ⟨Nat.le_refl _⟩, ⟨by (with_reducible repeat (first | apply Kd.R_alloc | apply Kd.R_drewN | apply Kd.R_drew)); exact HO0.out⟩, ⟨by repeat (first | (with_reducible first | exact HK.out | apply Kept.alloc | apply Kept.drewN | apply Kept.drew) | exact HK.out)⟩, ⟨by repeat (first | (with_reducible first | exact HB.out | apply below_alloc | apply pw_below_drewN | apply below_drew1) | exact HB.out)⟩⟩
  case round =>
    clear H'
    obtain ⟨x0_1, x2_1, rfl, HA, HK1, HO_0, HK, HB⟩ := hrel
    cases gk with
    | zero => exact absurd HA.out (by simp [halberdlaw0_SpoilExts.l0])
    | succ k1 =>
      have H := HA.out
      clear HA
      simp only [halberdlaw0_SpoilExts.l0] at H
      by_cases c2 : x2_1 < (x0_1.length : Int)
      · rw [if_pos c2] at H
        have c2b0 : decide (x2_1 < (x0_1.length : Int)) = true := decide_eq_true c2
        clear c2
        by_cases c3 : 0 ≤ x2_1
        · rw [if_pos c3] at H
          have c3b0 : decide (0 ≤ x2_1) = true := decide_eq_true c3
          clear c3
          obtain ⟨y199, hy199⟩ : ∃ y_ : List (S41), y_ = (x0_1.set (x2_1 : Int).toNat (⟨Go.bits .xor .i64 ((rd_T41 x0_1 x2_1).f0) 90, (rd_T41 x0_1 x2_1).f1⟩ : S41)) := ⟨_, rfl⟩
          replace H : (halberdlaw0_SpoilExts.l0 k1 y199 (wrap64 (x2_1 + 1))) = some r := by first | (rw [hy199]; with_reducible exact H) | (have H2_ := (Option.bind_some _ _).symm.trans H; rw [hy199]; with_reducible exact H2_) | (have H2_ := (Option.bind_some _ _).symm.trans H; with_reducible exact H2_) | with_reducible exact H | (rw [hy199]; exact H) | exact H
          have Ny199 := Aside0.mk hy199
          clear hy199
          have H' := Aside0.mk H
          clear H
          obtain ⟨Ao5, co5, eo5⟩ := Kd.R_slice HO_0.out
          subst eo5
          have p198 : 0 ≤ (x2_1 : Int) := of_decide_eq_true (by first | (with_reducible assumption) | assumption)
          have q198 : x2_1 < (x0_1.length : Int) := of_decide_eq_true (by first | (with_reducible assumption) | assumption)
          obtain ⟨ad198, e198, hx198_0, hx198_1⟩ := at_T41 (Kd.R_reads' HO_0.out).2.2 x2_1 p198 q198
          cases e198
          replace p198 := eq_true p198
          replace q198 := eq_true q198
          have p4 : 0 ≤ (x2_1 : Int) := of_decide_eq_true (by first | (with_reducible assumption) | assumption)
          have q4 : (x2_1 : Int) < ((x0_1.length : Int) : Int) := of_decide_eq_true (by first | (with_reducible assumption) | assumption)
          obtain ⟨go4, co4, eo4, gb4, gl4, cl4, HG4⟩ := Kd.R_form HO_0.out (by omega)
          (first | cases eo4 | (injection eo4 with ea_ en_ ec_; (first | subst ea_ | (injection ea_ with ea_; subst ea_)); subst ec_; clear en_))
          have GB4 := Aside0.mk gb4
          have GG4 := Aside0.mk HG4
          clear gb4 gl4 HG4
          have HMgo4 := Aside0.mk (show (P0_ go4 ∨ w.heap.size ≤ go4) from (HO_0.out.1 _ rfl))
          (first | simp only [add_plain] at hx198_0 | skip)
          (first | simp only [add_plain] at hx198_1 | skip)
          obtain ⟨ce4, hcl4, hM4, hcc4, hfr4⟩ := Kd.R_elem HO_0.out z41 (x2_1 : Int) p4 q4
          obtain rfl := k41_openM hM4
          have hx4_0 : wr.cell? ⟨go4, (x2_1 : Int).toNat * 2, none⟩ = some (.int .i64 ((rd_T41 x0_1 x2_1).f0)) := hcc4 0 _ rfl
          have hx4_1 : wr.cell? ⟨go4, (x2_1 : Int).toNat * 2 + 1, none⟩ = some (.string ((rd_T41 x0_1 x2_1).f1)) := hcc4 1 _ rfl
          have hf4_0 : wr.frozen? ⟨go4, (x2_1 : Int).toNat * 2, none⟩ = false := hfr4 0
          have hf4_1 : wr.frozen? ⟨go4, (x2_1 : Int).toNat * 2 + 1, none⟩ = false := hfr4 1
          clear hcl4 hcc4 hfr4 hM4
          replace p4 := eq_true p4
          replace q4 := eq_true q4
          have HX6 := Aside0.mk (show Kd.R k41 41 wr w0.heap.size (fun k_ => (P0_ k_ ∨ w.heap.size ≤ k_)) (.slice (some ⟨go4, 0, none⟩) x0_1.length co5) x0_1 from (by (with_reducible repeat (first | apply Kd.R_alloc | apply Kd.R_drewN | apply Kd.R_drew)); exact HO_0.out))
          obtain ⟨ce6, hcl6, hM6, hcc6, hfr6⟩ := Kd.R_elem HX6.out z41 (x2_1 : Int) (of_decide_eq_true (by first | (with_reducible assumption) | assumption)) (by have h_ : (x2_1 : Int) < ((x0_1.length : Int) : Int) := of_decide_eq_true (by first | (with_reducible assumption) | assumption); first | exact h_ | (have e_ := (Kd.R_reads' HO_0.out).1; omega) | simpa using h_)
          obtain rfl := k41_openM hM6
          have HP6 := Kd.R_seg HX6.out (x2_1 : Int) (of_decide_eq_true (by first | (with_reducible assumption) | assumption)) (by have h_ : (x2_1 : Int) < ((x0_1.length : Int) : Int) := of_decide_eq_true (by first | (with_reducible assumption) | assumption); first | exact h_ | (have e_ := (Kd.R_reads' HO_0.out).1; omega) | simpa using h_) (seg := [.int .i64 (Go.bits .xor .i64 ((rd_T41 x0_1 x2_1).f0) 90)]) (j := 0) hcl6 hcc6 (show 1 ≤ 2 from by decide) (x' := (⟨Go.bits .xor .i64 ((rd_T41 x0_1 x2_1).f0) 90, (rd_T41 x0_1 x2_1).f1⟩ : S41)) (k41_mkM _ _ _ (⟨Go.bits .xor .i64 ((rd_T41 x0_1 x2_1).f0) 90, (rd_T41 x0_1 x2_1).f1⟩ : S41) ) (fun _ hk => hk)
          have hx6_0 := hcc6 0 _ rfl
          (try simp only [show (k41).sz = 2 from rfl, Nat.mul_one, Nat.add_zero] at hx6_0)
          have hf6_0 := hfr6 0
          (try simp only [show (k41).sz = 2 from rfl, Nat.mul_one, Nat.add_zero] at hf6_0)
          clear hcl6 hcc6 hfr6 hM6
          go_wp2_with (first | ((with_reducible refine gate_store (t := 3) (p := 18) rfl ?_); refine store_event (t := 3) (p := 18) (v := ?vo_w7) (w1 := (wr.setCell ⟨go4, (x2_1 : Int).toNat * 2, none⟩ (.int .i64 (Go.bits .xor .i64 ((rd_T41 x0_1 x2_1).f0) 90)))) ?hg ?ho ?hn ?hr ?_; (case ho => rfl); (case hg => rfl); (case hn => rfl); (case hr => first | (go_simp; done) | (go_simp; rfl)); intro w7 hw; have hg : wr.grownBy w7 (some go4) := (by rw [hw]; exact HP6.2); have hp_ : Kd.R k41 41 w7 w0.heap.size (fun k_ => (P0_ k_ ∨ w.heap.size ≤ k_)) (.slice (some ⟨go4, 0, none⟩) x0_1.length co5) y199 := (by rw [hw, Ny199.out]; exact HP6.1); clear HP6; have n0_ := Aside0.mk (hp_); have n1_ := Aside0.mk ((by rw [hw]; exact below_set (HB.out) GB4.out : Below w0.heap.size w0 w7)); have n2_ := Aside0.mk (Kept.of_grown (S := (fun k_ => P0_ k_)) hg (by repeat (first | (with_reducible first | exact HK.out | apply Kept.alloc | apply Kept.drewN | apply Kept.drew) | exact HK.out)) (fun k_ e_ => (HO_0.out.1 k_ e_))); clear HO_0; clear HB; clear HK; have HO_0 := n0_; have HB := n1_; have HK := n2_; clear n0_ n1_ n2_; clear hg hw hp_))
          go_roundg k1
          case measure => have := HK1.out; omega
          case rel => exact ⟨(y199), (wrap64 (x2_1 + 1)), (by first | rfl | (simp; done) | (simp [*]; done)), H', ⟨by have := HK1.out; omega⟩, ⟨by (with_reducible repeat (first | apply Kd.R_alloc | apply Kd.R_drewN | apply Kd.R_drew)); exact HO_0.out⟩, ⟨by repeat (first | (with_reducible first | exact HK.out | apply Kept.alloc | apply Kept.drewN | apply Kept.drew) | exact HK.out)⟩, ⟨by repeat (first | (with_reducible first | exact HB.out | apply below_alloc | apply pw_below_drewN | apply below_drew1) | exact HB.out)⟩⟩
        · rw [if_neg c3] at H
          exact absurd H (by simp)
      · rw [if_neg c2] at H
        have c2b0 : decide (x2_1 < (x0_1.length : Int)) = false := decide_eq_false c2
        clear c2
        obtain rfl := Option.some.inj H
        obtain ⟨Ao8, co8, eo8⟩ := Kd.R_slice HO_0.out
        subst eo8
        go_wp2
        first | go_end0 | ((try simp only [Exit.inBlock, Exit.then]); refine bodyPost_ret (results_none rfl _ _ _) rfl ?_)
        exact ⟨by first | rfl | (simp [errW_none, errW_some] <;> rfl) | (simp [*, errW_none, errW_some] <;> rfl), by (with_reducible repeat (first | apply Kd.R_alloc | apply Kd.R_drewN | apply Kd.R_drew)); exact HO_0.out, by repeat (first | (with_reducible first | exact HB.out | apply below_alloc | apply pw_below_drewN | apply below_drew1) | exact HB.out), by repeat (first | (with_reducible first | exact HK.out | apply Kept.alloc | apply Kept.drewN | apply Kept.drew) | exact HK.out)⟩
end Go.Proofs.Ytlkebjkpmiehcaa.X
end
section
namespace Go.Proofs.Ytlkebjkpmiehcaa.Ms
open Go.RowKit Go.Proofs.YtlkebjkpmiehcaaW.PrintWords Go.Proofs.YtlkebjkpmiehcaaW.PrintLast Go.Proofs.YtlkebjkpmiehcaaW.PrintMore Go.Proofs.Ytlkebjkpmiehcaa.X
open Go.Proofs.Ytlkebjkpmiehcaa.Pure (nv numOf vecOf nv_bd nv_bd4 number_any vec_ok)
set_option linter.unusedVariables false
def kuM (u : Int) : Mv := { zeroM with f0 := 24, f20 := u }
theorem num_f (e : Int) : halberdlaw0_Num.f e = some e := rfl
def s5 : ByteArray := ⟨#[24, 0, 0, 1, 1]⟩
theorem nreads (w : World) (u : Int) : Reads w (kuM u) hd0 := by
  constructor <;> first | exact C_nil _ _ | exact Nat.le_refl _
theorem ku_reads (u : Int) (h : Hd) (w : World) : Reads w (kuM u) h := by
  have e {α : Type} (d : Kd α) (A : Option Addr) : Kd.C d w A 0 [] := ⟨rfl, by omega, fun h => absurd h (by omega)⟩
  constructor <;> first | exact e _ _ | exact Nat.zero_le _
theorem put_two (w : World) : Calls Try.prog 23 #[.agg (cells (kuM 2) hd0)] w fun ex w' => ex = .returned (.tuple #[.string s5, .int .i64 0]) ∧ Below w.heap.size w w' := by
  have h := put_ok (kuM 2) hd0 (ByteArray.empty ++ (nm (wrap64 (2 - 1)) 1).1) w rfl (nreads w 2) (by decide) (by decide) (fun w1 lo g gm ha => by
    have hb := body24 lo g gm _ w w1 ha rfl 2 rfl
    rw [show ((false || !((2 : Int) == 1 || (2 : Int) == 2)) || !((nm (wrap64 (2 - 1)) 1).2 == 0)) = false from by decide +kernel] at hb
    exact hb) rfl (by decide +kernel)
  have e : framed (kuM 2).f0 (ByteArray.empty ++ (nm (wrap64 (2 - 1)) 1).1) = s5 := by kernel_rfl
  rw [e] at h
  exact h
theorem put_three (w : World) : Calls Try.prog 23 #[.agg (cells (kuM 3) hd0)] w fun ex w' => ex = .returned (.tuple #[.string ⟨#[]⟩, .int .i64 1700]) ∧ Below w.heap.size w w' :=
  put_bad (kuM 3) hd0 (ByteArray.empty ++ (nm (wrap64 (3 - 1)) 1).1) w rfl (nreads w 3) (by decide) (by decide) (fun w1 lo g gm ha => by
    have hb := body24 lo g gm _ w w1 ha rfl 3 rfl
    exact hb)
theorem get_five : getM s5 = (kuM 2, 0) := by kernel_rfl
theorem get_e (s : ByteArray) (e : Int) (w : World) (hs : s.size ≤ 140737488351232) (he : (getM s).2 = e) :
    Calls Try.prog 24 #[.string s] w fun ex w' => ∃ m h, ex = .returned (.tuple #[.agg (cells m h), .int .i64 e]) ∧ Below w.heap.size w w' :=
  (get_c s w hs).mono fun ex w' ⟨h, h1, _, h2⟩ => ⟨_, h, by rw [← he]; exact h1, h2⟩
theorem get_m (s : ByteArray) (m : Mv) (w : World) (hs : s.size ≤ 140737488351232) (he : getM s = (m, 0)) :
    Calls Try.prog 24 #[.string s] w fun ex w' => ∃ h, ex = .returned (.tuple #[.agg (cells m h), .int .i64 0]) ∧ Reads w' m h ∧ Below w.heap.size w w' := by
  have h := get_c s w hs
  rw [he] at h
  exact h
theorem got2 : (getM ⟨#[24, 0, 0, 1, 2]⟩).2 = 1702 := by decide +kernel
theorem got3 : (getM ⟨#[9]⟩).2 = 1701 := by decide +kernel
theorem got4 : (getM ⟨#[24, 0, 0, 2, 1, 1]⟩).2 = 1700 := by decide +kernel
set_option maxRecDepth 100000 in
set_option maxHeartbeats 8000000 in
theorem awake_c (w : World) : Calls Try.prog 22 #[] w fun ex w' => ex = .returned (.bool true) ∧ Below w.heap.size w w' := by
  have hs5 : (s5.toList == ([24, 0, 0, 1, 1] : List UInt8)) = true := by decide +kernel
  have hrt : (kuM 2).retry = false := by decide +kernel
  have HB := Aside0.mk (Below.refl w.heap.size w)
  go_enter Try.func22, Try.ntmps22
  go_wp2_with (first
    | ((with_reducible refine gate_callee (f := 23) rfl ?_); refine goesL_ (some 15) rfl rfl Try.func23 (by kernel_rfl) rfl #[.agg (cells (kuM 2) hd0)] rfl (by (try simp only [List.map_toArray, List.map_cons, List.map_nil]); first | done | rfl) ?_; (with_reducible refine (put_two _).mono ?_); rintro e_ w_ ⟨rfl, b_⟩; refine ⟨_, rfl, ?_⟩; have n0_ := Aside0.mk (below_step HB.out b_); clear HB; have HB := n0_; clear n0_; clear b_)
    | ((with_reducible refine gate_callee (f := 24) rfl ?_); refine goesL_ (some 20) rfl rfl Try.func24 (by kernel_rfl) rfl #[.string s5] rfl (by (try simp only [List.map_toArray, List.map_cons, List.map_nil]); first | done | rfl) ?_; (with_reducible refine (get_m s5 (kuM 2) _ (by decide) get_five).mono ?_); rintro e_ w_ ⟨hm, rfl, r_, b_⟩; refine ⟨_, rfl, ?_⟩; have n0_ := Aside0.mk (below_step HB.out b_); clear HB; have HB := n0_; clear n0_; clear b_ r_)
    | ((with_reducible refine gate_callee (f := 24) rfl ?_); refine goesL_ (some 24) rfl rfl Try.func24 (by kernel_rfl) rfl #[.string ⟨#[24, 0, 0, 1, 2]⟩] rfl (by (try simp only [List.map_toArray, List.map_cons, List.map_nil]); first | done | rfl) ?_; (with_reducible refine (get_e ⟨#[24, 0, 0, 1, 2]⟩ _ _ (by decide) got2).mono ?_); rintro e_ w_ ⟨m24, h24, rfl, b_⟩; refine ⟨_, rfl, ?_⟩; have n0_ := Aside0.mk (below_step HB.out b_); have n1_ := Aside0.mk ((b_.block g3 (blk_lt HX.out)).trans HX.out); clear HB; have HB := n0_; clear n0_; clear HX; have HX := n1_; clear n1_; clear b_)
    | ((with_reducible refine gate_callee (f := 24) rfl ?_); refine goesL_ (some 28) rfl rfl Try.func24 (by kernel_rfl) rfl #[.string ⟨#[9]⟩] rfl (by (try simp only [List.map_toArray, List.map_cons, List.map_nil]); first | done | rfl) ?_; (with_reducible refine (get_e ⟨#[9]⟩ _ _ (by decide) got3).mono ?_); rintro e_ w_ ⟨m28, h28, rfl, b_⟩; refine ⟨_, rfl, ?_⟩; have n0_ := Aside0.mk (below_step HB.out b_); have n1_ := Aside0.mk ((b_.block g3 (blk_lt HX.out)).trans HX.out); clear HB; have HB := n0_; clear n0_; clear HX; have HX := n1_; clear n1_; clear b_)
    | ((with_reducible refine gate_callee (f := 24) rfl ?_); refine goesL_ (some 32) rfl rfl Try.func24 (by kernel_rfl) rfl #[.string ⟨#[24, 0, 0, 2, 1, 1]⟩] rfl (by (try simp only [List.map_toArray, List.map_cons, List.map_nil]); first | done | rfl) ?_; (with_reducible refine (get_e ⟨#[24, 0, 0, 2, 1, 1]⟩ _ _ (by decide) got4).mono ?_); rintro e_ w_ ⟨m32, h32, rfl, b_⟩; refine ⟨_, rfl, ?_⟩; have n0_ := Aside0.mk (below_step HB.out b_); have n1_ := Aside0.mk ((b_.block g3 (blk_lt HX.out)).trans HX.out); clear HB; have HB := n0_; clear n0_; clear HX; have HX := n1_; clear n1_; clear b_)
    | ((with_reducible refine gate_callee (f := 23) rfl ?_); refine goesL_ (some 37) rfl rfl Try.func23 (by kernel_rfl) rfl #[.agg (cells (kuM 3) hd0)] rfl (by (try simp only [List.map_toArray, List.map_cons, List.map_nil]); first | done | rfl) ?_; (with_reducible refine (put_three _).mono ?_); rintro e_ w_ ⟨rfl, b_⟩; refine ⟨_, rfl, ?_⟩; have n0_ := Aside0.mk (below_step HB.out b_); have n1_ := Aside0.mk ((b_.block g3 (blk_lt HX.out)).trans HX.out); clear HB; have HB := n0_; clear n0_; clear HX; have HX := n1_; clear n1_; clear b_)
    | ((with_reducible refine gate_dst (N := 3) rfl ?_); refine alloc49' rfl rfl ?_; intro g3 eg w_ h2 b2; have HZ3 := Aside0.mk h2; have HE3 := Aside0.mk (show w.heap.size ≤ g3 from by have := HB.out.size; omega); have n0_ := Aside0.mk (below_step HB.out b2); clear HB; have HB := n0_; clear n0_; clear h2 b2 eg)
    | ((with_reducible refine gate_store (p := 3) rfl ?_); refine stRowN (cs := cells (kuM 2) hm) sz49 rfl rfl rfl rfl HZ3.out rfl rfl (cells_one _ _) ?_; intro w_ h3 b3 k3; have HX := Aside0.mk h3; have n0_ := Aside0.mk (HB.out.trans (b3 _ HE3.out)); clear HB; have HB := n0_; clear n0_; clear h3 b3 k3)
    | ((with_reducible refine gate_dst (N := 5) rfl ?_); refine alloc49' rfl rfl ?_; intro g5 eg w_ h2 b2; have HNE := Aside0.mk (show g3 ≠ g5 from by have := blk_lt HX.out; omega); have HZ5 := Aside0.mk h2; have HE5 := Aside0.mk (show w.heap.size ≤ g5 from by have := HB.out.size; omega); have n0_ := Aside0.mk (below_step HB.out b2); have n1_ := Aside0.mk ((b2.block g3 (blk_lt HX.out)).trans HX.out); clear HB; have HB := n0_; clear n0_; clear HX; have HX := n1_; clear n1_; clear h2 b2 eg)
    | ((with_reducible refine gate_store (p := 5) rfl ?_); refine stRowN sz49 rfl rfl rfl rfl HZ5.out rfl rfl (cells_one _ _) ?_; intro w_ h3 b3 k3; have n0_ := Aside0.mk ((k3.2 g3 (blk_lt HX.out) HNE.out (by simp)).trans HX.out); have n1_ := Aside0.mk (HB.out.trans (b3 _ HE5.out)); clear HX; have HX := n0_; clear n0_; clear HB; have HB := n1_; clear n1_; clear h3 b3 k3 HNE)
    | ((with_reducible refine gate_dst (N := 7) rfl ?_); refine alloc49' rfl rfl ?_; intro g7 eg w_ h2 b2; have HNE := Aside0.mk (show g3 ≠ g7 from by have := blk_lt HX.out; omega); have HZ7 := Aside0.mk h2; have HE7 := Aside0.mk (show w.heap.size ≤ g7 from by have := HB.out.size; omega); have n0_ := Aside0.mk (below_step HB.out b2); have n1_ := Aside0.mk ((b2.block g3 (blk_lt HX.out)).trans HX.out); clear HB; have HB := n0_; clear n0_; clear HX; have HX := n1_; clear n1_; clear h2 b2 eg)
    | ((with_reducible refine gate_store (p := 7) rfl ?_); refine stRowN sz49 rfl rfl rfl rfl HZ7.out rfl rfl (cells_one _ _) ?_; intro w_ h3 b3 k3; have n0_ := Aside0.mk ((k3.2 g3 (blk_lt HX.out) HNE.out (by simp)).trans HX.out); have n1_ := Aside0.mk (HB.out.trans (b3 _ HE7.out)); clear HX; have HX := n0_; clear n0_; clear HB; have HB := n1_; clear n1_; clear h3 b3 k3 HNE)
    | ((with_reducible refine gate_dst (N := 9) rfl ?_); refine alloc49' rfl rfl ?_; intro g9 eg w_ h2 b2; have HNE := Aside0.mk (show g3 ≠ g9 from by have := blk_lt HX.out; omega); have HZ9 := Aside0.mk h2; have HE9 := Aside0.mk (show w.heap.size ≤ g9 from by have := HB.out.size; omega); have n0_ := Aside0.mk (below_step HB.out b2); have n1_ := Aside0.mk ((b2.block g3 (blk_lt HX.out)).trans HX.out); clear HB; have HB := n0_; clear n0_; clear HX; have HX := n1_; clear n1_; clear h2 b2 eg)
    | ((with_reducible refine gate_store (p := 9) rfl ?_); refine stRowN sz49 rfl rfl rfl rfl HZ9.out rfl rfl (cells_one _ _) ?_; intro w_ h3 b3 k3; have n0_ := Aside0.mk ((k3.2 g3 (blk_lt HX.out) HNE.out (by simp)).trans HX.out); have n1_ := Aside0.mk (HB.out.trans (b3 _ HE9.out)); clear HX; have HX := n0_; clear n0_; clear HB; have HB := n1_; clear n1_; clear h3 b3 k3 HNE)
    | (go_at_call 18; (with_reducible refine (halberdlaw0_Num.calls _ _ _ (num_f _)).mono ?_); rintro ex_ wx_ ⟨rfl, d_⟩; have n0_ := Aside0.mk (below_step HB.out d_.below); have n1_ := Aside0.mk ((d_.below.block g3 (blk_lt HX.out)).trans HX.out); clear HB; have HB := n0_; clear n0_; clear HX; have HX := n1_; clear n1_; clear d_)
    | ((with_reducible refine gate_dst (N := 49) rfl ?_); refine gate_guard rfl ?_; refine ld (v := .int .i64 2) rfl rfl rfl HX.out Try.underlying3 rfl rfl ?_)
    | ((with_reducible refine gate_dst (N := 78) rfl ?_); refine gate_guard rfl ?_; refine wpList_load_row rfl 49 _ rfl g3 rfl 49 _ (0, 0) _ HX.out Try.underlying49 rfl sz49 ?_)
    | (go_at_call 30; (with_reducible refine (retry_calls (kuM 2) hm _ (ku_reads 2 hm _)).mono ?_); rintro e_ w_ ⟨rfl, b_⟩; have n0_ := Aside0.mk (below_step HB.out b_); clear HB; have HB := n0_; clear n0_; clear b_))
  go_ret
  exact ⟨rfl, HB.out⟩
end Go.Proofs.Ytlkebjkpmiehcaa.Ms
end
