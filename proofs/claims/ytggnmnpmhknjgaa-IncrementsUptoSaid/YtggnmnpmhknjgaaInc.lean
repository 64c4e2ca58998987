/- halberdlaw18's Increments, walked: two decoders side by side. Conditions: the hypothesis P: at any held bytes and any part, below a bound, the two Feeds answer alike. -/
import Derived.Test.YtggnmnpmhknjgaaIx5
import Derived.Laws.Tables
namespace Go.Proofs.Ytggnmnpmhknjgaa.Inc
open Go.RowKit Go.Proofs.YtggnmnpmhknjgaaW.PrintWords Go.Proofs.YtggnmnpmhknjgaaW.PrintLast Go.Proofs.YtggnmnpmhknjgaaW.PrintMore Go.Proofs.Ytggnmnpmhknjgaa.I
set_option linter.unusedVariables false
/-- What the two decoders answer at one part. -/
def Alike (h : ByteArray) (b : Bool) (s : ByteArray) : Prop :=
  ∃ (k : Nat) (out : List ByteArray) (e : Int) (h' : ByteArray) (b' : Bool), incr_Decoder_Feed.f k h b s = some (out, e, h', b') ∧ halberdref16_Decoder_Feed.f k h b s = some (out, e, h', b') ∧ halberdlaw0_SameTexts.f k out out = some true ∧
    (∃ out2, halberdlaw0_SpoilTexts.f k out = some out2) ∧ incr_Decoder_Held.f h' b' = some ((h'.size : Int), h', b') ∧ halberdref16_Decoder_Held.f h' b' = some ((h'.size : Int), h', b') ∧ h'.size ≤ h.size + s.size
def Same : Prop := ∀ h b s, h.size + s.size ≤ 1048576 → Alike h b s
theorem built28 : Try.prog.built 28 [] = some #[.string ByteArray.empty, .bool false] := by kernel_rfl
theorem build28 {ops : Array Oper} {rest : List Oper} {o : Oper} {a : Act} {Q : Exit → Act → World → Prop} {w : World} (hgd : o.guard = none) (ho : o.op = .build 28 #[])
    (H : wpList Try.prog ops Q rest (a.put o.dst (.agg #[.string ByteArray.empty, .bool false])) w) : wpList Try.prog ops Q (o :: rest) a w := by
  refine wpList_plain hgd fun K hK => ?_
  unfold Oper.wp execOp
  have hr := run_build (P := Try.prog) w 28 #[] _ built28
  have he : (#[] : Array (Nat × Operand)).map (fun x => (x.fst, a.eval x.snd)) = #[] := by simp
  simp only [ho, Sem.run_bind]
  rw [he, hr]
  exact hK _ _ H
theorem box28 {ops : Array Oper} {rest : List Oper} {o : Oper} {a : Act} {Q : Exit → Act → World → Prop} {w : World} (hgd : o.guard = none) (x : Operand) (ho : o.op = .box 28 x) (hx : a.eval x = .agg #[.string ByteArray.empty, .bool false])
    (H : ∀ g, g = w.heap.size → ∀ w1, w1.heap[g]? = some (.cells #[.string ByteArray.empty, .bool false] 28 (0, 0)) → Below w.heap.size w w1 → wpList Try.prog ops Q rest (a.put o.dst (.pointer (some ⟨g, 0, none⟩))) w1) : wpList Try.prog ops Q (o :: rest) a w := by
  refine Kd.event_run hgd ?_ (H _ rfl _ (blk_new w _) (below_alloc (Below.refl _ _) _))
  unfold execOp
  simp only [ho, hx]
  rfl
theorem keep63 {w0 W W1 : World} {g g' : Nat} {f0 : ByteArray} {f1 : Bool} (h : IsS63 w0 W g f0 f1) (hk : KeepBut W W1 g' none) (hne : g ≠ g') : IsS63 w0 W1 g f0 f1 := ⟨hk.blk h.1 hne (by simp), h.2⟩
theorem keep28 {w0 W W1 : World} {g g' : Nat} {f0 : ByteArray} {f1 : Bool} (h : IsS28 w0 W g f0 f1) (hk : KeepBut W W1 g' none) (hne : g ≠ g') : IsS28 w0 W1 g f0 f1 := ⟨hk.blk h.1 hne (by simp), h.2⟩
theorem apart {w0 W : World} {g g' : Nat} {f0 f2 : ByteArray} {f1 f3 : Bool} (h : IsS63 w0 W g f0 f1) (h2 : IsS28 w0 W g' f2 f3) : g ≠ g' := blk_ne h.1 h2.1 (by decide)
theorem drawn63 {w0 W W1 : World} {g : Nat} {f0 : ByteArray} {f1 : Bool} (h : IsS63 w0 W g f0 f1) (hd : Drawn0 W W1) : IsS63 w0 W1 g f0 f1 := h.below hd.below
theorem drawn28 {w0 W W1 : World} {g : Nat} {f0 : ByteArray} {f1 : Bool} (h : IsS28 w0 W g f0 f1) (hd : Drawn0 W W1) : IsS28 w0 W1 g f0 f1 := h.below hd.below
theorem num_f (e : Int) : halberdlaw0_Num.f e = some e := rfl
/-- The bytes of the first parts. -/
def upTo (l : List ByteArray) (i : Nat) : Nat := ((l.take i).map ByteArray.size).sum
theorem upTo_step (l : List ByteArray) (i : Nat) (h : i < l.length) : upTo l (i + 1) = upTo l i + (rdOf ByteArray.empty l (i : Int)).size := by
  unfold upTo rdOf
  rw [Int.toNat_natCast, List.take_add_one, List.map_append, List.sum_append, List.getD_eq_getElem?_getD, List.getElem?_eq_getElem h]
  simp
theorem upTo_le (l : List ByteArray) (i : Nat) : upTo l i ≤ (l.map ByteArray.size).sum := by
  unfold upTo
  conv => rhs; rw [← List.take_append_drop i l, List.map_append, List.sum_append]
  exact Nat.le_add_right _ _
set_option maxRecDepth 100000 in
set_option maxHeartbeats 8000000 in
theorem increments_calls (P : Same) (A : Option Addr) (c : Nat) (l : List ByteArray) (w : World) (hr : Kd.C Kd.string w A l.length l) (hc : l.length ≤ c) (hm : l.length ≤ 140737488355328) (hsum : (l.map ByteArray.size).sum ≤ 1048576) :
    Calls Try.prog 4 #[.slice A l.length c] w fun e w' => e = .returned (.bool true) ∧ Below w.heap.size w w' := by
  have HP := Aside0.mk P
  have HR := Aside0.mk hr
  have HS := Aside0.mk hsum
  have HLM := Aside0.mk hm
  clear P hr hsum hm
  go_enter Try.func4, Try.ntmps4
  go_wp2_with (first
    | (go_at_call 24; (with_reducible refine (incr_New.calls ByteArray.empty false w _ (Below.refl _ _) rfl).mono ?_); rintro e w1 ⟨g1, rfl, i1, b1, c1⟩; have HD1 := Aside0.mk i1; have HB1 := Aside0.mk b1; clear i1 b1 c1)
    | ((with_reducible refine gate_dst (N := 11) rfl ?_); refine build28 rfl rfl ?_)
    | ((with_reducible refine gate_dst (N := 12) rfl ?_); refine box28 rfl _ rfl rfl ?_; intro g2 eg w2 k2 b2; have HE2 := Aside0.mk (show IsS28 w w2 g2 ByteArray.empty false from ⟨k2, by rw [eg]; exact below_size HB1.out⟩); have HD2 := Aside0.mk (HD1.out.below b2); have HB2 := Aside0.mk (below_step HB1.out b2); clear k2 b2 eg))
  have HNE := Aside0.mk (apart HD2.out HE2.out)
  go_loopw [5] (fun v wr => ∃ (i : Nat) (h : ByteArray) (b : Bool), i ≤ l.length ∧ v = .int .i64 i ∧ Aside0 (IsS63 w wr g1 h b) ∧ Aside0 (IsS28 w wr g2 h b) ∧ Aside0 (Below w.heap.size w wr) ∧ Aside0 (h.size ≤ upTo l i)) (fun v _ => l.length - (intOf v).toNat)
  case atStart => exact ⟨0, ByteArray.empty, false, by omega, rfl, HD2, HE2, HB2, ⟨Nat.zero_le _⟩⟩
  case round =>
  obtain ⟨i, h, b, hi, rfl, HDi, HEi, HBi, HUi⟩ := hrel
  by_cases hlt : i < l.length
  · have t1 : decide ((i : Int) < (l.length : Int)) = true := decide_eq_true (by omega)
    by_cases h60 : i < 60
    · have t2 : decide ((i : Int) < 60) = true := decide_eq_true (by omega)
      have p : (0 : Int) ≤ (i : Int) := by omega
      have q : (i : Int) < (l.length : Int) := by omega
      obtain ⟨ad, e0, hx⟩ := Kd.at_string (Kd.C_below HR.out HBi.out) (i : Int) p q
      cases e0
      have hup := upTo_step l i hlt
      obtain ⟨s, hs⟩ : ∃ s, s = rdOf ByteArray.empty l (i : Int) := ⟨_, rfl⟩
      rw [← hs] at hx hup
      rw [Int.toNat_natCast] at hx
      have HSE := Aside0.mk hs
      have hb1 := upTo_le l (i + 1)
      obtain ⟨k, out, e, h', b', f1, f2, f3, ⟨out2, f4⟩, f5, f6, f7⟩ := HP.out h b s (by have := HS.out; have := HUi.out; omega)
      have HU' := Aside0.mk (show h'.size ≤ upTo l (i + 1) from by have := HUi.out; omega)
      have F1 := Aside0.mk f1
      have F2 := Aside0.mk f2
      have F3 := Aside0.mk f3
      have F4 := Aside0.mk f4
      have F5 := Aside0.mk f5
      have F6 := Aside0.mk f6
      have p' := eq_true p
      have q' := eq_true q
      have z1 : IntKind.i64.wrap ((i : Int) + 1) = (i : Int) + 1 := IntWalk.i64_in _ (by have := HLM.out; omega)
      have t3 : ((e : Int) == e) = true := beq_self_eq_true e
      have t3' : ((e : Int) != e) = false := by simp
      clear f1 f2 f3 f4 f5 f6 f7 hup hb1 hs p q
      have ct := Aside0.mk (Kd.C_below HR.out HBi.out)
      go_wp2_with (first
        | (go_at_call 25; (with_reducible refine (incr_Decoder_Feed.calls k g1 h b s out e h' b' w _ HDi.out HBi.out F1.out).mono ?_); rintro e3 w3 ⟨va, rfl, ra, i3, b3, k3⟩; have HRa3 := Aside0.mk ra; have HD3 := Aside0.mk i3; have HB3 := Aside0.mk b3; have HE3 := Aside0.mk (keep28 HEi.out k3 (Ne.symm HNE.out)); obtain ⟨ad3, e3, hx3⟩ := Kd.at_string (Kd.C_below HR.out HB3.out) (i : Int) (of_eq_true p') (of_eq_true q'); cases e3; rw [Int.toNat_natCast, ← HSE.out] at hx3; clear ra i3 b3 k3 hx)
        | (go_at_call 26; (with_reducible refine (halberdref16_Decoder_Feed.calls k g2 h b s out e h' b' w _ HE3.out HB3.out F2.out).mono ?_); rintro e4 w4 ⟨vb, rfl, rb, i4, b4, k4⟩; have HRb4 := Aside0.mk rb; have HE4 := Aside0.mk i4; have HB4 := Aside0.mk b4; have HD4 := Aside0.mk (keep63 HD3.out k4 HNE.out); have HRa4 := Aside0.mk (Kd.R_keep (HE3.out.apart HRa3.out (by decide)) k4 (fun k hk => hk.2)); obtain ⟨Aa, ca, ea, hla, hCa⟩ := Kd.R_reads HRa4.out; obtain ⟨Ab, cb, eb, hlb, hCb⟩ := Kd.R_reads HRb4.out; subst ea; subst eb; have HCa := Aside0.mk hCa; have HCb := Aside0.mk hCb; clear rb i4 b4 k4 hx3 hCa hCb)
        | (go_at_call 27; (with_reducible refine (halberdlaw0_SameTexts.calls k Aa ca out Ab cb out true _ HCa.out hla HCb.out hlb F3.out).mono ?_); rintro e5 w5 ⟨rfl, d5⟩; have HD5 := Aside0.mk (drawn63 HD4.out d5); have HE5 := Aside0.mk (drawn28 HE4.out d5); have HB5 := Aside0.mk (below_step HB4.out d5.below); have HRa5 := Aside0.mk (Kd.R_below HRa4.out d5.below); clear d5)
        | (go_at_call 28; (with_reducible refine (halberdlaw0_Num.calls e e _ (num_f e)).mono ?_); rintro e6 w6 ⟨rfl, d6⟩; have HD6 := Aside0.mk (drawn63 HD5.out d6); have HE6 := Aside0.mk (drawn28 HE5.out d6); have HB6 := Aside0.mk (below_step HB5.out d6.below); have HRa6 := Aside0.mk (Kd.R_below HRa5.out d6.below); clear d6)
        | (go_at_call 29; (with_reducible refine (incr_Decoder_Held.calls g1 h' b' (h'.size : Int) h' b' w _ HD6.out HB6.out F5.out).mono ?_); rintro e7 w7 ⟨rfl, i7, b7, k7⟩; have HD7 := Aside0.mk i7; have HB7 := Aside0.mk b7; have HE7 := Aside0.mk (keep28 HE6.out k7 (Ne.symm HNE.out)); have HRa7 := Aside0.mk (Kd.R_keep (HD6.out.apart HRa6.out (by decide)) k7 (fun k hk => hk.2)); clear i7 b7 k7)
        | (go_at_call 30; (with_reducible refine (halberdref16_Decoder_Held.calls g2 h' b' (h'.size : Int) h' b' w _ HE7.out HB7.out F6.out).mono ?_); rintro e8 w8 ⟨rfl, i8, b8, k8⟩; have HE8 := Aside0.mk i8; have HB8 := Aside0.mk b8; have HD8 := Aside0.mk (keep63 HD7.out k8 HNE.out); have HRa8 := Aside0.mk (Kd.R_mono (ok' := fun k_ => k_ ≠ g1 ∧ k_ ≠ g2) (i8.apart (HD8.out.apart (Kd.R_keep (HE7.out.apart HRa7.out (by decide)) k8 (fun k hk => hk.2)) (by decide)) (by decide)) (fun k hk => ⟨hk.1.2, hk.2⟩)); clear i8 b8 k8)
        | (go_at_call 31; (with_reducible refine (halberdlaw0_SpoilTexts.calls k (fun k_ => k_ ≠ g1 ∧ k_ ≠ g2) _ out out2 w _ HB8.out (Kd.R_lower HRa8.out (below_size HBi.out)) F4.out).mono ?_); rintro e9 w9 ⟨rfl, r9, b9, k9⟩; have HD9 := Aside0.mk (HD8.out.kept k9 (fun hk => hk.1 rfl)); have HE9 := Aside0.mk (HE8.out.kept k9 (fun hk => hk.2 rfl)); have HB9 := Aside0.mk b9; clear r9 b9 k9))
      go_roundw
      case rel => first | exact ⟨i + 1, h', b', by omega, by go_num, HD9, HE9, HB9, HU'⟩ | ((repeat apply Exists.intro); exact ⟨⟨i + 1, h', b', by omega, by go_num, HD9, HE9, HB9, HU'⟩, rfl⟩)
      case measure => simp [intOf]; omega
    · have t2 : decide ((i : Int) < 60) = false := decide_eq_false (by omega)
      go_wp2_with (go_at_call 32; (with_reducible refine (halberdlaw18_awake.calls true _ rfl).mono ?_); rintro e3 w3 ⟨rfl, b3⟩; have HB3 := Aside0.mk (below_step HBi.out b3); clear b3)
      go_ret
      exact ⟨rfl, HB3.out⟩
  · have t1 : decide ((i : Int) < (l.length : Int)) = false := decide_eq_false (by omega)
    go_wp2_with (go_at_call 32; (with_reducible refine (halberdlaw18_awake.calls true _ rfl).mono ?_); rintro e3 w3 ⟨rfl, b3⟩; have HB3 := Aside0.mk (below_step HBi.out b3); clear b3)
    go_ret
    exact ⟨rfl, HB3.out⟩
end Go.Proofs.Ytggnmnpmhknjgaa.Inc
