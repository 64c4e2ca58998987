/- Lemmas: incr's Decoder answers as the document's at any held bytes and any part, below a bound. Conditions: each lemma's own. -/
import Derived.Test.YtggnmnpmhknjgaaIx2
import Derived.Test.YtggnmnpmhknjgaaIx3
import Derived.Test.YtggnmnpmhknjgaaIx4
import Derived.Test.YtggnmnpmhknjgaaIx5
import Derived.Test.YtggnmnpmhknjgaaIPureIncr
import Derived.Test.YtggnmnpmhknjgaaInc
namespace Go.Proofs.Ytggnmnpmhknjgaa.Pure
open Go.RowKit Go.Proofs.Ytggnmnpmhknjgaa.I Go.Proofs.YtggnmnpmhknjgaaW.PrintWords Go.Proofs.YtggnmnpmhknjgaaW.PrintLast Go.Proofs.YtggnmnpmhknjgaaW.PrintMore
set_option linter.unusedVariables false
set_option linter.unusedSimpArgs false

/-! ### The document's decoder -/
set_option maxHeartbeats 4000000 in
theorem rfeed_loop : ∀ (f : Nat) (out : List ByteArray) (h : ByteArray), h.size < f → out.length + f < 8796093022208 → h.size ≤ 140737488351232 →
    Ev (fun k => halberdref16_Decoder_Feed.l0 k out h false) (drain f out h)
  | 0, _, _, hf, _, _ => absurd hf (by omega)
  | f + 1, out, h, hf, ho, hs => by
    have v := nv_bd4 h 1 3 (by omega)
    by_cases c1 : h.size < 4
    · have e3 : drain (f + 1) out h = (out, 0, h, false) := by simp only [drain]; rw [if_pos c1]
      rw [e3]
      exact Ev.step (f := fun _ => some (out, 0, h, false)) (fun k => by simp only [halberdref16_Decoder_Feed.l0]; rw [if_neg (by omega)]) (Ev.now _)
    · have hn := rnum_any h 1 3 (by omega) hs
      have en : (numOf h 1 3).1 = nv h 1 3 := by unfold numOf; rw [if_neg (by omega)]
      have hw : wrap64 ((numOf h 1 3).1 + 4) = nv h 1 3 + 4 := by rw [en, w64 (by omega) (by omega)]
      refine Ev.step (f := fun k => (halberdref1_Num.f k h 1 3).bind _) (fun k => by simp only [halberdref16_Decoder_Feed.l0]; rw [if_pos (by omega)]) ?_
      refine Ev.bind hn ?_
      simp only [hw]
      by_cases c2 : nv h 1 3 + 4 > 65536
      · have e3 : drain (f + 1) out h = (if (out.length : Int) = 0 then ([], 1800, h, true) else (out, 0, h, false)) := by simp only [drain]; rw [if_neg c1, if_pos c2]
        rw [e3]
        refine evPos c2 ?_
        by_cases c4 : (out.length : Int) = 0
        · rw [if_pos c4]
          exact evNeg (by omega) (Ev.now _)
        · rw [if_neg c4]
          exact evPos (by omega) (Ev.now _)
      · simp only [if_neg c2]
        by_cases c3 : nv h 1 3 + 4 ≤ (h.size : Int)
        · have e3 : drain (f + 1) out h = drain f (out ++ [h.extract 0 (nv h 1 3 + 4).toNat]) (h.extract (nv h 1 3 + 4).toNat h.size) := by simp only [drain]; rw [if_neg c1, if_neg c2, if_pos c3]
          rw [e3]
          have hx : (h.extract (nv h 1 3 + 4).toNat h.size).size = h.size - (nv h 1 3 + 4).toNat := by rw [ByteArray.size_extract]; omega
          have ih := rfeed_loop f (out ++ [h.extract 0 (nv h 1 3 + 4).toNat]) (h.extract (nv h 1 3 + 4).toNat h.size) (by omega) (by rw [List.length_append, List.length_singleton]; omega) (by omega)
          refine evNeg (by omega) (evPos (by omega) (evPos c3 (evPos (by omega) ih)))
        · have e3 : drain (f + 1) out h = (out, 0, h, false) := by simp only [drain]; rw [if_neg c1, if_neg c2, if_neg c3]
          rw [e3]
          exact evPos (by omega) (Ev.now _)
theorem rfeed_ok (s a : ByteArray) (h : s.size + a.size ≤ 4000000) : Ev (fun k => halberdref16_Decoder_Feed.f k s false a) (drain (s.size + a.size + 1) [] (s ++ a)) := by
  have hz : (s ++ a).size = s.size + a.size := ByteArray.size_append
  refine Ev.congr (f := fun k => halberdref16_Decoder_Feed.l0 k [] (s ++ a) false) (fun k => by unfold halberdref16_Decoder_Feed.f; rw [if_neg (by simp), if_pos (by omega)]) ?_
  exact rfeed_loop (s.size + a.size + 1) [] (s ++ a) (by omega) (by rw [List.length_nil]; omega) (by omega)
theorem rfeed_long (s a : ByteArray) : Ev (fun k => halberdref16_Decoder_Feed.f k s true a) ([], 1800, s, true) := ev_const' (fun k => by unfold halberdref16_Decoder_Feed.f; rw [if_pos rfl])
/-! ### What comes out -/
theorem drain_bound (B : Nat) : ∀ (f : Nat) (out : List ByteArray) (h : ByteArray), (∀ y ∈ out, y.size ≤ B) → h.size ≤ B →
    (∀ y ∈ (drain f out h).1, y.size ≤ B) ∧ (drain f out h).1.length ≤ out.length + f ∧ (drain f out h).2.2.1.size ≤ h.size
  | 0, out, h, ho, _ => ⟨ho, Nat.le_refl _, Nat.le_refl _⟩
  | f + 1, out, h, ho, hB => by
    have v := nv_bd4 h 1 3 (by omega)
    simp only [drain]
    split
    · exact ⟨ho, by simp only []; omega, Nat.le_refl _⟩
    · split
      · split
        · exact ⟨by simp, by simp, Nat.le_refl _⟩
        · exact ⟨ho, by simp only []; omega, Nat.le_refl _⟩
      · split
        · have hx : (h.extract (nv h 1 3 + 4).toNat h.size).size ≤ h.size := by rw [ByteArray.size_extract]; omega
          have hy : (h.extract 0 (nv h 1 3 + 4).toNat).size ≤ h.size := by rw [ByteArray.size_extract]; omega
          obtain ⟨a, b, c⟩ := drain_bound B f (out ++ [h.extract 0 (nv h 1 3 + 4).toNat]) (h.extract (nv h 1 3 + 4).toNat h.size) (fun y hyy => by
            rcases List.mem_append.mp hyy with h1 | h1
            · exact ho y h1
            · rw [List.mem_singleton.mp h1]; omega) (by omega)
          exact ⟨a, by rw [List.length_append, List.length_singleton] at b; omega, by omega⟩
        · exact ⟨ho, by simp only []; omega, Nat.le_refl _⟩
theorem same_loop (out : List ByteArray) (hl : out.length ≤ 100000000) : ∀ (d i : Nat), i + d = out.length → Ev (fun k => halberdlaw0_SameTexts.l0 k out out (i : Int)) true
  | 0, i, hi => Ev.step (f := fun _ => some true) (fun k => by simp only [halberdlaw0_SameTexts.l0]; rw [if_neg (by omega)]) (Ev.now _)
  | d + 1, i, hi => by
    have hw : wrap64 ((i : Int) + 1) = ((i + 1 : Nat) : Int) := by rw [w64 (by omega) (by omega)]; omega
    refine Ev.step (f := fun k => halberdlaw0_SameTexts.l0 k out out ((i + 1 : Nat) : Int)) (fun k => ?_) (same_loop out hl d (i + 1) (by omega))
    simp only [halberdlaw0_SameTexts.l0]
    rw [if_pos (by omega), if_pos (by omega), if_pos (by omega), if_pos trivial, hw]
theorem same_ok (out : List ByteArray) (hl : out.length ≤ 100000000) : Ev (fun k => halberdlaw0_SameTexts.f k out out) true := by
  refine Ev.congr (f := fun k => halberdlaw0_SameTexts.l0 k out out ((0 : Nat) : Int)) (fun k => by unfold halberdlaw0_SameTexts.f; rw [if_pos rfl]; rfl) (same_loop out hl out.length 0 (by omega))
theorem spoil_loop : ∀ (d i : Nat) (x : List ByteArray), i + d = x.length → x.length ≤ 100000000 → (∀ j : Nat, i ≤ j → (rdOf ByteArray.empty x (j : Int)).size ≤ 4000000) → ∃ out2, Ev (fun k => halberdlaw0_SpoilTexts.l0 k x (i : Int)) out2
  | 0, i, x, hi, hl, _ => ⟨x, Ev.step (f := fun _ => some x) (fun k => by simp only [halberdlaw0_SpoilTexts.l0]; rw [if_neg (by omega)]) (Ev.now _)⟩
  | d + 1, i, x, hi, hl, hs => by
    have hw : wrap64 ((i : Int) + 1) = ((i + 1 : Nat) : Int) := by rw [w64 (by omega) (by omega)]; omega
    obtain ⟨out2, h2⟩ := spoil_loop d (i + 1) (x.set i ((⟨#[126]⟩ : ByteArray) ++ rdOf ByteArray.empty x (i : Int))) (by rw [List.length_set]; omega) (by rw [List.length_set]; omega) (fun j hj => by
      have e : rdOf ByteArray.empty (x.set i ((⟨#[126]⟩ : ByteArray) ++ rdOf ByteArray.empty x (i : Int))) (j : Int) = rdOf ByteArray.empty x (j : Int) := by
        unfold rdOf
        rw [Int.toNat_natCast j, List.getD_eq_getElem?_getD, List.getElem?_set_ne (by omega), List.getD_eq_getElem?_getD]
      rw [e]
      exact hs j (by omega))
    refine ⟨out2, Ev.step (f := fun k => halberdlaw0_SpoilTexts.l0 k (x.set i ((⟨#[126]⟩ : ByteArray) ++ rdOf ByteArray.empty x (i : Int))) ((i + 1 : Nat) : Int)) (fun k => ?_) h2⟩
    have h3 := hs i (Nat.le_refl _)
    simp only [halberdlaw0_SpoilTexts.l0]
    rw [if_pos (by omega), if_pos (by omega), if_pos (by omega), hw, Int.toNat_natCast]
theorem spoil_ok (x : List ByteArray) (hl : x.length ≤ 100000000) (hs : ∀ y ∈ x, y.size ≤ 4000000) : ∃ out2, Ev (fun k => halberdlaw0_SpoilTexts.f k x) out2 := by
  obtain ⟨o, ho⟩ := spoil_loop x.length 0 x (by omega) hl (fun j _ => by
    unfold rdOf
    rw [Int.toNat_natCast, List.getD_eq_getElem?_getD]
    cases e : x[j]? with
    | none => exact Nat.zero_le _
    | some y => exact hs y (List.mem_of_getElem? e))
  exact ⟨o, Ev.congr (f := fun k => halberdlaw0_SpoilTexts.l0 k x ((0 : Nat) : Int)) (fun k => by unfold halberdlaw0_SpoilTexts.f; rfl) ho⟩
theorem rheld_f (s : ByteArray) (b : Bool) : halberdref16_Decoder_Held.f s b = some ((s.size : Int), s, b) := rfl
theorem alike_of (h : ByteArray) (b : Bool) (s : ByteArray) (r : List ByteArray × Int × ByteArray × Bool) (h1 : Ev (fun k => incr_Decoder_Feed.f k h b s) r) (h2 : Ev (fun k => halberdref16_Decoder_Feed.f k h b s) r)
    (hl : r.1.length ≤ 100000000) (hs : ∀ y ∈ r.1, y.size ≤ 4000000) (hz : r.2.2.1.size ≤ h.size + s.size) : Inc.Alike h b s := by
  obtain ⟨out, e, h', b'⟩ := r
  obtain ⟨K1, k1⟩ := h1
  obtain ⟨K2, k2⟩ := h2
  obtain ⟨K3, k3⟩ := same_ok out hl
  obtain ⟨o2, K4, k4⟩ := spoil_ok out hl hs
  refine ⟨K1 + K2 + K3 + K4, out, e, h', b', k1 _ (by omega), k2 _ (by omega), k3 _ (by omega), ⟨o2, k4 _ (by omega)⟩, held_f _ _, rheld_f _ _, hz⟩
theorem same_feeds : Inc.Same := by
  intro h b s hs
  cases b with
  | true => exact alike_of h true s _ (feed_long h s) (rfeed_long h s) (by simp) (by simp) (by simp only []; omega)
  | false =>
    have hz : (h ++ s).size = h.size + s.size := ByteArray.size_append
    obtain ⟨a, b, c⟩ := drain_bound 4000000 (h.size + s.size + 1) [] (h ++ s) (by simp) (by omega)
    refine alike_of h false s _ (feed_ok h s (by omega)) (rfeed_ok h s (by omega)) ?_ a (by omega)
    rw [List.length_nil] at b
    omega

end Go.Proofs.Ytggnmnpmhknjgaa.Pure
