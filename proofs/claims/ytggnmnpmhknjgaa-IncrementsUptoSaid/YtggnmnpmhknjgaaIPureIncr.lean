/- Lemmas on incr's Decoder: what Feed answers. Conditions: each lemma's own. -/
import Derived.Test.YtggnmnpmhknjgaaIx1
import Derived.Test.YtggnmnpmhknjgaaIx2
import Derived.Test.YtggnmnpmhknjgaaIx5
import Derived.Test.YtggnmnpmhknjgaaIPureLib
namespace Go.Proofs.Ytggnmnpmhknjgaa.Pure
open Go.RowKit Go.Proofs.Ytggnmnpmhknjgaa.I Go.Proofs.YtggnmnpmhknjgaaW.PrintWords Go.Proofs.YtggnmnpmhknjgaaW.PrintLast Go.Proofs.YtggnmnpmhknjgaaW.PrintMore
set_option linter.unusedVariables false
set_option linter.unusedSimpArgs false

/-! ### The decoder -/
def wlen (h : ByteArray) : Int := if h.size < 4 then 4 else nv h 1 3 + 4
def wis (h : ByteArray) : Bool := decide (4 ≤ h.size)
theorem whole_ok (h : ByteArray) (b : Bool) (hs : h.size ≤ 140737488351232) : Ev (fun k => incr_Decoder_whole.f k h b) (wlen h, wis h, h, b) := by
  refine Ev.congr (f := fun k => (wire_U24.f k h 1).bind _) (fun k => by unfold incr_Decoder_whole.f; rfl) ?_
  refine Ev.bind (U24_any h 1 hs) (ev_const ?_)
  unfold numOf wlen wis
  have v := nv_bd4 h 1 3 (by omega)
  by_cases hc : h.size < 4
  · rw [if_pos (by omega), if_pos hc]
    have e : decide (4 ≤ h.size) = false := decide_eq_false (by omega)
    rw [e]
    simp [wrap64]
  · rw [if_neg (by omega), if_neg hc]
    have e : decide (4 ≤ h.size) = true := decide_eq_true (by omega)
    rw [e, w64 (by omega) (by omega)]
    simp
def drain : Nat → List ByteArray → ByteArray → List ByteArray × Int × ByteArray × Bool
  | 0, out, h => (out, 0, h, false)
  | f + 1, out, h =>
    if h.size < 4 then (out, 0, h, false)
    else if nv h 1 3 + 4 > 65536 then (if (out.length : Int) = 0 then ([], 1800, h, true) else (out, 0, h, false))
    else if nv h 1 3 + 4 ≤ h.size then drain f (out ++ [h.extract 0 (nv h 1 3 + 4).toNat]) (h.extract (nv h 1 3 + 4).toNat h.size)
    else (out, 0, h, false)
set_option maxHeartbeats 4000000 in
theorem feed_loop : ∀ (f : Nat) (out : List ByteArray) (h : ByteArray), h.size < f → out.length + f < 8796093022208 → h.size ≤ 140737488351232 →
    Ev (fun k => incr_Decoder_Feed.l0 k out (wlen h) (wis h) h false) (drain f out h)
  | 0, _, _, hf, _, _ => absurd hf (by omega)
  | f + 1, out, h, hf, ho, hs => by
    have hw := whole_ok h false hs
    have v := nv_bd4 h 1 3 (by omega)
    by_cases c1 : h.size < 4
    · have e1 : wlen h = 4 := by unfold wlen; rw [if_pos c1]
      have e2 : wis h = false := decide_eq_false (by omega)
      have e3 : drain (f + 1) out h = (out, 0, h, false) := by simp only [drain]; rw [if_pos c1]
      rw [e1, e2] at hw
      rw [e1, e2, e3]
      refine Ev.step (f := fun k => (incr_Decoder_whole.f k h false).bind _) (fun k => by simp only [incr_Decoder_Feed.l0]; rw [if_neg (by simp)]) ?_
      refine Ev.bind hw (ev_const ?_)
      rfl
    · have e1 : wlen h = nv h 1 3 + 4 := by unfold wlen; rw [if_neg c1]
      have e2 : wis h = true := decide_eq_true (by omega)
      rw [e1, e2] at hw
      rw [e1, e2]
      by_cases c2 : nv h 1 3 + 4 > 65536
      · have e3 : drain (f + 1) out h = (if (out.length : Int) = 0 then ([], 1800, h, true) else (out, 0, h, false)) := by simp only [drain]; rw [if_neg c1, if_pos c2]
        rw [e3]
        refine Ev.step (f := fun k => (incr_Decoder_whole.f k h false).bind _) (fun k => by
          simp only [incr_Decoder_Feed.l0]
          rw [if_pos trivial]
          by_cases c4 : nv h 1 3 + 4 ≤ (h.size : Int)
          · rw [if_pos c4, if_neg (by omega)]
          · rw [if_neg c4]) ?_
        refine Ev.bind hw (ev_const ?_)
        rw [if_pos rfl, if_pos c2]
        split <;> rfl
      · by_cases c3 : nv h 1 3 + 4 ≤ (h.size : Int)
        · have e3 : drain (f + 1) out h = drain f (out ++ [h.extract 0 (nv h 1 3 + 4).toNat]) (h.extract (nv h 1 3 + 4).toNat h.size) := by simp only [drain]; rw [if_neg c1, if_neg c2, if_pos c3]
          rw [e3]
          have hx : (h.extract (nv h 1 3 + 4).toNat h.size).size = h.size - (nv h 1 3 + 4).toNat := by rw [ByteArray.size_extract]; omega
          have ih := feed_loop f (out ++ [h.extract 0 (nv h 1 3 + 4).toNat]) (h.extract (nv h 1 3 + 4).toNat h.size) (by omega) (by rw [List.length_append, List.length_singleton]; omega) (by omega)
          refine Ev.step (f := fun k => (incr_Decoder_whole.f k (h.extract (nv h 1 3 + 4).toNat h.size) false).bind _) (fun k => by
            simp only [incr_Decoder_Feed.l0]
            rw [if_pos trivial, if_pos c3, if_pos (by omega), if_pos (by omega), if_pos (by omega)]) ?_
          have hw2 := whole_ok (h.extract (nv h 1 3 + 4).toNat h.size) false (by omega)
          refine Ev.bind hw2 ?_
          exact ih
        · have e3 : drain (f + 1) out h = (out, 0, h, false) := by simp only [drain]; rw [if_neg c1, if_neg c2, if_neg c3]
          rw [e3]
          refine Ev.step (f := fun k => (incr_Decoder_whole.f k h false).bind _) (fun k => by
            simp only [incr_Decoder_Feed.l0]
            rw [if_pos trivial, if_neg c3]) ?_
          refine Ev.bind hw (ev_const ?_)
          rw [if_pos rfl, if_neg c2]
theorem feed_ok (s a : ByteArray) (h : s.size + a.size ≤ 4000000) : Ev (fun k => incr_Decoder_Feed.f k s false a) (drain (s.size + a.size + 1) [] (s ++ a)) := by
  have hz : (s ++ a).size = s.size + a.size := ByteArray.size_append
  refine Ev.congr (f := fun k => (incr_Decoder_whole.f k (s ++ a) false).bind _) (fun k => by unfold incr_Decoder_Feed.f; rw [if_neg (by simp), if_pos (by omega)]) ?_
  have hw := whole_ok (s ++ a) false (by omega)
  refine Ev.bind hw ?_
  exact feed_loop (s.size + a.size + 1) [] (s ++ a) (by omega) (by rw [List.length_nil]; omega) (by omega)
theorem feed_long (s a : ByteArray) : Ev (fun k => incr_Decoder_Feed.f k s true a) ([], 1800, s, true) := ev_const' (fun k => by unfold incr_Decoder_Feed.f; rw [if_pos rfl])
theorem new_f : incr_New.f = some ((⟨#[]⟩ : ByteArray), false) := rfl
theorem held_f (s : ByteArray) (b : Bool) : incr_Decoder_Held.f s b = some ((s.size : Int), s, b) := rfl

end Go.Proofs.Ytggnmnpmhknjgaa.Pure
