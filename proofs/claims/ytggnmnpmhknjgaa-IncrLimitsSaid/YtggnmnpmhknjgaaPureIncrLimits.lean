/- Proved: a message of 65536 bytes at the most is taken, a longer one is refused, and nothing is taken behind one that is too long (halberdlaw18.IncrLimits answers true at every input). Conditions: none beside the given statement's own. -/
import Derived.Test.YtggnmnpmhknjgaaYx2
import Derived.Test.YtggnmnpmhknjgaaYx3
import Derived.Test.YtggnmnpmhknjgaaYx5
import Derived.Test.YtggnmnpmhknjgaaYPureIncr
namespace Go.Proofs.Ytggnmnpmhknjgaa.Pure
open Go.RowKit Go.Proofs.Ytggnmnpmhknjgaa.Y Go.Proofs.YtggnmnpmhknjgaaW.PrintWords Go.Proofs.YtggnmnpmhknjgaaW.PrintLast Go.Proofs.YtggnmnpmhknjgaaW.PrintMore
set_option linter.unusedVariables false
set_option linter.unusedSimpArgs false

theorem same20 : Ev (fun k => halberdlaw0_SameTexts.f k ([(⟨#[20, 0, 0, 0]⟩ : ByteArray)] : List ByteArray) ([(⟨#[20, 0, 0, 0]⟩ : ByteArray)] : List ByteArray)) true :=
  Ev.of (halberdlaw0_SameTexts.mono _ _) (k := 9) (by decide +kernel)
def hdr (k : Int) : ByteArray := strOfNums [7, k / 65536 % 256, k / 256 % 256, k % 256]
theorem hdr_bytes (k : Int) : bytesOf (hdr k) = [7, k / 65536 % 256, k / 256 % 256, k % 256] := by
  refine bytesOf_strOf (fun x hx => ?_)
  simp only [List.mem_cons, List.not_mem_nil, or_false] at hx
  rcases hx with rfl | rfl | rfl | rfl <;> omega
theorem hdr_size (k : Int) : (hdr k).size = 4 := by rw [← bytesOf_length, hdr_bytes]; rfl
theorem hdr_len {k : Int} (h0 : 0 ≤ k) (h1 : k < 16777216) : nv (hdr k) 1 3 = k := by
  rw [(header (hdr_bytes k)).2]
  omega
theorem first_bytes : bytesOf (⟨#[20, 0, 0, 0]⟩ : ByteArray) = [20, 0, 0, 0] := rfl
theorem limits_long (k : Int) (a : ByteArray) (h0 : 65532 < k) (h1 : k ≤ 65537) :
    Ev (fun n => incr_Decoder_Feed.f n (⟨#[]⟩ : ByteArray) false (hdr k)) ([], 1800, hdr k, true) ∧
    Ev (fun n => incr_Decoder_Feed.f n (⟨#[]⟩ : ByteArray) false ((⟨#[20, 0, 0, 0]⟩ : ByteArray) ++ hdr k)) ([(⟨#[20, 0, 0, 0]⟩ : ByteArray)], 0, hdr k, false) ∧
    Ev (fun n => incr_Decoder_Feed.f n (hdr k) false (⟨#[]⟩ : ByteArray)) ([], 1800, hdr k, true) := by
  have ze : (⟨#[]⟩ : ByteArray).size = 0 := rfl
  have z2 : (⟨#[20, 0, 0, 0]⟩ : ByteArray).size = 4 := rfl
  have zh := hdr_size k
  have hl := hdr_len (k := k) (by omega) (by omega)
  have zz : ((⟨#[20, 0, 0, 0]⟩ : ByteArray) ++ hdr k).size = 8 := by rw [ByteArray.size_append, z2, zh]
  have hb : bytesOf ((⟨#[20, 0, 0, 0]⟩ : ByteArray) ++ hdr k) = 20 :: 0 :: 0 :: 0 :: bytesOf (hdr k) := by rw [bytesOf_app, first_bytes]; rfl
  have hn := (header hb).2
  refine ⟨?_, ?_, ?_⟩
  · have h := feed_ok (⟨#[]⟩ : ByteArray) (hdr k) (by omega)
    rw [none_app, drain_long (by omega) (by omega)] at h
    exact h
  · have h := feed_ok (⟨#[]⟩ : ByteArray) ((⟨#[20, 0, 0, 0]⟩ : ByteArray) ++ hdr k) (by omega)
    rw [none_app, drain_take (by omega) (by omega) (by omega)] at h
    have e4 : (nv ((⟨#[20, 0, 0, 0]⟩ : ByteArray) ++ hdr k) 1 3 + 4).toNat = 4 := by omega
    have e1 : ((⟨#[20, 0, 0, 0]⟩ : ByteArray) ++ hdr k).extract 0 4 = (⟨#[20, 0, 0, 0]⟩ : ByteArray) := by
      apply bytesOf_inj
      rw [bytesOf_extract, hb]
      rfl
    have e2 : ((⟨#[20, 0, 0, 0]⟩ : ByteArray) ++ hdr k).extract 4 8 = hdr k := by
      apply bytesOf_inj
      rw [bytesOf_extract, hb, hdr_bytes]
      rfl
    rw [e4, zz, e1, e2] at h
    have e5 : (⟨#[]⟩ : ByteArray).size + 8 = 7 + 1 := rfl
    rw [e5, List.nil_append, drain_stop (by omega) (by omega)] at h
    exact h
  · have h := feed_ok (hdr k) (⟨#[]⟩ : ByteArray) (by omega)
    rw [app_none, drain_long (by omega) (by omega)] at h
    exact h
theorem limits_short (k : Nat) (h0 : 65530 ≤ k) (h1 : k ≤ 65532) :
    Ev (fun n => incr_Decoder_Feed.f n (⟨#[]⟩ : ByteArray) false (hdr k)) ([], 0, hdr k, false) ∧
    ∃ m h, m.size = k + 4 ∧ h.size = 1 ∧ Ev (fun n => incr_Decoder_Feed.f n (hdr k) false (strOfNums (List.replicate k 0) ++ (⟨#[5]⟩ : ByteArray))) ([m], 0, h, false) := by
  have ze : (⟨#[]⟩ : ByteArray).size = 0 := rfl
  have z5 : (⟨#[5]⟩ : ByteArray).size = 1 := rfl
  have zh := hdr_size (k : Int)
  have hl := hdr_len (k := (k : Int)) (by omega) (by omega)
  have zr : (strOfNums (List.replicate k 0)).size = k := by rw [strOf_size, List.length_replicate]
  have za : (strOfNums (List.replicate k 0) ++ (⟨#[5]⟩ : ByteArray)).size = k + 1 := by rw [ByteArray.size_append, zr, z5]
  have zz : (hdr k ++ (strOfNums (List.replicate k 0) ++ (⟨#[5]⟩ : ByteArray))).size = k + 5 := by rw [ByteArray.size_append, zh, za]; omega
  have hb : bytesOf (hdr k ++ (strOfNums (List.replicate k 0) ++ (⟨#[5]⟩ : ByteArray))) = 7 :: (k : Int) / 65536 % 256 :: (k : Int) / 256 % 256 :: (k : Int) % 256 :: bytesOf (strOfNums (List.replicate k 0) ++ (⟨#[5]⟩ : ByteArray)) := by rw [bytesOf_app, hdr_bytes]; rfl
  have hn := (header hb).2
  refine ⟨?_, ?_⟩
  · have h := feed_ok (⟨#[]⟩ : ByteArray) (hdr k) (by omega)
    rw [none_app, drain_wait (by right; omega)] at h
    exact h
  · have h := feed_ok (hdr k) (strOfNums (List.replicate k 0) ++ (⟨#[5]⟩ : ByteArray)) (by omega)
    rw [drain_take (by omega) (by omega) (by omega)] at h
    have e4 : (nv (hdr k ++ (strOfNums (List.replicate k 0) ++ (⟨#[5]⟩ : ByteArray))) 1 3 + 4).toNat = k + 4 := by omega
    rw [e4, zz] at h
    have w1 : ((hdr k ++ (strOfNums (List.replicate k 0) ++ (⟨#[5]⟩ : ByteArray))).extract (k + 4) (k + 5)).size = 1 := by rw [ByteArray.size_extract]; omega
    rw [drain_wait (by left; omega)] at h
    exact ⟨_, _, by rw [ByteArray.size_extract]; omega, w1, h⟩
/-- The given statement's pure form. -/
theorem IncrLimits : halberdlaw18_IncrLimits.Pure := by
  intro a0 a _ _
  obtain ⟨k, hk⟩ : ∃ k : Nat, (k : Int) = 65530 + a0 % 8 := ⟨(65530 + a0 % 8).toNat, by omega⟩
  have hw : wrap64 (65530 + Go.bits .and .i64 a0 7) = k := by rw [and_7, w64 (by omega) (by omega), hk]
  by_cases c : k + 4 > 65536
  · obtain ⟨⟨K1, f1⟩, ⟨K2, f2⟩, ⟨K3, f3⟩⟩ := limits_long (k : Int) a (by omega) (by omega)
    obtain ⟨K4, f4⟩ := same20
    obtain ⟨K5, f5⟩ := feed_long (hdr k) a
    refine ⟨K1 + K2 + K3 + K4 + K5, ?_⟩
    unfold halberdlaw18_IncrLimits.f
    rw [hw]
    refine bindE aw18 ?_
    rw [if_pos rfl]
    refine bindE new_f ?_
    refine bindE (f1 _ (by omega)) ?_
    rw [w64 (a := (k : Int) + 4) (by omega) (by omega), if_pos (by omega)]
    refine bindE (f5 _ (by omega)) ?_
    refine bindE new_f ?_
    refine bindE rfl ?_
    rw [if_pos (by have := hdr_size (k : Int); unfold hdr at this; omega)]
    refine bindE (f2 _ (by omega)) ?_
    refine bindE (f3 _ (by omega)) ?_
    rw [if_pos (by rfl)]
    refine bindE (num_f _) ?_
    rw [if_pos rfl]
    refine bindE (num_f _) ?_
    rw [if_pos rfl]
    refine bindE (f4 _ (by omega)) ?_
    rw [if_pos rfl]
    refine bindE (num_f _) ?_
    rw [if_pos rfl]
    refine bindE (num_f _) ?_
    rfl
  · obtain ⟨⟨K1, f1⟩, m, h, hm, hh, ⟨K2, f2⟩⟩ := limits_short k (by omega) (by omega)
    refine ⟨K1 + K2, ?_⟩
    unfold halberdlaw18_IncrLimits.f
    rw [hw]
    refine bindE aw18 ?_
    rw [if_pos rfl]
    refine bindE new_f ?_
    refine bindE (f1 _ (by omega)) ?_
    have hkn : ((k : Int)).toNat = k := by omega
    rw [w64 (a := (k : Int) + 4) (by omega) (by omega), if_neg (by omega), if_pos (by omega), hkn, if_pos (by omega)]
    refine bindE rfl ?_
    rw [if_pos (by rw [strOf_size, List.length_replicate]; omega)]
    refine bindE (f2 _ (by omega)) ?_
    rw [if_pos (by rfl)]
    refine bindE (num_f _) ?_
    rw [if_pos rfl, if_pos (by rfl), if_pos (by show (0 : Int) < 1; omega), if_pos (by show ((m.size : Nat) : Int) = _; omega)]
    refine bindE (num_f _) ?_
    rw [if_pos rfl]
    refine bindE (held_f _ _) ?_
    simp only [hh]
    rfl

end Go.Proofs.Ytggnmnpmhknjgaa.Pure
