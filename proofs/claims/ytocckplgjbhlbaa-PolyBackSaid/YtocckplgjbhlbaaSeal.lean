/- poly's Seal and Open, walked. Conditions: none. -/
import Derived.Test.YtocckplgjbhlbaaTagN
namespace Go.Proofs.Ytocckplgjbhlbaa.Pol
open Go.RowKit Go.Proofs.YtocckplgjbhlbaaW.PrintWords Go.Proofs.YtocckplgjbhlbaaW.PrintLast Go.Proofs.Ytocckplgjbhlbaa.Cha Go.Proofs.Ytocckplgjbhlbaa.X
set_option linter.unusedVariables false
def PMay (key nonce aad : ByteArray) (n : Int) : Prop := key.size = 32 ∧ nonce.size = 12 ∧ aad.size ≤ 65536 ∧ n ≤ 65536
instance (key nonce aad : ByteArray) (n : Int) : Decidable (PMay key nonce aad n) := by unfold PMay; infer_instance
theorem pmay_f (key nonce aad : ByteArray) (n : Int) : poly_may.f key nonce aad 65536 n = some (decide (PMay key nonce aad n)) := by
  unfold poly_may.f
  by_cases h1 : (key.size : Int) = 32
  · rw [if_pos h1]
    by_cases h2 : (nonce.size : Int) = 12
    · rw [if_pos h2]
      by_cases h3 : (aad.size : Int) ≤ 65536
      · rw [if_pos h3]
        have : (n ≤ 65536) ↔ PMay key nonce aad n := ⟨fun h => ⟨by omega, by omega, by omega, h⟩, fun h => h.2.2.2⟩
        simp only [this]
      · rw [if_neg h3]
        rw [decide_eq_false (fun h : PMay key nonce aad n => h3 (by have := h.2.2.1; omega))]
    · rw [if_neg h2]
      rw [decide_eq_false (fun h : PMay key nonce aad n => h2 (by have := h.2.1; omega))]
  · rw [if_neg h1]
    rw [decide_eq_false (fun h : PMay key nonce aad n => h1 (by have := h.1; omega))]
theorem pmay_yes {key nonce aad : ByteArray} {n : Int} (h : PMay key nonce aad n) : poly_may.f key nonce aad 65536 n = some true := by rw [pmay_f, decide_eq_true h]
theorem pmay_no {key nonce aad : ByteArray} {n : Int} (h : ¬ PMay key nonce aad n) : poly_may.f key nonce aad 65536 n = some false := by rw [pmay_f, decide_eq_false h]
theorem tagOf_size (key nonce aad : ByteArray) (bs : List Int) : (tagOf key nonce aad bs).size = 16 := by rw [tagOf, tagged, strOfNums_size_, tout_length]
/-- A text enciphered, as numbers. -/
def turned (key nonce s : ByteArray) : List Int := xr key nonce 1 (bytesOf s) s.size
theorem turned_length (key nonce s : ByteArray) : (turned key nonce s).length = s.size := by rw [turned, xr_length, bytesOf_length]
/-- A sealed text. -/
def sealedOf (key nonce aad s : ByteArray) : ByteArray := xorOut key nonce 1 s ++ tagOf key nonce aad (turned key nonce s)
theorem same_text (a b : ByteArray) : (a.toList == b.toList) = decide (a = b) := by
  rw [ByteArray.toList_eq, ByteArray.toList_eq]
  by_cases h : a = b
  · subst h
    simp
  · rw [decide_eq_false h]
    have : ¬ a.data.toList = b.data.toList := fun e => h (by
      cases a
      cases b
      simp only at e
      rw [Array.toList_inj.1 e])
    simpa using this
set_option maxRecDepth 100000 in
set_option maxHeartbeats 8000000 in
theorem seal_yes (key nonce aad s : ByteArray) (h : PMay key nonce aad s.size) (w : World) :
    Calls Try.prog 20 #[.string key, .string nonce, .string aad, .string s] w fun e w' => e = .returned (.tuple #[.string (sealedOf key nonce aad s), .int .i64 0]) ∧ Below w.heap.size w w' := by
  have hm := Aside0.mk (pmay_yes h)
  obtain ⟨hk, hn, ha, hs⟩ := h
  have hl := bytesOf_length s
  have HX := Aside0.mk (fun (g c2 : Nat) (hc2 : s.size ≤ c2) W hb => xorin_calls key nonce 1 hk hn (bytesOf s) (by rw [hl]; omega) g c2 (by rw [hl]; exact hc2) W hb)
  rw [hl, show ((1 : Int) % 4294967296) = 1 from rfl] at HX
  obtain ⟨ys, hys⟩ : ∃ ys, ys = xr key nonce 1 (bytesOf s) s.size := ⟨_, rfl⟩
  have HYL := Aside0.mk (show ys.length = s.size from by rw [hys, xr_length, bytesOf_length])
  rw [← hys] at HX
  have HYE := Aside0.mk (show ys = turned key nonce s from hys)
  have HT := Aside0.mk (fun (g c : Nat) (hc : s.size ≤ c) W hb => Tag_calls key nonce aad hk hn ha g s.size c ys HYL.out (by omega) hc W hb)
  obtain ⟨X, hX⟩ : ∃ X, X = strOfNums ys := ⟨_, rfl⟩
  have HXE := Aside0.mk (show X = xorOut key nonce 1 s from by rw [hX, hys, xorOut])
  have hXs : X.size = s.size := by rw [hX, strOfNums_size_]; exact HYL.out
  have HXT := Aside0.mk hX
  obtain ⟨tg, htg⟩ : ∃ tg, tg = tagOf key nonce aad ys := ⟨_, rfl⟩
  have htgs : tg.size = 16 := by rw [htg]; exact tagOf_size _ _ _ _
  have HTE := Aside0.mk htg
  rw [← htg] at HT
  obtain ⟨o, ho⟩ : ∃ o, X ++ tg = o := ⟨_, rfl⟩
  have HO := Aside0.mk ho
  have q1 : (X.size + tg.size ≤ 9223372036854775807) = True := eq_true (by omega)
  have q1b : decide (X.size + tg.size ≤ 9223372036854775807) = true := decide_eq_true (by omega)
  have q1c : (9223372036854775807 < X.size + tg.size) = False := eq_false (by omega)
  clear hl hys hk hn ha hs htg htgs hX hXs
  go_enter Try.func20, Try.ntmps20
  go_wp2_with (first
    | (go_at_call 35; (with_reducible refine (poly_may.calls _ _ _ _ _ true _ hm.out).mono ?_); rintro e w' ⟨rfl, ⟨nd, rfl⟩⟩)
    | ((with_reducible refine gate_dst (N := 19) rfl ?_); refine conv_event rfl 9 32 5 _ s rfl rfl Try.underlying9 Try.underlying32 Try.underlying5 ?hc ?_; (case hc => exact grownCap_ge _ _ _ _); intro g eg c hc w1 k1 b1; have HB1 := Aside0.mk (below_step (pw_below_drewN (Below.refl _ _) nd) b1); have HX1 := Aside0.mk k1; have HC := Aside0.mk hc; have HG := Aside0.mk (show w.heap.size ≤ g from by rw [eg]; exact below_size (pw_below_drewN (Below.refl _ _) nd)); clear k1 b1 hc eg)
    | (go_at_call 29; (with_reducible refine (HX.out g c HC.out _ HX1.out).mono ?_); rintro e w2 ⟨rfl, k2, g2⟩; have HX2 := Aside0.mk k2; have HB2 := Aside0.mk (below_own HB1.out HG.out g2); clear k2 g2))
  have HCV := Aside0.mk (fun W (hW : Bts W g ys) => hW.text (P := Try.prog) (n := s.size) HYL.out 32 5 9 Try.underlying32 Try.underlying5 Try.underlying9 c)
  rw [← HXT.out] at HCV
  have hHeld0 := HCV.out _ (show Bts w2.drew g ys from HX2.out)
  refine start_ (n := 10) (S := fun w' => (convert 32 9 (.slice (some ⟨g, 0, none⟩) s.size c)).run Try.prog w' = .ok (.string X) w') (ds := []) #[false, false, false, false, false, false, false, false, false, false] (by kernel_rfl) rfl rfl hHeld0 (fun hHeld => ?_)
  have HX7 := Aside0.mk (show Bts w2.drew g ys from HX2.out)
  have HB7 := Aside0.mk (below_drew HB2.out)
  generalize w2.drew = w7 at HX7 HB7 hHeld ⊢
  clear hHeld0
  refine pure_ (i := 0) (N := (some 24)) (v := ?_) (a' := ?_) #[true, false, false, false, false, false, false, false, false, false] rfl rfl (by kernel_rfl) (fun _ _ _ h => h) (Or.inl ⟨by rfl, ?_⟩) ?_ ?_
  rotate_left
  · intro w'
    go_simp
    with_reducible rfl
  rotate_left
  · simp only [Act.put, List.setIfInBounds_toArray, List.set_cons_zero, List.set_cons_succ]
    rfl
  refine take_ (i := 1) (N := (some 25)) (v := ?_) (a' := ?_) #[true, true, false, false, false, false, false, false, false, false] rfl rfl (by kernel_rfl) (fun _ _ _ h => h) (Or.inl ⟨by rfl, ?_⟩) hHeld ?_ ?_
  rotate_left
  · rintro w' hS
    go_simp
    with_reducible rfl
  rotate_left
  · simp only [Act.put, List.setIfInBounds_toArray, List.set_cons_zero, List.set_cons_succ]
    rfl
  refine pure_ (i := 2) (N := (some 26)) (v := ?_) (a' := ?_) #[true, true, true, false, false, false, false, false, false, false] rfl rfl (by kernel_rfl) (fun _ _ _ h => h) (Or.inl ⟨by rfl, ?_⟩) ?_ ?_
  rotate_left
  · intro w'
    go_simp
    with_reducible rfl
  rotate_left
  · simp only [Act.put, List.setIfInBounds_toArray, List.set_cons_zero, List.set_cons_succ]
    rfl
  refine pure_ (i := 3) (N := (some 27)) (v := ?_) (a' := ?_) #[true, true, true, true, false, false, false, false, false, false] rfl rfl (by kernel_rfl) (fun _ _ _ h => h) (Or.inl ⟨by rfl, ?_⟩) ?_ ?_
  rotate_left
  · intro w'
    go_simp
    with_reducible rfl
  rotate_left
  · simp only [Act.put, List.setIfInBounds_toArray, List.set_cons_zero, List.set_cons_succ]
    rfl
  refine pure_ (i := 4) (N := (some 28)) (v := ?_) (a' := ?_) #[true, true, true, true, true, false, false, false, false, false] rfl rfl (by kernel_rfl) (fun _ _ _ h => h) (Or.inl ⟨by rfl, ?_⟩) ?_ ?_
  rotate_left
  · intro w'
    go_simp
    with_reducible rfl
  rotate_left
  · simp only [Act.put, List.setIfInBounds_toArray, List.set_cons_zero, List.set_cons_succ]
    rfl
  refine pure_ (i := 5) (N := (some 29)) (v := ?_) (a' := ?_) #[true, true, true, true, true, true, false, false, false, false] rfl rfl (by kernel_rfl) (fun _ _ _ h => h) (Or.inl ⟨by rfl, ?_⟩) ?_ ?_
  rotate_left
  · intro w'
    go_simp
    with_reducible rfl
  rotate_left
  · simp only [Act.put, List.setIfInBounds_toArray, List.set_cons_zero, List.set_cons_succ]
    rfl
  refine one_ (i := 6) (N := (some 30)) #[true, true, true, true, true, true, true, false, false, false] rfl rfl (by kernel_rfl) (by decide) (fun K hK => ?_)
  refine goes_ (f := 36) Try.func36 (by kernel_rfl) rfl #[.string key, .string nonce, .string aad, .slice (some ⟨g, 0, none⟩) s.size c] (by rfl) rfl rfl (by (try simp only [List.map_toArray, List.map_cons, List.map_nil]); first | done | rfl) ?_
  refine (HT.out g c HC.out _ HX7.out).mono ?_
  rintro e w8 ⟨rfl, hb⟩
  refine ⟨_, rfl, ?_⟩
  have HX8 := Aside0.mk (HX7.out.below hb)
  have HB8 := Aside0.mk (below_step HB7.out hb)
  clear hb
  refine hK.out _ _ (HCV.out _ HX8.out) (fun hHeld => ?_)
  clear hK K
  refine norm_ (a' := ?_) ?_ ?_
  rotate_left
  · show Act.put _ (some 30) _ = _
    simp only [Act.put, List.setIfInBounds_toArray, List.set_cons_zero, List.set_cons_succ]
    rfl
  refine pure_ (i := 7) (N := (some 31)) (v := ?_) (a' := ?_) #[true, true, true, true, true, true, true, true, false, false] rfl rfl (by kernel_rfl) (fun _ _ _ h => h) (Or.inl ⟨by rfl, ?_⟩) ?_ ?_
  rotate_left
  · intro w'
    go_simp
    with_reducible rfl
  rotate_left
  · simp only [Act.put, List.setIfInBounds_toArray, List.set_cons_zero, List.set_cons_succ]
    rfl
  refine pure_ (i := 8) (N := (some 8)) (v := ?_) (a' := ?_) #[true, true, true, true, true, true, true, true, true, false] rfl rfl (by kernel_rfl) (fun _ _ _ h => h) (Or.inl ⟨by rfl, ?_⟩) ?_ ?_
  rotate_left
  · intro w'
    go_simp
    with_reducible rfl
  rotate_left
  · simp only [Act.put, List.setIfInBounds_toArray, List.set_cons_zero, List.set_cons_succ]
    rfl
  refine pure_ (i := 9) (N := (some 9)) (v := ?_) (a' := ?_) #[true, true, true, true, true, true, true, true, true, true] rfl rfl (by kernel_rfl) (fun _ _ _ h => h) (Or.inl ⟨by rfl, ?_⟩) ?_ ?_
  rotate_left
  · intro w'
    go_simp
    with_reducible rfl
  rotate_left
  · simp only [Act.put, List.setIfInBounds_toArray, List.set_cons_zero, List.set_cons_succ]
    rfl
  refine done_ (by kernel_rfl) ?_
  clear hHeld
  go_wp2
  rw [sealedOf, ← HYE.out, ← HXE.out, ← HTE.out, HO.out]
  first
  | (go_ret2
     exact ⟨rfl, HB8.out⟩)
set_option maxRecDepth 100000 in
set_option maxHeartbeats 8000000 in
theorem seal_no (key nonce aad s : ByteArray) (h : ¬ PMay key nonce aad s.size) (w : World) :
    Calls Try.prog 20 #[.string key, .string nonce, .string aad, .string s] w fun e w' => e = .returned (.tuple #[.string ByteArray.empty, .int .i64 700]) ∧ Below w.heap.size w w' := by
  have hm := Aside0.mk (pmay_no h)
  go_enter Try.func20, Try.ntmps20
  go_wp2_with (go_at_call 35; (with_reducible refine (poly_may.calls _ _ _ _ _ false _ hm.out).mono ?_); rintro e w' ⟨rfl, ⟨nd, rfl⟩⟩)
  first
  | (go_ret2
     exact ⟨rfl, pw_below_drewN (Below.refl _ _) _⟩)
/-- May a text be opened? -/
def OMay (key nonce aad s : ByteArray) : Prop := PMay key nonce aad ((s.size : Int) - 16) ∧ 16 ≤ s.size
instance (key nonce aad s : ByteArray) : Decidable (OMay key nonce aad s) := by unfold OMay; infer_instance
/-- What was sealed, and its tag. -/
def front (s : ByteArray) : ByteArray := s.extract 0 (s.size - 16)
def back (s : ByteArray) : ByteArray := s.extract (s.size - 16) s.size
theorem front_size (s : ByteArray) : (front s).size = s.size - 16 := by rw [front, ByteArray.size_extract]; omega
def Fits (key nonce aad s : ByteArray) : Prop := tagOf key nonce aad (bytesOf (front s)) = back s
set_option maxRecDepth 100000 in
set_option maxHeartbeats 8000000 in
theorem open_no (key nonce aad s : ByteArray) (h : ¬ OMay key nonce aad s) (hsz : s.size ≤ 9223372036854775807) (w : World) :
    Calls Try.prog 22 #[.string key, .string nonce, .string aad, .string s] w fun e w' => e = .returned (.tuple #[.string ByteArray.empty, .int .i64 700]) ∧ Below w.heap.size w w' := by
  obtain ⟨n, hn⟩ : ∃ n : Int, n = (s.size : Int) - 16 := ⟨_, rfl⟩
  have z1 : IntKind.i64.wrap ((s.size : Int) - 16) = n := by rw [IntWalk.i64_in _ (by omega)]; exact hn.symm
  have z1' : (s.size : Int) - 16 = n := hn.symm
  by_cases hM : PMay key nonce aad n
  · have hm := Aside0.mk (pmay_yes hM)
    have h16 : ¬ 16 ≤ s.size := fun e => h ⟨by rw [← hn]; exact hM, e⟩
    have t1 : decide (n < 0) = true := decide_eq_true (by omega)
    clear hn h
    go_enter Try.func22, Try.ntmps22
    go_wp2_with (go_at_call 35; (with_reducible refine (poly_may.calls _ _ _ _ _ true _ hm.out).mono ?_); rintro e w' ⟨rfl, ⟨nd, rfl⟩⟩)
    first
    | (go_ret2
       exact ⟨rfl, pw_below_drewN (Below.refl _ _) _⟩)
  · have hm := Aside0.mk (pmay_no hM)
    clear hn h
    go_enter Try.func22, Try.ntmps22
    go_wp2_with (go_at_call 35; (with_reducible refine (poly_may.calls _ _ _ _ _ false _ hm.out).mono ?_); rintro e w' ⟨rfl, ⟨nd, rfl⟩⟩)
    first
    | (go_ret2
       exact ⟨rfl, pw_below_drewN (Below.refl _ _) _⟩)
set_option maxRecDepth 100000 in
set_option maxHeartbeats 8000000 in
theorem open_yes (key nonce aad s : ByteArray) (h : OMay key nonce aad s) (hf : Fits key nonce aad s) (w : World) :
    Calls Try.prog 22 #[.string key, .string nonce, .string aad, .string s] w fun e w' => e = .returned (.tuple #[.string (xorOut key nonce 1 (front s)), .int .i64 0]) ∧ Below w.heap.size w w' := by
  obtain ⟨hM, h16⟩ := h
  obtain ⟨n, hn⟩ : ∃ n : Nat, n = s.size - 16 := ⟨_, rfl⟩
  have en : (s.size : Int) - 16 = (n : Int) := by omega
  rw [en] at hM
  have hm := Aside0.mk (pmay_yes hM)
  obtain ⟨hk, hnn, ha, hs⟩ := hM
  have z1 : IntKind.i64.wrap ((s.size : Int) - 16) = (n : Int) := by rw [en]; exact IntWalk.i64_in _ (by omega)
  have z2 : IntKind.i64.wrap (n : Int) = (n : Int) := IntWalk.i64_in _ (by omega)
  have t1 : decide ((n : Int) < 0) = false := decide_eq_false (by omega)
  have p1 : ((n : Int) ≤ (s.size : Int)) = True := eq_true (by omega)
  have p0 : ((0 : Int) ≤ (n : Int)) = True := eq_true (by omega)
  obtain ⟨f, hf1⟩ : ∃ f, f = s.extract 0 n := ⟨_, rfl⟩
  obtain ⟨b, hb1⟩ : ∃ b, b = s.extract n s.size := ⟨_, rfl⟩
  have hff : f = front s := by rw [hf1, hn, front]
  have hbb : b = back s := by rw [hb1, hn, back]
  have hfs : f.size = n := by rw [hff, front_size, hn]
  have x1 : s.extract 0 n = f := hf1.symm
  have x2 : s.extract n s.size = b := hb1.symm
  have HFS := Aside0.mk hfs
  have hl := bytesOf_length f
  rw [hfs] at hl
  have HX := Aside0.mk (fun (g c2 : Nat) (hc2 : n ≤ c2) W hb => xorin_calls key nonce 1 hk hnn (bytesOf f) (by rw [hl]; omega) g c2 (by rw [hl]; exact hc2) W hb)
  rw [hl, show ((1 : Int) % 4294967296) = 1 from rfl] at HX
  obtain ⟨ys, hys⟩ : ∃ ys, ys = xr key nonce 1 (bytesOf f) n := ⟨_, rfl⟩
  have HYL := Aside0.mk (show ys.length = n from by rw [hys, xr_length, hl])
  rw [← hys] at HX
  have HT := Aside0.mk (fun (g c : Nat) (hc : n ≤ c) W hb => Tag_calls key nonce aad hk hnn ha g n c (bytesOf f) hl (by omega) hc W hb)
  obtain ⟨X, hX⟩ : ∃ X, X = strOfNums ys := ⟨_, rfl⟩
  have HXE := Aside0.mk (show X = xorOut key nonce 1 (front s) from by rw [hX, hys, xorOut, ← hff, hfs])
  have HXT := Aside0.mk hX
  obtain ⟨tg, htg⟩ : ∃ tg, tg = tagOf key nonce aad (bytesOf f) := ⟨_, rfl⟩
  rw [← htg] at HT
  have y1 : (tg.toList == b.toList) = true := by rw [same_text]; exact decide_eq_true (by rw [htg, hff, hbb]; exact hf)
  have y2 : (!(tg.toList == b.toList)) = false := by rw [y1]; rfl
  clear hl hys hk hnn ha hs htg hX hf hff hbb hb1 hf1 hn h16 en hfs
  go_enter Try.func22, Try.ntmps22
  go_wp2_with (first
    | (go_at_call 35; (with_reducible refine (poly_may.calls _ _ _ _ _ true _ hm.out).mono ?_); rintro e w' ⟨rfl, ⟨nd, rfl⟩⟩)
    | ((with_reducible refine gate_dst (N := 28) rfl ?_); refine conv_event rfl 9 32 5 _ f rfl rfl Try.underlying9 Try.underlying32 Try.underlying5 ?hc ?_; (case hc => exact grownCap_ge _ _ _ _); intro g eg c hc w1 k1 b1; have HB1 := Aside0.mk (below_step (pw_below_drewN (Below.refl _ _) nd) b1); have HX1 := Aside0.mk k1; rw [HFS.out] at hc; have HC := Aside0.mk hc; have HG := Aside0.mk (show w.heap.size ≤ g from by rw [eg]; exact below_size (pw_below_drewN (Below.refl _ _) nd)); clear k1 b1 hc eg))
  rw [HFS.out]
  refine start_ (n := 9) (S := fun _ => True) (ds := []) #[false, false, false, false, false, false, false, false, false] (by kernel_rfl) rfl rfl trivial (fun hHeld => ?_)
  have HX7 := Aside0.mk (show Bts w1.drew g (bytesOf f) from HX1.out)
  have HB7 := Aside0.mk (below_drew HB1.out)
  generalize w1.drew = w7 at HX7 HB7 ⊢
  refine pure_ (i := 0) (N := (some 29)) (v := ?_) (a' := ?_) #[true, false, false, false, false, false, false, false, false] rfl rfl (by kernel_rfl) (fun _ _ _ h => h) (Or.inl ⟨by rfl, ?_⟩) ?_ ?_
  rotate_left
  · intro w'
    go_simp
    with_reducible rfl
  rotate_left
  · simp only [Act.put, List.setIfInBounds_toArray, List.set_cons_zero, List.set_cons_succ]
    rfl
  refine pure_ (i := 1) (N := (some 30)) (v := ?_) (a' := ?_) #[true, true, false, false, false, false, false, false, false] rfl rfl (by kernel_rfl) (fun _ _ _ h => h) (Or.inl ⟨by rfl, ?_⟩) ?_ ?_
  rotate_left
  · intro w'
    go_simp
    with_reducible rfl
  rotate_left
  · simp only [Act.put, List.setIfInBounds_toArray, List.set_cons_zero, List.set_cons_succ]
    rfl
  refine pure_ (i := 2) (N := (some 31)) (v := ?_) (a' := ?_) #[true, true, true, false, false, false, false, false, false] rfl rfl (by kernel_rfl) (fun _ _ _ h => h) (Or.inl ⟨by rfl, ?_⟩) ?_ ?_
  rotate_left
  · intro w'
    go_simp
    with_reducible rfl
  rotate_left
  · simp only [Act.put, List.setIfInBounds_toArray, List.set_cons_zero, List.set_cons_succ]
    rfl
  refine pure_ (i := 3) (N := (some 32)) (v := ?_) (a' := ?_) #[true, true, true, true, false, false, false, false, false] rfl rfl (by kernel_rfl) (fun _ _ _ h => h) (Or.inl ⟨by rfl, ?_⟩) ?_ ?_
  rotate_left
  · intro w'
    go_simp
    with_reducible rfl
  rotate_left
  · simp only [Act.put, List.setIfInBounds_toArray, List.set_cons_zero, List.set_cons_succ]
    rfl
  refine pure_ (i := 5) (N := (some 34)) (v := ?_) (a' := ?_) #[true, true, true, true, false, true, false, false, false] rfl rfl (by kernel_rfl) (fun _ _ _ h => h) (Or.inl ⟨by rfl, ?_⟩) ?_ ?_
  rotate_left
  · intro w'
    go_simp
    with_reducible rfl
  rotate_left
  · simp only [Act.put, List.setIfInBounds_toArray, List.set_cons_zero, List.set_cons_succ]
    rfl
  refine pure_ (i := 6) (N := (some 35)) (v := ?_) (a' := ?_) #[true, true, true, true, false, true, true, false, false] rfl rfl (by kernel_rfl) (fun _ _ _ h => h) (Or.inl ⟨by rfl, ?_⟩) ?_ ?_
  rotate_left
  · intro w'
    go_simp
    with_reducible rfl
  rotate_left
  · simp only [Act.put, List.setIfInBounds_toArray, List.set_cons_zero, List.set_cons_succ]
    rfl
  refine pure_ (i := 7) (N := (some 36)) (v := ?_) (a' := ?_) #[true, true, true, true, false, true, true, true, false] rfl rfl (by kernel_rfl) (fun _ _ _ h => h) (Or.inl ⟨by rfl, ?_⟩) ?_ ?_
  rotate_left
  · intro w'
    go_simp
    with_reducible rfl
  rotate_left
  · simp only [Act.put, List.setIfInBounds_toArray, List.set_cons_zero, List.set_cons_succ]
    rfl
  refine one_ (i := 4) (N := (some 33)) #[true, true, true, true, true, true, true, true, false] rfl rfl (by kernel_rfl) (by decide) (fun K hK => ?_)
  refine goes_ (f := 36) Try.func36 (by kernel_rfl) rfl #[.string key, .string nonce, .string aad, .slice (some ⟨g, 0, none⟩) n c] (by rfl) rfl rfl (by (try simp only [List.map_toArray, List.map_cons, List.map_nil]); first | done | rfl) ?_
  refine (HT.out g c HC.out _ HX7.out).mono ?_
  rintro e w8 ⟨rfl, hb⟩
  refine ⟨_, rfl, ?_⟩
  have HX8 := Aside0.mk (HX7.out.below hb)
  have HB8 := Aside0.mk (below_step HB7.out hb)
  clear hb
  refine hK.out _ _ trivial (fun hHeld => ?_)
  clear hK K
  refine norm_ (a' := ?_) ?_ ?_
  rotate_left
  · show Act.put _ (some 33) _ = _
    simp only [Act.put, List.setIfInBounds_toArray, List.set_cons_zero, List.set_cons_succ]
    rfl
  refine pure_ (i := 8) (N := (some 37)) (v := ?_) (a' := ?_) #[true, true, true, true, true, true, true, true, true] rfl rfl (by kernel_rfl) (fun _ _ _ h => h) (Or.inl ⟨by rfl, ?_⟩) ?_ ?_
  rotate_left
  · intro w'
    go_simp
    with_reducible rfl
  rotate_left
  · simp only [Act.put, List.setIfInBounds_toArray, List.set_cons_zero, List.set_cons_succ]
    rfl
  refine done_ (by kernel_rfl) ?_
  go_wp2_with (first
    | (go_at_call 29; (with_reducible refine (HX.out g c HC.out _ HX8.out).mono ?_); rintro e w9 ⟨rfl, k9, g9⟩; have HX9 := Aside0.mk k9; have HB9 := Aside0.mk (below_own HB8.out HG.out g9); have ht := k9.text (P := Try.prog) (n := n) HYL.out 32 5 9 Try.underlying32 Try.underlying5 Try.underlying9 c; rw [← HXT.out] at ht; clear k9 g9))
  rw [← HXE.out]
  first
  | (go_ret2
     exact ⟨rfl, HB9.out⟩)
set_option maxRecDepth 100000 in
set_option maxHeartbeats 8000000 in
theorem open_bad (key nonce aad s : ByteArray) (h : OMay key nonce aad s) (hf : ¬ Fits key nonce aad s) (w : World) :
    Calls Try.prog 22 #[.string key, .string nonce, .string aad, .string s] w fun e w' => e = .returned (.tuple #[.string ByteArray.empty, .int .i64 700]) ∧ Below w.heap.size w w' := by
  obtain ⟨hM, h16⟩ := h
  obtain ⟨n, hn⟩ : ∃ n : Nat, n = s.size - 16 := ⟨_, rfl⟩
  have en : (s.size : Int) - 16 = (n : Int) := by omega
  rw [en] at hM
  have hm := Aside0.mk (pmay_yes hM)
  obtain ⟨hk, hnn, ha, hs⟩ := hM
  have z1 : IntKind.i64.wrap ((s.size : Int) - 16) = (n : Int) := by rw [en]; exact IntWalk.i64_in _ (by omega)
  have z2 : IntKind.i64.wrap (n : Int) = (n : Int) := IntWalk.i64_in _ (by omega)
  have t1 : decide ((n : Int) < 0) = false := decide_eq_false (by omega)
  have p1 : ((n : Int) ≤ (s.size : Int)) = True := eq_true (by omega)
  have p0 : ((0 : Int) ≤ (n : Int)) = True := eq_true (by omega)
  obtain ⟨f, hf1⟩ : ∃ f, f = s.extract 0 n := ⟨_, rfl⟩
  obtain ⟨b, hb1⟩ : ∃ b, b = s.extract n s.size := ⟨_, rfl⟩
  have hff : f = front s := by rw [hf1, hn, front]
  have hbb : b = back s := by rw [hb1, hn, back]
  have hfs : f.size = n := by rw [hff, front_size, hn]
  have x1 : s.extract 0 n = f := hf1.symm
  have x2 : s.extract n s.size = b := hb1.symm
  have HFS := Aside0.mk hfs
  have hl := bytesOf_length f
  rw [hfs] at hl
  have HX := Aside0.mk (fun (g c2 : Nat) (hc2 : n ≤ c2) W hb => xorin_calls key nonce 1 hk hnn (bytesOf f) (by rw [hl]; omega) g c2 (by rw [hl]; exact hc2) W hb)
  rw [hl, show ((1 : Int) % 4294967296) = 1 from rfl] at HX
  obtain ⟨ys, hys⟩ : ∃ ys, ys = xr key nonce 1 (bytesOf f) n := ⟨_, rfl⟩
  have HYL := Aside0.mk (show ys.length = n from by rw [hys, xr_length, hl])
  rw [← hys] at HX
  have HT := Aside0.mk (fun (g c : Nat) (hc : n ≤ c) W hb => Tag_calls key nonce aad hk hnn ha g n c (bytesOf f) hl (by omega) hc W hb)
  obtain ⟨X, hX⟩ : ∃ X, X = strOfNums ys := ⟨_, rfl⟩
  have HXE := Aside0.mk (show X = xorOut key nonce 1 (front s) from by rw [hX, hys, xorOut, ← hff, hfs])
  have HXT := Aside0.mk hX
  obtain ⟨tg, htg⟩ : ∃ tg, tg = tagOf key nonce aad (bytesOf f) := ⟨_, rfl⟩
  rw [← htg] at HT
  have y1 : (tg.toList == b.toList) = false := by rw [same_text]; exact decide_eq_false (fun e => hf (by rw [Fits, ← hff, ← htg, ← hbb]; exact e))
  have y2 : (!(tg.toList == b.toList)) = true := by rw [y1]; rfl
  clear hl hys hk hnn ha hs htg hX hf hff hbb hb1 hf1 hn h16 en hfs
  go_enter Try.func22, Try.ntmps22
  go_wp2_with (first
    | (go_at_call 35; (with_reducible refine (poly_may.calls _ _ _ _ _ true _ hm.out).mono ?_); rintro e w' ⟨rfl, ⟨nd, rfl⟩⟩)
    | ((with_reducible refine gate_dst (N := 28) rfl ?_); refine conv_event rfl 9 32 5 _ f rfl rfl Try.underlying9 Try.underlying32 Try.underlying5 ?hc ?_; (case hc => exact grownCap_ge _ _ _ _); intro g eg c hc w1 k1 b1; have HB1 := Aside0.mk (below_step (pw_below_drewN (Below.refl _ _) nd) b1); have HX1 := Aside0.mk k1; rw [HFS.out] at hc; have HC := Aside0.mk hc; have HG := Aside0.mk (show w.heap.size ≤ g from by rw [eg]; exact below_size (pw_below_drewN (Below.refl _ _) nd)); clear k1 b1 hc eg))
  rw [HFS.out]
  refine start_ (n := 9) (S := fun _ => True) (ds := []) #[false, false, false, false, false, false, false, false, false] (by kernel_rfl) rfl rfl trivial (fun hHeld => ?_)
  have HX7 := Aside0.mk (show Bts w1.drew g (bytesOf f) from HX1.out)
  have HB7 := Aside0.mk (below_drew HB1.out)
  generalize w1.drew = w7 at HX7 HB7 ⊢
  refine pure_ (i := 0) (N := (some 29)) (v := ?_) (a' := ?_) #[true, false, false, false, false, false, false, false, false] rfl rfl (by kernel_rfl) (fun _ _ _ h => h) (Or.inl ⟨by rfl, ?_⟩) ?_ ?_
  rotate_left
  · intro w'
    go_simp
    with_reducible rfl
  rotate_left
  · simp only [Act.put, List.setIfInBounds_toArray, List.set_cons_zero, List.set_cons_succ]
    rfl
  refine pure_ (i := 1) (N := (some 30)) (v := ?_) (a' := ?_) #[true, true, false, false, false, false, false, false, false] rfl rfl (by kernel_rfl) (fun _ _ _ h => h) (Or.inl ⟨by rfl, ?_⟩) ?_ ?_
  rotate_left
  · intro w'
    go_simp
    with_reducible rfl
  rotate_left
  · simp only [Act.put, List.setIfInBounds_toArray, List.set_cons_zero, List.set_cons_succ]
    rfl
  refine pure_ (i := 2) (N := (some 31)) (v := ?_) (a' := ?_) #[true, true, true, false, false, false, false, false, false] rfl rfl (by kernel_rfl) (fun _ _ _ h => h) (Or.inl ⟨by rfl, ?_⟩) ?_ ?_
  rotate_left
  · intro w'
    go_simp
    with_reducible rfl
  rotate_left
  · simp only [Act.put, List.setIfInBounds_toArray, List.set_cons_zero, List.set_cons_succ]
    rfl
  refine pure_ (i := 3) (N := (some 32)) (v := ?_) (a' := ?_) #[true, true, true, true, false, false, false, false, false] rfl rfl (by kernel_rfl) (fun _ _ _ h => h) (Or.inl ⟨by rfl, ?_⟩) ?_ ?_
  rotate_left
  · intro w'
    go_simp
    with_reducible rfl
  rotate_left
  · simp only [Act.put, List.setIfInBounds_toArray, List.set_cons_zero, List.set_cons_succ]
    rfl
  refine pure_ (i := 5) (N := (some 34)) (v := ?_) (a' := ?_) #[true, true, true, true, false, true, false, false, false] rfl rfl (by kernel_rfl) (fun _ _ _ h => h) (Or.inl ⟨by rfl, ?_⟩) ?_ ?_
  rotate_left
  · intro w'
    go_simp
    with_reducible rfl
  rotate_left
  · simp only [Act.put, List.setIfInBounds_toArray, List.set_cons_zero, List.set_cons_succ]
    rfl
  refine pure_ (i := 6) (N := (some 35)) (v := ?_) (a' := ?_) #[true, true, true, true, false, true, true, false, false] rfl rfl (by kernel_rfl) (fun _ _ _ h => h) (Or.inl ⟨by rfl, ?_⟩) ?_ ?_
  rotate_left
  · intro w'
    go_simp
    with_reducible rfl
  rotate_left
  · simp only [Act.put, List.setIfInBounds_toArray, List.set_cons_zero, List.set_cons_succ]
    rfl
  refine pure_ (i := 7) (N := (some 36)) (v := ?_) (a' := ?_) #[true, true, true, true, false, true, true, true, false] rfl rfl (by kernel_rfl) (fun _ _ _ h => h) (Or.inl ⟨by rfl, ?_⟩) ?_ ?_
  rotate_left
  · intro w'
    go_simp
    with_reducible rfl
  rotate_left
  · simp only [Act.put, List.setIfInBounds_toArray, List.set_cons_zero, List.set_cons_succ]
    rfl
  refine one_ (i := 4) (N := (some 33)) #[true, true, true, true, true, true, true, true, false] rfl rfl (by kernel_rfl) (by decide) (fun K hK => ?_)
  refine goes_ (f := 36) Try.func36 (by kernel_rfl) rfl #[.string key, .string nonce, .string aad, .slice (some ⟨g, 0, none⟩) n c] (by rfl) rfl rfl (by (try simp only [List.map_toArray, List.map_cons, List.map_nil]); first | done | rfl) ?_
  refine (HT.out g c HC.out _ HX7.out).mono ?_
  rintro e w8 ⟨rfl, hb⟩
  refine ⟨_, rfl, ?_⟩
  have HX8 := Aside0.mk (HX7.out.below hb)
  have HB8 := Aside0.mk (below_step HB7.out hb)
  clear hb
  refine hK.out _ _ trivial (fun hHeld => ?_)
  clear hK K
  refine norm_ (a' := ?_) ?_ ?_
  rotate_left
  · show Act.put _ (some 33) _ = _
    simp only [Act.put, List.setIfInBounds_toArray, List.set_cons_zero, List.set_cons_succ]
    rfl
  refine pure_ (i := 8) (N := (some 37)) (v := ?_) (a' := ?_) #[true, true, true, true, true, true, true, true, true] rfl rfl (by kernel_rfl) (fun _ _ _ h => h) (Or.inl ⟨by rfl, ?_⟩) ?_ ?_
  rotate_left
  · intro w'
    go_simp
    with_reducible rfl
  rotate_left
  · simp only [Act.put, List.setIfInBounds_toArray, List.set_cons_zero, List.set_cons_succ]
    rfl
  refine done_ (by kernel_rfl) ?_
  go_wp2
  first
  | (go_ret2
     exact ⟨rfl, HB8.out⟩)
end Go.Proofs.Ytocckplgjbhlbaa.Pol
