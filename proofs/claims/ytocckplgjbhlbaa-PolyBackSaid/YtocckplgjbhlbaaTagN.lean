/- poly's Tag, walked. Conditions: a key of 32 bytes, a nonce of 12, at most 65536 bytes beside and in the row. -/
import Derived.Test.YtocckplgjbhlbaaLen
namespace Go.Proofs.Ytocckplgjbhlbaa.Pol
open Go.RowKit Go.Proofs.YtocckplgjbhlbaaW.PrintWords Go.Proofs.YtocckplgjbhlbaaW.PrintLast Go.Proofs.Ytocckplgjbhlbaa.Cha Go.Proofs.Ytocckplgjbhlbaa.X
set_option linter.unusedVariables false
/-- The key of one message. -/
def own (key nonce : ByteArray) : ByteArray := (strOfNums (blkNums key 0 nonce)).extract 0 32
theorem blk_size (key nonce : ByteArray) : (strOfNums (blkNums key 0 nonce)).size = 64 := by
  have : (strOfNums (blkNums key 0 nonce)).size = (blkNums key 0 nonce).length := by simp [strOfNums, ByteArray.size]
  rw [this, blkNums, outs_length]
theorem own_size (key nonce : ByteArray) : (own key nonce).size = 32 := by rw [own, ByteArray.size_extract, blk_size]; omega
def ahead (aad : ByteArray) : ByteArray := aad ++ pad aad.size
def behind (aad : ByteArray) (bs : List Int) : ByteArray := strOfNums (bs.drop (bs.length - bs.length % 16)) ++ pad bs.length ++ len8 aad.size ++ len8 bs.length
def all1 (ow aad : ByteArray) : List Int := alled (sum0 ow) (bytesOf (ahead aad)) 0 (ahead aad).size (((ahead aad).size + 15) / 16)
def all2 (ow aad : ByteArray) (bs : List Int) : List Int := alled (all1 ow aad) bs 0 (bs.length - bs.length % 16) ((bs.length - bs.length % 16 + 15) / 16)
def all3 (ow aad : ByteArray) (bs : List Int) : List Int := alled (all2 ow aad bs) (bytesOf (behind aad bs)) 0 (behind aad bs).size (((behind aad bs).size + 15) / 16)
/-- The tag of bytes that are enciphered. -/
def tagOf (key nonce aad : ByteArray) (bs : List Int) : ByteArray := tagged (all3 (own key nonce) aad bs) (own key nonce)
theorem strOfNums_size_ (xs : List Int) : (strOfNums xs).size = xs.length := by simp [strOfNums, ByteArray.size]
theorem pad_size (n : Nat) : (pad n).size ≤ 16 := by rw [pad, strOfNums_size_, List.length_replicate]; omega
theorem len8_size (n : Nat) : (len8 n).size = 8 := rfl
theorem Bts.tail_text {w : World} {g : Nat} {xs : List Int} (h : Bts w g xs) {n : Nat} (hn : xs.length = n) (m : Nat) (hm : m ≤ n) (c : Nat) (hc : n ≤ c) :
    (convert 32 9 (.slice (some ⟨g, if c = m then 0 else m, none⟩) (n - m) (c - m))).run Try.prog w = .ok (.string (strOfNums (xs.drop m))) w := by
  subst hn
  refine run_convert_bytes_arg w 32 5 Try.underlying32 Try.underlying5 g (if c = m then 0 else m) (xs.length - m) (c - m) (xs.drop m) (by rw [List.length_drop]) (fun i hi => ?_) 9 Try.underlying9
  rw [if_neg (by omega), h.cell (m + i) (by omega)]
  simp [gx, List.getD_eq_getElem?_getD, show m + i < xs.length by omega]
theorem conv_step {P : Program} {ops : Array Oper} {o : Oper} {N : Option Tmp} {a : Act} {K : Act → World → Prop} {Q : Exit → Act → World → Prop} {w : World} (src dst e : TypeId) {s : ByteArray} {x : Operand} (hw : Region.wanted o (yielded ops a.tmps) = true) (hN : o.dst = N) (ho : o.op = .convert src dst x) (hx : a.eval x = .string s)
    (hs : P.underlying src = some .string) (hd : P.underlying dst = some (.slice e)) (he : P.underlying e = some (.int .u8)) (hc : s.size ≤ grownCap w s.size 0 e)
    (H : ∀ g, g = w.heap.size → ∀ c, s.size ≤ c → ∀ w1, Bts w1 g (bytesOf s) → Below w.heap.size w w1 → K (a.put N (.slice (some ⟨g, 0, none⟩) s.size c)) w1) : if Region.wanted o (yielded ops a.tmps) = true then Oper.wp P o a w K Q else K (a.put N undef) w := by
  refine value_ hw hN ?_ (H _ rfl (grownCap w s.size 0 e) hc _ (bytesWorld_bts w e s) (bytesWorld_below w e s))
  unfold execOp
  simp only [ho, hx, Sem.run_bind, Lib.run_convert_string_bytes w src dst e s hs hd he, Result.andThen_ok]
  rfl
set_option maxRecDepth 100000 in
set_option maxHeartbeats 8000000 in
theorem Tag_calls (key nonce aad : ByteArray) (hk : key.size = 32) (hn : nonce.size = 12) (ha : aad.size ≤ 65536) (gb n c : Nat) (bs : List Int) (hbn : bs.length = n) (hnn : n ≤ 65536) (hc : n ≤ c) (w : World) (hb : Bts w gb bs) :
    Calls Try.prog 36 #[.string key, .string nonce, .string aad, .slice (some ⟨gb, 0, none⟩) n c] w fun e w' => e = .returned (.string (tagOf key nonce aad bs)) ∧ Below w.heap.size w w' := by
  have HS0 := Aside0.mk hb
  have HBN := Aside0.mk hbn
  have HLT := Aside0.mk hb.1
  have HBk := Aside0.mk (fun W => block_yes key 0 nonce ⟨hk, by omega, by omega, hn⟩ W)
  obtain ⟨B, hB⟩ : ∃ B, B = strOfNums (blkNums key 0 nonce) := ⟨_, rfl⟩
  have hBs : B.size = 64 := by rw [hB]; exact blk_size key nonce
  have p0 : ((32 : Int) ≤ (B.size : Int)) = True := eq_true (by omega)
  obtain ⟨ow, how⟩ : ∃ ow, ow = B.extract 0 32 := ⟨_, rfl⟩
  have HOW := Aside0.mk (show ow = own key nonce from by rw [how, hB, own])
  have hows : ow.size = 32 := by rw [HOW.out]; exact own_size key nonce
  rw [← hB] at HBk
  have hse : B.extract 0 32 = ow := how.symm
  have e32 : ((32 : Int)).toNat = 32 := rfl
  clear hB how hb
  have HN := Aside0.mk (fun W => newSum_calls ow hows W)
  have HF1 := Aside0.mk (fun W => fill_calls aad.size (by omega) W)
  have HF2 := Aside0.mk (fun W => fill_calls n (by omega) W)
  have HL1 := Aside0.mk (fun W => length_calls aad.size W)
  have HL2 := Aside0.mk (fun W => length_calls n W)
  have hp1 := pad_size aad.size
  have hp2 := pad_size n
  have hl1 := len8_size aad.size
  have hl2 := len8_size n
  obtain ⟨f1, hf1⟩ : ∃ f1, f1 = pad aad.size := ⟨_, rfl⟩
  obtain ⟨f2, hf2⟩ : ∃ f2, f2 = pad n := ⟨_, rfl⟩
  obtain ⟨l1, hL1⟩ : ∃ l1, l1 = len8 aad.size := ⟨_, rfl⟩
  obtain ⟨l2, hL2⟩ : ∃ l2, l2 = len8 n := ⟨_, rfl⟩
  rw [← hf1] at HF1 hp1
  rw [← hf2] at HF2 hp2
  rw [← hL1] at HL1 hl1
  rw [← hL2] at HL2 hl2
  obtain ⟨ta, hta⟩ : ∃ ta, aad ++ f1 = ta := ⟨_, rfl⟩
  have q1 : (aad.size + f1.size ≤ 9223372036854775807) = True := eq_true (by omega)
  have q1b : decide (aad.size + f1.size ≤ 9223372036854775807) = true := decide_eq_true (by omega)
  have q1c : (9223372036854775807 < aad.size + f1.size) = False := eq_false (by omega)
  have HTA := Aside0.mk (show ta = ahead aad from by rw [← hta, hf1, ahead])
  obtain ⟨m, hm⟩ : ∃ m, m = n - n % 16 := ⟨_, rfl⟩
  have hmn : m ≤ n := by omega
  obtain ⟨r, hr⟩ : ∃ r, r = n % 16 := ⟨_, rfl⟩
  have hr16 : r < 16 := by omega
  have hmr : m = n - r := by omega
  have z2 : (n : Int).tmod 16 = (r : Int) := by rw [Int.tmod_eq_emod_of_nonneg (by omega)]; omega
  have z2' : (n : Int) % 16 = (r : Int) := by omega
  have z3 : IntKind.i64.wrap (r : Int) = (r : Int) := IntWalk.i64_in _ (by omega)
  have hrn : r ≤ n := by omega
  have z4 : IntKind.i64.wrap ((n : Int) - (r : Int)) = (m : Int) := by rw [IntWalk.i64_in _ (by omega)]; omega
  have z4' : (n : Int) - (r : Int) = (m : Int) := by omega
  have z5 : IntKind.i64.wrap (m : Int) = (m : Int) := IntWalk.i64_in _ (by omega)
  have sh : ∀ W, (Instr.slice 32 (.slice (some ⟨gb, 0, none⟩) n c) none (some (.int .i64 (m : Int))) none).run Try.prog W = .ok (.slice (some ⟨gb, 0, none⟩) m c) W := fun W => slh gb 0 n c m (by omega) W
  have sl : ∀ W, (Instr.slice 32 (.slice (some ⟨gb, 0, none⟩) n c) (some (.int .i64 (m : Int))) none none).run Try.prog W = .ok (.slice (some ⟨gb, if c = m then 0 else m, none⟩) (n - m) (c - m)) W := fun W => by
    have := slo gb 0 n c m hmn W
    rw [Nat.zero_add] at this
    exact this
  obtain ⟨o8, ho8⟩ : ∃ o8 : Nat, (if c = m then 0 else m) = o8 := ⟨_, rfl⟩
  obtain ⟨r8, hr8⟩ : ∃ r8 : Nat, n - m = r8 := ⟨_, rfl⟩
  obtain ⟨c8, hc8⟩ : ∃ c8 : Nat, c - m = c8 := ⟨_, rfl⟩
  rw [ho8, hr8, hc8] at sl
  obtain ⟨tl, htl⟩ : ∃ tl, tl = strOfNums (bs.drop m) := ⟨_, rfl⟩
  have HCV := Aside0.mk (fun W (hW : Bts W gb bs) => Bts.tail_text hW hbn m hmn c hc)
  rw [ho8, hr8, hc8] at HCV
  rw [← htl] at HCV
  have htls : tl.size = n - m := by rw [htl, strOfNums_size_, List.length_drop, hbn]
  obtain ⟨u1, hu1⟩ : ∃ u1, tl ++ f2 = u1 := ⟨_, rfl⟩
  obtain ⟨u2, hu2⟩ : ∃ u2, u1 ++ l1 = u2 := ⟨_, rfl⟩
  obtain ⟨u3, hu3⟩ : ∃ u3, u2 ++ l2 = u3 := ⟨_, rfl⟩
  have su1 : u1.size = tl.size + f2.size := by rw [← hu1, ByteArray.size_append]
  have su2 : u2.size = u1.size + l1.size := by rw [← hu2, ByteArray.size_append]
  have q2 : (tl.size + f2.size ≤ 9223372036854775807) = True := eq_true (by omega)
  have q2b : decide (tl.size + f2.size ≤ 9223372036854775807) = true := decide_eq_true (by omega)
  have q2c : (9223372036854775807 < tl.size + f2.size) = False := eq_false (by omega)
  have q3 : (u1.size + l1.size ≤ 9223372036854775807) = True := eq_true (by omega)
  have q3b : decide (u1.size + l1.size ≤ 9223372036854775807) = true := decide_eq_true (by omega)
  have q3c : (9223372036854775807 < u1.size + l1.size) = False := eq_false (by omega)
  have q4 : (u2.size + l2.size ≤ 9223372036854775807) = True := eq_true (by omega)
  have q4b : decide (u2.size + l2.size ≤ 9223372036854775807) = true := decide_eq_true (by omega)
  have q4c : (9223372036854775807 < u2.size + l2.size) = False := eq_false (by omega)
  have HU3 := Aside0.mk (show u3 = behind aad bs from by rw [← hu3, ← hu2, ← hu1, htl, hf2, hL1, hL2, behind, hbn, hm])
  have HZ0 := Aside0.mk (sum0_length ow)
  have HA1 := Aside0.mk (fun g (g1 c1 : Nat) (hc : ta.size ≤ c1) (hne : g1 ≠ g) W hW hb => all_calls g 71 (sum0 ow) HZ0.out g1 0 ta.size c1 (bytesOf ta) (by rw [bytesOf_length]; omega) hc hne W hW hb)
  obtain ⟨x1, hx1⟩ : ∃ x1, x1 = alled (sum0 ow) (bytesOf ta) 0 ta.size ((ta.size + 15) / 16) := ⟨_, rfl⟩
  have hx1l : x1.length = 10 := by rw [hx1, alled_length]; exact HZ0.out
  rw [← hx1] at HA1
  have HX1E := Aside0.mk (show x1 = all1 ow aad from by rw [hx1, HTA.out, all1])
  have HA2 := Aside0.mk (fun g (hne : gb ≠ g) W hW hb => all_calls g 71 x1 hx1l gb 0 m c bs (by omega) (by omega) hne W hW hb)
  obtain ⟨x2, hx2⟩ : ∃ x2, x2 = alled x1 bs 0 m ((m + 15) / 16) := ⟨_, rfl⟩
  have hx2l : x2.length = 10 := by rw [hx2, alled_length]; exact hx1l
  rw [← hx2] at HA2
  have HX2E := Aside0.mk (show x2 = all2 ow aad bs from by rw [hx2, HX1E.out, hm, ← hbn, all2])
  have HA3 := Aside0.mk (fun g (g1 c1 : Nat) (hc : u3.size ≤ c1) (hne : g1 ≠ g) W hW hb => all_calls g 71 x2 hx2l g1 0 u3.size c1 (bytesOf u3) (by rw [bytesOf_length]; omega) hc hne W hW hb)
  obtain ⟨x3, hx3⟩ : ∃ x3, x3 = alled x2 (bytesOf u3) 0 u3.size ((u3.size + 15) / 16) := ⟨_, rfl⟩
  have hx3l : x3.length = 10 := by rw [hx3, alled_length]; exact hx2l
  rw [← hx3] at HA3
  have HX3E := Aside0.mk (show x3 = all3 ow aad bs from by rw [hx3, HX2E.out, HU3.out, all3])
  have HT := Aside0.mk (fun g W hW => tag_calls g 71 x3 hx3l ow hows W hW)
  clear hx1 hx2 hx3 hx1l hx2l hx3l htl htls su1 su2 hl1 hl2 hp1 hp2 hf1 hf2 hL1 hL2 ho8 hr8 hc8 hm hr hmr hr16 hrn hmn hBs hows hk hn ha hnn hbn hc
  go_enter Try.func36, Try.ntmps36
  go_wp2_with (first
    | (go_at_call 12; (with_reducible refine (HBk.out _).mono ?_); rintro e w1 ⟨rfl, b1⟩; have HB1 := Aside0.mk b1; have HS1 := Aside0.mk (HS0.out.below b1); clear b1)
    | (go_at_call 31; (with_reducible refine (HN.out _).mono ?_); rintro e w2 ⟨g, rfl, hg, k2, b2⟩; have HX2 := Aside0.mk k2; have HB2 := Aside0.mk (below_step HB1.out b2); have HG := Aside0.mk (show w.heap.size ≤ g from Nat.le_trans (below_size HB1.out) hg); have HNB := Aside0.mk (show gb ≠ g from (by have := HLT.out; have := HG.out; omega)); have HS2 := Aside0.mk (HS1.out.below b2); clear k2 b2 hg)
    | (go_at_call 47; (with_reducible refine (HF1.out _).mono ?_); rintro e w3 ⟨rfl, b3⟩; have HB3 := Aside0.mk (below_step HB2.out b3); have HX3 := Aside0.mk (HX2.out.below b3); have HS3 := Aside0.mk (HS2.out.below b3); clear b3)
    | ((with_reducible refine gate_dst (N := 28) rfl ?_); refine conv_event rfl 9 32 5 _ ta rfl rfl Try.underlying9 Try.underlying32 Try.underlying5 ?hc ?_; (case hc => exact grownCap_ge _ _ _ _); intro g1 eg c1 hc1 w4 k4 b4; have HB4 := Aside0.mk (below_step HB3.out b4); have HT4 := Aside0.mk k4; have HC1 := Aside0.mk hc1; have HX4 := Aside0.mk (HX3.out.below b4); have HS4 := Aside0.mk (HS3.out.below b4); have HNE1 := Aside0.mk (show g1 ≠ g from by rw [eg]; exact Nat.ne_of_gt HX3.out.lt); clear k4 b4 hc1 eg)
    | (go_at_call 32; first
        | ((with_reducible refine (HA2.out g HNB.out _ HX5.out HS5.out).mono ?_); rintro e w6 ⟨rfl, k6, g6⟩; have HX6 := Aside0.mk k6; have HB6 := Aside0.mk (below_own HB5.out HG.out g6); have HS6 := Aside0.mk (HS5.out.grown g6 (fun e => HNB.out (Option.some.inj e))); clear k6 g6)
        | ((with_reducible refine (HA1.out g g1 c1 HC1.out HNE1.out _ HX4.out HT4.out).mono ?_); rintro e w5 ⟨rfl, k5, g5⟩; have HX5 := Aside0.mk k5; have HB5 := Aside0.mk (below_own HB4.out HG.out g5); have HS5 := Aside0.mk (HS4.out.grown g5 (fun e => HNB.out (Option.some.inj e))); clear k5 g5)))
  clear p0 e32 hse q1 q1b q1c hta sh
  have hHeld0 := HCV.out _ (show Bts w6.drew gb bs from HS6.out)
  refine start_ (n := 24) (S := fun w' => (convert 32 9 (.slice (some ⟨gb, o8, none⟩) r8 c8)).run Try.prog w' = .ok (.string tl) w') (ds := [23]) #[false, false, false, false, false, false, false, false, false, false, false, false, false, false, false, false, false, false, false, false, false, false, false, false] (by kernel_rfl) rfl rfl hHeld0 (fun hHeld => ?_)
  have HX7 := Aside0.mk (show Arr .u64 w6.drew g 71 x2 from HX6.out)
  have HB7 := Aside0.mk (below_drew HB6.out)
  have HS7 := Aside0.mk (show Bts w6.drew gb bs from HS6.out)
  generalize w6.drew = w7 at HX7 HB7 HS7 hHeld ⊢
  clear hHeld0
  refine pure_ (i := 0) (N := (some 40)) (v := ?_) (a' := ?_) #[true, false, false, false, false, false, false, false, false, false, false, false, false, false, false, false, false, false, false, false, false, false, false, false] rfl rfl (by kernel_rfl) (fun _ _ _ h => h) (Or.inl ⟨by rfl, ?_⟩) ?_ ?_
  rotate_left
  · intro w'
    go_simp
    with_reducible rfl
  rotate_left
  · simp only [Act.put, List.setIfInBounds_toArray, List.set_cons_zero, List.set_cons_succ]
    rfl
  refine pure_ (i := 1) (N := (some 41)) (v := ?_) (a' := ?_) #[true, true, false, false, false, false, false, false, false, false, false, false, false, false, false, false, false, false, false, false, false, false, false, false] rfl rfl (by kernel_rfl) (fun _ _ _ h => h) (Or.inl ⟨by rfl, ?_⟩) ?_ ?_
  rotate_left
  · intro w'
    go_simp
    with_reducible rfl
  rotate_left
  · simp only [Act.put, List.setIfInBounds_toArray, List.set_cons_zero, List.set_cons_succ]
    rfl
  refine pure_ (i := 2) (N := (some 42)) (v := ?_) (a' := ?_) #[true, true, true, false, false, false, false, false, false, false, false, false, false, false, false, false, false, false, false, false, false, false, false, false] rfl rfl (by kernel_rfl) (fun _ _ _ h => h) (Or.inl ⟨by rfl, ?_⟩) ?_ ?_
  rotate_left
  · intro w'
    go_simp
    with_reducible rfl
  rotate_left
  · simp only [Act.put, List.setIfInBounds_toArray, List.set_cons_zero, List.set_cons_succ]
    rfl
  refine pure_ (i := 3) (N := (some 43)) (v := ?_) (a' := ?_) #[true, true, true, true, false, false, false, false, false, false, false, false, false, false, false, false, false, false, false, false, false, false, false, false] rfl rfl (by kernel_rfl) (fun _ _ _ h => h) (Or.inl ⟨by rfl, ?_⟩) ?_ ?_
  rotate_left
  · intro w'
    go_simp
    with_reducible rfl
  rotate_left
  · simp only [Act.put, List.setIfInBounds_toArray, List.set_cons_zero, List.set_cons_succ]
    rfl
  refine pure_ (i := 4) (N := (some 44)) (v := ?_) (a' := ?_) #[true, true, true, true, true, false, false, false, false, false, false, false, false, false, false, false, false, false, false, false, false, false, false, false] rfl rfl (by kernel_rfl) (fun _ _ _ h => h) (Or.inl ⟨by rfl, ?_⟩) ?_ ?_
  rotate_left
  · intro w'
    go_simp
    with_reducible rfl
  rotate_left
  · simp only [Act.put, List.setIfInBounds_toArray, List.set_cons_zero, List.set_cons_succ]
    rfl
  refine pure_ (i := 5) (N := (some 45)) (v := ?_) (a' := ?_) #[true, true, true, true, true, true, false, false, false, false, false, false, false, false, false, false, false, false, false, false, false, false, false, false] rfl rfl (by kernel_rfl) (fun _ _ _ h => h) (Or.inl ⟨by rfl, ?_⟩) ?_ ?_
  rotate_left
  · intro w'
    go_simp
    with_reducible rfl
  rotate_left
  · simp only [Act.put, List.setIfInBounds_toArray, List.set_cons_zero, List.set_cons_succ]
    rfl
  refine pure_ (i := 6) (N := (some 46)) (v := ?_) (a' := ?_) #[true, true, true, true, true, true, true, false, false, false, false, false, false, false, false, false, false, false, false, false, false, false, false, false] rfl rfl (by kernel_rfl) (fun _ _ _ h => h) (Or.inl ⟨by rfl, ?_⟩) ?_ ?_
  rotate_left
  · intro w'
    go_simp
    with_reducible rfl
  rotate_left
  · simp only [Act.put, List.setIfInBounds_toArray, List.set_cons_zero, List.set_cons_succ]
    rfl
  refine pure_ (i := 7) (N := (some 47)) (v := ?_) (a' := ?_) #[true, true, true, true, true, true, true, true, false, false, false, false, false, false, false, false, false, false, false, false, false, false, false, false] rfl rfl (by kernel_rfl) (fun _ _ _ h => h) (Or.inl ⟨by rfl, ?_⟩) ?_ ?_
  rotate_left
  · intro w'
    go_simp
    with_reducible rfl
  rotate_left
  · simp only [Act.put, List.setIfInBounds_toArray, List.set_cons_zero, List.set_cons_succ]
    rfl
  refine pure_ (i := 8) (N := (some 48)) (v := ?_) (a' := ?_) #[true, true, true, true, true, true, true, true, true, false, false, false, false, false, false, false, false, false, false, false, false, false, false, false] rfl rfl (by kernel_rfl) (fun _ _ _ h => h) (Or.inl ⟨by rfl, ?_⟩) ?_ ?_
  rotate_left
  · intro w'
    go_simp
    with_reducible rfl
  rotate_left
  · simp only [Act.put, List.setIfInBounds_toArray, List.set_cons_zero, List.set_cons_succ]
    rfl
  refine take_ (i := 9) (N := (some 49)) (v := ?_) (a' := ?_) #[true, true, true, true, true, true, true, true, true, true, false, false, false, false, false, false, false, false, false, false, false, false, false, false] rfl rfl (by kernel_rfl) (fun _ _ _ h => h) (Or.inl ⟨by rfl, ?_⟩) hHeld ?_ ?_
  rotate_left
  · rintro w' hS
    go_simp
    with_reducible rfl
  rotate_left
  · simp only [Act.put, List.setIfInBounds_toArray, List.set_cons_zero, List.set_cons_succ]
    rfl
  refine pure_ (i := 10) (N := (some 50)) (v := ?_) (a' := ?_) #[true, true, true, true, true, true, true, true, true, true, true, false, false, false, false, false, false, false, false, false, false, false, false, false] rfl rfl (by kernel_rfl) (fun _ _ _ h => h) (Or.inl ⟨by rfl, ?_⟩) ?_ ?_
  rotate_left
  · intro w'
    go_simp
    with_reducible rfl
  rotate_left
  · simp only [Act.put, List.setIfInBounds_toArray, List.set_cons_zero, List.set_cons_succ]
    rfl
  refine pure_ (i := 11) (N := (some 51)) (v := ?_) (a' := ?_) #[true, true, true, true, true, true, true, true, true, true, true, true, false, false, false, false, false, false, false, false, false, false, false, false] rfl rfl (by kernel_rfl) (fun _ _ _ h => h) (Or.inl ⟨by rfl, ?_⟩) ?_ ?_
  rotate_left
  · intro w'
    go_simp
    with_reducible rfl
  rotate_left
  · simp only [Act.put, List.setIfInBounds_toArray, List.set_cons_zero, List.set_cons_succ]
    rfl
  refine pure_ (i := 14) (N := (some 54)) (v := ?_) (a' := ?_) #[true, true, true, true, true, true, true, true, true, true, true, true, false, false, true, false, false, false, false, false, false, false, false, false] rfl rfl (by kernel_rfl) (fun _ _ _ h => h) (Or.inl ⟨by rfl, ?_⟩) ?_ ?_
  rotate_left
  · intro w'
    go_simp
    with_reducible rfl
  rotate_left
  · simp only [Act.put, List.setIfInBounds_toArray, List.set_cons_zero, List.set_cons_succ]
    rfl
  refine pure_ (i := 15) (N := (some 55)) (v := ?_) (a' := ?_) #[true, true, true, true, true, true, true, true, true, true, true, true, false, false, true, true, false, false, false, false, false, false, false, false] rfl rfl (by kernel_rfl) (fun _ _ _ h => h) (Or.inl ⟨by rfl, ?_⟩) ?_ ?_
  rotate_left
  · intro w'
    go_simp
    with_reducible rfl
  rotate_left
  · simp only [Act.put, List.setIfInBounds_toArray, List.set_cons_zero, List.set_cons_succ]
    rfl
  refine pure_ (i := 18) (N := (some 58)) (v := ?_) (a' := ?_) #[true, true, true, true, true, true, true, true, true, true, true, true, false, false, true, true, false, false, true, false, false, false, false, false] rfl rfl (by kernel_rfl) (fun _ _ _ h => h) (Or.inl ⟨by rfl, ?_⟩) ?_ ?_
  rotate_left
  · intro w'
    go_simp
    with_reducible rfl
  rotate_left
  · simp only [Act.put, List.setIfInBounds_toArray, List.set_cons_zero, List.set_cons_succ]
    rfl
  refine pure_ (i := 19) (N := (some 59)) (v := ?_) (a' := ?_) #[true, true, true, true, true, true, true, true, true, true, true, true, false, false, true, true, false, false, true, true, false, false, false, false] rfl rfl (by kernel_rfl) (fun _ _ _ h => h) (Or.inl ⟨by rfl, ?_⟩) ?_ ?_
  rotate_left
  · intro w'
    go_simp
    with_reducible rfl
  rotate_left
  · simp only [Act.put, List.setIfInBounds_toArray, List.set_cons_zero, List.set_cons_succ]
    rfl
  refine one_ (i := 12) (N := (some 52)) #[true, true, true, true, true, true, true, true, true, true, true, true, true, false, true, true, false, false, true, true, false, false, false, false] rfl rfl (by kernel_rfl) (by decide) (fun K hK => ?_)
  refine goes_ (f := 47) Try.func47 (by kernel_rfl) rfl #[.int .i64 (n : Int)] (by rfl) rfl rfl (by (try simp only [List.map_toArray, List.map_cons, List.map_nil]); first | done | rfl) ?_
  refine (HF2.out _).mono ?_
  rintro e w8 ⟨rfl, hb⟩
  refine ⟨_, rfl, ?_⟩
  have HX8 := Aside0.mk (HX7.out.below hb)
  have HB8 := Aside0.mk (below_step HB7.out hb)
  have HS8 := Aside0.mk (HS7.out.below hb)
  clear hb
  refine hK.out _ _ (HCV.out _ HS8.out) (fun hHeld => ?_)
  clear hK K
  refine norm_ (a' := ?_) ?_ ?_
  rotate_left
  · show Act.put _ (some 52) _ = _
    simp only [Act.put, List.setIfInBounds_toArray, List.set_cons_zero, List.set_cons_succ]
    rfl
  refine pure_ (i := 13) (N := (some 53)) (v := ?_) (a' := ?_) #[true, true, true, true, true, true, true, true, true, true, true, true, true, true, true, true, false, false, true, true, false, false, false, false] rfl rfl (by kernel_rfl) (fun _ _ _ h => h) (Or.inl ⟨by rfl, ?_⟩) ?_ ?_
  rotate_left
  · intro w'
    go_simp
    with_reducible rfl
  rotate_left
  · simp only [Act.put, List.setIfInBounds_toArray, List.set_cons_zero, List.set_cons_succ]
    rfl
  refine one_ (i := 16) (N := (some 56)) #[true, true, true, true, true, true, true, true, true, true, true, true, true, true, true, true, true, false, true, true, false, false, false, false] rfl rfl (by kernel_rfl) (by decide) (fun K hK => ?_)
  refine goes_ (f := 48) Try.func48 (by kernel_rfl) rfl #[.int .i64 (aad.size : Int)] (by rfl) rfl rfl (by (try simp only [List.map_toArray, List.map_cons, List.map_nil]); first | done | rfl) ?_
  refine (HL1.out _).mono ?_
  rintro e w8 ⟨rfl, hb⟩
  refine ⟨_, rfl, ?_⟩
  have HX9 := Aside0.mk (HX8.out.below hb)
  have HB9 := Aside0.mk (below_step HB8.out hb)
  have HS9 := Aside0.mk (HS8.out.below hb)
  clear hb
  refine hK.out _ _ (HCV.out _ HS9.out) (fun hHeld => ?_)
  clear hK K
  refine norm_ (a' := ?_) ?_ ?_
  rotate_left
  · show Act.put _ (some 56) _ = _
    simp only [Act.put, List.setIfInBounds_toArray, List.set_cons_zero, List.set_cons_succ]
    rfl
  refine pure_ (i := 17) (N := (some 57)) (v := ?_) (a' := ?_) #[true, true, true, true, true, true, true, true, true, true, true, true, true, true, true, true, true, true, true, true, false, false, false, false] rfl rfl (by kernel_rfl) (fun _ _ _ h => h) (Or.inl ⟨by rfl, ?_⟩) ?_ ?_
  rotate_left
  · intro w'
    go_simp
    with_reducible rfl
  rotate_left
  · simp only [Act.put, List.setIfInBounds_toArray, List.set_cons_zero, List.set_cons_succ]
    rfl
  refine one_ (i := 20) (N := (some 60)) #[true, true, true, true, true, true, true, true, true, true, true, true, true, true, true, true, true, true, true, true, true, false, false, false] rfl rfl (by kernel_rfl) (by decide) (fun K hK => ?_)
  refine goes_ (f := 48) Try.func48 (by kernel_rfl) rfl #[.int .i64 (n : Int)] (by rfl) rfl rfl (by (try simp only [List.map_toArray, List.map_cons, List.map_nil]); first | done | rfl) ?_
  refine (HL2.out _).mono ?_
  rintro e w8 ⟨rfl, hb⟩
  refine ⟨_, rfl, ?_⟩
  have HX10 := Aside0.mk (HX9.out.below hb)
  have HB10 := Aside0.mk (below_step HB9.out hb)
  have HS10 := Aside0.mk (HS9.out.below hb)
  clear hb
  refine hK.out _ _ (HCV.out _ HS10.out) (fun hHeld => ?_)
  clear hK K
  refine norm_ (a' := ?_) ?_ ?_
  rotate_left
  · show Act.put _ (some 60) _ = _
    simp only [Act.put, List.setIfInBounds_toArray, List.set_cons_zero, List.set_cons_succ]
    rfl
  refine pure_ (i := 21) (N := (some 61)) (v := ?_) (a' := ?_) #[true, true, true, true, true, true, true, true, true, true, true, true, true, true, true, true, true, true, true, true, true, true, false, false] rfl rfl (by kernel_rfl) (fun _ _ _ h => h) (Or.inl ⟨by rfl, ?_⟩) ?_ ?_
  rotate_left
  · intro w'
    go_simp
    with_reducible rfl
  rotate_left
  · simp only [Act.put, List.setIfInBounds_toArray, List.set_cons_zero, List.set_cons_succ]
    rfl
  refine one_ (i := 22) (N := (some 62)) #[true, true, true, true, true, true, true, true, true, true, true, true, true, true, true, true, true, true, true, true, true, true, true, false] rfl rfl (by kernel_rfl) (by decide) (fun K hK => ?_)
  refine conv_step (s := u3) 9 32 5 (by rfl) rfl rfl rfl Try.underlying9 Try.underlying32 Try.underlying5 (grownCap_ge _ _ _ _) ?_
  intro g2 eg c2 hc2 w11 k11 hb
  have HT11 := Aside0.mk k11
  have HC2 := Aside0.mk hc2
  have HNE2 := Aside0.mk (show g2 ≠ g from by rw [eg]; exact Nat.ne_of_gt HX10.out.lt)
  clear k11 hc2 eg
  have HX11 := Aside0.mk (HX10.out.below hb)
  have HB11 := Aside0.mk (below_step HB10.out hb)
  have HS11 := Aside0.mk (HS10.out.below hb)
  clear hb
  refine hK.out _ _ (HCV.out _ HS11.out) (fun hHeld => ?_)
  clear hK K
  refine norm_ (a' := ?_) ?_ ?_
  rotate_left
  · show Act.put _ (some 62) _ = _
    simp only [Act.put, List.setIfInBounds_toArray, List.set_cons_zero, List.set_cons_succ]
    rfl
  refine last_ (i := 23) (N := (some 63)) #[true, true, true, true, true, true, true, true, true, true, true, true, true, true, true, true, true, true, true, true, true, true, true, true] rfl rfl (by kernel_rfl) (by decide) (fun K hK => ?_)
  refine goes_ (f := 32) Try.func32 (by kernel_rfl) rfl #[.pointer (some ⟨g, 0, none⟩), .slice (some ⟨g2, 0, none⟩) u3.size c2] (by rfl) rfl rfl (by (try simp only [List.map_toArray, List.map_cons, List.map_nil]); first | done | rfl) ?_
  refine (HA3.out g g2 c2 HC2.out HNE2.out _ HX11.out HT11.out).mono ?_
  rintro e w12 ⟨rfl, k12, g12⟩
  refine ⟨_, rfl, ?_⟩
  have HX12 := Aside0.mk k12
  have HB12 := Aside0.mk (below_own HB11.out HG.out g12)
  clear k12 g12
  refine hK.out _ _ ?_
  clear hK K
  refine norm_ (a' := ?_) ?_ ?_
  rotate_left
  · show Act.put _ (some 63) _ = _
    simp only [Act.put, List.setIfInBounds_toArray, List.set_cons_zero, List.set_cons_succ]
    rfl
  refine done_ (by kernel_rfl) ?_
  clear hHeld
  go_wp2_with (go_at_call 33; (with_reducible refine (HT.out g _ HX12.out).mono ?_); rintro e w13 ⟨rfl, b13⟩; have HB13 := Aside0.mk (below_step HB12.out b13); clear b13)
  rw [tagOf, ← HOW.out, ← HX3E.out]
  first
  | (go_ret
     exact ⟨rfl, HB13.out⟩)
end Go.Proofs.Ytocckplgjbhlbaa.Pol
