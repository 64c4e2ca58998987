/- poly's fill and length, by their contracts. Conditions: a length below 2^31. -/
import Derived.Test.YtocckplgjbhlbaaPolA
import Derived.Test.YtocckplgjbhlbaaWb
namespace Go.Proofs.Ytocckplgjbhlbaa.Pol
open Go.RowKit Go.Proofs.YtocckplgjbhlbaaW.PrintWords Go.Proofs.Ytocckplgjbhlbaa.Cha Go.Proofs.Ytocckplgjbhlbaa.X
set_option linter.unusedVariables false
/-- Bytes of nought up to a whole block. -/
def pad (n : Nat) : ByteArray := strOfNums (List.replicate ((16 - n % 16) % 16) 0)
theorem fill_f (n : Nat) (hn : n ≤ 2000000000) : poly_fill.f (n : Int) = some (pad n) := by
  have e1 : Int.tmod (n : Int) 16 = ((n % 16 : Nat) : Int) := by rw [Int.tmod_eq_emod_of_nonneg (by omega)]; omega
  have e2 : wrap64 (16 - ((n % 16 : Nat) : Int)) = ((16 - n % 16 : Nat) : Int) := by unfold wrap64; omega
  have e3 : Int.tmod ((16 - n % 16 : Nat) : Int) 16 = (((16 - n % 16) % 16 : Nat) : Int) := by rw [Int.tmod_eq_emod_of_nonneg (by omega)]; omega
  unfold poly_fill.f
  rw [e1, e2, e3, if_pos (by omega), if_pos (by omega), Int.toNat_natCast]
  rfl
theorem fill_calls (n : Nat) (hn : n ≤ 2000000000) (w : World) : Calls Try.prog 47 #[.int .i64 (n : Int)] w fun e w' => e = .returned (.string (pad n)) ∧ Below w.heap.size w w' :=
  poly_fill.calls (n : Int) (pad n) w (fill_f n hn)
/-- A length's four bytes, the highest first. -/
def be4 (n : Int) : List Int := [(n / 16777216) % 256, (n / 65536) % 256, (n / 256) % 256, n % 256]
/-- A length's eight bytes, the lowest first. -/
def len8 (n : Nat) : ByteArray := strOfNums [(n : Int) % 256, ((n : Int) / 256) % 256, ((n : Int) / 65536) % 256, ((n : Int) / 16777216) % 256, 0, 0, 0, 0]
theorem bytes4 (n : Int) : wire_Bytes.f n 4 = some (strOfNums (be4 n)) := by
  simp [wire_Bytes.f, be4]
theorem bytesOf_be4 (n : Int) : bytesOf (strOfNums (be4 n)) = be4 n := by
  unfold bytesOf strOfNums be4
  simp only [List.map_cons, List.map_nil]
  have h : ∀ z : Int, ((UInt8.ofNat (z % 256).toNat).toNat : Int) = z % 256 := fun z => by
    have : (z % 256).toNat < 256 := by omega
    simp [Nat.mod_eq_of_lt this]
    omega
  simp only [h]
theorem be4_size (n : Int) : (strOfNums (be4 n)).size = 4 := rfl
theorem Arr.lit {P : Program} {ops : Array Oper} {rest : List Oper} {o : Oper} {a : Act} {Q : Exit → Act → World → Prop} {w : World} {k : IntKind} {e n : Nat} {xs : List Int} (hgd : o.guard = none)
    (hr : (execOp a.eval o).run P w = .ok (.value (.slice (some ⟨w.heap.size, 0, none⟩) n n)) (w.alloc (.cells (xs.map (Value.int k)).toArray e (0, 0))))
    (H : ∀ g, g = w.heap.size → ∀ w1, Arr k w1 g e xs → Below w.heap.size w w1 → wpList P ops Q rest (a.put o.dst (.slice (some ⟨g, 0, none⟩) n n)) w1) : wpList P ops Q (o :: rest) a w :=
  Kd.event_run hgd hr (H _ rfl _ (blk_new w _) (below_alloc (Below.refl _ _) _))
theorem ixb (g c i : Nat) (h : i < 4) (W : World) : (Instr.indexAt 32 (.slice (some ⟨g, 0, none⟩) 4 c) (.int .i64 (i : Int))).run Try.prog W = .ok (.pointer (some ⟨g, i, none⟩)) W := by
  have := ixo g 0 4 c i h W
  rw [Nat.zero_add] at this
  exact this
set_option maxRecDepth 100000 in
set_option maxHeartbeats 4000000 in
theorem length_calls (n : Nat) (w : World) : Calls Try.prog 48 #[.int .i64 (n : Int)] w fun e w' => e = .returned (.string (len8 n)) ∧ Below w.heap.size w w' := by
  obtain ⟨s, hs⟩ : ∃ s, s = strOfNums (be4 (n : Int)) := ⟨_, rfl⟩
  have HSZ := Aside0.mk (show s.size = 4 from by rw [hs]; exact be4_size _)
  have HB4 := Aside0.mk (show bytesOf s = be4 (n : Int) from by rw [hs]; exact bytesOf_be4 _)
  have HW := Aside0.mk (fun W => wire_Bytes.calls (n : Int) 4 s W (by rw [hs]; exact bytes4 _))
  clear hs
  go_enter Try.func48, Try.ntmps48
  go_wp2_with (first
    | (go_at_call 56; (with_reducible refine (HW.out _).mono ?_); rintro e w1 ⟨rfl, b1⟩; have HB1 := Aside0.mk b1; clear b1)
    | ((with_reducible refine gate_dst (N := 6) rfl ?_); refine conv_event rfl 9 32 5 _ s rfl rfl Try.underlying9 Try.underlying32 Try.underlying5 ?hc ?_; (case hc => exact grownCap_ge _ _ _ _); intro gb eg c hc w2 k2 b2; have HB2 := Aside0.mk (below_step HB1.out b2); have HS2 := Aside0.mk (show Bts w2 gb (be4 (n : Int)) from by rw [← HB4.out]; exact k2); clear k2 b2 hc eg))
  rw [HSZ.out]
  have i0 : ∀ W, (Instr.indexAt 32 (.slice (some ⟨gb, 0, none⟩) 4 c) (.int .i64 0)).run Try.prog W = .ok (.pointer (some ⟨gb, 0, none⟩)) W := fun W => ixb gb c 0 (by omega) W
  have i1 : ∀ W, (Instr.indexAt 32 (.slice (some ⟨gb, 0, none⟩) 4 c) (.int .i64 1)).run Try.prog W = .ok (.pointer (some ⟨gb, 1, none⟩)) W := fun W => ixb gb c 1 (by omega) W
  have i2 : ∀ W, (Instr.indexAt 32 (.slice (some ⟨gb, 0, none⟩) 4 c) (.int .i64 2)).run Try.prog W = .ok (.pointer (some ⟨gb, 2, none⟩)) W := fun W => ixb gb c 2 (by omega) W
  have i3 : ∀ W, (Instr.indexAt 32 (.slice (some ⟨gb, 0, none⟩) 4 c) (.int .i64 3)).run Try.prog W = .ok (.pointer (some ⟨gb, 3, none⟩)) W := fun W => ixb gb c 3 (by omega) W
  have c0 : w2.cell? ⟨gb, 0, none⟩ = some (.int .u8 (((n : Int) / 16777216) % 256)) := HS2.out.cell 0 (by simp [be4])
  have c1 : w2.cell? ⟨gb, 1, none⟩ = some (.int .u8 (((n : Int) / 65536) % 256)) := HS2.out.cell 1 (by simp [be4])
  have c2 : w2.cell? ⟨gb, 2, none⟩ = some (.int .u8 (((n : Int) / 256) % 256)) := HS2.out.cell 2 (by simp [be4])
  have c3 : w2.cell? ⟨gb, 3, none⟩ = some (.int .u8 ((n : Int) % 256)) := HS2.out.cell 3 (by simp [be4])
  refine wp_region_quiet_tail 12 (by kernel_rfl) (by kernel_rfl) ?_
  simp only [List.take_succ_cons, List.take_zero, List.drop_succ_cons, List.drop_zero]
  repeat (quiet_step (fail))
  refine wpQuiet_nil ?_
  intro nq
  refine Arr.lit (k := .u8) (e := 5) (n := 8) (xs := ([(n : Int) % 256, ((n : Int) / 256) % 256, ((n : Int) / 65536) % 256, ((n : Int) / 16777216) % 256, 0, 0, 0, 0] : List Int)) rfl ?hr ?_
  case hr => first | (go_simp; done) | (go_simp; rfl)
  intro g5 eg w5 k5 b5
  have HB5 := Aside0.mk (below_step (pw_below_drewN HB2.out nq) b5)
  have ht := k5.text (P := Try.prog) (n := 8) rfl 32 5 9 Try.underlying32 Try.underlying5 Try.underlying9 8
  clear k5 i0 i1 i2 i3 c0 c1 c2 c3 eg b5
  go_wp2
  first
  | (go_ret
     exact ⟨rfl, HB5.out⟩)
  | (go_ret2
     exact ⟨rfl, HB5.out⟩)
end Go.Proofs.Ytocckplgjbhlbaa.Pol

/- poly's Tag, walked. Conditions: a key of 32 bytes, a nonce of 12, at most 65536 bytes beside and in the row. -/
namespace Go.Proofs.Ytocckplgjbhlbaa.Pol
open Go.RowKit Go.Proofs.YtocckplgjbhlbaaW.PrintWords Go.Proofs.YtocckplgjbhlbaaW.PrintLast Go.Proofs.Ytocckplgjbhlbaa.Cha Go.Proofs.Ytocckplgjbhlbaa.X
set_option linter.unusedVariables false
/-- The key of one message. -/
def own (key nonce : ByteArray) : ByteArray := (strOfNums (blkNums key 0 nonce)).extract 0 32
theorem blk_size (key nonce : ByteArray) : (strOfNums (blkNums key 0 nonce)).size = 64 := by
  have : (strOfNums (blkNums key 0 nonce)).size = (blkNums key 0 nonce).length := by simp [strOfNums, ByteArray.size]
  rw [this, blkNums, outs_length]
theorem own_size (key nonce : ByteArray) : (own key nonce).size = 32 := by rw [own, ByteArray.size_extract, blk_size]; omega
def ahead (aad : ByteArray) : ByteArray := aad ++ pad aad.size
def behind (aad : ByteArray) (bs : List Int) : ByteArray := strOfNums (bs.drop (bs.length - bs.length % 16)) ++ pad bs.length ++ len8 aad.size ++ len8 bs.length
def all1 (ow aad : ByteArray) : List Int := alled (sum0 ow) (bytesOf (ahead aad)) 0 (ahead aad).size (((ahead aad).size + 15) / 16)
def all2 (ow aad : ByteArray) (bs : List Int) : List Int := alled (all1 ow aad) bs 0 (bs.length - bs.length % 16) ((bs.length - bs.length % 16 + 15) / 16)
def all3 (ow aad : ByteArray) (bs : List Int) : List Int := alled (all2 ow aad bs) (bytesOf (behind aad bs)) 0 (behind aad bs).size (((behind aad bs).size + 15) / 16)
/-- The tag of bytes that are enciphered. -/
def tagOf (key nonce aad : ByteArray) (bs : List Int) : ByteArray := tagged (all3 (own key nonce) aad bs) (own key nonce)
theorem strOfNums_size_ (xs : List Int) : (strOfNums xs).size = xs.length := by simp [strOfNums, ByteArray.size]
theorem pad_size (n : Nat) : (pad n).size ≤ 16 := by rw [pad, strOfNums_size_, List.length_replicate]; omega
theorem len8_size (n : Nat) : (len8 n).size = 8 := rfl
theorem Bts.tail_text {w : World} {g : Nat} {xs : List Int} (h : Bts w g xs) {n : Nat} (hn : xs.length = n) (m : Nat) (hm : m ≤ n) (c : Nat) (hc : n ≤ c) :
    (convert 32 9 (.slice (some ⟨g, if c = m then 0 else m, none⟩) (n - m) (c - m))).run Try.prog w = .ok (.string (strOfNums (xs.drop m))) w := by
  subst hn
  refine run_convert_bytes_arg w 32 5 Try.underlying32 Try.underlying5 g (if c = m then 0 else m) (xs.length - m) (c - m) (xs.drop m) (by rw [List.length_drop]) (fun i hi => ?_) 9 Try.underlying9
  rw [if_neg (by omega), h.cell (m + i) (by omega)]
  simp [gx, List.getD_eq_getElem?_getD, show m + i < xs.length by omega]
theorem conv_step {P : Program} {ops : Array Oper} {o : Oper} {N : Option Tmp} {a : Act} {K : Act → World → Prop} {Q : Exit → Act → World → Prop} {w : World} (src dst e : TypeId) {s : ByteArray} {x : Operand} (hw : Region.wanted o (yielded ops a.tmps) = true) (hN : o.dst = N) (ho : o.op = .convert src dst x) (hx : a.eval x = .string s)
    (hs : P.underlying src = some .string) (hd : P.underlying dst = some (.slice e)) (he : P.underlying e = some (.int .u8)) (hc : s.size ≤ grownCap w s.size 0 e)
    (H : ∀ g, g = w.heap.size → ∀ c, s.size ≤ c → ∀ w1, Bts w1 g (bytesOf s) → Below w.heap.size w w1 → K (a.put N (.slice (some ⟨g, 0, none⟩) s.size c)) w1) : if Region.wanted o (yielded ops a.tmps) = true then Oper.wp P o a w K Q else K (a.put N undef) w := by
  refine value_ hw hN ?_ (H _ rfl (grownCap w s.size 0 e) hc _ (bytesWorld_bts w e s) (bytesWorld_below w e s))
  unfold execOp
  simp only [ho, hx, Sem.run_bind, Lib.run_convert_string_bytes w src dst e s hs hd he, Result.andThen_ok]
  rfl
set_option maxRecDepth 100000 in
set_option maxHeartbeats 8000000 in
theorem Tag_calls (key nonce aad : ByteArray) (hk : key.size = 32) (hn : nonce.size = 12) (ha : aad.size ≤ 65536) (gb n c : Nat) (bs : List Int) (hbn : bs.length = n) (hnn : n ≤ 65536) (hc : n ≤ c) (w : World) (hb : Bts w gb bs) :
    Calls Try.prog 36 #[.string key, .string nonce, .string aad, .slice (some ⟨gb, 0, none⟩) n c] w fun e w' => e = .returned (.string (tagOf key nonce aad bs)) ∧ Below w.heap.size w w' := by
  have HS0 := Aside0.mk hb
  have HBN := Aside0.mk hbn
  have HLT := Aside0.mk hb.1
  have HBk := Aside0.mk (fun W => block_yes key 0 nonce ⟨hk, by omega, by omega, hn⟩ W)
  obtain ⟨B, hB⟩ : ∃ B, B = strOfNums (blkNums key 0 nonce) := ⟨_, rfl⟩
  have hBs : B.size = 64 := by rw [hB]; exact blk_size key nonce
  have p0 : ((32 : Int) ≤ (B.size : Int)) = True := eq_true (by omega)
  obtain ⟨ow, how⟩ : ∃ ow, ow = B.extract 0 32 := ⟨_, rfl⟩
  have HOW := Aside0.mk (show ow = own key nonce from by rw [how, hB, own])
  have hows : ow.size = 32 := by rw [HOW.out]; exact own_size key nonce
  rw [← hB] at HBk
  have hse : B.extract 0 32 = ow := how.symm
  have e32 : ((32 : Int)).toNat = 32 := rfl
  clear hB how hb
  have HN := Aside0.mk (fun W => newSum_calls ow hows W)
  have HF1 := Aside0.mk (fun W => fill_calls aad.size (by omega) W)
  have HF2 := Aside0.mk (fun W => fill_calls n (by omega) W)
  have HL1 := Aside0.mk (fun W => length_calls aad.size W)
  have HL2 := Aside0.mk (fun W => length_calls n W)
  have hp1 := pad_size aad.size
  have hp2 := pad_size n
  have hl1 := len8_size aad.size
  have hl2 := len8_size n
  obtain ⟨f1, hf1⟩ : ∃ f1, f1 = pad aad.size := ⟨_, rfl⟩
  obtain ⟨f2, hf2⟩ : ∃ f2, f2 = pad n := ⟨_, rfl⟩
  obtain ⟨l1, hL1⟩ : ∃ l1, l1 = len8 aad.size := ⟨_, rfl⟩
  obtain ⟨l2, hL2⟩ : ∃ l2, l2 = len8 n := ⟨_, rfl⟩
  rw [← hf1] at HF1 hp1
  rw [← hf2] at HF2 hp2
  rw [← hL1] at HL1 hl1
  rw [← hL2] at HL2 hl2
  obtain ⟨ta, hta⟩ : ∃ ta, aad ++ f1 = ta := ⟨_, rfl⟩
  have q1 : (aad.size + f1.size ≤ 9223372036854775807) = True := eq_true (by omega)
  have q1b : decide (aad.size + f1.size ≤ 9223372036854775807) = true := decide_eq_true (by omega)
  have q1c : (9223372036854775807 < aad.size + f1.size) = False := eq_false (by omega)
  have HTA := Aside0.mk (show ta = ahead aad from by rw [← hta, hf1, ahead])
  obtain ⟨m, hm⟩ : ∃ m, m = n - n % 16 := ⟨_, rfl⟩
  have hmn : m ≤ n := by omega
  obtain ⟨r, hr⟩ : ∃ r, r = n % 16 := ⟨_, rfl⟩
  have hr16 : r < 16 := by omega
  have hmr : m = n - r := by omega
  have z2 : (n : Int).tmod 16 = (r : Int) := by rw [Int.tmod_eq_emod_of_nonneg (by omega)]; omega
  have z2' : (n : Int) % 16 = (r : Int) := by omega
  have z3 : IntKind.i64.wrap (r : Int) = (r : Int) := IntWalk.i64_in _ (by omega)
  have hrn : r ≤ n := by omega
  have z4 : IntKind.i64.wrap ((n : Int) - (r : Int)) = (m : Int) := by rw [IntWalk.i64_in _ (by omega)]; omega
  have z4' : (n : Int) - (r : Int) = (m : Int) := by omega
  have z5 : IntKind.i64.wrap (m : Int) = (m : Int) := IntWalk.i64_in _ (by omega)
  have sh : ∀ W, (Instr.slice 32 (.slice (some ⟨gb, 0, none⟩) n c) none (some (.int .i64 (m : Int))) none).run Try.prog W = .ok (.slice (some ⟨gb, 0, none⟩) m c) W := fun W => slh gb 0 n c m (by omega) W
  have sl : ∀ W, (Instr.slice 32 (.slice (some ⟨gb, 0, none⟩) n c) (some (.int .i64 (m : Int))) none none).run Try.prog W = .ok (.slice (some ⟨gb, if c = m then 0 else m, none⟩) (n - m) (c - m)) W := fun W => by
    have := slo gb 0 n c m hmn W
    rw [Nat.zero_add] at this
    exact this
  obtain ⟨o8, ho8⟩ : ∃ o8 : Nat, (if c = m then 0 else m) = o8 := ⟨_, rfl⟩
  obtain ⟨r8, hr8⟩ : ∃ r8 : Nat, n - m = r8 := ⟨_, rfl⟩
  obtain ⟨c8, hc8⟩ : ∃ c8 : Nat, c - m = c8 := ⟨_, rfl⟩
  rw [ho8, hr8, hc8] at sl
  obtain ⟨tl, htl⟩ : ∃ tl, tl = strOfNums (bs.drop m) := ⟨_, rfl⟩
  have HCV := Aside0.mk (fun W (hW : Bts W gb bs) => Bts.tail_text hW hbn m hmn c hc)
  rw [ho8, hr8, hc8] at HCV
  rw [← htl] at HCV
  have htls : tl.size = n - m := by rw [htl, strOfNums_size_, List.length_drop, hbn]
  obtain ⟨u1, hu1⟩ : ∃ u1, tl ++ f2 = u1 := ⟨_, rfl⟩
  obtain ⟨u2, hu2⟩ : ∃ u2, u1 ++ l1 = u2 := ⟨_, rfl⟩
  obtain ⟨u3, hu3⟩ : ∃ u3, u2 ++ l2 = u3 := ⟨_, rfl⟩
  have su1 : u1.size = tl.size + f2.size := by rw [← hu1, ByteArray.size_append]
  have su2 : u2.size = u1.size + l1.size := by rw [← hu2, ByteArray.size_append]
  have q2 : (tl.size + f2.size ≤ 9223372036854775807) = True := eq_true (by omega)
  have q2b : decide (tl.size + f2.size ≤ 9223372036854775807) = true := decide_eq_true (by omega)
  have q2c : (9223372036854775807 < tl.size + f2.size) = False := eq_false (by omega)
  have q3 : (u1.size + l1.size ≤ 9223372036854775807) = True := eq_true (by omega)
  have q3b : decide (u1.size + l1.size ≤ 9223372036854775807) = true := decide_eq_true (by omega)
  have q3c : (9223372036854775807 < u1.size + l1.size) = False := eq_false (by omega)
  have q4 : (u2.size + l2.size ≤ 9223372036854775807) = True := eq_true (by omega)
  have q4b : decide (u2.size + l2.size ≤ 9223372036854775807) = true := decide_eq_true (by omega)
  have q4c : (9223372036854775807 < u2.size + l2.size) = False := eq_false (by omega)
  have HU3 := Aside0.mk (show u3 = behind aad bs from by rw [← hu3, ← hu2, ← hu1, htl, hf2, hL1, hL2, behind, hbn, hm])
  have HZ0 := Aside0.mk (sum0_length ow)
  have HA1 := Aside0.mk (fun g (g1 c1 : Nat) (hc : ta.size ≤ c1) (hne : g1 ≠ g) W hW hb => all_calls g 71 (sum0 ow) HZ0.out g1 0 ta.size c1 (bytesOf ta) (by rw [bytesOf_length]; omega) hc hne W hW hb)
  obtain ⟨x1, hx1⟩ : ∃ x1, x1 = alled (sum0 ow) (bytesOf ta) 0 ta.size ((ta.size + 15) / 16) := ⟨_, rfl⟩
  have hx1l : x1.length = 10 := by rw [hx1, alled_length]; exact HZ0.out
  rw [← hx1] at HA1
  have HX1E := Aside0.mk (show x1 = all1 ow aad from by rw [hx1, HTA.out, all1])
  have HA2 := Aside0.mk (fun g (hne : gb ≠ g) W hW hb => all_calls g 71 x1 hx1l gb 0 m c bs (by omega) (by omega) hne W hW hb)
  obtain ⟨x2, hx2⟩ : ∃ x2, x2 = alled x1 bs 0 m ((m + 15) / 16) := ⟨_, rfl⟩
  have hx2l : x2.length = 10 := by rw [hx2, alled_length]; exact hx1l
  rw [← hx2] at HA2
  have HX2E := Aside0.mk (show x2 = all2 ow aad bs from by rw [hx2, HX1E.out, hm, ← hbn, all2])
  have HA3 := Aside0.mk (fun g (g1 c1 : Nat) (hc : u3.size ≤ c1) (hne : g1 ≠ g) W hW hb => all_calls g 71 x2 hx2l g1 0 u3.size c1 (bytesOf u3) (by rw [bytesOf_length]; omega) hc hne W hW hb)
  obtain ⟨x3, hx3⟩ : ∃ x3, x3 = alled x2 (bytesOf u3) 0 u3.size ((u3.size + 15) / 16) := ⟨_, rfl⟩
  have hx3l : x3.length = 10 := by rw [hx3, alled_length]; exact hx2l
  rw [← hx3] at HA3
  have HX3E := Aside0.mk (show x3 = all3 ow aad bs from by rw [hx3, HX2E.out, HU3.out, all3])
  have HT := Aside0.mk (fun g W hW => tag_calls g 71 x3 hx3l ow hows W hW)
  clear hx1 hx2 hx3 hx1l hx2l hx3l htl htls su1 su2 hl1 hl2 hp1 hp2 hf1 hf2 hL1 hL2 ho8 hr8 hc8 hm hr hmr hr16 hrn hmn hBs hows hk hn ha hnn hbn hc
  go_enter Try.func36, Try.ntmps36
  go_wp2_with (first
    | (go_at_call 12; (with_reducible refine (HBk.out _).mono ?_); rintro e w1 ⟨rfl, b1⟩; have HB1 := Aside0.mk b1; have HS1 := Aside0.mk (HS0.out.below b1); clear b1)
    | (go_at_call 31; (with_reducible refine (HN.out _).mono ?_); rintro e w2 ⟨g, rfl, hg, k2, b2⟩; have HX2 := Aside0.mk k2; have HB2 := Aside0.mk (below_step HB1.out b2); have HG := Aside0.mk (show w.heap.size ≤ g from Nat.le_trans (below_size HB1.out) hg); have HNB := Aside0.mk (show gb ≠ g from (by have := HLT.out; have := HG.out; omega)); have HS2 := Aside0.mk (HS1.out.below b2); clear k2 b2 hg)
    | (go_at_call 47; (with_reducible refine (HF1.out _).mono ?_); rintro e w3 ⟨rfl, b3⟩; have HB3 := Aside0.mk (below_step HB2.out b3); have HX3 := Aside0.mk (HX2.out.below b3); have HS3 := Aside0.mk (HS2.out.below b3); clear b3)
    | ((with_reducible refine gate_dst (N := 28) rfl ?_); refine conv_event rfl 9 32 5 _ ta rfl rfl Try.underlying9 Try.underlying32 Try.underlying5 ?hc ?_; (case hc => exact grownCap_ge _ _ _ _); intro g1 eg c1 hc1 w4 k4 b4; have HB4 := Aside0.mk (below_step HB3.out b4); have HT4 := Aside0.mk k4; have HC1 := Aside0.mk hc1; have HX4 := Aside0.mk (HX3.out.below b4); have HS4 := Aside0.mk (HS3.out.below b4); have HNE1 := Aside0.mk (show g1 ≠ g from by rw [eg]; exact Nat.ne_of_gt HX3.out.lt); clear k4 b4 hc1 eg)
    | (go_at_call 32; first
        | ((with_reducible refine (HA2.out g HNB.out _ HX5.out HS5.out).mono ?_); rintro e w6 ⟨rfl, k6, g6⟩; have HX6 := Aside0.mk k6; have HB6 := Aside0.mk (below_own HB5.out HG.out g6); have HS6 := Aside0.mk (HS5.out.grown g6 (fun e => HNB.out (Option.some.inj e))); clear k6 g6)
        | ((with_reducible refine (HA1.out g g1 c1 HC1.out HNE1.out _ HX4.out HT4.out).mono ?_); rintro e w5 ⟨rfl, k5, g5⟩; have HX5 := Aside0.mk k5; have HB5 := Aside0.mk (below_own HB4.out HG.out g5); have HS5 := Aside0.mk (HS4.out.grown g5 (fun e => HNB.out (Option.some.inj e))); clear k5 g5)))
  clear p0 e32 hse q1 q1b q1c hta sh
  have hHeld0 := HCV.out _ (show Bts w6.drew gb bs from HS6.out)
  refine start_ (n := 24) (S := fun w' => (convert 32 9 (.slice (some ⟨gb, o8, none⟩) r8 c8)).run Try.prog w' = .ok (.string tl) w') (ds := [23]) #[false, false, false, false, false, false, false, false, false, false, false, false, false, false, false, false, false, false, false, false, false, false, false, false] (by kernel_rfl) rfl rfl hHeld0 (fun hHeld => ?_)
  have HX7 := Aside0.mk (show Arr .u64 w6.drew g 71 x2 from HX6.out)
  have HB7 := Aside0.mk (below_drew HB6.out)
  have HS7 := Aside0.mk (show Bts w6.drew gb bs from HS6.out)
  generalize w6.drew = w7 at HX7 HB7 HS7 hHeld ⊢
  clear hHeld0
  refine pure_ (i := 0) (N := (some 40)) (v := ?_) (a' := ?_) #[true, false, false, false, false, false, false, false, false, false, false, false, false, false, false, false, false, false, false, false, false, false, false, false] rfl rfl (by kernel_rfl) (fun _ _ _ h => h) (Or.inl ⟨by rfl, ?_⟩) ?_ ?_
  rotate_left
  · intro w'
    go_simp
    with_reducible rfl
  rotate_left
  · simp only [Act.put, List.setIfInBounds_toArray, List.set_cons_zero, List.set_cons_succ]
    rfl
  refine pure_ (i := 1) (N := (some 41)) (v := ?_) (a' := ?_) #[true, true, false, false, false, false, false, false, false, false, false, false, false, false, false, false, false, false, false, false, false, false, false, false] rfl rfl (by kernel_rfl) (fun _ _ _ h => h) (Or.inl ⟨by rfl, ?_⟩) ?_ ?_
  rotate_left
  · intro w'
    go_simp
    with_reducible rfl
  rotate_left
  · simp only [Act.put, List.setIfInBounds_toArray, List.set_cons_zero, List.set_cons_succ]
    rfl
  refine pure_ (i := 2) (N := (some 42)) (v := ?_) (a' := ?_) #[true, true, true, false, false, false, false, false, false, false, false, false, false, false, false, false, false, false, false, false, false, false, false, false] rfl rfl (by kernel_rfl) (fun _ _ _ h => h) (Or.inl ⟨by rfl, ?_⟩) ?_ ?_
  rotate_left
  · intro w'
    go_simp
    with_reducible rfl
  rotate_left
  · simp only [Act.put, List.setIfInBounds_toArray, List.set_cons_zero, List.set_cons_succ]
    rfl
  refine pure_ (i := 3) (N := (some 43)) (v := ?_) (a' := ?_) #[true, true, true, true, false, false, false, false, false, false, false, false, false, false, false, false, false, false, false, false, false, false, false, false] rfl rfl (by kernel_rfl) (fun _ _ _ h => h) (Or.inl ⟨by rfl, ?_⟩) ?_ ?_
  rotate_left
  · intro w'
    go_simp
    with_reducible rfl
  rotate_left
  · simp only [Act.put, List.setIfInBounds_toArray, List.set_cons_zero, List.set_cons_succ]
    rfl
  refine pure_ (i := 4) (N := (some 44)) (v := ?_) (a' := ?_) #[true, true, true, true, true, false, false, false, false, false, false, false, false, false, false, false, false, false, false, false, false, false, false, false] rfl rfl (by kernel_rfl) (fun _ _ _ h => h) (Or.inl ⟨by rfl, ?_⟩) ?_ ?_
  rotate_left
  · intro w'
    go_simp
    with_reducible rfl
  rotate_left
  · simp only [Act.put, List.setIfInBounds_toArray, List.set_cons_zero, List.set_cons_succ]
    rfl
  refine pure_ (i := 5) (N := (some 45)) (v := ?_) (a' := ?_) #[true, true, true, true, true, true, false, false, false, false, false, false, false, false, false, false, false, false, false, false, false, false, false, false] rfl rfl (by kernel_rfl) (fun _ _ _ h => h) (Or.inl ⟨by rfl, ?_⟩) ?_ ?_
  rotate_left
  · intro w'
    go_simp
    with_reducible rfl
  rotate_left
  · simp only [Act.put, List.setIfInBounds_toArray, List.set_cons_zero, List.set_cons_succ]
    rfl
  refine pure_ (i := 6) (N := (some 46)) (v := ?_) (a' := ?_) #[true, true, true, true, true, true, true, false, false, false, false, false, false, false, false, false, false, false, false, false, false, false, false, false] rfl rfl (by kernel_rfl) (fun _ _ _ h => h) (Or.inl ⟨by rfl, ?_⟩) ?_ ?_
  rotate_left
  · intro w'
    go_simp
    with_reducible rfl
  rotate_left
  · simp only [Act.put, List.setIfInBounds_toArray, List.set_cons_zero, List.set_cons_succ]
    rfl
  refine pure_ (i := 7) (N := (some 47)) (v := ?_) (a' := ?_) #[true, true, true, true, true, true, true, true, false, false, false, false, false, false, false, false, false, false, false, false, false, false, false, false] rfl rfl (by kernel_rfl) (fun _ _ _ h => h) (Or.inl ⟨by rfl, ?_⟩) ?_ ?_
  rotate_left
  · intro w'
    go_simp
    with_reducible rfl
  rotate_left
  · simp only [Act.put, List.setIfInBounds_toArray, List.set_cons_zero, List.set_cons_succ]
    rfl
  refine pure_ (i := 8) (N := (some 48)) (v := ?_) (a' := ?_) #[true, true, true, true, true, true, true, true, true, false, false, false, false, false, false, false, false, false, false, false, false, false, false, false] rfl rfl (by kernel_rfl) (fun _ _ _ h => h) (Or.inl ⟨by rfl, ?_⟩) ?_ ?_
  rotate_left
  · intro w'
    go_simp
    with_reducible rfl
  rotate_left
  · simp only [Act.put, List.setIfInBounds_toArray, List.set_cons_zero, List.set_cons_succ]
    rfl
  refine take_ (i := 9) (N := (some 49)) (v := ?_) (a' := ?_) #[true, true, true, true, true, true, true, true, true, true, false, false, false, false, false, false, false, false, false, false, false, false, false, false] rfl rfl (by kernel_rfl) (fun _ _ _ h => h) (Or.inl ⟨by rfl, ?_⟩) hHeld ?_ ?_
  rotate_left
  · rintro w' hS
    go_simp
    with_reducible rfl
  rotate_left
  · simp only [Act.put, List.setIfInBounds_toArray, List.set_cons_zero, List.set_cons_succ]
    rfl
  refine pure_ (i := 10) (N := (some 50)) (v := ?_) (a' := ?_) #[true, true, true, true, true, true, true, true, true, true, true, false, false, false, false, false, false, false, false, false, false, false, false, false] rfl rfl (by kernel_rfl) (fun _ _ _ h => h) (Or.inl ⟨by rfl, ?_⟩) ?_ ?_
  rotate_left
  · intro w'
    go_simp
    with_reducible rfl
  rotate_left
  · simp only [Act.put, List.setIfInBounds_toArray, List.set_cons_zero, List.set_cons_succ]
    rfl
  refine pure_ (i := 11) (N := (some 51)) (v := ?_) (a' := ?_) #[true, true, true, true, true, true, true, true, true, true, true, true, false, false, false, false, false, false, false, false, false, false, false, false] rfl rfl (by kernel_rfl) (fun _ _ _ h => h) (Or.inl ⟨by rfl, ?_⟩) ?_ ?_
  rotate_left
  · intro w'
    go_simp
    with_reducible rfl
  rotate_left
  · simp only [Act.put, List.setIfInBounds_toArray, List.set_cons_zero, List.set_cons_succ]
    rfl
  refine pure_ (i := 14) (N := (some 54)) (v := ?_) (a' := ?_) #[true, true, true, true, true, true, true, true, true, true, true, true, false, false, true, false, false, false, false, false, false, false, false, false] rfl rfl (by kernel_rfl) (fun _ _ _ h => h) (Or.inl ⟨by rfl, ?_⟩) ?_ ?_
  rotate_left
  · intro w'
    go_simp
    with_reducible rfl
  rotate_left
  · simp only [Act.put, List.setIfInBounds_toArray, List.set_cons_zero, List.set_cons_succ]
    rfl
  refine pure_ (i := 15) (N := (some 55)) (v := ?_) (a' := ?_) #[true, true, true, true, true, true, true, true, true, true, true, true, false, false, true, true, false, false, false, false, false, false, false, false] rfl rfl (by kernel_rfl) (fun _ _ _ h => h) (Or.inl ⟨by rfl, ?_⟩) ?_ ?_
  rotate_left
  · intro w'
    go_simp
    with_reducible rfl
  rotate_left
  · simp only [Act.put, List.setIfInBounds_toArray, List.set_cons_zero, List.set_cons_succ]
    rfl
  refine pure_ (i := 18) (N := (some 58)) (v := ?_) (a' := ?_) #[true, true, true, true, true, true, true, true, true, true, true, true, false, false, true, true, false, false, true, false, false, false, false, false] rfl rfl (by kernel_rfl) (fun _ _ _ h => h) (Or.inl ⟨by rfl, ?_⟩) ?_ ?_
  rotate_left
  · intro w'
    go_simp
    with_reducible rfl
  rotate_left
  · simp only [Act.put, List.setIfInBounds_toArray, List.set_cons_zero, List.set_cons_succ]
    rfl
  refine pure_ (i := 19) (N := (some 59)) (v := ?_) (a' := ?_) #[true, true, true, true, true, true, true, true, true, true, true, true, false, false, true, true, false, false, true, true, false, false, false, false] rfl rfl (by kernel_rfl) (fun _ _ _ h => h) (Or.inl ⟨by rfl, ?_⟩) ?_ ?_
  rotate_left
  · intro w'
    go_simp
    with_reducible rfl
  rotate_left
  · simp only [Act.put, List.setIfInBounds_toArray, List.set_cons_zero, List.set_cons_succ]
    rfl
  refine one_ (i := 12) (N := (some 52)) #[true, true, true, true, true, true, true, true, true, true, true, true, true, false, true, true, false, false, true, true, false, false, false, false] rfl rfl (by kernel_rfl) (by decide) (fun K hK => ?_)
  refine goes_ (f := 47) Try.func47 (by kernel_rfl) rfl #[.int .i64 (n : Int)] (by rfl) rfl rfl (by (try simp only [List.map_toArray, List.map_cons, List.map_nil]); first | done | rfl) ?_
  refine (HF2.out _).mono ?_
  rintro e w8 ⟨rfl, hb⟩
  refine ⟨_, rfl, ?_⟩
  have HX8 := Aside0.mk (HX7.out.below hb)
  have HB8 := Aside0.mk (below_step HB7.out hb)
  have HS8 := Aside0.mk (HS7.out.below hb)
  clear hb
  refine hK.out _ _ (HCV.out _ HS8.out) (fun hHeld => ?_)
  clear hK K
  refine norm_ (a' := ?_) ?_ ?_
  rotate_left
  · show Act.put _ (some 52) _ = _
    simp only [Act.put, List.setIfInBounds_toArray, List.set_cons_zero, List.set_cons_succ]
    rfl
  refine pure_ (i := 13) (N := (some 53)) (v := ?_) (a' := ?_) #[true, true, true, true, true, true, true, true, true, true, true, true, true, true, true, true, false, false, true, true, false, false, false, false] rfl rfl (by kernel_rfl) (fun _ _ _ h => h) (Or.inl ⟨by rfl, ?_⟩) ?_ ?_
  rotate_left
  · intro w'
    go_simp
    with_reducible rfl
  rotate_left
  · simp only [Act.put, List.setIfInBounds_toArray, List.set_cons_zero, List.set_cons_succ]
    rfl
  refine one_ (i := 16) (N := (some 56)) #[true, true, true, true, true, true, true, true, true, true, true, true, true, true, true, true, true, false, true, true, false, false, false, false] rfl rfl (by kernel_rfl) (by decide) (fun K hK => ?_)
  refine goes_ (f := 48) Try.func48 (by kernel_rfl) rfl #[.int .i64 (aad.size : Int)] (by rfl) rfl rfl (by (try simp only [List.map_toArray, List.map_cons, List.map_nil]); first | done | rfl) ?_
  refine (HL1.out _).mono ?_
  rintro e w8 ⟨rfl, hb⟩
  refine ⟨_, rfl, ?_⟩
  have HX9 := Aside0.mk (HX8.out.below hb)
  have HB9 := Aside0.mk (below_step HB8.out hb)
  have HS9 := Aside0.mk (HS8.out.below hb)
  clear hb
  refine hK.out _ _ (HCV.out _ HS9.out) (fun hHeld => ?_)
  clear hK K
  refine norm_ (a' := ?_) ?_ ?_
  rotate_left
  · show Act.put _ (some 56) _ = _
    simp only [Act.put, List.setIfInBounds_toArray, List.set_cons_zero, List.set_cons_succ]
    rfl
  refine pure_ (i := 17) (N := (some 57)) (v := ?_) (a' := ?_) #[true, true, true, true, true, true, true, true, true, true, true, true, true, true, true, true, true, true, true, true, false, false, false, false] rfl rfl (by kernel_rfl) (fun _ _ _ h => h) (Or.inl ⟨by rfl, ?_⟩) ?_ ?_
  rotate_left
  · intro w'
    go_simp
    with_reducible rfl
  rotate_left
  · simp only [Act.put, List.setIfInBounds_toArray, List.set_cons_zero, List.set_cons_succ]
    rfl
  refine one_ (i := 20) (N := (some 60)) #[true, true, true, true, true, true, true, true, true, true, true, true, true, true, true, true, true, true, true, true, true, false, false, false] rfl rfl (by kernel_rfl) (by decide) (fun K hK => ?_)
  refine goes_ (f := 48) Try.func48 (by kernel_rfl) rfl #[.int .i64 (n : Int)] (by rfl) rfl rfl (by (try simp only [List.map_toArray, List.map_cons, List.map_nil]); first | done | rfl) ?_
  refine (HL2.out _).mono ?_
  rintro e w8 ⟨rfl, hb⟩
  refine ⟨_, rfl, ?_⟩
  have HX10 := Aside0.mk (HX9.out.below hb)
  have HB10 := Aside0.mk (below_step HB9.out hb)
  have HS10 := Aside0.mk (HS9.out.below hb)
  clear hb
  refine hK.out _ _ (HCV.out _ HS10.out) (fun hHeld => ?_)
  clear hK K
  refine norm_ (a' := ?_) ?_ ?_
  rotate_left
  · show Act.put _ (some 60) _ = _
    simp only [Act.put, List.setIfInBounds_toArray, List.set_cons_zero, List.set_cons_succ]
    rfl
  refine pure_ (i := 21) (N := (some 61)) (v := ?_) (a' := ?_) #[true, true, true, true, true, true, true, true, true, true, true, true, true, true, true, true, true, true, true, true, true, true, false, false] rfl rfl (by kernel_rfl) (fun _ _ _ h => h) (Or.inl ⟨by rfl, ?_⟩) ?_ ?_
  rotate_left
  · intro w'
    go_simp
    with_reducible rfl
  rotate_left
  · simp only [Act.put, List.setIfInBounds_toArray, List.set_cons_zero, List.set_cons_succ]
    rfl
  refine one_ (i := 22) (N := (some 62)) #[true, true, true, true, true, true, true, true, true, true, true, true, true, true, true, true, true, true, true, true, true, true, true, false] rfl rfl (by kernel_rfl) (by decide) (fun K hK => ?_)
  refine conv_step (s := u3) 9 32 5 (by rfl) rfl rfl rfl Try.underlying9 Try.underlying32 Try.underlying5 (grownCap_ge _ _ _ _) ?_
  intro g2 eg c2 hc2 w11 k11 hb
  have HT11 := Aside0.mk k11
  have HC2 := Aside0.mk hc2
  have HNE2 := Aside0.mk (show g2 ≠ g from by rw [eg]; exact Nat.ne_of_gt HX10.out.lt)
  clear k11 hc2 eg
  have HX11 := Aside0.mk (HX10.out.below hb)
  have HB11 := Aside0.mk (below_step HB10.out hb)
  have HS11 := Aside0.mk (HS10.out.below hb)
  clear hb
  refine hK.out _ _ (HCV.out _ HS11.out) (fun hHeld => ?_)
  clear hK K
  refine norm_ (a' := ?_) ?_ ?_
  rotate_left
  · show Act.put _ (some 62) _ = _
    simp only [Act.put, List.setIfInBounds_toArray, List.set_cons_zero, List.set_cons_succ]
    rfl
  refine last_ (i := 23) (N := (some 63)) #[true, true, true, true, true, true, true, true, true, true, true, true, true, true, true, true, true, true, true, true, true, true, true, true] rfl rfl (by kernel_rfl) (by decide) (fun K hK => ?_)
  refine goes_ (f := 32) Try.func32 (by kernel_rfl) rfl #[.pointer (some ⟨g, 0, none⟩), .slice (some ⟨g2, 0, none⟩) u3.size c2] (by rfl) rfl rfl (by (try simp only [List.map_toArray, List.map_cons, List.map_nil]); first | done | rfl) ?_
  refine (HA3.out g g2 c2 HC2.out HNE2.out _ HX11.out HT11.out).mono ?_
  rintro e w12 ⟨rfl, k12, g12⟩
  refine ⟨_, rfl, ?_⟩
  have HX12 := Aside0.mk k12
  have HB12 := Aside0.mk (below_own HB11.out HG.out g12)
  clear k12 g12
  refine hK.out _ _ ?_
  clear hK K
  refine norm_ (a' := ?_) ?_ ?_
  rotate_left
  · show Act.put _ (some 63) _ = _
    simp only [Act.put, List.setIfInBounds_toArray, List.set_cons_zero, List.set_cons_succ]
    rfl
  refine done_ (by kernel_rfl) ?_
  clear hHeld
  go_wp2_with (go_at_call 33; (with_reducible refine (HT.out g _ HX12.out).mono ?_); rintro e w13 ⟨rfl, b13⟩; have HB13 := Aside0.mk (below_step HB12.out b13); clear b13)
  rw [tagOf, ← HOW.out, ← HX3E.out]
  first
  | (go_ret
     exact ⟨rfl, HB13.out⟩)
end Go.Proofs.Ytocckplgjbhlbaa.Pol

/- poly's Seal and Open, walked. Conditions: none. -/
namespace Go.Proofs.Ytocckplgjbhlbaa.Pol
open Go.RowKit Go.Proofs.YtocckplgjbhlbaaW.PrintWords Go.Proofs.YtocckplgjbhlbaaW.PrintLast Go.Proofs.Ytocckplgjbhlbaa.Cha Go.Proofs.Ytocckplgjbhlbaa.X
set_option linter.unusedVariables false
def PMay (key nonce aad : ByteArray) (n : Int) : Prop := key.size = 32 ∧ nonce.size = 12 ∧ aad.size ≤ 65536 ∧ n ≤ 65536
instance (key nonce aad : ByteArray) (n : Int) : Decidable (PMay key nonce aad n) := by unfold PMay; infer_instance
theorem pmay_f (key nonce aad : ByteArray) (n : Int) : poly_may.f key nonce aad 65536 n = some (decide (PMay key nonce aad n)) := by
  unfold poly_may.f
  by_cases h1 : (key.size : Int) = 32
  · rw [if_pos h1]
    by_cases h2 : (nonce.size : Int) = 12
    · rw [if_pos h2]
      by_cases h3 : (aad.size : Int) ≤ 65536
      · rw [if_pos h3]
        have : (n ≤ 65536) ↔ PMay key nonce aad n := ⟨fun h => ⟨by omega, by omega, by omega, h⟩, fun h => h.2.2.2⟩
        simp only [this]
      · rw [if_neg h3]
        rw [decide_eq_false (fun h : PMay key nonce aad n => h3 (by have := h.2.2.1; omega))]
    · rw [if_neg h2]
      rw [decide_eq_false (fun h : PMay key nonce aad n => h2 (by have := h.2.1; omega))]
  · rw [if_neg h1]
    rw [decide_eq_false (fun h : PMay key nonce aad n => h1 (by have := h.1; omega))]
theorem pmay_yes {key nonce aad : ByteArray} {n : Int} (h : PMay key nonce aad n) : poly_may.f key nonce aad 65536 n = some true := by rw [pmay_f, decide_eq_true h]
theorem pmay_no {key nonce aad : ByteArray} {n : Int} (h : ¬ PMay key nonce aad n) : poly_may.f key nonce aad 65536 n = some false := by rw [pmay_f, decide_eq_false h]
theorem tagOf_size (key nonce aad : ByteArray) (bs : List Int) : (tagOf key nonce aad bs).size = 16 := by rw [tagOf, tagged, strOfNums_size_, tout_length]
/-- A text enciphered, as numbers. -/
def turned (key nonce s : ByteArray) : List Int := xr key nonce 1 (bytesOf s) s.size
theorem turned_length (key nonce s : ByteArray) : (turned key nonce s).length = s.size := by rw [turned, xr_length, bytesOf_length]
/-- A sealed text. -/
def sealedOf (key nonce aad s : ByteArray) : ByteArray := xorOut key nonce 1 s ++ tagOf key nonce aad (turned key nonce s)
theorem same_text (a b : ByteArray) : (a.toList == b.toList) = decide (a = b) := by
  rw [ByteArray.toList_eq, ByteArray.toList_eq]
  by_cases h : a = b
  · subst h
    simp
  · rw [decide_eq_false h]
    have : ¬ a.data.toList = b.data.toList := fun e => h (by
      cases a
      cases b
      simp only at e
      rw [Array.toList_inj.1 e])
    simpa using this
set_option maxRecDepth 100000 in
set_option maxHeartbeats 8000000 in
theorem seal_yes (key nonce aad s : ByteArray) (h : PMay key nonce aad s.size) (w : World) :
    Calls Try.prog 20 #[.string key, .string nonce, .string aad, .string s] w fun e w' => e = .returned (.tuple #[.string (sealedOf key nonce aad s), .int .i64 0]) ∧ Below w.heap.size w w' := by
  have hm := Aside0.mk (pmay_yes h)
  obtain ⟨hk, hn, ha, hs⟩ := h
  have hl := bytesOf_length s
  have HX := Aside0.mk (fun (g c2 : Nat) (hc2 : s.size ≤ c2) W hb => xorin_calls key nonce 1 hk hn (bytesOf s) (by rw [hl]; omega) g c2 (by rw [hl]; exact hc2) W hb)
  rw [hl, show ((1 : Int) % 4294967296) = 1 from rfl] at HX
  obtain ⟨ys, hys⟩ : ∃ ys, ys = xr key nonce 1 (bytesOf s) s.size := ⟨_, rfl⟩
  have HYL := Aside0.mk (show ys.length = s.size from by rw [hys, xr_length, bytesOf_length])
  rw [← hys] at HX
  have HYE := Aside0.mk (show ys = turned key nonce s from hys)
  have HT := Aside0.mk (fun (g c : Nat) (hc : s.size ≤ c) W hb => Tag_calls key nonce aad hk hn ha g s.size c ys HYL.out (by omega) hc W hb)
  obtain ⟨X, hX⟩ : ∃ X, X = strOfNums ys := ⟨_, rfl⟩
  have HXE := Aside0.mk (show X = xorOut key nonce 1 s from by rw [hX, hys, xorOut])
  have hXs : X.size = s.size := by rw [hX, strOfNums_size_]; exact HYL.out
  have HXT := Aside0.mk hX
  obtain ⟨tg, htg⟩ : ∃ tg, tg = tagOf key nonce aad ys := ⟨_, rfl⟩
  have htgs : tg.size = 16 := by rw [htg]; exact tagOf_size _ _ _ _
  have HTE := Aside0.mk htg
  rw [← htg] at HT
  obtain ⟨o, ho⟩ : ∃ o, X ++ tg = o := ⟨_, rfl⟩
  have HO := Aside0.mk ho
  have q1 : (X.size + tg.size ≤ 9223372036854775807) = True := eq_true (by omega)
  have q1b : decide (X.size + tg.size ≤ 9223372036854775807) = true := decide_eq_true (by omega)
  have q1c : (9223372036854775807 < X.size + tg.size) = False := eq_false (by omega)
  clear hl hys hk hn ha hs htg htgs hX hXs
  go_enter Try.func20, Try.ntmps20
  go_wp2_with (first
    | (go_at_call 35; (with_reducible refine (poly_may.calls _ _ _ _ _ true _ hm.out).mono ?_); rintro e w' ⟨rfl, ⟨nd, rfl⟩⟩)
    | ((with_reducible refine gate_dst (N := 19) rfl ?_); refine conv_event rfl 9 32 5 _ s rfl rfl Try.underlying9 Try.underlying32 Try.underlying5 ?hc ?_; (case hc => exact grownCap_ge _ _ _ _); intro g eg c hc w1 k1 b1; have HB1 := Aside0.mk (below_step (pw_below_drewN (Below.refl _ _) nd) b1); have HX1 := Aside0.mk k1; have HC := Aside0.mk hc; have HG := Aside0.mk (show w.heap.size ≤ g from by rw [eg]; exact below_size (pw_below_drewN (Below.refl _ _) nd)); clear k1 b1 hc eg)
    | (go_at_call 29; (with_reducible refine (HX.out g c HC.out _ HX1.out).mono ?_); rintro e w2 ⟨rfl, k2, g2⟩; have HX2 := Aside0.mk k2; have HB2 := Aside0.mk (below_own HB1.out HG.out g2); clear k2 g2))
  have HCV := Aside0.mk (fun W (hW : Bts W g ys) => hW.text (P := Try.prog) (n := s.size) HYL.out 32 5 9 Try.underlying32 Try.underlying5 Try.underlying9 c)
  rw [← HXT.out] at HCV
  have hHeld0 := HCV.out _ (show Bts w2.drew g ys from HX2.out)
  refine start_ (n := 10) (S := fun w' => (convert 32 9 (.slice (some ⟨g, 0, none⟩) s.size c)).run Try.prog w' = .ok (.string X) w') (ds := []) #[false, false, false, false, false, false, false, false, false, false] (by kernel_rfl) rfl rfl hHeld0 (fun hHeld => ?_)
  have HX7 := Aside0.mk (show Bts w2.drew g ys from HX2.out)
  have HB7 := Aside0.mk (below_drew HB2.out)
  generalize w2.drew = w7 at HX7 HB7 hHeld ⊢
  clear hHeld0
  refine pure_ (i := 0) (N := (some 24)) (v := ?_) (a' := ?_) #[true, false, false, false, false, false, false, false, false, false] rfl rfl (by kernel_rfl) (fun _ _ _ h => h) (Or.inl ⟨by rfl, ?_⟩) ?_ ?_
  rotate_left
  · intro w'
    go_simp
    with_reducible rfl
  rotate_left
  · simp only [Act.put, List.setIfInBounds_toArray, List.set_cons_zero, List.set_cons_succ]
    rfl
  refine take_ (i := 1) (N := (some 25)) (v := ?_) (a' := ?_) #[true, true, false, false, false, false, false, false, false, false] rfl rfl (by kernel_rfl) (fun _ _ _ h => h) (Or.inl ⟨by rfl, ?_⟩) hHeld ?_ ?_
  rotate_left
  · rintro w' hS
    go_simp
    with_reducible rfl
  rotate_left
  · simp only [Act.put, List.setIfInBounds_toArray, List.set_cons_zero, List.set_cons_succ]
    rfl
  refine pure_ (i := 2) (N := (some 26)) (v := ?_) (a' := ?_) #[true, true, true, false, false, false, false, false, false, false] rfl rfl (by kernel_rfl) (fun _ _ _ h => h) (Or.inl ⟨by rfl, ?_⟩) ?_ ?_
  rotate_left
  · intro w'
    go_simp
    with_reducible rfl
  rotate_left
  · simp only [Act.put, List.setIfInBounds_toArray, List.set_cons_zero, List.set_cons_succ]
    rfl
  refine pure_ (i := 3) (N := (some 27)) (v := ?_) (a' := ?_) #[true, true, true, true, false, false, false, false, false, false] rfl rfl (by kernel_rfl) (fun _ _ _ h => h) (Or.inl ⟨by rfl, ?_⟩) ?_ ?_
  rotate_left
  · intro w'
    go_simp
    with_reducible rfl
  rotate_left
  · simp only [Act.put, List.setIfInBounds_toArray, List.set_cons_zero, List.set_cons_succ]
    rfl
  refine pure_ (i := 4) (N := (some 28)) (v := ?_) (a' := ?_) #[true, true, true, true, true, false, false, false, false, false] rfl rfl (by kernel_rfl) (fun _ _ _ h => h) (Or.inl ⟨by rfl, ?_⟩) ?_ ?_
  rotate_left
  · intro w'
    go_simp
    with_reducible rfl
  rotate_left
  · simp only [Act.put, List.setIfInBounds_toArray, List.set_cons_zero, List.set_cons_succ]
    rfl
  refine pure_ (i := 5) (N := (some 29)) (v := ?_) (a' := ?_) #[true, true, true, true, true, true, false, false, false, false] rfl rfl (by kernel_rfl) (fun _ _ _ h => h) (Or.inl ⟨by rfl, ?_⟩) ?_ ?_
  rotate_left
  · intro w'
    go_simp
    with_reducible rfl
  rotate_left
  · simp only [Act.put, List.setIfInBounds_toArray, List.set_cons_zero, List.set_cons_succ]
    rfl
  refine one_ (i := 6) (N := (some 30)) #[true, true, true, true, true, true, true, false, false, false] rfl rfl (by kernel_rfl) (by decide) (fun K hK => ?_)
  refine goes_ (f := 36) Try.func36 (by kernel_rfl) rfl #[.string key, .string nonce, .string aad, .slice (some ⟨g, 0, none⟩) s.size c] (by rfl) rfl rfl (by (try simp only [List.map_toArray, List.map_cons, List.map_nil]); first | done | rfl) ?_
  refine (HT.out g c HC.out _ HX7.out).mono ?_
  rintro e w8 ⟨rfl, hb⟩
  refine ⟨_, rfl, ?_⟩
  have HX8 := Aside0.mk (HX7.out.below hb)
  have HB8 := Aside0.mk (below_step HB7.out hb)
  clear hb
  refine hK.out _ _ (HCV.out _ HX8.out) (fun hHeld => ?_)
  clear hK K
  refine norm_ (a' := ?_) ?_ ?_
  rotate_left
  · show Act.put _ (some 30) _ = _
    simp only [Act.put, List.setIfInBounds_toArray, List.set_cons_zero, List.set_cons_succ]
    rfl
  refine pure_ (i := 7) (N := (some 31)) (v := ?_) (a' := ?_) #[true, true, true, true, true, true, true, true, false, false] rfl rfl (by kernel_rfl) (fun _ _ _ h => h) (Or.inl ⟨by rfl, ?_⟩) ?_ ?_
  rotate_left
  · intro w'
    go_simp
    with_reducible rfl
  rotate_left
  · simp only [Act.put, List.setIfInBounds_toArray, List.set_cons_zero, List.set_cons_succ]
    rfl
  refine pure_ (i := 8) (N := (some 8)) (v := ?_) (a' := ?_) #[true, true, true, true, true, true, true, true, true, false] rfl rfl (by kernel_rfl) (fun _ _ _ h => h) (Or.inl ⟨by rfl, ?_⟩) ?_ ?_
  rotate_left
  · intro w'
    go_simp
    with_reducible rfl
  rotate_left
  · simp only [Act.put, List.setIfInBounds_toArray, List.set_cons_zero, List.set_cons_succ]
    rfl
  refine pure_ (i := 9) (N := (some 9)) (v := ?_) (a' := ?_) #[true, true, true, true, true, true, true, true, true, true] rfl rfl (by kernel_rfl) (fun _ _ _ h => h) (Or.inl ⟨by rfl, ?_⟩) ?_ ?_
  rotate_left
  · intro w'
    go_simp
    with_reducible rfl
  rotate_left
  · simp only [Act.put, List.setIfInBounds_toArray, List.set_cons_zero, List.set_cons_succ]
    rfl
  refine done_ (by kernel_rfl) ?_
  clear hHeld
  go_wp2
  rw [sealedOf, ← HYE.out, ← HXE.out, ← HTE.out, HO.out]
  first
  | (go_ret2
     exact ⟨rfl, HB8.out⟩)
set_option maxRecDepth 100000 in
set_option maxHeartbeats 8000000 in
theorem seal_no (key nonce aad s : ByteArray) (h : ¬ PMay key nonce aad s.size) (w : World) :
    Calls Try.prog 20 #[.string key, .string nonce, .string aad, .string s] w fun e w' => e = .returned (.tuple #[.string ByteArray.empty, .int .i64 700]) ∧ Below w.heap.size w w' := by
  have hm := Aside0.mk (pmay_no h)
  go_enter Try.func20, Try.ntmps20
  go_wp2_with (go_at_call 35; (with_reducible refine (poly_may.calls _ _ _ _ _ false _ hm.out).mono ?_); rintro e w' ⟨rfl, ⟨nd, rfl⟩⟩)
  first
  | (go_ret2
     exact ⟨rfl, pw_below_drewN (Below.refl _ _) _⟩)
/-- May a text be opened? -/
def OMay (key nonce aad s : ByteArray) : Prop := PMay key nonce aad ((s.size : Int) - 16) ∧ 16 ≤ s.size
instance (key nonce aad s : ByteArray) : Decidable (OMay key nonce aad s) := by unfold OMay; infer_instance
/-- What was sealed, and its tag. -/
def front (s : ByteArray) : ByteArray := s.extract 0 (s.size - 16)
def back (s : ByteArray) : ByteArray := s.extract (s.size - 16) s.size
theorem front_size (s : ByteArray) : (front s).size = s.size - 16 := by rw [front, ByteArray.size_extract]; omega
def Fits (key nonce aad s : ByteArray) : Prop := tagOf key nonce aad (bytesOf (front s)) = back s
set_option maxRecDepth 100000 in
set_option maxHeartbeats 8000000 in
theorem open_no (key nonce aad s : ByteArray) (h : ¬ OMay key nonce aad s) (hsz : s.size ≤ 9223372036854775807) (w : World) :
    Calls Try.prog 22 #[.string key, .string nonce, .string aad, .string s] w fun e w' => e = .returned (.tuple #[.string ByteArray.empty, .int .i64 700]) ∧ Below w.heap.size w w' := by
  obtain ⟨n, hn⟩ : ∃ n : Int, n = (s.size : Int) - 16 := ⟨_, rfl⟩
  have z1 : IntKind.i64.wrap ((s.size : Int) - 16) = n := by rw [IntWalk.i64_in _ (by omega)]; exact hn.symm
  have z1' : (s.size : Int) - 16 = n := hn.symm
  by_cases hM : PMay key nonce aad n
  · have hm := Aside0.mk (pmay_yes hM)
    have h16 : ¬ 16 ≤ s.size := fun e => h ⟨by rw [← hn]; exact hM, e⟩
    have t1 : decide (n < 0) = true := decide_eq_true (by omega)
    clear hn h
    go_enter Try.func22, Try.ntmps22
    go_wp2_with (go_at_call 35; (with_reducible refine (poly_may.calls _ _ _ _ _ true _ hm.out).mono ?_); rintro e w' ⟨rfl, ⟨nd, rfl⟩⟩)
    first
    | (go_ret2
       exact ⟨rfl, pw_below_drewN (Below.refl _ _) _⟩)
  · have hm := Aside0.mk (pmay_no hM)
    clear hn h
    go_enter Try.func22, Try.ntmps22
    go_wp2_with (go_at_call 35; (with_reducible refine (poly_may.calls _ _ _ _ _ false _ hm.out).mono ?_); rintro e w' ⟨rfl, ⟨nd, rfl⟩⟩)
    first
    | (go_ret2
       exact ⟨rfl, pw_below_drewN (Below.refl _ _) _⟩)
set_option maxRecDepth 100000 in
set_option maxHeartbeats 8000000 in
theorem open_yes (key nonce aad s : ByteArray) (h : OMay key nonce aad s) (hf : Fits key nonce aad s) (w : World) :
    Calls Try.prog 22 #[.string key, .string nonce, .string aad, .string s] w fun e w' => e = .returned (.tuple #[.string (xorOut key nonce 1 (front s)), .int .i64 0]) ∧ Below w.heap.size w w' := by
  obtain ⟨hM, h16⟩ := h
  obtain ⟨n, hn⟩ : ∃ n : Nat, n = s.size - 16 := ⟨_, rfl⟩
  have en : (s.size : Int) - 16 = (n : Int) := by omega
  rw [en] at hM
  have hm := Aside0.mk (pmay_yes hM)
  obtain ⟨hk, hnn, ha, hs⟩ := hM
  have z1 : IntKind.i64.wrap ((s.size : Int) - 16) = (n : Int) := by rw [en]; exact IntWalk.i64_in _ (by omega)
  have z2 : IntKind.i64.wrap (n : Int) = (n : Int) := IntWalk.i64_in _ (by omega)
  have t1 : decide ((n : Int) < 0) = false := decide_eq_false (by omega)
  have p1 : ((n : Int) ≤ (s.size : Int)) = True := eq_true (by omega)
  have p0 : ((0 : Int) ≤ (n : Int)) = True := eq_true (by omega)
  obtain ⟨f, hf1⟩ : ∃ f, f = s.extract 0 n := ⟨_, rfl⟩
  obtain ⟨b, hb1⟩ : ∃ b, b = s.extract n s.size := ⟨_, rfl⟩
  have hff : f = front s := by rw [hf1, hn, front]
  have hbb : b = back s := by rw [hb1, hn, back]
  have hfs : f.size = n := by rw [hff, front_size, hn]
  have x1 : s.extract 0 n = f := hf1.symm
  have x2 : s.extract n s.size = b := hb1.symm
  have HFS := Aside0.mk hfs
  have hl := bytesOf_length f
  rw [hfs] at hl
  have HX := Aside0.mk (fun (g c2 : Nat) (hc2 : n ≤ c2) W hb => xorin_calls key nonce 1 hk hnn (bytesOf f) (by rw [hl]; omega) g c2 (by rw [hl]; exact hc2) W hb)
  rw [hl, show ((1 : Int) % 4294967296) = 1 from rfl] at HX
  obtain ⟨ys, hys⟩ : ∃ ys, ys = xr key nonce 1 (bytesOf f) n := ⟨_, rfl⟩
  have HYL := Aside0.mk (show ys.length = n from by rw [hys, xr_length, hl])
  rw [← hys] at HX
  have HT := Aside0.mk (fun (g c : Nat) (hc : n ≤ c) W hb => Tag_calls key nonce aad hk hnn ha g n c (bytesOf f) hl (by omega) hc W hb)
  obtain ⟨X, hX⟩ : ∃ X, X = strOfNums ys := ⟨_, rfl⟩
  have HXE := Aside0.mk (show X = xorOut key nonce 1 (front s) from by rw [hX, hys, xorOut, ← hff, hfs])
  have HXT := Aside0.mk hX
  obtain ⟨tg, htg⟩ : ∃ tg, tg = tagOf key nonce aad (bytesOf f) := ⟨_, rfl⟩
  rw [← htg] at HT
  have y1 : (tg.toList == b.toList) = true := by rw [same_text]; exact decide_eq_true (by rw [htg, hff, hbb]; exact hf)
  have y2 : (!(tg.toList == b.toList)) = false := by rw [y1]; rfl
  clear hl hys hk hnn ha hs htg hX hf hff hbb hb1 hf1 hn h16 en hfs
  go_enter Try.func22, Try.ntmps22
  go_wp2_with (first
    | (go_at_call 35; (with_reducible refine (poly_may.calls _ _ _ _ _ true _ hm.out).mono ?_); rintro e w' ⟨rfl, ⟨nd, rfl⟩⟩)
    | ((with_reducible refine gate_dst (N := 28) rfl ?_); refine conv_event rfl 9 32 5 _ f rfl rfl Try.underlying9 Try.underlying32 Try.underlying5 ?hc ?_; (case hc => exact grownCap_ge _ _ _ _); intro g eg c hc w1 k1 b1; have HB1 := Aside0.mk (below_step (pw_below_drewN (Below.refl _ _) nd) b1); have HX1 := Aside0.mk k1; rw [HFS.out] at hc; have HC := Aside0.mk hc; have HG := Aside0.mk (show w.heap.size ≤ g from by rw [eg]; exact below_size (pw_below_drewN (Below.refl _ _) nd)); clear k1 b1 hc eg))
  rw [HFS.out]
  refine start_ (n := 9) (S := fun _ => True) (ds := []) #[false, false, false, false, false, false, false, false, false] (by kernel_rfl) rfl rfl trivial (fun hHeld => ?_)
  have HX7 := Aside0.mk (show Bts w1.drew g (bytesOf f) from HX1.out)
  have HB7 := Aside0.mk (below_drew HB1.out)
  generalize w1.drew = w7 at HX7 HB7 ⊢
  refine pure_ (i := 0) (N := (some 29)) (v := ?_) (a' := ?_) #[true, false, false, false, false, false, false, false, false] rfl rfl (by kernel_rfl) (fun _ _ _ h => h) (Or.inl ⟨by rfl, ?_⟩) ?_ ?_
  rotate_left
  · intro w'
    go_simp
    with_reducible rfl
  rotate_left
  · simp only [Act.put, List.setIfInBounds_toArray, List.set_cons_zero, List.set_cons_succ]
    rfl
  refine pure_ (i := 1) (N := (some 30)) (v := ?_) (a' := ?_) #[true, true, false, false, false, false, false, false, false] rfl rfl (by kernel_rfl) (fun _ _ _ h => h) (Or.inl ⟨by rfl, ?_⟩) ?_ ?_
  rotate_left
  · intro w'
    go_simp
    with_reducible rfl
  rotate_left
  · simp only [Act.put, List.setIfInBounds_toArray, List.set_cons_zero, List.set_cons_succ]
    rfl
  refine pure_ (i := 2) (N := (some 31)) (v := ?_) (a' := ?_) #[true, true, true, false, false, false, false, false, false] rfl rfl (by kernel_rfl) (fun _ _ _ h => h) (Or.inl ⟨by rfl, ?_⟩) ?_ ?_
  rotate_left
  · intro w'
    go_simp
    with_reducible rfl
  rotate_left
  · simp only [Act.put, List.setIfInBounds_toArray, List.set_cons_zero, List.set_cons_succ]
    rfl
  refine pure_ (i := 3) (N := (some 32)) (v := ?_) (a' := ?_) #[true, true, true, true, false, false, false, false, false] rfl rfl (by kernel_rfl) (fun _ _ _ h => h) (Or.inl ⟨by rfl, ?_⟩) ?_ ?_
  rotate_left
  · intro w'
    go_simp
    with_reducible rfl
  rotate_left
  · simp only [Act.put, List.setIfInBounds_toArray, List.set_cons_zero, List.set_cons_succ]
    rfl
  refine pure_ (i := 5) (N := (some 34)) (v := ?_) (a' := ?_) #[true, true, true, true, false, true, false, false, false] rfl rfl (by kernel_rfl) (fun _ _ _ h => h) (Or.inl ⟨by rfl, ?_⟩) ?_ ?_
  rotate_left
  · intro w'
    go_simp
    with_reducible rfl
  rotate_left
  · simp only [Act.put, List.setIfInBounds_toArray, List.set_cons_zero, List.set_cons_succ]
    rfl
  refine pure_ (i := 6) (N := (some 35)) (v := ?_) (a' := ?_) #[true, true, true, true, false, true, true, false, false] rfl rfl (by kernel_rfl) (fun _ _ _ h => h) (Or.inl ⟨by rfl, ?_⟩) ?_ ?_
  rotate_left
  · intro w'
    go_simp
    with_reducible rfl
  rotate_left
  · simp only [Act.put, List.setIfInBounds_toArray, List.set_cons_zero, List.set_cons_succ]
    rfl
  refine pure_ (i := 7) (N := (some 36)) (v := ?_) (a' := ?_) #[true, true, true, true, false, true, true, true, false] rfl rfl (by kernel_rfl) (fun _ _ _ h => h) (Or.inl ⟨by rfl, ?_⟩) ?_ ?_
  rotate_left
  · intro w'
    go_simp
    with_reducible rfl
  rotate_left
  · simp only [Act.put, List.setIfInBounds_toArray, List.set_cons_zero, List.set_cons_succ]
    rfl
  refine one_ (i := 4) (N := (some 33)) #[true, true, true, true, true, true, true, true, false] rfl rfl (by kernel_rfl) (by decide) (fun K hK => ?_)
  refine goes_ (f := 36) Try.func36 (by kernel_rfl) rfl #[.string key, .string nonce, .string aad, .slice (some ⟨g, 0, none⟩) n c] (by rfl) rfl rfl (by (try simp only [List.map_toArray, List.map_cons, List.map_nil]); first | done | rfl) ?_
  refine (HT.out g c HC.out _ HX7.out).mono ?_
  rintro e w8 ⟨rfl, hb⟩
  refine ⟨_, rfl, ?_⟩
  have HX8 := Aside0.mk (HX7.out.below hb)
  have HB8 := Aside0.mk (below_step HB7.out hb)
  clear hb
  refine hK.out _ _ trivial (fun hHeld => ?_)
  clear hK K
  refine norm_ (a' := ?_) ?_ ?_
  rotate_left
  · show Act.put _ (some 33) _ = _
    simp only [Act.put, List.setIfInBounds_toArray, List.set_cons_zero, List.set_cons_succ]
    rfl
  refine pure_ (i := 8) (N := (some 37)) (v := ?_) (a' := ?_) #[true, true, true, true, true, true, true, true, true] rfl rfl (by kernel_rfl) (fun _ _ _ h => h) (Or.inl ⟨by rfl, ?_⟩) ?_ ?_
  rotate_left
  · intro w'
    go_simp
    with_reducible rfl
  rotate_left
  · simp only [Act.put, List.setIfInBounds_toArray, List.set_cons_zero, List.set_cons_succ]
    rfl
  refine done_ (by kernel_rfl) ?_
  go_wp2_with (first
    | (go_at_call 29; (with_reducible refine (HX.out g c HC.out _ HX8.out).mono ?_); rintro e w9 ⟨rfl, k9, g9⟩; have HX9 := Aside0.mk k9; have HB9 := Aside0.mk (below_own HB8.out HG.out g9); have ht := k9.text (P := Try.prog) (n := n) HYL.out 32 5 9 Try.underlying32 Try.underlying5 Try.underlying9 c; rw [← HXT.out] at ht; clear k9 g9))
  rw [← HXE.out]
  first
  | (go_ret2
     exact ⟨rfl, HB9.out⟩)
set_option maxRecDepth 100000 in
set_option maxHeartbeats 8000000 in
theorem open_bad (key nonce aad s : ByteArray) (h : OMay key nonce aad s) (hf : ¬ Fits key nonce aad s) (w : World) :
    Calls Try.prog 22 #[.string key, .string nonce, .string aad, .string s] w fun e w' => e = .returned (.tuple #[.string ByteArray.empty, .int .i64 700]) ∧ Below w.heap.size w w' := by
  obtain ⟨hM, h16⟩ := h
  obtain ⟨n, hn⟩ : ∃ n : Nat, n = s.size - 16 := ⟨_, rfl⟩
  have en : (s.size : Int) - 16 = (n : Int) := by omega
  rw [en] at hM
  have hm := Aside0.mk (pmay_yes hM)
  obtain ⟨hk, hnn, ha, hs⟩ := hM
  have z1 : IntKind.i64.wrap ((s.size : Int) - 16) = (n : Int) := by rw [en]; exact IntWalk.i64_in _ (by omega)
  have z2 : IntKind.i64.wrap (n : Int) = (n : Int) := IntWalk.i64_in _ (by omega)
  have t1 : decide ((n : Int) < 0) = false := decide_eq_false (by omega)
  have p1 : ((n : Int) ≤ (s.size : Int)) = True := eq_true (by omega)
  have p0 : ((0 : Int) ≤ (n : Int)) = True := eq_true (by omega)
  obtain ⟨f, hf1⟩ : ∃ f, f = s.extract 0 n := ⟨_, rfl⟩
  obtain ⟨b, hb1⟩ : ∃ b, b = s.extract n s.size := ⟨_, rfl⟩
  have hff : f = front s := by rw [hf1, hn, front]
  have hbb : b = back s := by rw [hb1, hn, back]
  have hfs : f.size = n := by rw [hff, front_size, hn]
  have x1 : s.extract 0 n = f := hf1.symm
  have x2 : s.extract n s.size = b := hb1.symm
  have HFS := Aside0.mk hfs
  have hl := bytesOf_length f
  rw [hfs] at hl
  have HX := Aside0.mk (fun (g c2 : Nat) (hc2 : n ≤ c2) W hb => xorin_calls key nonce 1 hk hnn (bytesOf f) (by rw [hl]; omega) g c2 (by rw [hl]; exact hc2) W hb)
  rw [hl, show ((1 : Int) % 4294967296) = 1 from rfl] at HX
  obtain ⟨ys, hys⟩ : ∃ ys, ys = xr key nonce 1 (bytesOf f) n := ⟨_, rfl⟩
  have HYL := Aside0.mk (show ys.length = n from by rw [hys, xr_length, hl])
  rw [← hys] at HX
  have HT := Aside0.mk (fun (g c : Nat) (hc : n ≤ c) W hb => Tag_calls key nonce aad hk hnn ha g n c (bytesOf f) hl (by omega) hc W hb)
  obtain ⟨X, hX⟩ : ∃ X, X = strOfNums ys := ⟨_, rfl⟩
  have HXE := Aside0.mk (show X = xorOut key nonce 1 (front s) from by rw [hX, hys, xorOut, ← hff, hfs])
  have HXT := Aside0.mk hX
  obtain ⟨tg, htg⟩ : ∃ tg, tg = tagOf key nonce aad (bytesOf f) := ⟨_, rfl⟩
  rw [← htg] at HT
  have y1 : (tg.toList == b.toList) = false := by rw [same_text]; exact decide_eq_false (fun e => hf (by rw [Fits, ← hff, ← htg, ← hbb]; exact e))
  have y2 : (!(tg.toList == b.toList)) = true := by rw [y1]; rfl
  clear hl hys hk hnn ha hs htg hX hf hff hbb hb1 hf1 hn h16 en hfs
  go_enter Try.func22, Try.ntmps22
  go_wp2_with (first
    | (go_at_call 35; (with_reducible refine (poly_may.calls _ _ _ _ _ true _ hm.out).mono ?_); rintro e w' ⟨rfl, ⟨nd, rfl⟩⟩)
    | ((with_reducible refine gate_dst (N := 28) rfl ?_); refine conv_event rfl 9 32 5 _ f rfl rfl Try.underlying9 Try.underlying32 Try.underlying5 ?hc ?_; (case hc => exact grownCap_ge _ _ _ _); intro g eg c hc w1 k1 b1; have HB1 := Aside0.mk (below_step (pw_below_drewN (Below.refl _ _) nd) b1); have HX1 := Aside0.mk k1; rw [HFS.out] at hc; have HC := Aside0.mk hc; have HG := Aside0.mk (show w.heap.size ≤ g from by rw [eg]; exact below_size (pw_below_drewN (Below.refl _ _) nd)); clear k1 b1 hc eg))
  rw [HFS.out]
  refine start_ (n := 9) (S := fun _ => True) (ds := []) #[false, false, false, false, false, false, false, false, false] (by kernel_rfl) rfl rfl trivial (fun hHeld => ?_)
  have HX7 := Aside0.mk (show Bts w1.drew g (bytesOf f) from HX1.out)
  have HB7 := Aside0.mk (below_drew HB1.out)
  generalize w1.drew = w7 at HX7 HB7 ⊢
  refine pure_ (i := 0) (N := (some 29)) (v := ?_) (a' := ?_) #[true, false, false, false, false, false, false, false, false] rfl rfl (by kernel_rfl) (fun _ _ _ h => h) (Or.inl ⟨by rfl, ?_⟩) ?_ ?_
  rotate_left
  · intro w'
    go_simp
    with_reducible rfl
  rotate_left
  · simp only [Act.put, List.setIfInBounds_toArray, List.set_cons_zero, List.set_cons_succ]
    rfl
  refine pure_ (i := 1) (N := (some 30)) (v := ?_) (a' := ?_) #[true, true, false, false, false, false, false, false, false] rfl rfl (by kernel_rfl) (fun _ _ _ h => h) (Or.inl ⟨by rfl, ?_⟩) ?_ ?_
  rotate_left
  · intro w'
    go_simp
    with_reducible rfl
  rotate_left
  · simp only [Act.put, List.setIfInBounds_toArray, List.set_cons_zero, List.set_cons_succ]
    rfl
  refine pure_ (i := 2) (N := (some 31)) (v := ?_) (a' := ?_) #[true, true, true, false, false, false, false, false, false] rfl rfl (by kernel_rfl) (fun _ _ _ h => h) (Or.inl ⟨by rfl, ?_⟩) ?_ ?_
  rotate_left
  · intro w'
    go_simp
    with_reducible rfl
  rotate_left
  · simp only [Act.put, List.setIfInBounds_toArray, List.set_cons_zero, List.set_cons_succ]
    rfl
  refine pure_ (i := 3) (N := (some 32)) (v := ?_) (a' := ?_) #[true, true, true, true, false, false, false, false, false] rfl rfl (by kernel_rfl) (fun _ _ _ h => h) (Or.inl ⟨by rfl, ?_⟩) ?_ ?_
  rotate_left
  · intro w'
    go_simp
    with_reducible rfl
  rotate_left
  · simp only [Act.put, List.setIfInBounds_toArray, List.set_cons_zero, List.set_cons_succ]
    rfl
  refine pure_ (i := 5) (N := (some 34)) (v := ?_) (a' := ?_) #[true, true, true, true, false, true, false, false, false] rfl rfl (by kernel_rfl) (fun _ _ _ h => h) (Or.inl ⟨by rfl, ?_⟩) ?_ ?_
  rotate_left
  · intro w'
    go_simp
    with_reducible rfl
  rotate_left
  · simp only [Act.put, List.setIfInBounds_toArray, List.set_cons_zero, List.set_cons_succ]
    rfl
  refine pure_ (i := 6) (N := (some 35)) (v := ?_) (a' := ?_) #[true, true, true, true, false, true, true, false, false] rfl rfl (by kernel_rfl) (fun _ _ _ h => h) (Or.inl ⟨by rfl, ?_⟩) ?_ ?_
  rotate_left
  · intro w'
    go_simp
    with_reducible rfl
  rotate_left
  · simp only [Act.put, List.setIfInBounds_toArray, List.set_cons_zero, List.set_cons_succ]
    rfl
  refine pure_ (i := 7) (N := (some 36)) (v := ?_) (a' := ?_) #[true, true, true, true, false, true, true, true, false] rfl rfl (by kernel_rfl) (fun _ _ _ h => h) (Or.inl ⟨by rfl, ?_⟩) ?_ ?_
  rotate_left
  · intro w'
    go_simp
    with_reducible rfl
  rotate_left
  · simp only [Act.put, List.setIfInBounds_toArray, List.set_cons_zero, List.set_cons_succ]
    rfl
  refine one_ (i := 4) (N := (some 33)) #[true, true, true, true, true, true, true, true, false] rfl rfl (by kernel_rfl) (by decide) (fun K hK => ?_)
  refine goes_ (f := 36) Try.func36 (by kernel_rfl) rfl #[.string key, .string nonce, .string aad, .slice (some ⟨g, 0, none⟩) n c] (by rfl) rfl rfl (by (try simp only [List.map_toArray, List.map_cons, List.map_nil]); first | done | rfl) ?_
  refine (HT.out g c HC.out _ HX7.out).mono ?_
  rintro e w8 ⟨rfl, hb⟩
  refine ⟨_, rfl, ?_⟩
  have HX8 := Aside0.mk (HX7.out.below hb)
  have HB8 := Aside0.mk (below_step HB7.out hb)
  clear hb
  refine hK.out _ _ trivial (fun hHeld => ?_)
  clear hK K
  refine norm_ (a' := ?_) ?_ ?_
  rotate_left
  · show Act.put _ (some 33) _ = _
    simp only [Act.put, List.setIfInBounds_toArray, List.set_cons_zero, List.set_cons_succ]
    rfl
  refine pure_ (i := 8) (N := (some 37)) (v := ?_) (a' := ?_) #[true, true, true, true, true, true, true, true, true] rfl rfl (by kernel_rfl) (fun _ _ _ h => h) (Or.inl ⟨by rfl, ?_⟩) ?_ ?_
  rotate_left
  · intro w'
    go_simp
    with_reducible rfl
  rotate_left
  · simp only [Act.put, List.setIfInBounds_toArray, List.set_cons_zero, List.set_cons_succ]
    rfl
  refine done_ (by kernel_rfl) ?_
  go_wp2
  first
  | (go_ret2
     exact ⟨rfl, HB8.out⟩)
end Go.Proofs.Ytocckplgjbhlbaa.Pol
