/- chacha's Xor, walked. Conditions: none. -/
import Derived.Test.YtocckplgjbhlbaaXorIn
namespace Go.Proofs.Ytocckplgjbhlbaa.Cha
open Go.RowKit Go.Proofs.YtocckplgjbhlbaaW.PrintWords Go.Proofs.Ytocckplgjbhlbaa.X
set_option linter.unusedVariables false
theorem gx_bytesOf (s : ByteArray) (i : Nat) : gx (bytesOf s) i = ((s.data.toList.getD i 0).toNat : Int) := by
  unfold gx bytesOf
  rw [List.getD_eq_getElem?_getD, List.getD_eq_getElem?_getD, List.getElem?_map]
  cases s.data.toList[i]? <;> rfl
theorem bytesWorld_below (w : World) (e : TypeId) (s : ByteArray) : Below w.heap.size w (Lib.bytesWorld w e s) :=
  ⟨rfl, rfl, rfl, by rw [Lib.bytesWorld_size]; omega, fun k hk => Lib.bytesWorld_at_old w e s k hk⟩
theorem bytesCells_size (w : World) (e : TypeId) (s : ByteArray) : s.size ≤ (Lib.bytesCells w e s).size := by
  unfold Lib.bytesCells
  rw [Array.size_append, Array.size_map]
  exact Nat.le_add_right _ _
theorem bytesWorld_bts (w : World) (e : TypeId) (s : ByteArray) : Bts (Lib.bytesWorld w e s) w.heap.size (bytesOf s) := by
  refine ⟨by rw [Lib.bytesWorld_size]; omega, _, _, _, _, Lib.bytesWorld_at_new w e s, fun i hi => ?_⟩
  rw [bytesOf_length] at hi
  refine ⟨?_, ?_⟩
  · have := Lib.bytesWorld_cell w e s i hi
    rw [World.cell?] at this
    simp only [Lib.bytesWorld_at_new] at this
    rw [gx_bytesOf]
    exact this
  · have := bytesCells_size w e s
    have h1 : ¬ (Lib.bytesCells w e s).size ≤ i := by omega
    simp [h1]
theorem conv_event {P : Program} {ops : Array Oper} {rest : List Oper} {o : Oper} {a : Act} {Q : Exit → Act → World → Prop} {w : World} (hgd : o.guard = none) (src dst e : TypeId) (x : Operand) (s : ByteArray) (ho : o.op = .convert src dst x) (hx : a.eval x = .string s)
    (hs : P.underlying src = some .string) (hd : P.underlying dst = some (.slice e)) (he : P.underlying e = some (.int .u8))
    (hc : s.size ≤ grownCap w s.size 0 e)
    (H : ∀ g, g = w.heap.size → ∀ c, s.size ≤ c → ∀ w1, Bts w1 g (bytesOf s) → Below w.heap.size w w1 → wpList P ops Q rest (a.put o.dst (.slice (some ⟨g, 0, none⟩) s.size c)) w1) : wpList P ops Q (o :: rest) a w := by
  refine Kd.event_run hgd ?_ (H _ rfl (grownCap w s.size 0 e) hc _ (bytesWorld_bts w e s) (bytesWorld_below w e s))
  unfold execOp
  simp only [ho, hx, Sem.run_bind, Lib.run_convert_string_bytes w src dst e s hs hd he, Result.andThen_ok]
  rfl
def xorOut (key nonce : ByteArray) (c : Int) (s : ByteArray) : ByteArray := strOfNums (xr key nonce c (bytesOf s) s.size)
set_option maxRecDepth 100000 in
set_option maxHeartbeats 2000000 in
theorem xor_yes (key : ByteArray) (c : Int) (nonce : ByteArray) (s : ByteArray) (h : May key c nonce) (hs : s.size ≤ 65536) (w : World) :
    Calls Try.prog 14 #[.string key, .int .i64 c, .string nonce, .string s] w fun e w' => e = .returned (.tuple #[.string (xorOut key nonce c s), .int .i64 0]) ∧ Below w.heap.size w w' := by
  have hm := Aside0.mk (may_yes h)
  obtain ⟨hk, h0, h1, hn⟩ := h
  have HK := Aside0.mk hk
  have HN := Aside0.mk hn
  clear hk hn
  have hc : c % 4294967296 = c := by omega
  have t1 : decide ((s.size : Int) > 65536) = false := decide_eq_false (by omega)
  have t2 : decide ((65536 : Int) < (s.size : Int)) = false := decide_eq_false (by omega)
  have hl := bytesOf_length s
  have HX := Aside0.mk (fun (g c2 : Nat) (hc2 : s.size ≤ c2) W hb => xorin_calls key nonce c HK.out HN.out (bytesOf s) (by rw [hl]; omega) g c2 (by rw [hl]; exact hc2) W hb)
  rw [hl, hc] at HX
  clear hl hc
  go_enter Try.func14, Try.ntmps14
  go_wp2_with (first | (go_at_call 25; (with_reducible refine (chacha_may.calls _ _ _ true _ hm.out).mono ?_); rintro e w' ⟨rfl, ⟨nd, rfl⟩⟩) | ((with_reducible refine gate_dst (N := 22) rfl ?_); refine conv_event rfl 9 32 5 _ s rfl rfl Try.underlying9 Try.underlying32 Try.underlying5 ?hc ?_; (case hc => exact grownCap_ge _ _ _ _); intro g eg c2 hc2 w1 k1 b1; have HB1 := Aside0.mk (below_step (pw_below_drewN (Below.refl _ _) nd) b1); have HX1 := Aside0.mk k1; have HC2 := Aside0.mk hc2; have HG := Aside0.mk (show w.heap.size ≤ g from by rw [eg]; exact below_size (pw_below_drewN (Below.refl _ _) nd)); clear k1 b1 hc2 eg) | (go_at_call 29; (with_reducible refine (HX.out g c2 HC2.out _ HX1.out).mono ?_); rintro e w2 ⟨rfl, b2, g2⟩; have HX2 := Aside0.mk b2; have HB2 := Aside0.mk (HB1.out.grown g2 (below_size HB1.out) (fun k hk => by rw [← Option.some.inj hk]; exact HG.out)); have ht := Bts.text (P := Try.prog) b2 (n := s.size) (by rw [xr_length, bytesOf_length]) 32 5 9 Try.underlying32 Try.underlying5 Try.underlying9 c2; clear b2 g2))
  first
  | (go_ret2
     exact ⟨rfl, HB2.out⟩)
 
theorem xor_no (key : ByteArray) (c : Int) (nonce : ByteArray) (s : ByteArray) (h : ¬ (May key c nonce ∧ s.size ≤ 65536)) (w : World) :
    Calls Try.prog 14 #[.string key, .int .i64 c, .string nonce, .string s] w fun e w' => e = .returned (.tuple #[.string ByteArray.empty, .int .i64 600]) ∧ Below w.heap.size w w' := by
  by_cases hM : May key c nonce
  · have hm := Aside0.mk (may_yes hM)
    have t1 : decide ((s.size : Int) > 65536) = true := decide_eq_true (by have : ¬ s.size ≤ 65536 := fun e => h ⟨hM, e⟩; omega)
    have t2 : decide ((65536 : Int) < (s.size : Int)) = true := decide_eq_true (by have : ¬ s.size ≤ 65536 := fun e => h ⟨hM, e⟩; omega)
    go_enter Try.func14, Try.ntmps14
    go_wp2_with (first | (go_at_call 25; (with_reducible refine (chacha_may.calls _ _ _ true _ hm.out).mono ?_); rintro e w' ⟨rfl, ⟨nd, rfl⟩⟩))
    first
    | (go_ret2
       exact ⟨rfl, pw_below_drewN (Below.refl _ _) _⟩)
   
  · have hm := Aside0.mk (may_no hM)
    go_enter Try.func14, Try.ntmps14
    go_wp2_with (first | (go_at_call 25; (with_reducible refine (chacha_may.calls _ _ _ false _ hm.out).mono ?_); rintro e w' ⟨rfl, ⟨nd, rfl⟩⟩))
    first
    | (go_ret2
       exact ⟨rfl, pw_below_drewN (Below.refl _ _) _⟩)
   
end Go.Proofs.Ytocckplgjbhlbaa.Cha
