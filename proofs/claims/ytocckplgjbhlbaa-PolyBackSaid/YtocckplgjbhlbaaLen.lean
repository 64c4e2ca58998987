/- poly's fill and length, by their contracts. Conditions: a length below 2^31. -/
import Derived.Test.YtocckplgjbhlbaaMac
import Derived.Test.YtocckplgjbhlbaaWb
namespace Go.Proofs.Ytocckplgjbhlbaa.Pol
open Go.RowKit Go.Proofs.YtocckplgjbhlbaaW.PrintWords Go.Proofs.Ytocckplgjbhlbaa.Cha Go.Proofs.Ytocckplgjbhlbaa.X
set_option linter.unusedVariables false
/-- Bytes of nought up to a whole block. -/
def pad (n : Nat) : ByteArray := strOfNums (List.replicate ((16 - n % 16) % 16) 0)
theorem fill_f (n : Nat) (hn : n ≤ 2000000000) : poly_fill.f (n : Int) = some (pad n) := by
  have e1 : Int.tmod (n : Int) 16 = ((n % 16 : Nat) : Int) := by rw [Int.tmod_eq_emod_of_nonneg (by omega)]; omega
  have e2 : wrap64 (16 - ((n % 16 : Nat) : Int)) = ((16 - n % 16 : Nat) : Int) := by unfold wrap64; omega
  have e3 : Int.tmod ((16 - n % 16 : Nat) : Int) 16 = (((16 - n % 16) % 16 : Nat) : Int) := by rw [Int.tmod_eq_emod_of_nonneg (by omega)]; omega
  unfold poly_fill.f
  rw [e1, e2, e3, if_pos (by omega), if_pos (by omega), Int.toNat_natCast]
  rfl
theorem fill_calls (n : Nat) (hn : n ≤ 2000000000) (w : World) : Calls Try.prog 47 #[.int .i64 (n : Int)] w fun e w' => e = .returned (.string (pad n)) ∧ Below w.heap.size w w' :=
  poly_fill.calls (n : Int) (pad n) w (fill_f n hn)
/-- A length's four bytes, the highest first. -/
def be4 (n : Int) : List Int := [(n / 16777216) % 256, (n / 65536) % 256, (n / 256) % 256, n % 256]
/-- A length's eight bytes, the lowest first. -/
def len8 (n : Nat) : ByteArray := strOfNums [(n : Int) % 256, ((n : Int) / 256) % 256, ((n : Int) / 65536) % 256, ((n : Int) / 16777216) % 256, 0, 0, 0, 0]
theorem bytes4 (n : Int) : wire_Bytes.f n 4 = some (strOfNums (be4 n)) := by
  simp [wire_Bytes.f, be4]
theorem bytesOf_be4 (n : Int) : bytesOf (strOfNums (be4 n)) = be4 n := by
  unfold bytesOf strOfNums be4
  simp only [List.map_cons, List.map_nil]
  have h : ∀ z : Int, ((UInt8.ofNat (z % 256).toNat).toNat : Int) = z % 256 := fun z => by
    have : (z % 256).toNat < 256 := by omega
    simp [Nat.mod_eq_of_lt this]
    omega
  simp only [h]
theorem be4_size (n : Int) : (strOfNums (be4 n)).size = 4 := rfl
theorem Arr.lit {P : Program} {ops : Array Oper} {rest : List Oper} {o : Oper} {a : Act} {Q : Exit → Act → World → Prop} {w : World} {k : IntKind} {e n : Nat} {xs : List Int} (hgd : o.guard = none)
    (hr : (execOp a.eval o).run P w = .ok (.value (.slice (some ⟨w.heap.size, 0, none⟩) n n)) (w.alloc (.cells (xs.map (Value.int k)).toArray e (0, 0))))
    (H : ∀ g, g = w.heap.size → ∀ w1, Arr k w1 g e xs → Below w.heap.size w w1 → wpList P ops Q rest (a.put o.dst (.slice (some ⟨g, 0, none⟩) n n)) w1) : wpList P ops Q (o :: rest) a w :=
  Kd.event_run hgd hr (H _ rfl _ (blk_new w _) (below_alloc (Below.refl _ _) _))
theorem ixb (g c i : Nat) (h : i < 4) (W : World) : (Instr.indexAt 32 (.slice (some ⟨g, 0, none⟩) 4 c) (.int .i64 (i : Int))).run Try.prog W = .ok (.pointer (some ⟨g, i, none⟩)) W := by
  have := ixo g 0 4 c i h W
  rw [Nat.zero_add] at this
  exact this
set_option maxRecDepth 100000 in
set_option maxHeartbeats 4000000 in
theorem length_calls (n : Nat) (w : World) : Calls Try.prog 48 #[.int .i64 (n : Int)] w fun e w' => e = .returned (.string (len8 n)) ∧ Below w.heap.size w w' := by
  obtain ⟨s, hs⟩ : ∃ s, s = strOfNums (be4 (n : Int)) := ⟨_, rfl⟩
  have HSZ := Aside0.mk (show s.size = 4 from by rw [hs]; exact be4_size _)
  have HB4 := Aside0.mk (show bytesOf s = be4 (n : Int) from by rw [hs]; exact bytesOf_be4 _)
  have HW := Aside0.mk (fun W => wire_Bytes.calls (n : Int) 4 s W (by rw [hs]; exact bytes4 _))
  clear hs
  go_enter Try.func48, Try.ntmps48
  go_wp2_with (first
    | (go_at_call 56; (with_reducible refine (HW.out _).mono ?_); rintro e w1 ⟨rfl, b1⟩; have HB1 := Aside0.mk b1; clear b1)
    | ((with_reducible refine gate_dst (N := 6) rfl ?_); refine conv_event rfl 9 32 5 _ s rfl rfl Try.underlying9 Try.underlying32 Try.underlying5 ?hc ?_; (case hc => exact grownCap_ge _ _ _ _); intro gb eg c hc w2 k2 b2; have HB2 := Aside0.mk (below_step HB1.out b2); have HS2 := Aside0.mk (show Bts w2 gb (be4 (n : Int)) from by rw [← HB4.out]; exact k2); clear k2 b2 hc eg))
  rw [HSZ.out]
  have i0 : ∀ W, (Instr.indexAt 32 (.slice (some ⟨gb, 0, none⟩) 4 c) (.int .i64 0)).run Try.prog W = .ok (.pointer (some ⟨gb, 0, none⟩)) W := fun W => ixb gb c 0 (by omega) W
  have i1 : ∀ W, (Instr.indexAt 32 (.slice (some ⟨gb, 0, none⟩) 4 c) (.int .i64 1)).run Try.prog W = .ok (.pointer (some ⟨gb, 1, none⟩)) W := fun W => ixb gb c 1 (by omega) W
  have i2 : ∀ W, (Instr.indexAt 32 (.slice (some ⟨gb, 0, none⟩) 4 c) (.int .i64 2)).run Try.prog W = .ok (.pointer (some ⟨gb, 2, none⟩)) W := fun W => ixb gb c 2 (by omega) W
  have i3 : ∀ W, (Instr.indexAt 32 (.slice (some ⟨gb, 0, none⟩) 4 c) (.int .i64 3)).run Try.prog W = .ok (.pointer (some ⟨gb, 3, none⟩)) W := fun W => ixb gb c 3 (by omega) W
  have c0 : w2.cell? ⟨gb, 0, none⟩ = some (.int .u8 (((n : Int) / 16777216) % 256)) := HS2.out.cell 0 (by simp [be4])
  have c1 : w2.cell? ⟨gb, 1, none⟩ = some (.int .u8 (((n : Int) / 65536) % 256)) := HS2.out.cell 1 (by simp [be4])
  have c2 : w2.cell? ⟨gb, 2, none⟩ = some (.int .u8 (((n : Int) / 256) % 256)) := HS2.out.cell 2 (by simp [be4])
  have c3 : w2.cell? ⟨gb, 3, none⟩ = some (.int .u8 ((n : Int) % 256)) := HS2.out.cell 3 (by simp [be4])
  refine wp_region_quiet_tail 12 (by kernel_rfl) (by kernel_rfl) ?_
  simp only [List.take_succ_cons, List.take_zero, List.drop_succ_cons, List.drop_zero]
  repeat (quiet_step (fail))
  refine wpQuiet_nil ?_
  intro nq
  refine Arr.lit (k := .u8) (e := 5) (n := 8) (xs := ([(n : Int) % 256, ((n : Int) / 256) % 256, ((n : Int) / 65536) % 256, ((n : Int) / 16777216) % 256, 0, 0, 0, 0] : List Int)) rfl ?hr ?_
  case hr => first | (go_simp; done) | (go_simp; rfl)
  intro g5 eg w5 k5 b5
  have HB5 := Aside0.mk (below_step (pw_below_drewN HB2.out nq) b5)
  have ht := k5.text (P := Try.prog) (n := 8) rfl 32 5 9 Try.underlying32 Try.underlying5 Try.underlying9 8
  clear k5 i0 i1 i2 i3 c0 c1 c2 c3 eg b5
  go_wp2
  first
  | (go_ret
     exact ⟨rfl, HB5.out⟩)
  | (go_ret2
     exact ⟨rfl, HB5.out⟩)
end Go.Proofs.Ytocckplgjbhlbaa.Pol
