/- Rows of bytes that '[]byte(s)' makes: their block bears a mark behind its last cell; what a walk may do with such a row: read it, append a text to it, make a text of it. Conditions: each lemma's own. -/
import Derived.Test.YtocckplgjbhlbaaWMore
import Derived.Test.YtocckplgjbhlbaaWArr
import Derived.Lib.ConvBytes
import Derived.Lib.AppendStr
namespace Go.Proofs.YtocckplgjbhlbaaW.PrintWords
open Go.RowKit
set_option linter.unusedVariables false
/-- A row of bytes of the call's own; behind the block's last cell there may stand a mark. -/
def MRow (w : World) (base : Nat) (e : TypeId) (v : Value) (xs : List Int) : Prop :=
  (v = .slice none 0 0 ∧ xs = []) ∨ ∃ g cap cur lo hi, v = .slice (some ⟨g, 0, none⟩) xs.length cap ∧ base ≤ g ∧ w.heap[g]? = some (.cells cur e (lo, hi)) ∧ (hi ≤ lo ∨ cur.size ≤ lo) ∧ xs.length ≤ cap ∧ cap ≤ maxLen ∧ cur.size = cap ∧ cur.toList.take xs.length = nums .u8 xs
theorem marked_cells {w : World} {g o : Nat} {t : TypeId} {P : Program} {lo hi : Nat} : ∀ (vs : List Value) (i : Nat) (cur : Array Value) (w : World), w.heap[g]? = some (.cells cur t (lo, hi)) → (hi ≤ lo ∨ cur.size ≤ lo) → o + i + vs.length ≤ cur.size → (∀ v ∈ vs, v.oneCell' = true) →
    (storeCells ⟨g, o, none⟩ vs i).run P w = .ok () (w.setRow g (cur.toList.take (o + i) ++ vs ++ cur.toList.drop (o + i + vs.length)).toArray)
  | [], i, cur, w, hg, _, _, _ => by
    simp only [storeCells, List.append_nil, List.length_nil, Nat.add_zero, List.take_append_drop, Array.toArray_toList]
    rw [setRow_self w g cur t (lo, hi) hg]
    rfl
  | v :: rest, i, cur, w, hg, hm, hl, h1 => by
    have hi' : o + i < cur.size := by simp at hl; omega
    have hadd : (⟨g, o, none⟩ : Addr).add i = ⟨g, o + i, none⟩ := by unfold Addr.add; split <;> simp_all
    have hcell : w.cell? ⟨g, o + i, none⟩ = some cur[o + i] := by simp [World.cell?, hg, hi']
    have hfro : w.frozen? ⟨g, o + i, none⟩ = false := by simp [World.frozen?, hg]; omega
    have hst : (store ((⟨g, o, none⟩ : Addr).add i) v).run P w = .ok () (w.setRow g (cur.setIfInBounds (o + i) v)) := by
      rw [hadd, run_store P w _ v _ (h1 v (by simp)), hcell]
      simp [hfro, setCell_eq_setRow w g (o + i) cur t (lo, hi) v hg]
    have ih := marked_cells (w := w) (g := g) (o := o) (t := t) (P := P) (lo := lo) (hi := hi) rest (i + 1) (cur.setIfInBounds (o + i) v) (w.setRow g (cur.setIfInBounds (o + i) v)) (setRow_heap w g cur _ t _ hg) (by simpa using hm) (by simp at hl ⊢; omega) (fun x hx => h1 x (by simp [hx]))
    simp only [storeCells, Sem.run_bind, hst, Result.andThen_ok, ih, setRow_setRow]
    congr 3
    have e := list_seg_step cur.toList (o + i) v rest (by simp at hl ⊢; omega)
    simpa [Array.toList_setIfInBounds, Nat.add_assoc] using e
theorem MRow.move {w w1 : World} {base : Nat} {e : TypeId} {v : Value} {xs : List Int} (h : MRow w base e v xs) (hm : ∀ k, v.ownBlock = some k → k < w.heap.size → w1.heap[k]? = w.heap[k]?) : MRow w1 base e v xs := by
  rcases h with h | ⟨g, cap, cur, lo, hi, rfl, hg, hh, r⟩
  · exact .inl h
  · have hlt : g < w.heap.size := (Array.getElem?_eq_some_iff.1 hh).1
    exact .inr ⟨g, cap, cur, lo, hi, rfl, hg, (hm g (by simp [Value.ownBlock]) hlt).trans hh, r⟩
theorem MRow.cell {w : World} {base : Nat} {e : TypeId} {g n cap : Nat} {xs : List Int} (h : MRow w base e (.slice (some ⟨g, 0, none⟩) n cap) xs) (i : Nat) (hi : i < xs.length) : w.cell? ⟨g, 0 + i, none⟩ = some (.int .u8 (xs.getD i 0)) := by
  rcases h with ⟨h, _⟩ | ⟨g', cap', cur, lo, hi', e1, hg, hh, hm, hn, hc, hs, ht⟩
  · cases h
  · injection e1 with e2 _ _
    injection e2 with e3
    injection e3 with e4
    subst e4
    have h1 : (nums .u8 xs)[i]? = some (.int .u8 (xs.getD i 0)) := by simp [nums, List.getElem?_eq_getElem hi, List.getD_eq_getElem?_getD]
    rw [← ht, List.getElem?_take, if_pos hi, Array.getElem?_toList] at h1
    simp only [World.cell?, hh, Nat.zero_add]
    simpa using h1
theorem MRow.base_le {w : World} {base : Nat} {e : TypeId} {v : Value} {xs : List Int} {k : Nat} (h : MRow w base e v xs) (hk : v.ownBlock = some k) : base ≤ k := by
  rcases h with ⟨rfl, _⟩ | ⟨g, cap, cur, lo, hi, rfl, hg, r⟩
  · simp [Value.ownBlock] at hk
  · have : g = k := by simpa [Value.ownBlock] using hk
    omega
namespace Kd
def W (e : TypeId) (w : World) (base : Nat) (ok : Nat → Prop) (v : Value) (xs : List Int) : Prop := (∀ k, v.ownBlock = some k → ok k) ∧ MRow w base e v xs
section
variable {e : TypeId} {w w1 : World} {base : Nat} {ok ok' : Nat → Prop} {v : Value} {xs : List Int}
theorem W_step (h : W e w base ok v xs) (hm : ∀ k, ok k → k < w.heap.size → w1.heap[k]? = w.heap[k]?) : W e w1 base ok v xs := ⟨h.1, h.2.move fun k hk hl => hm k (h.1 k hk) hl⟩
theorem W_below (h : W e w base ok v xs) (hb : Below w.heap.size w w1) : W e w1 base ok v xs := W_step h (fun k _ hk => hb.block k hk)
theorem W_alloc (h : W e w base ok v xs) (o : Obj) : W e (w.alloc o) base ok v xs := W_below h (below_alloc (Below.refl _ _) o)
theorem W_drew (h : W e w base ok v xs) : W e w.drew base ok v xs := W_below h (below_drew (Below.refl _ _))
theorem W_drewN (h : W e w base ok v xs) (m : Nat) : W e (w.drewN m) base ok v xs := W_below h (pw_below_drewN (Below.refl _ _) m)
theorem W_grown (h : W e w base ok v xs) {row : Option Nat} (hg : w.grownBy w1 row) (hok : ∀ k, ok k → some k ≠ row) : W e w1 base ok v xs := W_step h (fun k ho hk => hg.block k hk (hok k ho))
theorem W_mono (h : W e w base ok v xs) (hok : ∀ k, ok k → ok' k) : W e w base ok' v xs := ⟨fun k hk => hok k (h.1 k hk), h.2⟩
theorem W_lower {base' : Nat} (h : W e w base ok v xs) (hb : base' ≤ base) : W e w base' ok v xs := by
  refine ⟨h.1, ?_⟩
  rcases h.2 with h | ⟨g, cap, cur, lo, hi, rfl, hg, r⟩
  · exact .inl h
  · exact .inr ⟨g, cap, cur, lo, hi, rfl, by omega, r⟩
theorem W_self (h : W e w base ok v xs) : MRow w base e v xs := h.2
theorem W_string {P : Program} {src dst : TypeId} (hs : P.underlying src = some (.slice e)) (he : P.underlying e = some (.int .u8)) (hd : P.underlying dst = some .string)
    (h : MRow w base e v xs) : (convert src dst v).run P w = .ok (.string (strOfNums xs)) w := by
  have h2 := h
  rcases h2 with ⟨rfl, rfl⟩ | ⟨g, cap, cur, lo, hi, rfl, _⟩
  · exact run_convert_bytes_nil w src e hs he 0 0 dst hd
  · exact run_convert_bytes_arg w src e hs he g 0 xs.length cap xs rfl (fun i hi => h.cell i hi) dst hd
end
section
variable {P : Program} {ops : Array Oper} {rest : List Oper} {o : Oper} {a : Act} {Q : Exit → Act → World → Prop}
theorem bytesCells_take (w : World) (e : TypeId) (s : ByteArray) : (Lib.bytesCells w e s).toList.take (bytesOf s).length = nums .u8 (bytesOf s) := by
  have h : (s.data.map fun b => Value.int .u8 b.toNat).toList = nums .u8 (bytesOf s) := by
    simp [nums, bytesOf]
  unfold Lib.bytesCells
  rw [Array.toList_append, h]
  exact List.take_left' (by simp [nums])
theorem bytesCells_size (w : World) (e : TypeId) (s : ByteArray) : (Lib.bytesCells w e s).size = grownCap w s.size 0 e := by
  have h := grownCap_ge w s.size 0 e
  have h2 : s.data.size = s.size := rfl
  unfold Lib.bytesCells
  simp only [Array.size_append, Array.size_map, Array.size_replicate]
  omega
theorem W_conv {w0 W : World} (base e : Nat) (hgd : o.guard = none) {N : Tmp} (hd : o.dst = some N) (src dst : TypeId) (x : Operand) (ho : o.op = .convert src dst x) {s : ByteArray} (hx : a.eval x = .string s)
    {u : TypeDesc} (hs : P.underlying src = some u) (hds : P.underlying dst = some (.slice e)) (he : P.underlying e = some (.int .u8)) (hl : s.size ≤ maxLen)
    {ok okp : Nat → Prop} (hok : ∀ k, okp k → ok k) (hfresh : ok W.heap.size) (HB : Below base w0 W) (hbase : base ≤ W.heap.size)
    (h : ∀ v1 w1, Kd.W e w1 base ok v1 (bytesOf s) → Below base w0 w1 → W.grownBy w1 none → (∃ b, v1.ownBlock = some b ∧ W.heap.size ≤ b) → wpList P ops Q rest (a.put o.dst v1) w1) : wpList P ops Q (o :: rest) a W := by
  have hr := Lib.run_convert_string_bytes (P := P) W src dst e s hs hds he
  have hn := Lib.bytesWorld_at_new W e s
  refine wpList_plain hgd fun K hK => ?_
  unfold Oper.wp
  have hrun : (execOp a.eval o).run P W = .ok (.value (.slice (some ⟨W.heap.size, 0, none⟩) s.size (grownCap W s.size 0 e))) (Lib.bytesWorld W e s) := by
    simp [execOp, ho, hx, hr]
  rw [hrun]
  refine hK _ _ (h _ _ ⟨?_, ?_⟩ (bytes_below HB hbase e s) ⟨rfl, rfl, rfl, by rw [Lib.bytesWorld_size]; omega, fun k hk _ => Lib.bytesWorld_at_old W e s k hk⟩ ⟨_, rfl, Nat.le_refl _⟩)
  · intro k hk
    have : W.heap.size = k := by simpa [Value.ownBlock] using hk
    rw [← this]
    exact hfresh
  · refine .inr ⟨W.heap.size, grownCap W s.size 0 e, Lib.bytesCells W e s, _, _, by rw [bytesOf_length], hbase, hn, .inr (Nat.le_refl _), ?_, grownCap_le_maxLen W s.size 0 e hl, bytesCells_size W e s, bytesCells_take W e s⟩
    rw [bytesOf_length]
    exact grownCap_ge W s.size 0 e
theorem run_append_M {W : World} (base : Nat) (t u ty e : TypeId) (i : TypeInfo) (ht : P.underlying t = some (.slice e)) (hu : P.underlying u = some .string) (hi : P.info? e = some i) (hz : i.zero = some (.int .u8 0))
    (hsize : i.size = 1) (hby : i.bytes = 1) (v : Value) (xs : List Int) (hown : MRow W base e v xs) (s : ByteArray)
    (hbytes : xs.length + s.size ≤ 140737488355328) (hbase : base ≤ W.heap.size) :
    ∃ v' w', (Builtin.append_ #[t, u] ty #[v, .string s]).run P W = .ok v' w' ∧ MRow w' base e v' (xs ++ bytesOf s) ∧ W.grownBy w' v.ownBlock := by
  have hlen : (xs ++ bytesOf s).length = xs.length + s.size := by rw [List.length_append, bytesOf_length]
  have hnl : (nums .u8 xs).length = xs.length := by simp [nums]
  have hst : Lib.strCells s = nums .u8 (bytesOf s) := by simp [nums, bytesOf, Lib.strCells]
  have hsl : (Lib.strCells s).length = s.size := Lib.strCells_length s
  have hcat : nums .u8 (xs ++ bytesOf s) = nums .u8 xs ++ Lib.strCells s := by rw [hst]; simp [nums]
  rcases hown with ⟨rfl, rfl⟩ | ⟨g, cap, cur, lo, hi', rfl, hbg, hg, hm, hnc, hcm, hcs, htake⟩
  · obtain ⟨v', w', hr, h2, h3, h4⟩ := Lib.run_append_own_string (P := P) W base t u ty e i ht hu hi hz hsize hby (.slice none 0 0) 0 [] (World.ownsRow_nil W base e 1) s (by simp only [maxLen]; simp at hbytes; omega) (by simpa using hbytes) hbase
    refine ⟨v', w', hr, ?_, h3⟩
    · rcases h2.2 with ⟨e1, e2⟩ | ⟨g, cap, cur, rfl, hb, hh, hn, hc, hcs, ht'⟩
      · refine .inl ⟨e1, ?_⟩
        have : (bytesOf s).length = 0 := by rw [bytesOf_length]; omega
        rw [List.nil_append]
        exact List.eq_nil_of_length_eq_zero this
      · refine .inr ⟨g, cap, cur, 0, 0, by rw [hlen]; simp, hb, hh, .inl (Nat.le_refl _), by rw [hlen]; simpa using hn, hc, by simpa using hcs, ?_⟩
        rw [hlen, hcat]
        simpa [nums] using ht'
  · by_cases hroom : xs.length + s.size ≤ cap
    · have hf := Lib.run_firstCells_string (P := P) W 1 s
      have hsto := marked_cells (w := W) (g := g) (o := xs.length) (t := e) (P := P) (lo := lo) (hi := hi') (Lib.strCells s) 0 cur W hg hm (by rw [hsl]; omega) (Lib.strCells_oneCell s)
      simp only [Nat.add_zero, hsl] at hsto
      refine ⟨.slice (some ⟨g, 0, none⟩) (xs.length + s.size) cap, W.setRow g (cur.toList.take xs.length ++ Lib.strCells s ++ cur.toList.drop (xs.length + s.size)).toArray, ?_, ?_, ⟨rfl, rfl, rfl, by simp, fun k _ hk => setRow_other W g k _ (fun e => hk (by simp [Value.ownBlock, e]))⟩⟩
      · simp [Builtin.append_, run_underlying ht, run_underlying hu, sizeOf, typeInfo, hi, hsize, Builtin.lenOf, hroom, hf, Addr.add_lit, hsto]
      · refine .inr ⟨g, cap, _, lo, hi', by rw [hlen], hbg, setRow_heap W g cur _ e _ hg, ?_, by rw [hlen]; exact hroom, hcm, ?_, ?_⟩
        · rcases hm with hm | hm
          · exact .inl hm
          · right
            simp only [List.size_toArray, List.length_append, List.length_take, List.length_drop, Array.length_toList, hsl]
            omega
        · simp only [List.size_toArray, List.length_append, List.length_take, List.length_drop, Array.length_toList, hsl]
          omega
        · rw [hlen, htake, hcat]
          have : (nums .u8 xs ++ Lib.strCells s).length = xs.length + s.size := by rw [List.length_append, hnl, hsl]
          rw [← this]
          exact List.take_left
    · have holds : ∀ j u, (nums .u8 xs)[j]? = some u → W.cell? ((⟨g, 0, none⟩ : Addr).add j) = some u := by
        intro j u hj
        have hlt : j < xs.length := by rw [← hnl]; exact (List.getElem?_eq_some_iff.1 hj).1
        have hadd : (⟨g, 0, none⟩ : Addr).add j = ⟨g, 0 + j, none⟩ := by unfold Addr.add; split <;> simp_all
        rw [hadd, MRow.cell (cap := cap) (n := xs.length) (.inr ⟨g, cap, cur, lo, hi', rfl, hbg, hg, hm, hnc, hcm, hcs, htake⟩) j hlt, ← hj]
        simp [nums, List.getElem?_eq_getElem hlt, List.getD_eq_getElem?_getD]
      have hr := Lib.run_append_grow_string (P := P) W t u ty e i (.int .u8 0) ht hu hi hz ⟨g, 0, none⟩ xs.length cap (nums .u8 xs) (by rw [hsize, hnl]; omega) holds s (by omega) (by omega) (by rw [hby]; exact growslice_fits (by omega) (by omega))
      have hge := grownCap_ge W (xs.length + s.size) cap e
      refine ⟨_, _, hr, .inr ⟨W.heap.size, _, _, 0, 0, by rw [hlen], hbase, heap_alloc_new W.drew _, .inl (Nat.le_refl _), by rw [hlen]; exact hge, grownCap_le_maxLen W _ cap e (by simp only [maxLen]; omega), ?_, ?_⟩, ⟨rfl, rfl, rfl, by simp, fun k hk _ => heap_alloc_old W.drew _ hk⟩⟩
      · have hz1 : (Value.int IntKind.u8 0).cells.size = 1 := rfl
        simp only [Array.size_append, List.size_toArray, size_zeroCells, hz1, hnl, hsl]
        omega
      · rw [hlen, hcat]
        simp only [Array.toList_append, List.append_assoc]
        have : (nums .u8 xs ++ Lib.strCells s).length = xs.length + s.size := by rw [List.length_append, hnl, hsl]
        rw [← List.append_assoc, ← this]
        exact List.take_left
theorem W_append_str {w0 W : World} (base : Nat) (hgd : o.guard = none) (s x : Operand) (t u e : TypeId)
    (ho : o.op = .call { callee := .builtin .append, args := #[s, x], argTypes := #[t, u] })
    (ht : P.underlying t = some (.slice e)) (hu : P.underlying u = some .string) (hinfo : (P.info? e).map (fun i => (i.zero, i.size, i.bytes)) = some (some (.int .u8 0), 1, 1))
    (v : Value) (xs : List Int) (y : ByteArray) (hs : a.eval s = v) (hx : a.eval x = .string y)
    (HO : MRow W base e v xs) (HB : Below base w0 W) (hbase : base ≤ W.heap.size) (hl : xs.length + y.size ≤ 140737488355328)
    (h : ∀ v1 w1, MRow w1 base e v1 (xs ++ bytesOf y) → Below base w0 w1 → W.grownBy w1 v.ownBlock → wpList P ops Q rest (a.put o.dst v1) w1) :
    wpList P ops Q (o :: rest) a W := by
  obtain ⟨i0, hi, hzz⟩ := Option.map_eq_some_iff.1 hinfo
  simp only [Prod.mk.injEq] at hzz
  obtain ⟨hz0, hz1, hz2⟩ := hzz
  obtain ⟨v1, w1, hr, h2, h3⟩ := run_append_M (P := P) base t u o.type e i0 ht hu hi hz0 hz1 hz2 v xs HO y hl hbase
  refine wpList_plain hgd fun K hK => ?_
  unfold Oper.wp execOp
  simp only [ho, resolve, invoke, builtin, Sem.run_bind, Sem.run_pure, Result.andThen_ok, List.map_toArray, List.map_cons, List.map_nil, hs, hx, hr]
  exact hK _ _ (h v1 w1 h2 (HB.grown h3 hbase (fun k hk => HO.base_le hk)) h3)
theorem W_of_own {w : World} {base : Nat} {e : TypeId} {v : Value} {xs : List Int} {ok : Nat → Prop} (h : MRow w base e v xs) (hok : ∀ k, v.ownBlock = some k → ok k) : Kd.W e w base ok v xs := ⟨hok, h⟩
end
end Kd
end Go.Proofs.YtocckplgjbhlbaaW.PrintWords
