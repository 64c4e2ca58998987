/- What a slice of extensions that comes in holds, as a list; what the bound on its bulk gives. Conditions: each lemma's own. -/
import Derived.Test.YtlkebjkpmiehcaaRows
import Derived.Test.YtlkebjkpmiehcaaEx0
import Derived.Deep.Slices
import Derived.Deep.Fields
import Derived.ChangeSame
namespace Go.Proofs.Ytlkebjkpmiehcaa.opens
open Go.ChangeShapes Go.WideShapes Go.Deep Go.RowKit Go.Proofs.Ytlkebjkpmiehcaa.E Go.Proofs.YtlkebjkpmiehcaaW.PrintWords
set_option linter.unusedVariables false
section
variable {H : Type} {enc : TypeId × Value → H} {P : Program} {w : World} {base : Nat} {spare : Nat → Bool} {held : Bool}
theorem open_slice_fields {t e : TypeId} {fs : Array Field} {fuel : Nat} {cs : List Value} {x : DataW H × List MemPlace} (ht : P.underlying t = some (.slice e)) (he : P.underlying e = some (.struct fs))
    (hone : oneCellFields P fs = true) (hC : P.cellsOf e = fs.size) (h : DataW.trod enc P w base spare held fuel t cs = some x) :
    (cs = [.slice none 0 0] ∧ x = (.nil, [])) ∨
    ∃ (a : Addr) (len cap m : Nat) (D : Nat → DataW H) (Pl : Nat → List MemPlace), cs = [.slice (some a) len cap] ∧ base ≤ a.block ∧ len ≤ cap ∧ cap ≤ maxLen ∧ m = (if spare a.block then cap else len) ∧
      x = (.slice ((List.range len).map D) ((List.range (m - len)).map fun j => D (len + j)), MemPlace.row a (m * fs.size) ++ (List.range m).flatMap Pl) ∧
      ∀ i, i < m → ∃ (ys : List (DataW H × List MemPlace)) (n : Nat), D i = .agg (ys.map (·.1)) ∧ Pl i = ys.flatMap (·.2) ∧ ys.length = fs.size ∧
        ∀ (j : Nat) (f : Field), fs[j]? = some f → ∃ (v : Value) (y : DataW H × List MemPlace), w.cell? (a.add (i * fs.size + j)) = some v ∧ ys[j]? = some y ∧ DataW.trod enc P w base spare held n f.type [v] = some y := by
  rcases open_slice ht h with h0 | ⟨a, len, cap, m, n, D, Pl, hcs, hb, hl, hm, hmm, hx, hi⟩
  · exact .inl h0
  · refine .inr ⟨a, len, cap, m, D, Pl, hcs, hb, hl, hm, hmm, by rw [hC] at hx; exact hx, fun i him => ?_⟩
    obtain ⟨cs', hc, ht'⟩ := hi i him
    rw [hC] at hc
    obtain ⟨ys, n', hn', hy, hlen, hyl, hf⟩ := DataW.trod_struct he ht'
    obtain ⟨_, hcl, hat⟩ := World.cells?_some hc
    simp only [Prod.mk.injEq] at hy
    refine ⟨ys, n', hy.1, hy.2, hyl, fun j f hj => ?_⟩
    obtain ⟨ho, hk⟩ := hone_of hone j f hj
    have hjl : j < fs.size := (Array.getElem?_eq_some_iff.1 hj).1
    have hcell := hat j hjl
    have hv : cs'[j]? = some (cs'[j]'(by omega)) := List.getElem?_eq_getElem (by omega)
    have h1 := hf j f hj
    rw [ho, hk] at h1
    have hone' : (cs'.drop j).take 1 = [cs'[j]'(by omega)] := by
      rw [List.drop_eq_getElem_cons (by omega)]
      rfl
    rw [hone'] at h1
    have hys : ys[j]? = some (ys[j]'(by omega)) := List.getElem?_eq_getElem (by omega)
    refine ⟨_, _, ?_, hys, h1.trans hys⟩
    rw [← Go.Deep.add_add, hcell, hv]
end
/-! ### The bound -/
theorem one_le {H : Type} (d : DataW H) : 1 ≤ Rows.uptoBulk d := by
  cases d with
  | lit l => cases l <;> simp [Rows.uptoBulk]
  | nil => simp [Rows.uptoBulk]
  | ptr d => simp [Rows.uptoBulk]
  | slice elems spare => simp [Rows.uptoBulk]
  | agg parts => simp [Rows.uptoBulk]
  | iface t d => simp [Rows.uptoBulk]
  | map entries => simp [Rows.uptoBulk]
  | held h => simp [Rows.uptoBulk]
theorem bulk_append {H : Type} (l r : List (DataW H)) : Rows.uptoBulkAll (l ++ r) = Rows.uptoBulkAll l + Rows.uptoBulkAll r := by
  induction l with
  | nil => simp [Rows.uptoBulkAll]
  | cons x l ih => simp only [List.cons_append, Rows.uptoBulkAll, ih]; omega
theorem bulk_cons {H : Type} (d : DataW H) (r : List (DataW H)) : Rows.uptoBulkAll (d :: r) = Rows.uptoBulk d + Rows.uptoBulkAll r := by simp only [Rows.uptoBulkAll]
theorem bulk_string {H : Type} (s : ByteArray) : Rows.uptoBulk (DataW.lit (H := H) (.string s.data.toList)) = s.size + 1 := by
  simp only [Rows.uptoBulk]
  rw [Array.length_toList]
  rfl
theorem bound {H : Type} {l : List (DataW H)} (hk : Rows.uptoSmall H l = true) : Rows.uptoBulkAll l ≤ 1048576 := of_decide_eq_true hk
/-- The weight of extensions. -/
def weigh (l : List S41) : Nat := (l.map fun x => x.f1.size + 4).sum
theorem open_exts {H : Type} {enc : TypeId × Value → H} {W : World} {spare : Nat → Bool} {held : Bool} {fuel : Nat} {a : Option Addr} {len cap : Nat} {x : DataW H × List MemPlace}
    (h : DataW.trod enc Try.prog W 0 spare held fuel 22 [.slice a len cap] = some x) :
    ∃ l : List S41, len = l.length ∧ len ≤ cap ∧ Kd.C k41 W a len l ∧ (∀ y ∈ l, (Lit.int .i64 y.f0).wf = true) ∧ weigh l ≤ 4 * Rows.uptoBulk x.1 := by
  rcases open_slice_fields Try.underlying22 Try.underlying41 (by kernel_rfl) (by kernel_rfl) h with ⟨hcs, rfl⟩ | ⟨ad, len', cap', m, D, Pl, hcs, _, hl, hm, hmm, hx, hf⟩
  · simp at hcs
    obtain ⟨rfl, rfl, rfl⟩ := hcs
    exact ⟨[], rfl, Nat.le_refl _, ⟨rfl, by omega, fun h => by omega⟩, by simp, by simp [weigh]⟩
  · simp at hcs
    obtain ⟨rfl, rfl, rfl⟩ := hcs
    have hlm : len ≤ m := by rw [hmm]; split <;> omega
    have each : ∀ i : Nat, ∃ y : S41, i < len → W.cell? (ad.add (i * 2 + 0)) = some (.int .i64 y.f0) ∧ W.cell? (ad.add (i * 2 + 1)) = some (.string y.f1) ∧ (Lit.int .i64 y.f0).wf = true ∧ y.f1.size + 4 ≤ 4 * Rows.uptoBulk (D i) := by
      intro i
      by_cases hi : i < len
      · obtain ⟨ys, n, hD, _, hyl, hj⟩ := hf i (by omega)
        obtain ⟨v0, y0, c0, e0, t0⟩ := hj 0 _ rfl
        obtain ⟨v1, y1, c1, e1, t1⟩ := hj 1 _ rfl
        obtain ⟨k, hv0, rfl, hw⟩ := DataW.trod_int Try.underlying3 t0
        obtain ⟨s, hv1, rfl, hs⟩ := DataW.trod_string Try.underlying9 t1
        simp only [List.cons.injEq, and_true] at hv0 hv1
        subst hv0 hv1
        refine ⟨⟨k, s⟩, fun _ => ⟨c0, c1, hw, ?_⟩⟩
        rw [hD]
        match ys, hyl with
        | [z0, z1], _ =>
          simp at e0 e1
          subst e0 e1
          simp only [List.map_cons, List.map_nil, Rows.uptoBulk, Rows.uptoBulkAll]
          have : s.data.toList.length = s.size := by rw [Array.length_toList]; rfl
          simp only [this]
          omega
      · exact ⟨z41, fun h => absurd h hi⟩
    obtain ⟨f, hf2⟩ := Classical.axiomOfChoice each
    refine ⟨(List.range len).map f, by simp, hl, ⟨by simp, by unfold maxLen at hm; omega, fun _ => ⟨ad, rfl, fun j p hp => ?_⟩⟩, ?_, ?_⟩
    · obtain ⟨hj, rfl⟩ : j < len ∧ f j = p := by
        rw [List.getElem?_map] at hp
        by_cases hj : j < len
        · rw [List.getElem?_range hj] at hp
          exact ⟨hj, by simpa using hp⟩
        · rw [List.getElem?_eq_none (by simp; omega)] at hp
          simp at hp
      obtain ⟨c0, c1, _⟩ := hf2 j hj
      refine ⟨[.int .i64 (f j).f0, .string (f j).f1], rfl, k41_mk W (f j), ?_⟩
      intro i u hu
      match i, hu with
      | 0, hu => simp at hu; subst hu; exact c0
      | 1, hu => simp at hu; subst hu; exact c1
      | i + 2, hu => simp at hu
    · intro y hy
      obtain ⟨i, hi, rfl⟩ := List.mem_map.mp hy
      exact (hf2 i (by simpa using hi)).2.2.1
    · rw [hx]
      simp only [Rows.uptoBulk]
      have key : ∀ l : List Nat, (∀ i ∈ l, i < len) → weigh (l.map f) ≤ 4 * Rows.uptoBulkAll (l.map D) := by
        intro l
        induction l with
        | nil => intro _; simp [weigh]
        | cons i l ih =>
          intro hl2
          have h1 := (hf2 i (hl2 i (by simp))).2.2.2
          have h2 := ih (fun j hj => hl2 j (List.mem_cons_of_mem _ hj))
          simp only [List.map_cons, bulk_cons, weigh, List.sum_cons] at h2 ⊢
          omega
      have := key (List.range len) (by simp)
      omega
end Go.Proofs.Ytlkebjkpmiehcaa.opens
