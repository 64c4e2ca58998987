/- Proved: elements in elements come out as they went in, however deep (halberdlaw13.DerNests answers true at every input). Conditions: none beside the given statement's own. -/
import Derived.Test.YtonemdclfgckoaaXx19
import Derived.Test.YtonemdclfgckoaaXx20
import Derived.Test.YtonemdclfgckoaaXx27
import Derived.Test.YtonemdclfgckoaaXx3
import Derived.Test.YtonemdclfgckoaaPureGet
namespace Go.Proofs.Ytonemdclfgckoaa.Pure
open Go.RowKit Go.Proofs.Ytonemdclfgckoaa.X Go.Proofs.YtonemdclfgckoaaW.PrintWords Go.Proofs.YtonemdclfgckoaaW.PrintLast Go.Proofs.YtonemdclfgckoaaW.PrintMore
set_option linter.unusedVariables false
set_option linter.unusedSimpArgs false

theorem aw : halberdlaw13_awake.f = some true := rfl
theorem and_63 (x : Int) : Go.bits .and .i64 x 63 = x % 64 := and_mask x 6 (by decide)
def wrapE (g : Int) (x : ByteArray) : ByteArray := strOfNums (hd g x.size ++ bytesOf x)
theorem wrapE_bytes {g : Int} {x : ByteArray} (hx : x.size ≤ 65535) : bytesOf (wrapE g x) = hd g x.size ++ bytesOf x := by
  refine bytesOf_strOf (fun y hy => ?_)
  rcases List.mem_append.mp hy with h | h
  · exact hd_byte hx y h
  · exact bytesOf_byte x y h
theorem wrapE_size {g : Int} {x : ByteArray} (hx : x.size ≤ 65535) : (wrapE g x).size = (hd g x.size).length + x.size := by
  rw [← bytesOf_length, wrapE_bytes hx, List.length_append, bytesOf_length]
def tower (g : Int) (t : ByteArray) : Nat → ByteArray
  | 0 => t
  | n + 1 => wrapE g (tower g t n)
theorem tower_size (g : Int) (t : ByteArray) (ht : t.size ≤ 3000) : ∀ n, n ≤ 64 → (tower g t n).size ≤ 3000 + 4 * n
  | 0, _ => by simp [tower]; omega
  | n + 1, h => by
    have ih := tower_size g t ht n (by omega)
    have hh := hd_len g (tower g t n).size
    simp only [tower]
    rw [wrapE_size (by omega)]
    omega
theorem all_wrap {g : Int} {x : ByteArray} (hg : isTag g) (hx : x.size ≤ 65535) : Ev (fun k => der_All.f k (wrapE g x)) ([(⟨g, x⟩ : S40)], 0) := by
  have hz := wrapE_size (g := g) hx
  have hh := hd_len g x.size
  have e : getL (bytesOf (wrapE g x)) = some (g, bytesOf x, (hd g x.size).length + x.size) := by
    have h := getL_put (t := g) (b := bytesOf x) (m := []) hg (by rw [bytesOf_length]; exact hx)
    rw [List.append_nil, bytesOf_length] at h
    rw [wrapE_bytes hx]
    exact h
  refine Ev.congr (f := fun k => der_All.l0 k (wrapE g x) [] ((0 : Nat) : Int)) (fun k => by unfold der_All.f; rfl) ?_
  refine all_step (From.start _) (by omega) e (by omega) (by simp) ?_
  rw [strOf_bytesOf, List.nil_append]
  have e2 : ((0 + ((hd g x.size).length + x.size) : Nat) : Int) = ((wrapE g x).size : Int) := by rw [hz]; omega
  rw [e2]
  exact all_end
theorem nests_read (t : ByteArray) (ht : t.size ≤ 3000) (g : Int) (hg : isTag g) (n : Nat) (hn : n ≤ 63) : ∀ d j : Nat, j + d = n → Ev (fun k => halberdlaw13_DerNests.l1 k t g n (tower g t d) j) true := by
  intro d
  induction d with
  | zero =>
    intro j hj
    refine Ev.step (f := fun _ => some true) (fun k => ?_) (Ev.now _)
    simp only [halberdlaw13_DerNests.l1]
    rw [if_neg (by omega)]
    simp [tower]
  | succ d ih =>
    intro j hj
    have hz := tower_size g t ht d (by omega)
    refine Ev.step (f := fun k => (der_All.f k (wrapE g (tower g t d))).bind _) (fun k => by simp only [halberdlaw13_DerNests.l1]; rw [if_pos (by omega)]; rfl) ?_
    refine Ev.bind (all_wrap hg (by omega)) ?_
    refine Ev.bind (ev_const (num_f _)) ?_
    refine evPos rfl ?_
    refine evPos (by rfl) ?_
    refine evPos (by show (0 : Int) < 1; omega) ?_
    have e1 : rd_T40 [(⟨g, tower g t d⟩ : S40)] 0 = (⟨g, tower g t d⟩ : S40) := rfl
    rw [e1]
    refine evNeg (by simp) ?_
    have e2 : wrap64 ((j : Int) + 1) = ((j + 1 : Nat) : Int) := by rw [w64 (by omega) (by omega)]; omega
    rw [e2]
    exact ih (j + 1) (by omega)
theorem nests_write (t : ByteArray) (ht : t.size ≤ 3000) (g : Int) (hg : isTag g) (n : Nat) (hn : n ≤ 63) : ∀ d j : Nat, j + d = n → Ev (fun k => halberdlaw13_DerNests.l0 k t g n (tower g t j) j) true := by
  intro d
  induction d with
  | zero =>
    intro j hj
    obtain rfl : j = n := by omega
    refine Ev.step (f := fun k => halberdlaw13_DerNests.l1 k t g j (tower g t j) 0) (fun k => ?_) (nests_read t ht g hg j hn j 0 (by omega))
    simp only [halberdlaw13_DerNests.l0]
    rw [if_neg (by omega)]
  | succ d ih =>
    intro j hj
    have hz := tower_size g t ht j (by omega)
    refine Ev.step (f := fun k => (der_Put.f k g [tower g t j]).bind _) (fun k => by simp only [halberdlaw13_DerNests.l0]; rw [if_pos (by omega)]) ?_
    refine Ev.bind (put_one hg (by omega)) ?_
    refine Ev.bind (ev_const (num_f _)) ?_
    refine evPos rfl ?_
    have e2 : wrap64 ((j : Int) + 1) = ((j + 1 : Nat) : Int) := by rw [w64 (by omega) (by omega)]; omega
    rw [e2]
    exact ih (j + 1) (by omega)
theorem nests_j0 (t : ByteArray) (ht : t.size ≤ 3000) (x y : Int) : Ev (fun k => halberdlaw13_DerNests.j0 k x y t) true := by
  obtain ⟨g, hg, hgw⟩ : ∃ g : Int, isTag g ∧ wrap64 (1 + wrap64 (Int.tmod (IntKind.u64.wrap y) 29)) = g := by
    rw [u64_wrap, Int.tmod_eq_emod_of_nonneg (by omega)]
    exact ⟨1 + y % 18446744073709551616 % 29, by unfold isTag; omega, by unfold wrap64; omega⟩
  obtain ⟨n, hn, hnw⟩ : ∃ n : Nat, n ≤ 63 ∧ Go.bits .and .i64 x 63 = n := ⟨(x % 64).toNat, by omega, by rw [and_63]; omega⟩
  refine Ev.step (f := fun k => halberdlaw13_DerNests.l0 k t g n (tower g t 0) ((0 : Nat) : Int)) (fun k => by simp only [halberdlaw13_DerNests.j0]; rw [hgw, hnw]; rfl) ?_
  exact nests_write t ht g hg n hn n 0 (by omega)
/-- The given statement's pure form. -/
theorem DerNests : halberdlaw13_DerNests.Pure := by
  intro s x y hs _ _
  unfold halberdlaw13_DerNests.f
  by_cases h : (s.size : Int) > 3000
  · have hx : (s.extract 0 3000).size ≤ 3000 := by rw [ByteArray.size_extract]; omega
    obtain ⟨k, hk⟩ := (nests_j0 _ hx x y).rounds
    refine ⟨k, ?_⟩
    refine bindE aw ?_
    rw [if_pos rfl, if_pos h, if_pos (by omega), if_pos (by omega)]
    exact hk
  · obtain ⟨k, hk⟩ := (nests_j0 s (by omega) x y).rounds
    refine ⟨k, ?_⟩
    refine bindE aw ?_
    rw [if_pos rfl, if_neg h]
    exact hk

end Go.Proofs.Ytonemdclfgckoaa.Pure
