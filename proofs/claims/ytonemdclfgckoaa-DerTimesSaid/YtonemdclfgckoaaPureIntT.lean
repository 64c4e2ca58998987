/- Lemmas on der.Integer: what it writes. Conditions: each lemma's own. -/
import Derived.Test.YtonemdclfgckoaaXx3
import Derived.Test.YtonemdclfgckoaaXx4
import Derived.Test.YtonemdclfgckoaaPurePut
namespace Go.Proofs.Ytonemdclfgckoaa.Pure
open Go.RowKit Go.Proofs.Ytonemdclfgckoaa.X Go.Proofs.YtonemdclfgckoaaW.PrintWords Go.Proofs.YtonemdclfgckoaaW.PrintLast Go.Proofs.YtonemdclfgckoaaW.PrintMore
set_option linter.unusedVariables false
set_option linter.unusedSimpArgs false

theorem bt_get (s : ByteArray) (i : Int) : bt s i = (bytesOf s).getD i.toNat 0 := (rd_bytesOf s i).symm
theorem toList_nil {s : ByteArray} (h : s.size = 0) : s.toList = [] := by
  rw [Go.ByteArray.toList_eq]
  have : s.data.size = 0 := h
  exact List.length_eq_zero_iff.mp (by rw [Array.length_toList]; exact this)
theorem toList_cons {s : ByteArray} (h : 0 < s.size) : ¬ s.toList = [] := by
  intro e
  rw [Go.ByteArray.toList_eq] at e
  have h1 : s.data.toList.length = 0 := by rw [e]; rfl
  rw [Array.length_toList] at h1
  have h2 : s.size = 0 := h1
  omega
def strip : List Int → List Int
  | [] => []
  | x :: r => if x = 0 then strip r else x :: r
def cont (l : List Int) : List Int := match strip l with
  | [] => [0]
  | x :: r => if x ≥ 128 then 0 :: x :: r else x :: r
theorem strip_len : ∀ l : List Int,(strip l).length ≤ l.length
  | [] => by simp [strip]
  | x :: r => by
    have := strip_len r
    simp only [strip]
    split
    · simp only [List.length_cons]; omega
    · simp
theorem strip_byte : ∀ {l : List Int},Byte l → Byte (strip l)
  | [],h => h
  | x :: r,h => by
    simp only [strip]
    split
    · exact strip_byte (fun y hy => h y (List.mem_cons_of_mem _ hy))
    · exact h
theorem cont_len (l : List Int) : 1 ≤ (cont l).length ∧ (cont l).length ≤ l.length + 1 := by
  have h := strip_len l
  unfold cont
  cases e : strip l with
  | nil => simp
  | cons x r =>
    rw [e] at h
    simp only [List.length_cons] at h
    simp only []
    split <;> simp <;> omega
theorem cont_byte {l : List Int} (hb : Byte l) : Byte (cont l) := by
  have h := strip_byte hb
  unfold cont
  cases e : strip l with
  | nil => intro x hx; simp at hx; omega
  | cons x r =>
    rw [e] at h
    simp only []
    split
    · intro y hy
      rcases List.mem_cons.mp hy with rfl | hy
      · omega
      · exact h y hy
    · exact h
theorem cont_strip {l m : List Int} (h : strip l = strip m) : cont l = cont m := by unfold cont; rw [h]
theorem bytes_zero (s : ByteArray) : bytesOf ((⟨#[0]⟩ : ByteArray) ++ s) = 0 :: bytesOf s := by
  rw [bytesOf_app]
  rfl
theorem put_two {x : ByteArray} {l : List Int} (hx : bytesOf x = l) (hn : l.length ≤ 65535) : Ev (fun k => der_Put.f k 2 [x]) (strOfNums (hd 2 l.length ++ l),0) := by
  have h := put_one (t := 2) (s := x) ⟨by decide,by decide,by decide⟩ (by rw [← bytesOf_length,hx]; exact hn)
  rw [hx,← bytesOf_length,hx] at h
  exact h
theorem bt_head {s : ByteArray} {x : Int} {r : List Int} (h : bytesOf s = x :: r) : bt s 0 = x := by
  rw [bt_get,h]
  rfl
theorem bytes_tail {s : ByteArray} {x : Int} {r : List Int} (h : bytesOf s = x :: r) : bytesOf (s.extract 1 s.size) = r ∧ s.size = r.length + 1 := by
  have hz : s.size = r.length + 1 := by rw [← bytesOf_length,h]; rfl
  refine ⟨?_,hz⟩
  rw [bytesOf_extract,h,List.drop_one,List.tail_cons,List.take_of_length_le (by omega)]
theorem integer_l0 : ∀ (l : List Int) (s : ByteArray),bytesOf s = l → s.size ≤ 64 → Ev (fun k => der_Integer.l0 k s) (strOfNums (hd 2 (cont l).length ++ cont l),0) := by
  intro l
  induction l with
  | nil =>
    intro s h hs
    have hz : s.size = 0 := by rw [← bytesOf_length,h]; rfl
    refine Ev.step (f := fun k => (der_Put.f k 2 [(⟨#[0]⟩ : ByteArray) ++ s]).bind _) (fun k => by
      simp only [der_Integer.l0]
      rw [if_neg (by omega),if_pos (toList_nil hz),if_pos (by omega)]) ?_
    exact Ev.bind (put_two (l := cont []) (by rw [bytes_zero,h]; rfl) (by decide)) (Ev.now _)
  | cons x r ih =>
    intro s h hs
    have hx := bt_head h
    obtain ⟨ht,hz⟩ := bytes_tail h
    by_cases h0 : x = 0
    · refine Ev.step (f := fun k => der_Integer.l0 k (s.extract 1 s.size)) (fun k => by
        simp only [der_Integer.l0]
        rw [if_pos (by omega),hx,if_pos h0,if_pos (by omega)]) ?_
      have e : cont (x :: r) = cont r := cont_strip (by simp only [strip]; rw [if_pos h0])
      rw [e]
      exact ih _ ht (by rw [ByteArray.size_extract]; omega)
    · have e : strip (x :: r) = x :: r := by simp only [strip]; rw [if_neg h0]
      by_cases h1 : x ≥ 128
      · have ec : cont (x :: r) = 0 :: x :: r := by unfold cont; rw [e]; simp only []; rw [if_pos h1]
        refine Ev.step (f := fun k => (der_Put.f k 2 [(⟨#[0]⟩ : ByteArray) ++ s]).bind _) (fun k => by
          simp only [der_Integer.l0]
          rw [if_pos (by omega),hx,if_neg h0,if_neg (toList_cons (by omega)),if_pos h1,if_pos (by omega)]) ?_
        exact Ev.bind (put_two (l := cont (x :: r)) (by rw [bytes_zero,h,ec]) (by have := cont_len (x :: r); simp only [List.length_cons] at this; omega)) (Ev.now _)
      · have ec : cont (x :: r) = x :: r := by unfold cont; rw [e]; simp only []; rw [if_neg h1]
        refine Ev.step (f := fun k => (der_Put.f k 2 [s]).bind _) (fun k => by
          simp only [der_Integer.l0]
          rw [if_pos (by omega),hx,if_neg h0,if_neg (toList_cons (by omega)),if_neg h1]) ?_
        exact Ev.bind (put_two (l := cont (x :: r)) (by rw [h,ec]) (by have := cont_len (x :: r); simp only [List.length_cons] at this; omega)) (Ev.now _)
theorem integer_ok {s : ByteArray} (hs : s.size ≤ 64) : Ev (fun k => der_Integer.f k s) (strOfNums (hd 2 (cont (bytesOf s)).length ++ cont (bytesOf s)),0) := by
  refine Ev.congr (f := fun k => der_Integer.l0 k s) (fun k => ?_) (integer_l0 _ s rfl hs)
  unfold der_Integer.f
  rw [if_neg (by omega)]
theorem integer_long {s : ByteArray} (hs : 64 < s.size) : Ev (fun k => der_Integer.f k s) ((⟨#[]⟩ : ByteArray),1300) := by
  refine ev_const' (fun k => ?_)
  unfold der_Integer.f
  rw [if_pos (by omega)]

end Go.Proofs.Ytonemdclfgckoaa.Pure
