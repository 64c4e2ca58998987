/- Lemmas on ext: what was written is read back, what is read is written again. Conditions: each lemma's own. -/
import Derived.Test.YtlkebjkpmiehcaaEPureLib
namespace Go.Proofs.Ytlkebjkpmiehcaa.Pure
open Go.RowKit Go.Proofs.Ytlkebjkpmiehcaa.E Go.Proofs.YtlkebjkpmiehcaaW.PrintWords Go.Proofs.YtlkebjkpmiehcaaW.PrintLast Go.Proofs.YtlkebjkpmiehcaaW.PrintMore
set_option linter.unusedVariables false
set_option linter.unusedSimpArgs false

/-! ### What was written is read back -/
theorem beL2 (x : Int) : beL 2 x = [x / 256 % 256, x % 256] := rfl
theorem encE_bytes (x : S41) : bytesOf (encE x) = beL 2 x.f0 ++ (beL 2 x.f1.size ++ bytesOf x.f1) := by
  unfold encE
  rw [bytesOf_app, bytesOf_app, bytesOf_strOf (beL_byte 2 _), bytesOf_strOf (beL_byte 2 _)]
theorem encE_len (x : S41) : (encE x).size = 4 + x.f1.size := by
  unfold encE
  rw [ByteArray.size_append, ByteArray.size_append, strOf_size, strOf_size, beL_length, beL_length]
  omega
theorem ex_step {s : ByteArray} {p d : Nat} {x : S41} {m : List Int} (ho : okE x) (h : From s p (bytesOf (encE x) ++ m)) :
    exL s (d + 1) p = (exL s d ((p + (encE x).size : Nat) : Int)).map (fun l => x :: l) ∧ From s (p + (encE x).size) m := by
  have hl := h.len
  rw [encE_bytes, List.append_assoc, List.append_assoc] at h
  obtain ⟨e1, h2⟩ := h.number
  obtain ⟨e2, h3⟩ := h2.number
  obtain ⟨e3, h4⟩ := h3.text
  rw [List.length_append, bytesOf_length, encE_len] at hl
  obtain ⟨o1, o2, o3⟩ := ho
  have E1 : nv s p 2 = x.f0 := by rw [e1]; exact Int.emod_eq_of_lt (by omega) (by omega)
  have E2 : nv s ((p : Int) + 2) 2 = x.f1.size := by
    have : ((p + 2 : Nat) : Int) = (p : Int) + 2 := by omega
    rw [← this, e2]; exact Int.emod_eq_of_lt (by omega) (by omega)
  have N : numOf s p 2 = (nv s p 2, (p : Int) + 2, 0) := by
    unfold numOf
    rw [if_neg (by omega)]
    rfl
  have V : vecOf s ((p : Int) + 2) 2 = (x.f1, ((p + (4 + x.f1.size) : Nat) : Int), 0) := by
    unfold vecOf
    rw [if_neg (by omega), E2, if_neg (by omega)]
    have a1 : ((p : Int) + 2 + (2 : Nat)).toNat = p + 2 + 2 := by omega
    have a2 : ((p : Int) + 2 + (2 : Nat) + (x.f1.size : Int)).toNat = p + 2 + 2 + x.f1.size := by omega
    have a3 : ((p : Int) + 2 + (2 : Nat) + (x.f1.size : Int)) = ((p + (4 + x.f1.size) : Nat) : Int) := by omega
    rw [a1, a2, a3, e3]
  constructor
  · rw [exL, if_pos (by omega), N, V, if_pos rfl, if_pos rfl, E1, encE_len]
  · have e4 : p + (encE x).size = p + 2 + 2 + x.f1.size := by rw [encE_len]; omega
    rw [e4]
    exact h4
def encL (l : List S41) : List Int := l.flatMap (fun x => bytesOf (encE x))
theorem encs_bytes_from : ∀ (l : List S41) (a : ByteArray), bytesOf (l.foldl (fun a x => a ++ encE x) a) = bytesOf a ++ encL l
  | [], a => by simp [encL]
  | x :: l, a => by
    rw [List.foldl_cons, encs_bytes_from l, bytesOf_app, List.append_assoc]
    simp [encL]
theorem encs_bytes (l : List S41) : bytesOf (encs l) = encL l := by
  unfold encs
  rw [encs_bytes_from]
  rfl
theorem exL_enc {s : ByteArray} : ∀ (l : List S41) (p d : Nat), (∀ x ∈ l, okE x) → l.length < d → From s p (encL l) → exL s d p = some l
  | [], p, 0, _, hd, _ => by simp at hd
  | [], p, d + 1, _, _, h => by
    have := h.len
    rw [exL, if_neg (by simp [encL] at this; omega)]
  | x :: l, p, 0, _, hd, _ => by simp at hd
  | x :: l, p, d + 1, ho, hd, h => by
    have h' : From s p (bytesOf (encE x) ++ encL l) := by simpa [encL] using h
    obtain ⟨e, h2⟩ := ex_step (d := d) (ho x (by simp)) h'
    have ih := exL_enc (s := s) l (p + (encE x).size) d (fun y hy => ho y (List.mem_cons_of_mem _ hy)) (by simpa using hd) h2
    rw [e, ih]
    rfl
theorem encL_len : ∀ (l : List S41), 4 * l.length ≤ (encL l).length
  | [] => by simp [encL]
  | x :: l => by
    have h := encL_len l
    have : encL (x :: l) = bytesOf (encE x) ++ encL l := by simp [encL]
    rw [this, List.length_append, bytesOf_length, encE_len, List.length_cons]
    omega
theorem getOf_enc {s : ByteArray} {l : List S41} (h : bytesOf s = encL l) (ho : ∀ x ∈ l, okE x) : getOf s = if dupB (kindsOf l) = true then ([], 1601) else (l, 0) := by
  have hl := encL_len l
  rw [← h, bytesOf_length] at hl
  unfold getOf
  have e := exL_enc (s := s) l 0 (s.size + 1) ho (by omega) ⟨by omega, by simpa using h⟩
  have e' : exL s (s.size + 1) 0 = some l := e
  rw [e']
  rfl
theorem get_short {t : ByteArray} (h1 : 1 ≤ t.size) (h3 : t.size ≤ 3) : getOf t = ([], 1600) := by
  unfold getOf
  rw [exL, if_pos (by omega)]
  by_cases hn : (numOf t 0 2).2.2 = 0
  · rw [if_pos hn]
    have hv : vecOf t (0 + 2) 2 = (⟨#[]⟩, 0, 100) := by
      unfold vecOf
      rw [if_pos (by omega)]
    rw [hv, if_neg (by decide)]
    rfl
  · rw [if_neg hn]
    rfl
/-! ### What is read is written again -/
theorem two_bytes {s : ByteArray} {p : Nat} (h : p + 2 ≤ s.size) : (bytesOf s).drop p = beL 2 (nv s p 2) ++ (bytesOf s).drop (p + 2) := by
  have hl := bytesOf_length s
  have b0 := bt_range s (p : Int)
  have b1 := bt_range s ((p : Int) + 1)
  have e : beL 2 (nv s p 2) = [bt s p, bt s ((p : Int) + 1)] := by
    rw [beL2]
    simp only [nv]
    have z : (p : Int) + ((0 : Nat) : Int) = p := by omega
    have z1 : (p : Int) + ((1 : Nat) : Int) = p + 1 := by omega
    rw [z, z1]
    congr 1
    · omega
    · congr 1
      omega
  rw [e, bt_get, bt_get]
  have z : ((p : Int) + 1).toNat = p + 1 := by omega
  rw [z, Int.toNat_natCast, List.drop_eq_getElem_cons (by omega), List.drop_eq_getElem_cons (i := p + 1) (by omega)]
  simp [List.getD_eq_getElem?_getD, List.getElem?_eq_getElem (show p < (bytesOf s).length by omega), List.getElem?_eq_getElem (show p + 1 < (bytesOf s).length by omega)]
theorem exL_back (s : ByteArray) : ∀ (d : Nat) (p : Nat) (l : List S41), p ≤ s.size → s.size < p + d → exL s d p = some l → (bytesOf s).drop p = encL l ∧ ∀ x ∈ l, okE x := by
  intro d
  induction d with
  | zero => intro p l h0 h1; omega
  | succ d ih =>
    intro p l h0 h1 h
    rw [exL] at h
    by_cases hlt : (p : Int) < s.size
    · rw [if_pos hlt] at h
      by_cases hn : (numOf s p 2).2.2 = 0
      · rw [if_pos hn] at h
        obtain ⟨_, hp2⟩ := num_to hn
        by_cases hv : (vecOf s (p + 2) 2).2.2 = 0
        · rw [if_pos hv] at h
          obtain ⟨b1, b2, b3, b4⟩ := vec_bd (by omega) hv
          have v := nv_bd s p 2
          have v2 := nv_bd s ((p : Int) + 2) 2
          obtain ⟨l', hl', rfl⟩ := Option.map_eq_some_iff.mp h
          obtain ⟨q, hq⟩ : ∃ q : Nat, (vecOf s (p + 2) 2).2.1 = q := ⟨(vecOf s (p + 2) 2).2.1.toNat, by omega⟩
          rw [hq] at hl' b1 b2 b3
          obtain ⟨i1, i2⟩ := ih q l' (by omega) (by omega) hl'
          have hbody : (vecOf s (p + 2) 2).1 = s.extract (p + 4) q := by
            unfold vecOf at hq hv ⊢
            by_cases hc : (p : Int) + 2 < 0 ∨ (p : Int) + 2 > s.size ∨ s.size - ((p : Int) + 2) < (2 : Nat)
            · rw [if_pos hc] at hv; simp at hv
            · rw [if_neg hc] at hv hq ⊢
              by_cases hg : nv s ((p : Int) + 2) 2 > s.size - ((p : Int) + 2 + (2 : Nat))
              · rw [if_pos hg] at hv; simp at hv
              · rw [if_neg hg] at hq ⊢
                simp only at hq ⊢
                have a1 : ((p : Int) + 2 + (2 : Nat)).toNat = p + 4 := by omega
                have a2 : ((p : Int) + 2 + (2 : Nat) + nv s ((p : Int) + 2) 2).toNat = q := by omega
                rw [a1, a2]
          refine ⟨?_, ?_⟩
          · have s1 := two_bytes (s := s) (p := p) (by omega)
            have s2 := two_bytes (s := s) (p := p + 2) (by omega)
            have e2 : ((p + 2 : Nat) : Int) = (p : Int) + 2 := by omega
            rw [e2, b4] at s2
            have s3 : (bytesOf s).drop (p + 2 + 2) = bytesOf (vecOf s (p + 2) 2).1 ++ (bytesOf s).drop q := by
              rw [hbody, bytesOf_extract]
              have hd : (bytesOf s).drop q = ((bytesOf s).drop (p + 4)).drop (q - (p + 4)) := by rw [List.drop_drop]; congr 1; omega
              rw [hd, List.take_append_drop]
            have e3 : encL ((⟨nv s p 2, (vecOf s (p + 2) 2).1⟩ : S41) :: l') = bytesOf (encE ⟨nv s p 2, (vecOf s (p + 2) 2).1⟩) ++ encL l' := by simp [encL]
            rw [e3, encE_bytes, s1, s2, s3, i1]
            simp only [List.append_assoc]
          · intro x hx
            rcases List.mem_cons.mp hx with rfl | hx
            · refine ⟨v.1, ?_, ?_⟩
              · have := v.2; show nv s p 2 ≤ 65535; omega
              · have := v2.2; show (vecOf s (p + 2) 2).1.size ≤ 65535; omega
            · exact i2 x hx
        · rw [if_neg hv] at h; simp at h
      · rw [if_neg hn] at h; simp at h
    · rw [if_neg hlt] at h
      obtain rfl := Option.some.inj h
      refine ⟨?_, by simp⟩
      rw [List.drop_eq_nil_of_le (by rw [bytesOf_length]; omega)]
      rfl
theorem putL_ok : ∀ (r pre : List S41), (∀ x ∈ r, okE x) → putL pre r = if dupB (kindsOf (pre ++ r)) = true then (⟨#[]⟩, 1601) else (encs (pre ++ r), 0)
  | [], pre, _ => by simp [putL]
  | x :: r, pre, h => by
    rw [putL, if_pos (h x (by simp)), putL_ok r _ (fun y hy => h y (List.mem_cons_of_mem _ hy))]
    simp
theorem putL_no : ∀ (r pre : List S41), ¬ (∀ x ∈ r, okE x) → putL pre r = (⟨#[]⟩, 1600)
  | [], pre, h => absurd (by simp) h
  | x :: r, pre, h => by
    rw [putL]
    by_cases hx : okE x
    · rw [if_pos hx]
      exact putL_no r _ (fun hr => h (fun y hy => by rcases List.mem_cons.mp hy with rfl | hy; exact hx; exact hr y hy))
    · rw [if_neg hx]
theorem putL_is {l : List S41} (h : (putL [] l).2 = 0) : putL [] l = (encs l, 0) ∧ (∀ x ∈ l, okE x) ∧ dupB (kindsOf l) = false := by
  by_cases ho : ∀ x ∈ l, okE x
  · rw [putL_ok l [] ho, List.nil_append] at h ⊢
    by_cases hu : dupB (kindsOf l) = true
    · rw [if_pos hu] at h; simp at h
    · rw [if_neg hu]
      exact ⟨rfl, ho, by simpa using hu⟩
  · rw [putL_no l [] ho] at h; simp at h
theorem getOf_is {s : ByteArray} (h : (getOf s).2 = 0) : bytesOf s = encL (getOf s).1 ∧ (∀ x ∈ (getOf s).1, okE x) ∧ dupB (kindsOf (getOf s).1) = false := by
  unfold getOf at h ⊢
  cases he : exL s (s.size + 1) 0 with
  | none => rw [he] at h; simp [fin] at h
  | some l =>
    rw [he] at h
    simp only [fin, List.nil_append] at h ⊢
    by_cases hu : dupB (kindsOf l) = true
    · rw [if_pos hu] at h; simp at h
    · rw [if_neg hu]
      obtain ⟨h1, h2⟩ := exL_back s (s.size + 1) 0 l (by omega) (by omega) he
      exact ⟨by simpa using h1, h2, by simpa using hu⟩
theorem getOf_no {s : ByteArray} (h : ¬ (getOf s).2 = 0) : (getOf s).1 = [] := by
  unfold getOf at h ⊢
  cases he : exL s (s.size + 1) 0 with
  | none => rfl
  | some l =>
    rw [he] at h
    simp only [fin, List.nil_append] at h ⊢
    by_cases hu : dupB (kindsOf l) = true
    · rw [if_pos hu]
    · rw [if_neg hu] at h; simp at h

end Go.Proofs.Ytlkebjkpmiehcaa.Pure
