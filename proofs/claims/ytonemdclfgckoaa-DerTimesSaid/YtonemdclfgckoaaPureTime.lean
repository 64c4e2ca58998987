/- Lemmas on der.Time and the calendar. Conditions: each lemma's own. -/
import Derived.Test.YtonemdclfgckoaaXx10
import Derived.Test.YtonemdclfgckoaaXx3
import Derived.Test.YtonemdclfgckoaaXx9
import Derived.Test.YtonemdclfgckoaaPurePut
namespace Go.Proofs.Ytonemdclfgckoaa.Pure
open Go.RowKit Go.Proofs.Ytonemdclfgckoaa.X Go.Proofs.YtonemdclfgckoaaW.PrintWords Go.Proofs.YtonemdclfgckoaaW.PrintLast Go.Proofs.YtonemdclfgckoaaW.PrintMore
set_option linter.unusedVariables false
set_option linter.unusedSimpArgs false

def yl (y : Nat) : Nat := if y % 4 = 0 then 366 else 365
def ml (y m : Nat) : Nat := if m = 2 then (if y % 4 = 0 then 29 else 28) else if m = 4 ∨ m = 6 ∨ m = 9 ∨ m = 11 then 30 else 31
/-- How many days lie ahead of the year y. -/
def dby (y : Nat) : Nat := 365 * (y - 1970) + (y - 1969) / 4
/-- How many days of the year y lie ahead of its month m. -/
def cum (y : Nat) : Nat → Nat
  | 0 => 0
  | 1 => 0
  | m + 2 => cum y (m + 1) + ml y (m + 1)
theorem cum_succ (y : Nat) {m : Nat} (h : 1 ≤ m) : cum y (m + 1) = cum y m + ml y m := by
  obtain ⟨n,rfl⟩ : ∃ n,m = n + 1 := ⟨m - 1,by omega⟩
  rfl
theorem dby_succ {y : Nat} (h : 1970 ≤ y) : dby (y + 1) = dby y + yl y := by
  unfold dby yl
  split <;> omega
theorem dby_mono {y z : Nat} (h : y ≤ z) : dby y ≤ dby z := by
  unfold dby
  omega
theorem cum_13 (y : Nat) : cum y 13 = yl y := by
  simp only [cum,ml,yl]
  simp
  split <;> rfl
theorem cum_mono (y : Nat) : ∀ {m n : Nat},m ≤ n → cum y m ≤ cum y n := by
  intro m n h
  induction n with
  | zero => rw [Nat.le_zero.mp h]; exact Nat.le_refl _
  | succ n ih =>
    by_cases e : m = n + 1
    · rw [e]; exact Nat.le_refl _
    · have := ih (by omega)
      by_cases h1 : 1 ≤ n
      · rw [cum_succ y h1]; omega
      · have : n = 0 := by omega
        subst this
        have : m = 0 := by omega
        subst this
        exact Nat.le_refl _
theorem ml_pos (y m : Nat) : 28 ≤ ml y m ∧ ml y m ≤ 31 := by
  unfold ml
  split
  · split <;> omega
  · split <;> omega
theorem find_year (D : Nat) (n : Nat) (h : D < dby (1970 + n)) : ∃ y,1970 ≤ y ∧ y < 1970 + n ∧ dby y ≤ D ∧ D < dby (y + 1) := by
  induction n with
  | zero => exact absurd h (Nat.not_lt_zero _)
  | succ n ih =>
    by_cases h1 : D < dby (1970 + n)
    · obtain ⟨y,a,b,c,d⟩ := ih h1
      exact ⟨y,a,by omega,c,d⟩
    · exact ⟨1970 + n,by omega,by omega,by omega,h⟩
theorem find_month (y d : Nat) : ∀ n,d < cum y (n + 1) → ∃ m,1 ≤ m ∧ m ≤ n ∧ cum y m ≤ d ∧ d < cum y (m + 1)
  | 0,h => by simp [cum] at h
  | n + 1,h => by
    by_cases h1 : d < cum y (n + 1)
    · obtain ⟨m,a,b,c,e⟩ := find_month y d n h1
      exact ⟨m,a,by omega,c,e⟩
    · exact ⟨n + 1,by omega,by omega,by omega,h⟩
/-- The day's year, month and day. -/
structure Day (D y m r : Nat) : Prop where
  y0 : 1970 ≤ y
  y1 : y < 2050
  m0 : 1 ≤ m
  m1 : m ≤ 12
  hr : r < ml y m
  hD : D = dby y + cum y m + r
theorem day_of {D : Nat} (h : D < 29220) : ∃ y m r,Day D y m r := by
  obtain ⟨y,a,b,c,d⟩ := find_year D 80 h
  rw [dby_succ a] at d
  obtain ⟨m,e,f,g,i⟩ := find_month y (D - dby y) 12 (by rw [cum_13]; omega)
  rw [cum_succ y e] at i
  exact ⟨y,m,D - dby y - cum y m,a,b,e,f,by omega,by omega⟩
theorem Day.lt {D y m r : Nat} (h : Day D y m r) : D < 29220 := by
  have h1 := cum_succ y h.m0
  have h2 := cum_mono y (show m + 1 ≤ 13 by have := h.m1; omega)
  rw [cum_13] at h2
  have h3 := dby_succ h.y0
  have h4 := dby_mono (show y + 1 ≤ 2050 by have := h.y1; omega)
  have h5 : dby 2050 = 29220 := by decide
  have h6 := h.hr
  have h7 := h.hD
  omega
theorem Day.year {D y m r : Nat} (h : Day D y m r) : dby y ≤ D ∧ D < dby (y + 1) := by
  have h1 := cum_succ y h.m0
  have h2 := cum_mono y (show m + 1 ≤ 13 by have := h.m1; omega)
  rw [cum_13] at h2
  have h3 := dby_succ h.y0
  have h6 := h.hr
  have h7 := h.hD
  omega
theorem leap_tab : ∀ i : Fin 80,der_leap.f ((1970 + (i : Nat) : Nat) : Int) = some (decide ((1970 + (i : Nat)) % 4 = 0)) := by decide +kernel
theorem yearDays_tab : ∀ i : Fin 80,der_yearDays.f ((1970 + (i : Nat) : Nat) : Int) = some ((yl (1970 + (i : Nat)) : Nat) : Int) := by decide +kernel
theorem days_tab : ∀ (i : Fin 80) (j : Fin 12),der_days.f ((1970 + (i : Nat) : Nat) : Int) ((1 + (j : Nat) : Nat) : Int) = some ((ml (1970 + (i : Nat)) (1 + (j : Nat)) : Nat) : Int) := by decide +kernel
theorem yearDays_ok {y : Nat} (h : 1970 ≤ y) (h1 : y < 2050) : der_yearDays.f (y : Int) = some ((yl y : Nat) : Int) := by
  have := yearDays_tab ⟨y - 1970,by omega⟩
  simp only [show 1970 + (y - 1970) = y by omega] at this
  exact this
theorem days_ok {y m : Nat} (h : 1970 ≤ y) (h1 : y < 2050) (h2 : 1 ≤ m) (h3 : m ≤ 12) : der_days.f (y : Int) (m : Int) = some ((ml y m : Nat) : Int) := by
  have := days_tab ⟨y - 1970,by omega⟩ ⟨m - 1,by omega⟩
  simp only [show 1970 + (y - 1970) = y by omega,show 1 + (m - 1) = m by omega] at this
  exact this
/-- Two figures. -/
def dig (x : Nat) : List Int := [48 + (x : Int) / 10,48 + (x : Int) % 10]
theorem dig_byte {x : Nat} (h : x < 100) : Byte (dig x) := by
  intro z hz
  simp [dig] at hz
  omega
theorem dig_of {x : Nat} (h : x < 100) : [(wrap64 (48 + (wrap64 (Int.tdiv (x : Int) 10)))) % 256,(wrap64 (48 + (Int.tmod (x : Int) 10))) % 256] = dig x := by
  unfold dig
  rw [Int.tdiv_eq_ediv_of_nonneg (by omega),Int.tmod_eq_emod_of_nonneg (by omega),w64 (a := (x : Int) / 10) (by omega) (by omega),w64 (by omega) (by omega),w64 (by omega) (by omega)]
  congr 1
  · omega
  · congr 1
    omega
/-- A moment's text. -/
def timeL (y m r t : Nat) : List Int := dig (y % 100) ++ dig m ++ dig (r + 1) ++ dig (t / 3600) ++ dig (t / 60 % 60) ++ dig (t % 60) ++ [90]
theorem timeL_len (y m r t : Nat) : (timeL y m r t).length = 13 := rfl
theorem digs_byte {a b c d e f : Nat} (ha : a < 100) (hb : b < 100) (hc : c < 100) (hd : d < 100) (he : e < 100) (hf : f < 100) : Byte (dig a ++ dig b ++ dig c ++ dig d ++ dig e ++ dig f) := by
  intro z hz
  simp only [List.mem_append] at hz
  rcases hz with ((((hz | hz) | hz) | hz) | hz) | hz
  · exact dig_byte ha z hz
  · exact dig_byte hb z hz
  · exact dig_byte hc z hz
  · exact dig_byte hd z hz
  · exact dig_byte he z hz
  · exact dig_byte hf z hz
theorem Day.timeL_byte {D y m r : Nat} (h : Day D y m r) {t : Nat} (ht : t < 86400) : Byte (timeL y m r t) := by
  have h1 := h.m1
  have h2 := h.hr
  have h3 := ml_pos y m
  intro z hz
  unfold timeL at hz
  rcases List.mem_append.mp hz with hz | hz
  · exact digs_byte (by omega) (by omega) (by omega) (by omega) (by omega) (by omega) z hz
  · simp at hz; omega
theorem time_z {x8 : List Int} (hb : Byte x8) (hl : x8.length = 12) (a b c d e f : Int) : Ev (fun k => der_Time.l2 k x8 6 a b c d e f) (strOfNums (hd 23 13 ++ (x8 ++ [90])),0) := by
  have hf : flat [strOfNums x8,(⟨#[90]⟩ : ByteArray)] = x8 ++ [90] := by
    simp only [flat,List.append_nil]
    rw [bytesOf_strOf hb]
    rfl
  have hp := put_ok (t := 23) (l := [strOfNums x8,(⟨#[90]⟩ : ByteArray)]) ⟨by decide,by decide,by decide⟩ (by simp) (by rw [hf,List.length_append,hl]; decide)
  rw [hf] at hp
  have hn : (x8 ++ [90]).length = 13 := by rw [List.length_append,hl]; rfl
  rw [hn] at hp
  refine Ev.step (f := fun k => (der_Put.f k 23 [strOfNums x8,(⟨#[90]⟩ : ByteArray)]).bind _) (fun k => by simp only [der_Time.l2]; rw [if_neg (by decide)]) ?_
  exact Ev.bind hp (Ev.now _)
theorem time_5 {x8 : List Int} (hb : Byte x8) (hl : x8.length = 10) {a b c d e f : Nat} (ha : a < 100) (hb' : b < 100) (hc : c < 100) (hd' : d < 100) (he : e < 100) (hf : f < 100) : Ev (fun k => der_Time.l2 k x8 5 (a : Int) (b : Int) (c : Int) (d : Int) (e : Int) (f : Int)) (strOfNums (hd 23 13 ++ (x8 ++ (dig f ++ [90]))),0) := by
  have hB : Byte (x8 ++ dig f) := by
    intro z hz
    rcases List.mem_append.mp hz with hz | hz
    · exact hb z hz
    · exact dig_byte hf z hz
  have h1 := time_z hB (by rw [List.length_append,hl]; rfl) (a : Int) (b : Int) (c : Int) (d : Int) (e : Int) (f : Int)
  simp only [List.append_assoc] at h1 ⊢
  refine Ev.step (f := fun k => der_Time.l2 k (x8 ++ dig f) 6 (a : Int) (b : Int) (c : Int) (d : Int) (e : Int) (f : Int)) (fun k => ?_) h1
  simp only [der_Time.l2]
  rw [if_pos (show (5 : Int) < 6 by decide),if_neg (show ¬ ((5 : Int) = 0) by decide),if_neg (show ¬ ((5 : Int) = 1) by decide),if_neg (show ¬ ((5 : Int) = 2) by decide),if_neg (show ¬ ((5 : Int) = 3) by decide),if_neg (show ¬ ((5 : Int) = 4) by decide),if_pos trivial]
  refine bindE rfl ?_
  rw [dig_of hf,if_pos (by show x8.length + 2 < 140737488355328; omega),w64 (by omega) (by omega)]
  rfl
theorem time_4 {x8 : List Int} (hb : Byte x8) (hl : x8.length = 8) {a b c d e f : Nat} (ha : a < 100) (hb' : b < 100) (hc : c < 100) (hd' : d < 100) (he : e < 100) (hf : f < 100) : Ev (fun k => der_Time.l2 k x8 4 (a : Int) (b : Int) (c : Int) (d : Int) (e : Int) (f : Int)) (strOfNums (hd 23 13 ++ (x8 ++ (dig e ++ dig f ++ [90]))),0) := by
  have hB : Byte (x8 ++ dig e) := by
    intro z hz
    rcases List.mem_append.mp hz with hz | hz
    · exact hb z hz
    · exact dig_byte he z hz
  have h1 := time_5 hB (by rw [List.length_append,hl]; rfl) ha hb' hc hd' he hf
  simp only [List.append_assoc] at h1 ⊢
  refine Ev.step (f := fun k => der_Time.l2 k (x8 ++ dig e) 5 (a : Int) (b : Int) (c : Int) (d : Int) (e : Int) (f : Int)) (fun k => ?_) h1
  simp only [der_Time.l2]
  rw [if_pos (show (4 : Int) < 6 by decide),if_neg (show ¬ ((4 : Int) = 0) by decide),if_neg (show ¬ ((4 : Int) = 1) by decide),if_neg (show ¬ ((4 : Int) = 2) by decide),if_neg (show ¬ ((4 : Int) = 3) by decide),if_pos trivial]
  refine bindE rfl ?_
  rw [dig_of he,if_pos (by show x8.length + 2 < 140737488355328; omega),w64 (by omega) (by omega)]
  rfl
theorem time_3 {x8 : List Int} (hb : Byte x8) (hl : x8.length = 6) {a b c d e f : Nat} (ha : a < 100) (hb' : b < 100) (hc : c < 100) (hd' : d < 100) (he : e < 100) (hf : f < 100) : Ev (fun k => der_Time.l2 k x8 3 (a : Int) (b : Int) (c : Int) (d : Int) (e : Int) (f : Int)) (strOfNums (hd 23 13 ++ (x8 ++ (dig d ++ dig e ++ dig f ++ [90]))),0) := by
  have hB : Byte (x8 ++ dig d) := by
    intro z hz
    rcases List.mem_append.mp hz with hz | hz
    · exact hb z hz
    · exact dig_byte hd' z hz
  have h1 := time_4 hB (by rw [List.length_append,hl]; rfl) ha hb' hc hd' he hf
  simp only [List.append_assoc] at h1 ⊢
  refine Ev.step (f := fun k => der_Time.l2 k (x8 ++ dig d) 4 (a : Int) (b : Int) (c : Int) (d : Int) (e : Int) (f : Int)) (fun k => ?_) h1
  simp only [der_Time.l2]
  rw [if_pos (show (3 : Int) < 6 by decide),if_neg (show ¬ ((3 : Int) = 0) by decide),if_neg (show ¬ ((3 : Int) = 1) by decide),if_neg (show ¬ ((3 : Int) = 2) by decide),if_pos trivial]
  refine bindE rfl ?_
  rw [dig_of hd',if_pos (by show x8.length + 2 < 140737488355328; omega),w64 (by omega) (by omega)]
  rfl
theorem time_2 {x8 : List Int} (hb : Byte x8) (hl : x8.length = 4) {a b c d e f : Nat} (ha : a < 100) (hb' : b < 100) (hc : c < 100) (hd' : d < 100) (he : e < 100) (hf : f < 100) : Ev (fun k => der_Time.l2 k x8 2 (a : Int) (b : Int) (c : Int) (d : Int) (e : Int) (f : Int)) (strOfNums (hd 23 13 ++ (x8 ++ (dig c ++ dig d ++ dig e ++ dig f ++ [90]))),0) := by
  have hB : Byte (x8 ++ dig c) := by
    intro z hz
    rcases List.mem_append.mp hz with hz | hz
    · exact hb z hz
    · exact dig_byte hc z hz
  have h1 := time_3 hB (by rw [List.length_append,hl]; rfl) ha hb' hc hd' he hf
  simp only [List.append_assoc] at h1 ⊢
  refine Ev.step (f := fun k => der_Time.l2 k (x8 ++ dig c) 3 (a : Int) (b : Int) (c : Int) (d : Int) (e : Int) (f : Int)) (fun k => ?_) h1
  simp only [der_Time.l2]
  rw [if_pos (show (2 : Int) < 6 by decide),if_neg (show ¬ ((2 : Int) = 0) by decide),if_neg (show ¬ ((2 : Int) = 1) by decide),if_pos trivial]
  refine bindE rfl ?_
  rw [dig_of hc,if_pos (by show x8.length + 2 < 140737488355328; omega),w64 (by omega) (by omega)]
  rfl
theorem time_1 {x8 : List Int} (hb : Byte x8) (hl : x8.length = 2) {a b c d e f : Nat} (ha : a < 100) (hb' : b < 100) (hc : c < 100) (hd' : d < 100) (he : e < 100) (hf : f < 100) : Ev (fun k => der_Time.l2 k x8 1 (a : Int) (b : Int) (c : Int) (d : Int) (e : Int) (f : Int)) (strOfNums (hd 23 13 ++ (x8 ++ (dig b ++ dig c ++ dig d ++ dig e ++ dig f ++ [90]))),0) := by
  have hB : Byte (x8 ++ dig b) := by
    intro z hz
    rcases List.mem_append.mp hz with hz | hz
    · exact hb z hz
    · exact dig_byte hb' z hz
  have h1 := time_2 hB (by rw [List.length_append,hl]; rfl) ha hb' hc hd' he hf
  simp only [List.append_assoc] at h1 ⊢
  refine Ev.step (f := fun k => der_Time.l2 k (x8 ++ dig b) 2 (a : Int) (b : Int) (c : Int) (d : Int) (e : Int) (f : Int)) (fun k => ?_) h1
  simp only [der_Time.l2]
  rw [if_pos (show (1 : Int) < 6 by decide),if_neg (show ¬ ((1 : Int) = 0) by decide),if_pos trivial]
  refine bindE rfl ?_
  rw [dig_of hb',if_pos (by show x8.length + 2 < 140737488355328; omega),w64 (by omega) (by omega)]
  rfl
theorem time_0 {x8 : List Int} (hb : Byte x8) (hl : x8.length = 0) {a b c d e f : Nat} (ha : a < 100) (hb' : b < 100) (hc : c < 100) (hd' : d < 100) (he : e < 100) (hf : f < 100) : Ev (fun k => der_Time.l2 k x8 0 (a : Int) (b : Int) (c : Int) (d : Int) (e : Int) (f : Int)) (strOfNums (hd 23 13 ++ (x8 ++ (dig a ++ dig b ++ dig c ++ dig d ++ dig e ++ dig f ++ [90]))),0) := by
  have hB : Byte (x8 ++ dig a) := by
    intro z hz
    rcases List.mem_append.mp hz with hz | hz
    · exact hb z hz
    · exact dig_byte ha z hz
  have h1 := time_1 hB (by rw [List.length_append,hl]; rfl) ha hb' hc hd' he hf
  simp only [List.append_assoc] at h1 ⊢
  refine Ev.step (f := fun k => der_Time.l2 k (x8 ++ dig a) 1 (a : Int) (b : Int) (c : Int) (d : Int) (e : Int) (f : Int)) (fun k => ?_) h1
  simp only [der_Time.l2]
  rw [if_pos (show (0 : Int) < 6 by decide),if_pos trivial]
  refine bindE rfl ?_
  rw [dig_of ha,if_pos (by show x8.length + 2 < 140737488355328; omega),w64 (by omega) (by omega)]
  rfl
theorem time_months {D y m r t : Nat} (h : Day D y m r) (ht : t < 86400) : ∀ n i,i + n = m → 1 ≤ i → Ev (fun k => der_Time.l1 k ((D - dby y - cum y i : Nat) : Int) (t : Int) (y : Int) (i : Int)) (strOfNums (hd 23 13 ++ timeL y m r t),0) := by
  have hy := h.year
  have hlt := h.lt
  have hD := h.hD
  have hr := h.hr
  have m1 := h.m1
  have mp := ml_pos y m
  intro n
  induction n with
  | zero =>
    intro i hi h1
    obtain rfl : i = m := by omega
    have k0 := time_0 (x8 := []) (fun z hz => by simp at hz) rfl (a := y % 100) (b := i) (c := r + 1) (d := t / 3600) (e := t / 60 % 60) (f := t % 60) (by omega) (by omega) (by omega) (by omega) (by omega) (by omega)
    simp only [List.nil_append] at k0
    have e0 : D - dby y - cum y i = r := by omega
    rw [e0]
    refine Ev.step (f := fun k => der_Time.l2 k [] 0 ((y % 100 : Nat) : Int) (i : Int) ((r + 1 : Nat) : Int) ((t / 3600 : Nat) : Int) ((t / 60 % 60 : Nat) : Int) ((t % 60 : Nat) : Int)) (fun k => ?_) k0
    simp only [der_Time.l1]
    refine bindE (days_ok h.y0 h.y1 h.m0 h.m1) ?_
    rw [if_neg (by omega),w64 (by omega) (by omega),Int.tmod_eq_emod_of_nonneg (by omega),Int.tdiv_eq_ediv_of_nonneg (by omega),Int.tdiv_eq_ediv_of_nonneg (by omega),w64 (a := (t : Int) / 3600) (by omega) (by omega),w64 (a := (t : Int) / 60) (by omega) (by omega),Int.tmod_eq_emod_of_nonneg (by omega),Int.tmod_eq_emod_of_nonneg (by omega)]
    rfl
  | succ n ih =>
    intro i hi h1
    have c1 := cum_succ y h1
    have mi := ml_pos y i
    have c2 := cum_mono y (show i + 1 ≤ m by omega)
    have k1 := ih (i + 1) (by omega) (by omega)
    refine Ev.step (f := fun k => der_Time.l1 k ((D - dby y - cum y (i + 1) : Nat) : Int) (t : Int) (y : Int) ((i + 1 : Nat) : Int)) (fun k => ?_) k1
    simp only [der_Time.l1]
    have hd := days_ok h.y0 h.y1 h1 (by omega)
    refine bindE hd ?_
    rw [if_pos (by omega)]
    refine bindE hd ?_
    rw [w64 (by omega) (by omega),w64 (by omega) (by omega)]
    rw [show ((D - dby y - cum y i : Nat) : Int) - ((ml y i : Nat) : Int) = ((D - dby y - cum y (i + 1) : Nat) : Int) by omega]
    rfl
theorem time_years {D y m r t : Nat} (h : Day D y m r) (ht : t < 86400) : ∀ n j,j + n = y → 1970 ≤ j → Ev (fun k => der_Time.l0 k ((D - dby j : Nat) : Int) (t : Int) (j : Int) 1) (strOfNums (hd 23 13 ++ timeL y m r t),0) := by
  have hy := h.year
  have hlt := h.lt
  have y1 := h.y1
  have hs := dby_succ h.y0
  intro n
  induction n with
  | zero =>
    intro j hj h1
    obtain rfl : j = y := by omega
    refine Ev.step (f := fun k => der_Time.l1 k ((D - dby j - cum j 1 : Nat) : Int) (t : Int) (j : Int) ((1 : Nat) : Int)) (fun k => ?_) (time_months h ht (m - 1) 1 (by have := h.m0; omega) (by omega))
    simp only [der_Time.l0]
    refine bindE (yearDays_ok h.y0 h.y1) ?_
    rw [if_neg (by omega)]
    rfl
  | succ n ih =>
    intro j hj h1
    have c1 := dby_succ h1
    have c2 := dby_mono (show j + 1 ≤ y by omega)
    refine Ev.step (f := fun k => der_Time.l0 k ((D - dby (j + 1) : Nat) : Int) (t : Int) ((j + 1 : Nat) : Int) 1) (fun k => ?_) (ih (j + 1) (by omega) (by omega))
    simp only [der_Time.l0]
    have hd := yearDays_ok h1 (by omega)
    refine bindE hd ?_
    rw [if_pos (by omega)]
    refine bindE hd ?_
    have yy : yl j ≤ 366 := by unfold yl; split <;> omega
    rw [w64 (by omega) (by omega),w64 (by omega) (by omega)]
    rw [show ((D - dby j : Nat) : Int) - ((yl j : Nat) : Int) = ((D - dby (j + 1) : Nat) : Int) by omega]
    rfl
theorem time_ok {x y m r : Nat} (h : Day (x / 86400) y m r) : Ev (fun k => der_Time.f k (x : Int)) (strOfNums (hd 23 13 ++ timeL y m r (x % 86400)),0) := by
  have hlt := h.lt
  refine Ev.congr (f := fun k => der_Time.j0 k (x : Int) false) (fun k => ?_) ?_
  · unfold der_Time.f
    rw [if_neg (by omega)]
    congr 1
    exact decide_eq_false (by omega)
  · refine Ev.step (f := fun k => der_Time.l0 k ((x / 86400 - dby 1970 : Nat) : Int) ((x % 86400 : Nat) : Int) ((1970 : Nat) : Int) 1) (fun k => ?_) (time_years h (by omega) (y - 1970) 1970 (by have := h.y0; omega) (by omega))
    simp only [der_Time.j0]
    rw [if_neg (by simp),Int.tdiv_eq_ediv_of_nonneg (by omega),Int.tmod_eq_emod_of_nonneg (by omega),w64 (by omega) (by omega)]
    rfl
theorem time_bad {x : Int} (h : x < 0 ∨ x > 2524607999) : Ev (fun k => der_Time.f k x) ((⟨#[]⟩ : ByteArray),1300) := by
  refine Ev.congr (f := fun k => der_Time.j0 k x true) (fun k => ?_) ?_
  · unfold der_Time.f
    by_cases h0 : x < 0
    · rw [if_pos h0]
    · rw [if_neg h0]
      congr 1
      exact decide_eq_true (by omega)
  · refine Ev.step (f := fun _ => some ((⟨#[]⟩ : ByteArray),1300)) (fun k => ?_) (Ev.now _)
    simp only [der_Time.j0]
    rw [if_pos trivial]

end Go.Proofs.Ytonemdclfgckoaa.Pure
