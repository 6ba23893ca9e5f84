import PyProof.Rows.All
import Wide.All
import OpenK.AllK
import Wide.FinOn
import HandS.ForExc
import HandS.ForMost
import HandS.Zip
import HandS.Walk
import HandS.Strs
import HandS.SetFor
import HandS.TupAny
import HandS.IsInst
import HandS.Wide
import HandS.Conv
import KE.GoesEnum
import KE.GoesMore
import PyProof.Rows.SetFrom
import HandS.Evl
import PySem.Challenge.RW_cheapcovers_k34_whole_both_sides
set_option Elab.async false
set_option linter.all false
namespace K34

/-! sums of the first n values -/
def S : Nat → (Nat → Rat) → Rat
  | 0, _ => 0
  | n + 1, f => S n f + f n

theorem S_congr {n : Nat} {f g : Nat → Rat} (h : ∀ i, i < n → f i = g i) : S n f = S n g := by
  induction n with
  | zero => rfl
  | succ n ih => simp only [S]; rw [ih (fun i hi => h i (by omega)), h n (by omega)]

theorem S_zero (n : Nat) : S n (fun _ => 0) = 0 := by
  induction n with
  | zero => rfl
  | succ n ih => simp only [S]; rw [ih]; grind

theorem S_zero' {n : Nat} {f : Nat → Rat} (h : ∀ i, i < n → f i = 0) : S n f = 0 := by
  rw [S_congr h, S_zero]

theorem S_add (n : Nat) (f g : Nat → Rat) : S n (fun i => f i + g i) = S n f + S n g := by
  induction n with
  | zero => simp only [S]; grind
  | succ n ih => simp only [S]; rw [ih]; grind

theorem S_sub (n : Nat) (f g : Nat → Rat) : S n (fun i => f i - g i) = S n f - S n g := by
  induction n with
  | zero => simp only [S]; grind
  | succ n ih => simp only [S]; rw [ih]; grind

theorem S_mul (n : Nat) (c : Rat) (f : Nat → Rat) : S n (fun i => c * f i) = c * S n f := by
  induction n with
  | zero => simp only [S]; grind
  | succ n ih => simp only [S]; rw [ih]; grind

theorem S_mulr (n : Nat) (c : Rat) (f : Nat → Rat) : S n (fun i => f i * c) = S n f * c := by
  induction n with
  | zero => simp only [S]; grind
  | succ n ih => simp only [S]; rw [ih]; grind

theorem S_comm (n m : Nat) (f : Nat → Nat → Rat) :
    S n (fun i => S m (fun j => f i j)) = S m (fun j => S n (fun i => f i j)) := by
  induction n with
  | zero => simp only [S]; rw [S_zero]
  | succ n ih => simp only [S]; rw [ih, ← S_add]

theorem S_upd {n r : Nat} (hr : r < n) (x : Rat) (f : Nat → Rat) :
    S n (fun i => if i = r then x else f i) = S n f - f r + x := by
  induction n with
  | zero => omega
  | succ n ih =>
    simp only [S]
    by_cases e : n = r
    · subst e
      rw [if_pos rfl, S_congr (g := f) (fun i hi => if_neg (by omega))]
      grind
    · rw [ih (by omega), if_neg e]; grind

theorem S_pick {n r : Nat} (hr : r < n) (f : Nat → Rat) :
    S n (fun i => if i = r then f i else 0) = f r := by
  have h := S_upd hr (f r) (fun _ => 0)
  rw [S_zero] at h
  rw [S_congr (g := fun i => if i = r then f r else 0) (fun i _ => by by_cases e : i = r <;> simp [e]), h]
  grind

theorem S_nonneg {n : Nat} {f : Nat → Rat} (h : ∀ i, i < n → 0 ≤ f i) : 0 ≤ S n f := by
  induction n with
  | zero => simp only [S]; grind
  | succ n ih =>
    simp only [S]
    have h1 := ih (fun i hi => h i (by omega))
    have h2 := h n (by omega)
    grind

theorem S_le {n : Nat} {f g : Nat → Rat} (h : ∀ i, i < n → f i ≤ g i) : S n f ≤ S n g := by
  induction n with
  | zero => simp only [S]; grind
  | succ n ih =>
    simp only [S]
    have h1 := ih (fun i hi => h i (by omega))
    have h2 := h n (by omega)
    grind

theorem S_le_one {n : Nat} {f : Nat → Rat} (h : ∀ i, i < n → 0 ≤ f i) {r : Nat} (hr : r < n) : f r ≤ S n f := by
  induction n with
  | zero => omega
  | succ n ih =>
    simp only [S]
    have hp := S_nonneg (n := n) (f := f) (fun i hi => h i (by omega))
    by_cases e : r = n
    · subst e; grind
    · have h1 := ih (fun i hi => h i (by omega)) (by omega)
      have h2 := h n (by omega)
      grind

theorem S_append (m n : Nat) (f : Nat → Rat) : S (m + n) f = S m f + S n (fun k => f (m + k)) := by
  induction n with
  | zero => simp only [S, Nat.add_zero]; grind
  | succ n ih => rw [← Nat.add_assoc]; simp only [S]; rw [ih]; grind

theorem S_neg_has {n : Nat} {f : Nat → Rat} (h : S n f < 0) : ∃ i, i < n ∧ f i < 0 := by
  induction n with
  | zero => simp only [S] at h; grind
  | succ n ih =>
    simp only [S] at h
    by_cases e : f n < 0
    · exact ⟨n, by omega, e⟩
    · obtain ⟨i, hi, hf⟩ := ih (by grind)
      exact ⟨i, by omega, hf⟩

theorem mul_nonneg {a b : Rat} (ha : 0 ≤ a) (hb : 0 ≤ b) : 0 ≤ a * b := Rat.mul_nonneg ha hb

/-- a pigeonhole: a function with values below B meets one value twice among its first B + 1 -/
theorem pigeon : ∀ (B : Nat) (f : Nat → Nat), (∀ k, k ≤ B → f k < B) → ∃ i j, i < j ∧ j ≤ B ∧ f i = f j
  | 0, f, h => absurd (h 0 (by omega)) (by omega)
  | B + 1, f, h => by
    -- the last one's value is taken by the value B
    by_cases e : ∃ i, i < B + 1 ∧ f i = f (B + 1)
    · obtain ⟨i, hi, hf⟩ := e
      exact ⟨i, B + 1, hi, by omega, hf⟩
    · have hne : ∀ i, i < B + 1 → f i ≠ f (B + 1) := fun i hi hf => e ⟨i, hi, hf⟩
      have hB := h (B + 1) (by omega)
      obtain ⟨i, j, hij, hj, hf⟩ := pigeon B (fun k => if f k = B then f (B + 1) else f k) (fun k hk => by
        have h1 := h k (by omega)
        have h2 := hne k (by omega)
        by_cases e2 : f k = B
        · simp only [e2, if_true]; omega
        · simp only [e2, if_false]; omega)
      refine ⟨i, j, hij, by omega, ?_⟩
      have h1 := hne i (by omega)
      have h2 := hne j (by omega)
      by_cases e1 : f i = B <;> by_cases e2 : f j = B <;> simp only [e1, e2, if_true, if_false] at hf ⊢ <;> omega

/-- functions below b on the first n places, as numbers below b ^ n -/
def code (b : Nat) : Nat → (Nat → Nat) → Nat
  | 0, _ => 0
  | n + 1, h => code b n h * b + h n

theorem code_lt {b : Nat} : ∀ {n : Nat} {h : Nat → Nat}, (∀ i, i < n → h i < b) → code b n h < b ^ n
  | 0, _, _ => by simp [code]
  | n + 1, h, hh => by
    have h1 := code_lt (b := b) (n := n) (h := h) (fun i hi => hh i (by omega))
    have h2 := hh n (by omega)
    simp only [code, Nat.pow_succ]
    have h3 : (code b n h + 1) * b ≤ b ^ n * b := Nat.mul_le_mul_right _ h1
    rw [Nat.add_mul, Nat.one_mul] at h3
    omega

theorem code_inj {b : Nat} : ∀ {n : Nat} {h g : Nat → Nat}, (∀ i, i < n → h i < b) → (∀ i, i < n → g i < b) →
    code b n h = code b n g → ∀ i, i < n → h i = g i
  | 0, _, _, _, _, _ => fun i hi => by omega
  | n + 1, h, g, hh, hg, e => by
    have h1 := hh n (by omega)
    have h2 := hg n (by omega)
    simp only [code] at e
    have e1 : (code b n h * b + h n) % b = (code b n g * b + g n) % b := by rw [e]
    have e2 : (code b n h * b + h n) / b = (code b n g * b + g n) / b := by rw [e]
    have hb : 0 < b := by omega
    rw [Nat.mul_comm _ b, Nat.mul_comm _ b, Nat.mul_add_mod, Nat.mul_add_mod, Nat.mod_eq_of_lt h1, Nat.mod_eq_of_lt h2] at e1
    rw [Nat.mul_comm _ b, Nat.mul_comm _ b, Nat.mul_add_div hb, Nat.mul_add_div hb, Nat.div_eq_of_lt h1, Nat.div_eq_of_lt h2] at e2
    intro i hi
    by_cases e3 : i = n
    · subst e3; exact e1
    · exact code_inj (n := n) (fun i hi => hh i (by omega)) (fun i hi => hg i (by omega)) (by omega) i (by omega)

end K34
set_option linter.all false
namespace K34

/-- what stands in the table: rows, goal, heads, as functions of places -/
structure Tab where
  T : Nat → Nat → Rat
  g : Nat → Rat
  h : Nat → Nat

/-- the shape: n rows, m things, what the table began with -/
structure Shape where
  n : Nat
  m : Nat
  A : Nat → Nat → Rat
  c : Nat → Rat
  unitA : ∀ k l, k < n → l < n → A k (m + l) = if k = l then 1 else 0
  c0 : ∀ k, k ≤ n → c (m + k) = 0

def Shape.N (X : Shape) : Nat := X.m + X.n

structure Inv (X : Shape) (D : Tab) : Prop where
  i1 : ∀ i, i < X.n → ∀ j, j ≤ X.N → D.T i j = S X.n (fun k => D.T i (X.m + k) * X.A k j)
  i2 : ∀ k, k < X.n → ∀ j, j ≤ X.N → X.A k j = S X.n (fun i => X.A k (D.h i) * D.T i j)
  un : ∀ i l, i < X.n → l < X.n → D.T i (D.h l) = if i = l then 1 else 0
  g1 : ∀ j, j ≤ X.N → D.g j = X.c j + S X.n (fun k => D.g (X.m + k) * X.A k j)
  g2 : ∀ i, i < X.n → D.g (D.h i) = 0
  hN : ∀ i, i < X.n → D.h i < X.N
  fe : ∀ i, i < X.n → 0 ≤ D.T i X.N

def pivot (D : Tab) (c r : Nat) : Tab where
  T := fun i j => if i = r then D.T r j / D.T r c else D.T i j - (D.T r j / D.T r c) * D.T i c
  g := fun j => D.g j - (D.T r j / D.T r c) * D.g c
  h := fun i => if i = r then c else D.h i

/-- the place that is left, by the least ratio and the least head -/
structure Goes (X : Shape) (D : Tab) (c r : Nat) : Prop where
  cN : c < X.N
  gc : 0 < D.g c
  gl : ∀ j, j < c → D.g j ≤ 0
  rn : r < X.n
  pr : 0 < D.T r c
  mi : ∀ i, i < X.n → 0 < D.T i c →
    D.T r X.N / D.T r c < D.T i X.N / D.T i c ∨ (D.T r X.N / D.T r c = D.T i X.N / D.T i c ∧ D.h r ≤ D.h i)

theorem div_mul_self {a p : Rat} (h : p ≠ 0) : a / p * p = a := by grind

theorem ratio_le {a b p q : Rat} (hp : 0 < p) (hq : 0 < q) (h : a / p ≤ b / q) : a / p * q ≤ b := by
  have h1 : a / p * q ≤ b / q * q := Rat.mul_le_mul_of_nonneg_right h (by grind)
  have h2 : b / q * q = b := by grind
  grind

theorem ratio_nonneg {a p : Rat} (ha : 0 ≤ a) (hp : 0 < p) : 0 ≤ a / p := by
  rw [Rat.div_def]
  exact Rat.mul_nonneg ha (by
    have := Rat.inv_pos.2 hp
    grind)

theorem h_inj {X : Shape} {D : Tab} (I : Inv X D) {i l : Nat} (hi : i < X.n) (hl : l < X.n) (e : D.h i = D.h l) : i = l := by
  have h1 := I.un i i hi hi
  have h2 := I.un i l hi hl
  rw [e] at h1
  by_cases e2 : i = l
  · exact e2
  · simp only [e2, if_false, if_true] at h1 h2
    grind

theorem pivot_inv {X : Shape} {D : Tab} {c r : Nat} (I : Inv X D) (G : Goes X D c r) : Inv X (pivot D c r) := by
  have hp : D.T r c ≠ 0 := by have := G.pr; grind
  have hcN : c ≤ X.N := by have := G.cN; omega
  refine ⟨?_, ?_, ?_, ?_, ?_, ?_, ?_⟩
  · intro i hi j hj
    have h1 := I.i1 r G.rn j hj
    by_cases e : i = r
    · subst e
      simp only [pivot, if_true]
      rw [S_congr (g := fun k => (D.T i c)⁻¹ * (D.T i (X.m + k) * X.A k j)) (fun k hk => by grind), S_mul, ← h1]
      grind
    · have h2 := I.i1 i hi j hj
      simp only [pivot, e, if_false]
      rw [S_congr (g := fun k => D.T i (X.m + k) * X.A k j - (D.T i c * (D.T r c)⁻¹) * (D.T r (X.m + k) * X.A k j)) (fun k hk => by grind), S_sub, S_mul, ← h1, ← h2]
      grind
  · intro k hk j hj
    have h1 := I.i2 k hk j hj
    have h2 := I.i2 k hk c hcN
    have e : ∀ i, i < X.n → X.A k ((pivot D c r).h i) * (pivot D c r).T i j
        = if i = r then X.A k c * (D.T r j / D.T r c)
          else X.A k (D.h i) * D.T i j - (D.T r j / D.T r c) * (X.A k (D.h i) * D.T i c) := by
      intro i hi
      by_cases e : i = r
      · subst e; simp only [pivot, if_true]
      · simp only [pivot, e, if_false]; grind
    rw [S_congr e, S_upd G.rn, S_sub, S_mul, ← h1, ← h2]
    grind
  · intro i l hi hl
    have h1 := I.un r l G.rn hl
    have h2 := I.un i l hi hl
    by_cases e : l = r
    · subst e
      simp only [pivot, if_true]
      by_cases e2 : i = l
      · simp only [e2, if_true]; grind
      · simp only [e2, if_false]; grind
    · have e3 : r ≠ l := fun z => e z.symm
      simp only [e3, if_false] at h1
      simp only [pivot, e, if_false, h1, h2]
      by_cases e2 : i = r
      · simp only [e2, if_true, e3, if_false]; grind
      · simp only [e2, if_false]; grind
  · intro j hj
    have h1 := I.g1 j hj
    have h2 := I.i1 r G.rn j hj
    simp only [pivot]
    rw [S_congr (g := fun k => D.g (X.m + k) * X.A k j - (D.g c * (D.T r c)⁻¹) * (D.T r (X.m + k) * X.A k j)) (fun k hk => by grind), S_sub, S_mul, ← h2]
    grind
  · intro i hi
    have h1 := I.un r i G.rn hi
    by_cases e : i = r
    · subst e
      simp only [pivot, if_true]; grind
    · have e3 : r ≠ i := fun z => e z.symm
      simp only [e3, if_false] at h1
      simp only [pivot, e, if_false, h1, I.g2 i hi]; grind
  · intro i hi
    by_cases e : i = r
    · simp only [pivot, e, if_true]; exact G.cN
    · simp only [pivot, e, if_false]; exact I.hN i hi
  · intro i hi
    have hr := I.fe r G.rn
    have hi0 := I.fe i hi
    have hq := ratio_nonneg hr G.pr
    by_cases e : i = r
    · simp only [pivot, e, if_true]; exact hq
    · simp only [pivot, e, if_false]
      by_cases hpos : 0 < D.T i c
      · have h1 : D.T r X.N / D.T r c ≤ D.T i X.N / D.T i c := by
          rcases G.mi i hi hpos with h | h
          · grind
          · rw [h.1]; grind
        have h2 := ratio_le G.pr hpos h1
        grind
      · have h2 : 0 ≤ (D.T r X.N / D.T r c) * (- D.T i c) := Rat.mul_nonneg hq (by grind)
        grind

/-! what a table says of the beginning's rows -/

/-- a vector of the rows' span is told by its values at the heads -/
theorem span_heads {X : Shape} {D : Tab} (I : Inv X D) {v : Nat → Rat} {u : Nat → Rat}
    (hv : ∀ j, j ≤ X.N → v j = S X.n (fun k => u k * X.A k j)) :
    ∀ j, j ≤ X.N → v j = S X.n (fun i => v (D.h i) * D.T i j) := by
  intro j hj
  rw [hv j hj, S_congr (g := fun k => S X.n (fun i => (u k * X.A k (D.h i)) * D.T i j)) (fun k hk => by
    rw [I.i2 k hk j hj, ← S_mul]
    exact S_congr fun i _ => by grind), S_comm]
  refine S_congr fun i hi => ?_
  rw [S_mulr, ← hv _ (by have := I.hN i hi; omega)]

theorem goal_diff {X : Shape} {D E : Tab} (I : Inv X D) (J : Inv X E) :
    ∀ j, j ≤ X.N → D.g j - E.g j = S X.n (fun k => (D.g (X.m + k) - E.g (X.m + k)) * X.A k j) := by
  intro j hj
  have e : S X.n (fun k => (D.g (X.m + k) - E.g (X.m + k)) * X.A k j)
      = S X.n (fun k => D.g (X.m + k) * X.A k j) - S X.n (fun k => E.g (X.m + k) * X.A k j) := by
    rw [← S_sub]
    exact S_congr fun k _ => by grind
  have h1 := I.g1 j hj
  have h2 := J.g1 j hj
  rw [e, h1, h2]
  grind

/-- the goal is told by the heads alone -/
theorem goal_eq {X : Shape} {D E : Tab} (I : Inv X D) (J : Inv X E) (hh : ∀ i, i < X.n → D.h i = E.h i) :
    ∀ j, j ≤ X.N → D.g j = E.g j := by
  intro j hj
  have h := span_heads I (v := fun j => D.g j - E.g j) (u := fun k => D.g (X.m + k) - E.g (X.m + k)) (goal_diff I J) j hj
  have h2 : S X.n (fun i => (D.g (D.h i) - E.g (D.h i)) * D.T i j) = 0 := S_zero' fun i hi => by
    rw [I.g2 i hi, hh i hi, J.g2 i hi]; grind
  simp only [h2] at h
  grind

/-! the value -/

theorem pivot_value {X : Shape} {D : Tab} {c r : Nat} : (pivot D c r).g X.N = D.g X.N - D.T r X.N / D.T r c * D.g c := rfl

theorem pivot_falls {X : Shape} {D : Tab} {c r : Nat} (I : Inv X D) (G : Goes X D c r) : (pivot D c r).g X.N ≤ D.g X.N := by
  have h1 := ratio_nonneg (I.fe r G.rn) G.pr
  have h2 := Rat.mul_nonneg h1 (by have := G.gc; grind : 0 ≤ D.g c)
  show D.g X.N - D.T r X.N / D.T r c * D.g c ≤ D.g X.N
  grind

theorem pivot_still {X : Shape} {D : Tab} {c r : Nat} (I : Inv X D) (G : Goes X D c r) (e : (pivot D c r).g X.N = D.g X.N) : D.T r X.N = 0 := by
  have h0 : D.T r X.N / D.T r c * D.g c = 0 := by
    have : D.g X.N - D.T r X.N / D.T r c * D.g c = D.g X.N := e
    grind
  have h1 := G.gc
  have h2 := G.pr
  have h3 : D.T r X.N / D.T r c = 0 := by
    rcases Rat.mul_eq_zero.1 h0 with h | h
    · exact h
    · grind
  have h4 : D.T r X.N / D.T r c * D.T r c = D.T r X.N := div_mul_self (by grind)
  rw [h3] at h4
  grind

/-- whether a column is the head of a row -/
def Heads (X : Shape) (D : Tab) (j : Nat) : Prop := ∃ i, i < X.n ∧ D.h i = j

theorem heads_pivot {X : Shape} {D : Tab} {c r j : Nat} (I : Inv X D) (G : Goes X D c r) :
    Heads X (pivot D c r) j ↔ j = c ∨ (Heads X D j ∧ j ≠ D.h r) := by
  constructor
  · rintro ⟨i, hi, e⟩
    by_cases e1 : i = r
    · simp only [pivot, e1, if_true] at e
      exact .inl e.symm
    · simp only [pivot, e1, if_false] at e
      exact .inr ⟨⟨i, hi, e⟩, fun z => e1 (h_inj I hi G.rn (e.trans z))⟩
  · rintro (e | ⟨⟨i, hi, e⟩, ne⟩)
    · exact ⟨r, G.rn, by simp only [pivot, if_true, e]⟩
    · have e1 : i ≠ r := fun z => ne (by rw [← e, z])
      exact ⟨i, hi, by simp only [pivot, e1, if_false, e]⟩

theorem not_head {X : Shape} {D : Tab} {c r : Nat} (I : Inv X D) (G : Goes X D c r) : ¬ Heads X D c := by
  rintro ⟨i, hi, e⟩
  have h1 := I.g2 i hi
  have h2 := G.gc
  rw [e] at h1
  grind

/-- a run without end, by the rule: it can't be -/
theorem first_true {P : Nat → Prop} {a b : Nat} (hab : a ≤ b) (ha : ¬ P a) (hb : P b) : ∃ i, a ≤ i ∧ i < b ∧ ¬ P i ∧ P (i + 1) := by
  induction b with
  | zero =>
    have : a = 0 := by omega
    subst this
    exact absurd hb ha
  | succ b ih =>
    by_cases e : a = b + 1
    · subst e; exact absurd hb ha
    · by_cases hP : P b
      · obtain ⟨i, h1, h2, h3⟩ := ih (by omega) hP
        exact ⟨i, h1, by omega, h3⟩
      · exact ⟨b, by omega, by omega, hP, hb⟩

/-- the greatest of finitely many values -/
theorem has_max (f : Nat → Nat) (a : Nat) : ∀ b, a < b → ∃ i, a ≤ i ∧ i < b ∧ ∀ k, a ≤ k → k < b → f k ≤ f i := by
  intro b
  induction b with
  | zero => intro h; omega
  | succ b ih =>
    intro h
    by_cases e : a = b
    · subst e
      exact ⟨a, by omega, by omega, fun k h1 h2 => by
        have : k = a := by omega
        subst this; omega⟩
    · obtain ⟨i, h1, h2, h3⟩ := ih (by omega)
      by_cases e2 : f i ≤ f b
      · exact ⟨b, by omega, by omega, fun k hk1 hk2 => by
          by_cases e3 : k = b
          · subst e3; omega
          · have := h3 k hk1 (by omega); omega⟩
      · exact ⟨i, h1, by omega, fun k hk1 hk2 => by
          by_cases e3 : k = b
          · subst e3; omega
          · exact h3 k hk1 (by omega)⟩

/-- one step of the argument: t enters at the table E, leaves at the table D where s enters -/
theorem bland_core {X : Shape} {D E : Tab} {s r t r' : Nat} (I : Inv X D) (J : Inv X E) (G : Goes X D s r) (G' : Goes X E t r')
    (ht : D.h r = t) (hs : s < t) (hz : D.T r X.N = 0)
    (hx : ∀ i, i < X.n → ¬ Heads X E (D.h i) → D.h i ≤ t ∧ D.T i X.N = 0) : False := by
  -- the goals differ by a vector of the span
  have hsN : s ≤ X.N := by have := G.cN; omega
  have h := span_heads I (v := fun j => D.g j - E.g j) (u := fun k => D.g (X.m + k) - E.g (X.m + k)) (goal_diff I J) s hsN
  have h2 : S X.n (fun i => (D.g (D.h i) - E.g (D.h i)) * D.T i s) = - S X.n (fun i => E.g (D.h i) * D.T i s) := by
    rw [S_congr (g := fun i => (-1) * (E.g (D.h i) * D.T i s)) (fun i hi => by rw [I.g2 i hi]; grind), S_mul]
    grind
  simp only [h2] at h
  have h3 := G.gc
  have h4 := G'.gl s hs
  have h5 : S X.n (fun i => E.g (D.h i) * D.T i s) < 0 := by grind
  obtain ⟨i, hi, hneg⟩ := S_neg_has h5
  -- this head is no head in E
  have hnh : ¬ Heads X E (D.h i) := by
    rintro ⟨l, hl, e⟩
    have := J.g2 l hl
    rw [e] at this
    rw [this] at hneg
    grind
  obtain ⟨hle, hi0⟩ := hx i hi hnh
  by_cases e : D.h i = t
  · have : i = r := h_inj I hi G.rn (e.trans ht.symm)
    subst this
    rw [e] at hneg
    have h6 := Rat.mul_nonneg (by have := G'.gc; grind : 0 ≤ E.g t) (by have := G.pr; grind : 0 ≤ D.T i s)
    grind
  · have hlt : D.h i < t := by omega
    have h6 := G'.gl _ hlt
    have h7 : 0 < D.T i s := by
      by_cases hp : 0 < D.T i s
      · exact hp
      · have := Rat.mul_nonneg (by grind : 0 ≤ - E.g (D.h i)) (by grind : 0 ≤ - D.T i s)
        grind
    rcases G.mi i hi h7 with hm | hm
    · rw [hz, hi0] at hm
      have e1 : (0 : Rat) / D.T r s = 0 := by grind
      have e2 : (0 : Rat) / D.T i s = 0 := by grind
      rw [e1, e2] at hm
      grind
    · have := hm.2
      omega

/-- the value that the last column gives a head -/
def Zero (X : Shape) (D : Tab) (j : Nat) : Prop := ∀ i, i < X.n → D.h i = j → D.T i X.N = 0

theorem zero_pivot {X : Shape} {D : Tab} {c r j : Nat} (I : Inv X D) (G : Goes X D c r) (hz : D.T r X.N = 0) :
    Zero X (pivot D c r) j ↔ Zero X D j := by
  have hT : ∀ i, (pivot D c r).T i X.N = D.T i X.N := by
    intro i
    have e0 : (0 : Rat) / D.T r c = 0 := by grind
    by_cases e : i = r
    · simp only [pivot, e, if_true, hz, e0]
    · simp only [pivot, e, if_false, hz, e0]; grind
  constructor
  · intro Z i hi e
    by_cases e1 : i = r
    · rw [e1]; exact hz
    · have := Z i hi (by simp only [pivot, e1, if_false, e])
      rw [hT] at this
      exact this
  · intro Z i hi e
    rw [hT]
    by_cases e1 : i = r
    · rw [e1]; exact hz
    · exact Z i hi (by simp only [pivot, e1, if_false] at e; exact e)

theorem bland (X : Shape) (D : Nat → Tab) (c r : Nat → Nat) (h0 : Inv X (D 0))
    (hG : ∀ k, Goes X (D k) (c k) (r k)) (hS : ∀ k, D (k + 1) = pivot (D k) (c k) (r k)) : False := by
  have I : ∀ k, Inv X (D k) := by
    intro k
    induction k with
    | zero => exact h0
    | succ k ih => rw [hS]; exact pivot_inv ih (hG k)
  -- two tables with the same heads
  obtain ⟨a, b, hab, _, hcode⟩ := pigeon (X.N ^ X.n) (fun k => code X.N X.n (D k).h) (fun k _ => code_lt fun i hi => (I k).hN i hi)
  have hh : ∀ i, i < X.n → (D a).h i = (D b).h i := code_inj (fun i hi => (I a).hN i hi) (fun i hi => (I b).hN i hi) hcode
  have hHeads : ∀ j, Heads X (D a) j ↔ Heads X (D b) j := fun j =>
    ⟨fun ⟨i, hi, e⟩ => ⟨i, hi, (hh i hi) ▸ e⟩, fun ⟨i, hi, e⟩ => ⟨i, hi, (hh i hi).symm ▸ e⟩⟩
  -- the value stands still
  have hval : (D a).g X.N = (D b).g X.N := goal_eq (I a) (I b) hh X.N (Nat.le_refl _)
  have hmono : ∀ k l, k ≤ l → (D l).g X.N ≤ (D k).g X.N := by
    intro k l hkl
    induction l with
    | zero =>
      have : k = 0 := by omega
      subst this; exact Rat.le_refl
    | succ l ih =>
      by_cases e : k = l + 1
      · subst e; exact Rat.le_refl
      · have h1 := ih (by omega)
        have h2 := pivot_falls (I l) (hG l)
        rw [← hS] at h2
        exact Rat.le_trans h2 h1
  have hzero : ∀ k, a ≤ k → k < b → (D k).T (r k) X.N = 0 := by
    intro k hk1 hk2
    have h1 := hmono a k hk1
    have h2 := hmono (k + 1) b (by omega)
    have h3 := pivot_falls (I k) (hG k)
    rw [← hS] at h3
    refine pivot_still (I k) (hG k) ?_
    rw [← hS]
    grind
  have hZ : ∀ j k, a ≤ k → k ≤ b → (Zero X (D k) j ↔ Zero X (D a) j) := by
    intro j k hk1
    induction k with
    | zero =>
      intro _
      have : a = 0 := by omega
      subst this; exact Iff.rfl
    | succ k ih =>
      intro hk2
      by_cases e : a = k + 1
      · subst e; exact Iff.rfl
      · rw [← ih (by omega) (by omega), hS]
        exact zero_pivot (I k) (hG k) (hzero k (by omega) (by omega))
  -- the greatest one that enters
  obtain ⟨e, he1, he2, hmax⟩ := has_max c a b hab
  have hstepH : ∀ k j, Heads X (D (k + 1)) j ↔ j = c k ∨ (Heads X (D k) j ∧ j ≠ (D k).h (r k)) := by
    intro k j
    rw [hS]
    exact heads_pivot (I k) (hG k)
  have hnotin : ∀ k, ¬ Heads X (D k) (c k) := fun k => not_head (I k) (hG k)
  -- a column that is a head at one table and none at another enters somewhere
  have henter : ∀ j x y, a ≤ x → x < b → a ≤ y → y < b → Heads X (D x) j → ¬ Heads X (D y) j → ∃ k, a ≤ k ∧ k < b ∧ c k = j := by
    intro j x y hx1 hx2 hy1 hy2 hx hy
    have go : ∀ p q, a ≤ p → p ≤ q → q ≤ b → ¬ Heads X (D p) j → Heads X (D q) j → ∃ k, a ≤ k ∧ k < b ∧ c k = j := by
      intro p q hp hpq hq h1 h2
      obtain ⟨k, hk1, hk2, hk3, hk4⟩ := first_true (P := fun k => Heads X (D k) j) hpq h1 h2
      rcases (hstepH k j).1 hk4 with h | h
      · exact ⟨k, by omega, by omega, h.symm⟩
      · exact absurd h.1 hk3
    by_cases hxy : y ≤ x
    · exact go y x hy1 hxy (by omega) hy hx
    · by_cases hin : Heads X (D a) j
      · exact go y b hy1 (by omega) (Nat.le_refl _) hy ((hHeads j).1 hin)
      · exact go a x (Nat.le_refl _) hx1 (by omega) hin hx
  -- t = c e leaves somewhere
  have hleave : ∃ d, a ≤ d ∧ d < b ∧ (D d).h (r d) = c e := by
    have go : ∀ p q, a ≤ p → p ≤ q → q ≤ b → Heads X (D p) (c e) → ¬ Heads X (D q) (c e) → ∃ d, a ≤ d ∧ d < b ∧ (D d).h (r d) = c e := by
      intro p q hp hpq hq h1 h2
      obtain ⟨k, hk1, hk2, hk3, hk4⟩ := first_true (P := fun k => ¬ Heads X (D k) (c e)) hpq (fun z => z h1) h2
      refine ⟨k, by omega, by omega, ?_⟩
      have hk3' : Heads X (D k) (c e) := Classical.byContradiction hk3
      by_cases hne : c e = (D k).h (r k)
      · exact hne.symm
      · exact absurd ((hstepH k _).2 (.inr ⟨hk3', hne⟩)) hk4
    have hin1 : Heads X (D (e + 1)) (c e) := (hstepH e _).2 (.inl rfl)
    by_cases hin : Heads X (D a) (c e)
    · exact go a e (Nat.le_refl _) he1 (by omega) hin (hnotin e)
    · exact go (e + 1) b (by omega) (by omega) (Nat.le_refl _) hin1 (fun z => hin ((hHeads _).2 z))
  obtain ⟨d, hd1, hd2, hd⟩ := hleave
  have hhd : Heads X (D d) (c e) := ⟨r d, (hG d).rn, hd⟩
  have hne : c d ≠ c e := fun z => hnotin d (by rw [z]; exact hhd)
  have hlt : c d < c e := by
    have := hmax d hd1 hd2
    omega
  refine bland_core (I d) (I e) (hG d) (hG e) hd hlt (hzero d hd1 hd2) fun i hi hnh => ?_
  obtain ⟨k, hk1, hk2, hk⟩ := henter ((D d).h i) d e hd1 hd2 he1 he2 ⟨i, hi, rfl⟩ hnh
  refine ⟨by have := hmax k hk1 hk2; omega, ?_⟩
  -- it has no value at E, so none at D
  have hZE : Zero X (D e) ((D d).h i) := fun l hl hle => absurd ⟨l, hl, hle⟩ hnh
  exact (hZ _ d hd1 (by omega)).2 ((hZ _ e he1 (by omega)).1 hZE) i hi rfl

end K34
set_option linter.all false
namespace K34

/-! sizes: a number told alone by a system of equations with small whole numbers is a small fraction -/

/-- one equation: the sum of a i * x i, and p * y, is q -/
def Sat {ι : Type} (n : Nat) (a : ι → Nat → Int) (p q : ι → Int) (x : Nat → Rat) (y : Rat) : Prop :=
  ∀ k, S n (fun i => (a k i : Rat) * x i) + (p k : Rat) * y = (q k : Rat)

def Mb : Nat → Nat → Nat
  | 0, M => M
  | n + 1, M => Mb n (2 * M * M)

def Rb : Nat → Nat → Nat → Nat
  | 0, _, R => R
  | n + 1, M, R => Rb n (2 * M * M) (2 * M * R)

theorem natAbs_comb {a b c d : Int} {A B C D : Nat} (ha : a.natAbs ≤ A) (hb : b.natAbs ≤ B) (hc : c.natAbs ≤ C) (hd : d.natAbs ≤ D) :
    (a * b - c * d).natAbs ≤ A * B + C * D := by
  have h1 : (a * b).natAbs ≤ A * B := by rw [Int.natAbs_mul]; exact Nat.mul_le_mul ha hb
  have h2 : (c * d).natAbs ≤ C * D := by rw [Int.natAbs_mul]; exact Nat.mul_le_mul hc hd
  omega

theorem elim {ι : Type} : ∀ (n M R : Nat) (a : ι → Nat → Int) (p q : ι → Int) (x : Nat → Rat) (y : Rat), 1 ≤ M →
    (∀ k i, i < n → (a k i).natAbs ≤ M) → (∀ k, (p k).natAbs ≤ M) → (∀ k, (q k).natAbs ≤ R) →
    Sat n a p q x y → (∀ x' y', Sat n a p q x' y' → y' = y) →
    ∃ P Q : Int, P ≠ 0 ∧ P.natAbs ≤ Mb n M ∧ Q.natAbs ≤ Rb n M R ∧ (P : Rat) * y = (Q : Rat)
  | 0, M, R, a, p, q, x, y, hM, ha, hp, hq, hs, hu => by
    by_cases h : ∃ k, p k ≠ 0
    · obtain ⟨k, hk⟩ := h
      refine ⟨p k, q k, hk, hp k, hq k, ?_⟩
      have := hs k
      simp only [S] at this
      grind
    · exfalso
      have h0 : ∀ k, p k = 0 := fun k => Classical.byContradiction fun z => h ⟨k, z⟩
      have h1 : Sat 0 a p q x (y + 1) := fun k => by
        have := hs k
        simp only [S] at this ⊢
        rw [h0 k] at this ⊢
        simp only [Rat.intCast_zero] at this ⊢
        grind
      have := hu x (y + 1) h1
      grind
  | n + 1, M, R, a, p, q, x, y, hM, ha, hp, hq, hs, hu => by
    have hMM : M ≤ 2 * M * M := by
      have h1 : 1 * M ≤ 2 * M * M := Nat.mul_le_mul_right _ (by omega)
      omega
    by_cases h : ∃ k, a k n ≠ 0
    · obtain ⟨r, hr⟩ := h
      have hrR : (a r n : Rat) ≠ 0 := by
        intro z
        exact hr (Rat.intCast_eq_zero_iff.1 z)
      have hc : ∀ (i j k l : Int) , (((i * j - k * l : Int)) : Rat) = (i : Rat) * (j : Rat) - (k : Rat) * (l : Rat) := by
        intro i j k l
        rw [Rat.intCast_sub, Rat.intCast_mul, Rat.intCast_mul]
      have key : ∀ (x : Nat → Rat) (y : Rat) k, S n (fun i => ((a r n * a k i - a k n * a r i : Int) : Rat) * x i) + ((a r n * p k - a k n * p r : Int) : Rat) * y - ((a r n * q k - a k n * q r : Int) : Rat)
          = (a r n : Rat) * (S n (fun i => (a k i : Rat) * x i) + (p k : Rat) * y - (q k : Rat)) - (a k n : Rat) * (S n (fun i => (a r i : Rat) * x i) + (p r : Rat) * y - (q r : Rat)) := by
        intro x y k
        rw [S_congr (g := fun i => (a r n : Rat) * ((a k i : Rat) * x i) - (a k n : Rat) * ((a r i : Rat) * x i)) (fun i _ => by rw [hc]; grind), S_sub, S_mul, S_mul, hc, hc]
        grind
      obtain ⟨P, Q, h1, h2, h3, h4⟩ := elim n (2 * M * M) (2 * M * R) (fun k i => a r n * a k i - a k n * a r i)
        (fun k => a r n * p k - a k n * p r) (fun k => a r n * q k - a k n * q r) x y (by omega)
        (fun k i hi => by
          have := natAbs_comb (ha r n (by omega)) (ha k i (by omega)) (ha k n (by omega)) (ha r i (by omega))
          have e : 2 * M * M = M * M + M * M := by rw [Nat.mul_assoc]; omega
          omega)
        (fun k => by
          have := natAbs_comb (ha r n (by omega)) (hp k) (ha k n (by omega)) (hp r)
          have e : 2 * M * M = M * M + M * M := by rw [Nat.mul_assoc]; omega
          omega)
        (fun k => by
          have := natAbs_comb (ha r n (by omega)) (hq k) (ha k n (by omega)) (hq r)
          have e : 2 * M * R = M * R + M * R := by rw [Nat.mul_assoc]; omega
          omega)
        (fun k => by
          have e := key x y k
          have e1 := hs k
          have e2 := hs r
          simp only [S] at e1 e2
          grind)
        (fun x' y' hs' => by
          -- the eliminated value, put back
          let v : Rat := ((q r : Rat) - S n (fun i => (a r i : Rat) * x' i) - (p r : Rat) * y') / (a r n : Rat)
          refine hu (fun i => if i = n then v else x' i) y' fun k => ?_
          have eS : ∀ k, S n (fun i => (a k i : Rat) * (if i = n then v else x' i)) = S n (fun i => (a k i : Rat) * x' i) :=
            fun k => S_congr fun i hi => by rw [if_neg (by omega)]
          simp only [S, if_true]
          rw [eS]
          have e := key x' y' k
          have e1 := hs' k
          have ev : (a r n : Rat) * v = (q r : Rat) - S n (fun i => (a r i : Rat) * x' i) - (p r : Rat) * y' := by
            show (a r n : Rat) * (((q r : Rat) - S n (fun i => (a r i : Rat) * x' i) - (p r : Rat) * y') / (a r n : Rat)) = _
            grind
          have e3 : (a r n : Rat) * (S n (fun i => (a k i : Rat) * x' i) + (a k n : Rat) * v + (p k : Rat) * y' - (q k : Rat)) = 0 := by
            grind
          rcases Rat.mul_eq_zero.1 e3 with z | z
          · exact absurd z hrR
          · grind)
      exact ⟨P, Q, h1, h2, h3, h4⟩
    · have h0 : ∀ k, a k n = 0 := fun k => Classical.byContradiction fun z => h ⟨k, z⟩
      have hRR : R ≤ 2 * M * R := by
        have h1 : 1 * R ≤ 2 * M * R := Nat.mul_le_mul_right _ (by omega)
        omega
      have e : ∀ (x : Nat → Rat) y, Sat (n + 1) a p q x y ↔ Sat n a p q x y := fun x y => by
        constructor
        · intro h k
          have := h k
          simp only [S] at this
          rw [h0 k] at this
          simp only [Rat.intCast_zero] at this
          grind
        · intro h k
          have := h k
          simp only [S]
          rw [h0 k]
          simp only [Rat.intCast_zero]
          grind
      obtain ⟨P, Q, h1, h2, h3, h4⟩ := elim n (2 * M * M) (2 * M * R) a p q x y (by omega)
        (fun k i hi => Nat.le_trans (ha k i (by omega)) hMM) (fun k => Nat.le_trans (hp k) hMM)
        (fun k => Nat.le_trans (hq k) hRR) ((e x y).1 hs) (fun x' y' h' => hu x' y' ((e x' y').2 h'))
      exact ⟨P, Q, h1, h2, h3, h4⟩

/-- a fraction by its equation -/
theorem rat_of_eq {P Q : Int} {y : Rat} (hP : P ≠ 0) (h : (P : Rat) * y = (Q : Rat)) : y.den ≤ P.natAbs ∧ y.num.natAbs ≤ Q.natAbs := by
  have hd : (y.den : Rat) ≠ 0 := by
    intro z
    exact y.den_nz (Rat.natCast_eq_zero_iff.1 z)
  have hy : y * (y.den : Rat) = (y.num : Rat) := by
    have e : ((y.num : Int) : Rat) / (((y.den : Nat) : Int) : Rat) = y := by rw [← Rat.divInt_eq_div, Rat.num_divInt_den]
    rw [Rat.intCast_natCast] at e
    grind
  have e : ((P * y.num : Int) : Rat) = ((Q * y.den : Int) : Rat) := by
    rw [Rat.intCast_mul, Rat.intCast_mul, ← hy, ← h, Rat.intCast_natCast]
    grind
  have e2 : P * y.num = Q * y.den := Rat.intCast_inj.1 e
  have e3 : P.natAbs * y.num.natAbs = Q.natAbs * y.den := by
    have := congrArg Int.natAbs e2
    rw [Int.natAbs_mul, Int.natAbs_mul, Int.natAbs_natCast] at this
    exact this
  have hdvd : y.den ∣ P.natAbs := by
    have h1 : y.den ∣ P.natAbs * y.num.natAbs := by rw [e3]; exact Nat.dvd_mul_left _ _
    exact Nat.Coprime.dvd_of_dvd_mul_right (Nat.Coprime.symm y.reduced) h1
  have hle : y.den ≤ P.natAbs := Nat.le_of_dvd (by omega) hdvd
  refine ⟨hle, ?_⟩
  have h5 : P.natAbs * y.num.natAbs ≤ Q.natAbs * P.natAbs := by rw [e3]; exact Nat.mul_le_mul_left _ hle
  rw [Nat.mul_comm Q.natAbs] at h5
  exact Nat.le_of_mul_le_mul_left h5 (by omega)

/-- places but one -/
def skip (i l : Nat) : Nat := if l < i then l else l + 1

theorem S_skip {n i : Nat} (hi : i ≤ n) (f : Nat → Rat) : S (n + 1) f = S n (fun l => f (skip i l)) + f i := by
  induction n with
  | zero =>
    have : i = 0 := by omega
    subst this
    rfl
  | succ n ih =>
    by_cases e : i = n + 1
    · subst e
      show S (n + 1) f + f (n + 1) = _
      rw [S_congr (n := n + 1) (f := fun l => f (skip (n + 1) l)) (g := f) (fun l hl => by simp only [skip, hl, if_true])]
    · have h1 := ih (by omega)
      show S (n + 1) f + f (n + 1) = (S n (fun l => f (skip i l)) + f (skip i n)) + f i
      rw [h1]
      have : skip i n = n + 1 := by simp only [skip]; rw [if_neg (by omega)]
      rw [this]
      grind

theorem skip_ne (i l : Nat) : skip i l ≠ i := by
  unfold skip; split <;> omega
theorem skip_lt {n i l : Nat} (hl : l < n) : skip i l < n + 1 := by
  unfold skip; split <;> omega

end K34
set_option linter.all false
namespace K34

/-- a stock's shape: nought or one, each thing in an offer, each thing worth one -/
structure Full (X : Shape) : Prop where
  a01 : ∀ k, k < X.n → ∀ j, j < X.m → X.A k j = 0 ∨ X.A k j = 1
  full : ∀ j, j < X.m → ∃ k, k < X.n ∧ X.A k j = 1
  c1 : ∀ j, j < X.m → X.c j = 1

theorem Full.nn {X : Shape} (F : Full X) {k j : Nat} (hk : k < X.n) (hj : j < X.N) : 0 ≤ X.A k j := by
  by_cases h : j < X.m
  · rcases F.a01 k hk j h with e | e <;> rw [e] <;> grind
  · have e : j = X.m + (j - X.m) := by omega
    rw [e, X.unitA k (j - X.m) hk (by unfold Shape.N at hj; omega)]
    split <;> grind

theorem Full.one {X : Shape} (F : Full X) {j : Nat} (hj : j < X.N) : ∃ k, k < X.n ∧ X.A k j = 1 := by
  by_cases h : j < X.m
  · exact F.full j h
  · have hl : j - X.m < X.n := by unfold Shape.N at hj; omega
    refine ⟨j - X.m, hl, ?_⟩
    have e : j = X.m + (j - X.m) := by omega
    have := X.unitA (j - X.m) (j - X.m) hl hl
    rw [← e] at this
    rw [this, if_pos rfl]

/-- some row bounds a column -/
theorem has_row {X : Shape} {D : Tab} (F : Full X) (I : Inv X D) {c : Nat} (hc : c < X.N) : ∃ r, r < X.n ∧ 0 < D.T r c := by
  refine Classical.byContradiction fun z => ?_
  have hle : ∀ i, i < X.n → D.T i c ≤ 0 := fun i hi => by
    have : ¬ 0 < D.T i c := fun h => z ⟨i, hi, h⟩
    grind
  obtain ⟨k, hk, e⟩ := F.one hc
  have h := I.i2 k hk c (by omega)
  rw [e] at h
  have h2 : 0 ≤ S X.n (fun i => - (X.A k (D.h i) * D.T i c)) := S_nonneg fun i hi => by
    have := Rat.mul_nonneg (F.nn hk (I.hN i hi)) (by have := hle i hi; grind : 0 ≤ - D.T i c)
    grind
  rw [S_congr (g := fun i => (-1) * (X.A k (D.h i) * D.T i c)) (fun i _ => by grind), S_mul, ← h] at h2
  grind

/-! what is told at the end -/

/-- what a column has: the last column's value where it heads a row -/
def val (X : Shape) (D : Tab) (j : Nat) : Rat := S X.n (fun i => if D.h i = j then D.T i X.N else 0)

theorem val_head {X : Shape} {D : Tab} (I : Inv X D) {i : Nat} (hi : i < X.n) : val X D (D.h i) = D.T i X.N := by
  unfold val
  rw [S_congr (g := fun l => if l = i then D.T l X.N else 0) (fun l hl => by
    by_cases e : l = i
    · rw [if_pos (by rw [e]), if_pos e]
    · rw [if_neg (fun z => e (h_inj I hl hi z)), if_neg e]), S_pick hi (fun l => D.T l X.N)]

theorem val_none {X : Shape} {D : Tab} {j : Nat} (h : ¬ Heads X D j) : val X D j = 0 :=
  S_zero' fun i hi => if_neg fun e => h ⟨i, hi, e⟩

theorem val_nn {X : Shape} {D : Tab} (I : Inv X D) (j : Nat) : 0 ≤ val X D j :=
  S_nonneg fun i hi => by
    split
    · exact I.fe i hi
    · grind

theorem val_sum {X : Shape} {D : Tab} (I : Inv X D) (v : Nat → Rat) :
    S X.N (fun j => v j * val X D j) = S X.n (fun i => v (D.h i) * D.T i X.N) := by
  unfold val
  rw [S_congr (g := fun j => S X.n (fun i => v j * (if D.h i = j then D.T i X.N else 0))) (fun j _ => (S_mul _ _ _).symm), S_comm]
  refine S_congr fun i hi => ?_
  rw [S_congr (g := fun j => if j = D.h i then v j * D.T i X.N else 0) (fun j _ => by
    by_cases e : j = D.h i
    · rw [if_pos e.symm, if_pos e]
    · rw [if_neg (fun z => e z.symm), if_neg e]; grind), S_pick (I.hN i hi) (fun j => v j * D.T i X.N)]

/-- each row holds: the things' values and the rest make the price -/
theorem val_row {X : Shape} {D : Tab} (I : Inv X D) {k : Nat} (hk : k < X.n) :
    X.A k X.N = S X.m (fun j => X.A k j * val X D j) + val X D (X.m + k) := by
  rw [I.i2 k hk X.N (Nat.le_refl _), ← val_sum I]
  show S (X.m + X.n) _ = _
  rw [S_append]
  congr 1
  rw [S_congr (g := fun l => if l = k then val X D (X.m + l) else 0) (fun l hl => by
    rw [X.unitA k l hk hl]
    by_cases e : l = k
    · rw [if_pos e.symm, if_pos e]; grind
    · rw [if_neg (fun z => e z.symm), if_neg e]; grind), S_pick hk (fun l => val X D (X.m + l))]

theorem goal_form {X : Shape} {D : Tab} (I : Inv X D) {j : Nat} (hj : j ≤ X.N) :
    S X.n (fun i => X.c (D.h i) * D.T i j) = X.c j - D.g j := by
  have hc : ∀ i, i < X.n → X.c (D.h i) = - S X.n (fun k => D.g (X.m + k) * X.A k (D.h i)) := fun i hi => by
    have h1 := I.g1 (D.h i) (by have := I.hN i hi; omega)
    have h2 := I.g2 i hi
    grind
  have h3 : S X.n (fun i => X.c (D.h i) * D.T i j) = - S X.n (fun k => D.g (X.m + k) * X.A k j) := by
    rw [S_congr (g := fun i => (-1) * S X.n (fun k => (D.g (X.m + k) * X.A k (D.h i)) * D.T i j)) (fun i hi => by
      rw [hc i hi, S_mulr]; grind), S_mul, S_comm]
    rw [S_congr (f := fun k => S X.n (fun i => (D.g (X.m + k) * X.A k (D.h i)) * D.T i j)) (g := fun k => D.g (X.m + k) * X.A k j) (fun k hk => by
      rw [I.i2 k hk j hj, ← S_mul]
      exact S_congr fun i _ => by grind)]
    grind
  have h1 := I.g1 j hj
  grind

/-- what the things bear together -/
theorem val_worth {X : Shape} {D : Tab} (F : Full X) (I : Inv X D) : S X.m (val X D) = - D.g X.N := by
  have h1 := val_sum I X.c
  rw [goal_form I (Nat.le_refl _)] at h1
  have h2 : S X.N (fun j => X.c j * val X D j) = S X.m (val X D) := by
    show S (X.m + X.n) _ = _
    rw [S_append, S_congr (n := X.m) (g := val X D) (fun j hj => by rw [F.c1 j hj]; grind), S_zero' (n := X.n) (fun k hk => by
      rw [X.c0 k (by omega)]; grind)]
    grind
  have h3 : X.c X.N = 0 := X.c0 X.n (Nat.le_refl _)
  rw [h2, h3] at h1
  grind

/-- what the shares cost -/
theorem share_price {X : Shape} {D : Tab} (I : Inv X D) : S X.n (fun k => (- D.g (X.m + k)) * X.A k X.N) = - D.g X.N := by
  have h1 := I.g1 X.N (Nat.le_refl _)
  have h3 : X.c X.N = 0 := X.c0 X.n (Nat.le_refl _)
  rw [S_congr (g := fun k => (-1) * (D.g (X.m + k) * X.A k X.N)) (fun k _ => by grind), S_mul]
  grind

/-- the shares together, thing by thing -/
theorem share_thing {X : Shape} {D : Tab} (F : Full X) (I : Inv X D) {t : Nat} (ht : t < X.m) :
    S X.n (fun k => (- D.g (X.m + k)) * X.A k t) = 1 - D.g t := by
  have h1 := I.g1 t (by unfold Shape.N; omega)
  rw [F.c1 t ht] at h1
  rw [S_congr (g := fun k => (-1) * (D.g (X.m + k) * X.A k t)) (fun k _ => by grind), S_mul]
  grind

theorem tight_offer {X : Shape} {D : Tab} (I : Inv X D) {k : Nat} (hk : k < X.n) (h : 0 < - D.g (X.m + k)) :
    S X.m (fun j => X.A k j * val X D j) = X.A k X.N := by
  have h1 := val_row I hk
  have h2 : val X D (X.m + k) = 0 := val_none fun ⟨i, hi, e⟩ => by
    have := I.g2 i hi
    rw [e] at this
    grind
  grind

theorem tight_thing {X : Shape} {D : Tab} (F : Full X) (I : Inv X D) {t : Nat} (ht : t < X.m) (h : 0 < val X D t) :
    S X.n (fun k => (- D.g (X.m + k)) * X.A k t) = 1 := by
  have h1 := share_thing F I ht
  have h2 : D.g t = 0 := Classical.byContradiction fun z => by
    have : ¬ Heads X D t := fun ⟨i, hi, e⟩ => z (by have := I.g2 i hi; rw [e] at this; exact this)
    rw [val_none this] at h
    grind
  grind

/-! bearings against sharings -/

theorem weak {n m : Nat} {A : Nat → Nat → Rat} {b y u : Nat → Rat}
    (hy : ∀ t, t < m → 0 ≤ y t) (hu : ∀ k, k < n → 0 ≤ u k)
    (hb : ∀ k, k < n → S m (fun t => A k t * y t) ≤ b k) (hs : ∀ t, t < m → 1 ≤ S n (fun k => u k * A k t)) :
    S m y ≤ S n (fun k => u k * b k) := by
  have h1 : S m y ≤ S m (fun t => S n (fun k => u k * (A k t * y t))) := S_le fun t ht => by
    rw [S_congr (g := fun k => (u k * A k t) * y t) (fun k _ => by grind), S_mulr]
    have := Rat.mul_le_mul_of_nonneg_right (hs t ht) (hy t ht)
    grind
  rw [S_comm] at h1
  refine Rat.le_trans h1 (S_le fun k hk => ?_)
  rw [S_mul]
  exact Rat.mul_le_mul_of_nonneg_left (hb k hk) (hu k hk)

/-! sizes -/

structure Sized (X : Shape) (R : Nat) : Prop where
  int : ∃ (Ai : Nat → Nat → Int) (ci : Nat → Int), (∀ k j, X.A k j = (Ai k j : Rat)) ∧ (∀ j, X.c j = (ci j : Rat)) ∧
    (∀ k j, k < X.n → j < X.N → (Ai k j).natAbs ≤ 1) ∧ (∀ j, (ci j).natAbs ≤ 1) ∧ (∀ k j, k < X.n → (Ai k j).natAbs ≤ R)
  r1 : 1 ≤ R
  n10 : X.n ≤ 10

theorem Mb_mono : ∀ (n : Nat) {M M' : Nat}, M ≤ M' → Mb n M ≤ Mb n M'
  | 0, _, _, h => h
  | n + 1, M, M', h => Mb_mono n (Nat.mul_le_mul (Nat.mul_le_mul_left 2 h) h)

theorem Rb_mono : ∀ (n : Nat) {M M' R R' : Nat}, M ≤ M' → R ≤ R' → Rb n M R ≤ Rb n M' R'
  | 0, _, _, _, _, _, h => h
  | n + 1, M, M', R, R', h, h' => Rb_mono n (Nat.mul_le_mul (Nat.mul_le_mul_left 2 h) h) (Nat.mul_le_mul (Nat.mul_le_mul_left 2 h) h')

theorem Mb_up : ∀ (d n : Nat) {M : Nat}, 1 ≤ M → Mb n M ≤ Mb (n + d) M
  | 0, _, _, _ => Nat.le_refl _
  | d + 1, n, M, h => by
    have h1 : M ≤ 2 * M * M := by
      have h1 : 1 * M ≤ 2 * M * M := Nat.mul_le_mul_right _ (by omega)
      omega
    exact Nat.le_trans (Mb_mono n h1) (Mb_up d n (M := 2 * M * M) (by omega))

theorem Rb_up : ∀ (d n : Nat) {M R : Nat}, 1 ≤ M → Rb n M R ≤ Rb (n + d) M R
  | 0, _, _, _, _ => Nat.le_refl _
  | d + 1, n, M, R, h => by
    have h1 : M ≤ 2 * M * M := by
      have h1 : 1 * M ≤ 2 * M * M := Nat.mul_le_mul_right _ (by omega)
      omega
    have h2 : R ≤ 2 * M * R := by
      have h1 : 1 * R ≤ 2 * M * R := Nat.mul_le_mul_right _ (by omega)
      omega
    exact Nat.le_trans (Rb_mono n h1 h2) (Rb_up d n (M := 2 * M * M) (R := 2 * M * R) (by omega))

/-- the table's columns are told alone by the beginning's rows -/
theorem col_alone {X : Shape} {D : Tab} (I : Inv X D) {j : Nat} (hj : j ≤ X.N) {z : Nat → Rat}
    (hz : ∀ k, k < X.n → S X.n (fun l => X.A k (D.h l) * z l) = X.A k j) : ∀ i, i < X.n → z i = D.T i j := by
  intro i hi
  have h1 : S X.n (fun l => D.T i (D.h l) * z l) = z i := by
    rw [S_congr (g := fun l => if l = i then z l else 0) (fun l hl => by
      rw [I.un i l hi hl]
      by_cases e : l = i
      · rw [if_pos e.symm, if_pos e]; grind
      · rw [if_neg (fun z => e z.symm), if_neg e]; grind), S_pick hi]
  rw [← h1, I.i1 i hi j hj, S_congr (g := fun l => S X.n (fun k => (D.T i (X.m + k) * X.A k (D.h l)) * z l)) (fun l hl => by
    rw [I.i1 i hi (D.h l) (by have := I.hN l hl; omega), S_mulr]), S_comm]
  refine S_congr fun k hk => ?_
  rw [← hz k hk, ← S_mul]
  exact S_congr fun l _ => by grind

/-- put a value back at a place left out -/
def unskip (i : Nat) (x : Nat → Rat) (y : Rat) (l : Nat) : Rat := if l < i then x l else if l = i then y else x (l - 1)

theorem unskip_at (i : Nat) (x : Nat → Rat) (y : Rat) : unskip i x y i = y := by
  unfold unskip; rw [if_neg (by omega), if_pos rfl]

theorem unskip_skip (i : Nat) (x : Nat → Rat) (y : Rat) (l : Nat) : unskip i x y (skip i l) = x l := by
  unfold unskip skip
  by_cases h : l < i
  · rw [if_pos h, if_pos h]
  · rw [if_neg h, if_neg (by omega), if_neg (by omega)]; rfl

theorem S_skip' {n i : Nat} (hi : i < n) (f : Nat → Rat) : S n f = S (n - 1) (fun l => f (skip i l)) + f i := by
  obtain ⟨m, rfl⟩ : ∃ m, n = m + 1 := ⟨n - 1, by omega⟩
  exact S_skip (by omega) f

theorem size_T {X : Shape} {D : Tab} {R : Nat} (Z : Sized X R) (I : Inv X D) {i j : Nat} (hi : i < X.n) (hj : j ≤ X.N) :
    (D.T i j).den ≤ Mb 9 1 ∧ (D.T i j).num.natAbs ≤ Rb 9 1 R := by
  obtain ⟨Ai, ci, hA, hc, b1, b2, b3⟩ := Z.int
  have n10 := Z.n10
  obtain ⟨P, Q, h1, h2, h3, h4⟩ := elim (ι := { k // k < X.n }) (X.n - 1) 1 R (fun k l => Ai k.1 (D.h (skip i l))) (fun k => Ai k.1 (D.h i))
    (fun k => Ai k.1 j) (fun l => D.T (skip i l) j) (D.T i j) (by omega)
    (fun k l hl => by
      exact b1 k.1 _ k.2 (I.hN _ (by have := skip_lt (i := i) hl; omega)))
    (fun k => b1 k.1 _ k.2 (I.hN _ hi)) (fun k => b3 k.1 j k.2)
    (fun k => by
      have e := I.i2 k.1 k.2 j hj
      rw [S_skip' hi] at e
      rw [← hA, ← hA, e, hA k.1 (D.h i)]
      congr 1
      refine S_congr fun l hl => ?_
      show _ = _
      rw [hA])
    (fun x' y' hs => by
      have := col_alone I hj (z := unskip i x' y') (fun k hk => by
        have e := hs ⟨k, hk⟩
        rw [S_skip' hi, unskip_at, hA k (D.h i), hA k j, ← e]
        congr 1
        refine S_congr fun l hl => ?_
        rw [unskip_skip, hA]) i hi
      rw [unskip_at] at this
      exact this)
  have h5 := rat_of_eq h1 h4
  have h6 := Mb_up (9 - (X.n - 1)) (X.n - 1) (M := 1) (Nat.le_refl _)
  have h7 := Rb_up (9 - (X.n - 1)) (X.n - 1) (M := 1) (R := R) (Nat.le_refl _)
  have e9 : X.n - 1 + (9 - (X.n - 1)) = 9 := by omega
  rw [e9] at h6 h7
  omega

theorem size_g {X : Shape} {D : Tab} {R : Nat} (Z : Sized X R) (I : Inv X D) {j : Nat} (hj : j ≤ X.N) :
    (D.g j).den ≤ Mb 10 1 ∧ (D.g j).num.natAbs ≤ Rb 10 1 R := by
  obtain ⟨Ai, ci, hA, hc, b1, b2, b3⟩ := Z.int
  have n10 := Z.n10
  have hR := Z.r1
  obtain ⟨P, Q, h1, h2, h3, h4⟩ := elim (ι := Option { k // k < X.n }) X.n 1 R
    (fun k l => match k with | some k => Ai k.1 (D.h l) | none => ci (D.h l)) (fun k => match k with | some _ => 0 | none => 1)
    (fun k => match k with | some k => Ai k.1 j | none => ci j) (fun l => D.T l j) (D.g j) (by omega)
    (fun k l hl => match k with | some k => b1 k.1 _ k.2 (I.hN _ hl) | none => b2 _)
    (fun k => match k with | some _ => by simp | none => by simp) (fun k => match k with | some k => b3 k.1 j k.2 | none => by have := b2 j; show (ci j).natAbs ≤ R; omega)
    (fun k => match k with
      | some k => by
        show S X.n (fun l => (Ai k.1 (D.h l) : Rat) * D.T l j) + ((0 : Int) : Rat) * D.g j = (Ai k.1 j : Rat)
        rw [← hA, I.i2 k.1 k.2 j hj, S_congr (g := fun l => X.A k.1 (D.h l) * D.T l j) (fun l _ => by rw [hA]), Rat.intCast_zero]
        grind
      | none => by
        show S X.n (fun l => (ci (D.h l) : Rat) * D.T l j) + ((1 : Int) : Rat) * D.g j = (ci j : Rat)
        rw [← hc, S_congr (g := fun l => X.c (D.h l) * D.T l j) (fun l _ => by rw [hc]), goal_form I hj, Rat.intCast_one]
        grind)
    (fun x' y' hs => by
      have hx := col_alone I hj (z := x') (fun k hk => by
        have e : S X.n (fun l => (Ai k (D.h l) : Rat) * x' l) + ((0 : Int) : Rat) * y' = (Ai k j : Rat) := hs (some ⟨k, hk⟩)
        rw [hA k j, ← e, S_congr (g := fun l => (Ai k (D.h l) : Rat) * x' l) (fun l _ => by rw [hA]), Rat.intCast_zero]
        grind)
      have e : S X.n (fun l => (ci (D.h l) : Rat) * x' l) + ((1 : Int) : Rat) * y' = (ci j : Rat) := hs none
      have e2 := goal_form I hj
      rw [S_congr (g := fun l => X.c (D.h l) * D.T l j) (fun l hl => by rw [hc, hx l hl]), ← hc, e2, Rat.intCast_one] at e
      grind)
  have h5 := rat_of_eq h1 h4
  have h6 := Mb_up (10 - X.n) X.n (M := 1) (Nat.le_refl _)
  have h7 := Rb_up (10 - X.n) X.n (M := 1) (R := R) (Nat.le_refl _)
  have e9 : X.n + (10 - X.n) = 10 := by omega
  rw [e9] at h6 h7
  omega

theorem size_u {X : Shape} {D : Tab} {R : Nat} (Z : Sized X R) (I : Inv X D) {k : Nat} (hk : k < X.n) :
    (- D.g (X.m + k)).den ≤ Mb 9 1 ∧ (- D.g (X.m + k)).num.natAbs ≤ Rb 9 1 1 := by
  obtain ⟨Ai, ci, hA, hc, b1, b2, b3⟩ := Z.int
  have n10 := Z.n10
  have hsum : ∀ i, i < X.n → S X.n (fun l => X.A l (D.h i) * (- D.g (X.m + l))) = X.c (D.h i) := fun i hi => by
    have e1 := I.g1 (D.h i) (by have := I.hN i hi; omega)
    have e2 := I.g2 i hi
    rw [S_congr (g := fun l => (-1) * (D.g (X.m + l) * X.A l (D.h i))) (fun l _ => by grind), S_mul]
    grind
  obtain ⟨P, Q, h1, h2, h3, h4⟩ := elim (ι := { i // i < X.n }) (X.n - 1) 1 1 (fun i l => Ai (skip k l) (D.h i.1)) (fun i => Ai k (D.h i.1))
    (fun i => ci (D.h i.1)) (fun l => - D.g (X.m + skip k l)) (- D.g (X.m + k)) (by omega)
    (fun i l hl => by
      exact b1 _ _ (by have := skip_lt (i := k) hl; omega) (I.hN _ i.2))
    (fun i => b1 k _ hk (I.hN _ i.2)) (fun i => b2 _)
    (fun i => by
      have e := hsum i.1 i.2
      rw [S_skip' hk] at e
      rw [← hc, ← e, hA k (D.h i.1)]
      congr 1
      refine S_congr fun l hl => ?_
      show _ = _
      rw [hA])
    (fun x' y' hs => by
      -- the difference is a vector of the span that is nought at the heads
      let z := unskip k x' y'
      have hz : ∀ i, i < X.n → S X.n (fun l => X.A l (D.h i) * z l) = X.c (D.h i) := fun i hi => by
        have e := hs ⟨i, hi⟩
        have ez : z k = y' := unskip_at k x' y'
        rw [S_skip' hk, ez, hA k (D.h i), hc, ← e]
        congr 1
        refine S_congr fun l hl => ?_
        have ez2 : z (skip k l) = x' l := unskip_skip k x' y' l
        rw [ez2, hA]
      have h := span_heads I (v := fun j => S X.n (fun l => (z l + D.g (X.m + l)) * X.A l j)) (u := fun l => z l + D.g (X.m + l)) (fun j _ => rfl) (X.m + k) (by unfold Shape.N; omega)
      have h0 : S X.n (fun i => S X.n (fun l => (z l + D.g (X.m + l)) * X.A l (D.h i)) * D.T i (X.m + k)) = 0 := S_zero' fun i hi => by
        have e1 := hz i hi
        have e2 := hsum i hi
        rw [S_congr (g := fun l => X.A l (D.h i) * z l - X.A l (D.h i) * (- D.g (X.m + l))) (fun l _ => by grind), S_sub, e1, e2]
        grind
      have h9 : S X.n (fun l => (z l + D.g (X.m + l)) * X.A l (X.m + k)) = z k + D.g (X.m + k) := by
        rw [S_congr (g := fun l => if l = k then z l + D.g (X.m + l) else 0) (fun l hl => by
          rw [X.unitA l k hl hk]
          by_cases e : l = k
          · rw [if_pos e, if_pos e]; grind
          · rw [if_neg e, if_neg e]; grind), S_pick hk (fun l => z l + D.g (X.m + l))]
      have h' : S X.n (fun l => (z l + D.g (X.m + l)) * X.A l (X.m + k)) = 0 := h.trans h0
      rw [h9] at h'
      have ez : z k = y' := unskip_at k x' y'
      rw [ez] at h'
      grind)
  have h5 := rat_of_eq h1 h4
  have h6 := Mb_up (9 - (X.n - 1)) (X.n - 1) (M := 1) (Nat.le_refl _)
  have h7 := Rb_up (9 - (X.n - 1)) (X.n - 1) (M := 1) (R := 1) (Nat.le_refl _)
  have e9 : X.n - 1 + (9 - (X.n - 1)) = 9 := by omega
  rw [e9] at h6 h7
  omega

theorem Mb9 : Mb 9 1 = 2 ^ 511 := by decide +kernel
theorem Mb10 : Mb 10 1 = 2 ^ 1023 := by decide +kernel
theorem Rb9 : Rb 9 1 (2 ^ 44) = 2 ^ 555 := by decide +kernel
theorem Rb10 : Rb 10 1 (2 ^ 44) = 2 ^ 1067 := by decide +kernel
theorem Rb91 : Rb 9 1 1 = 2 ^ 511 := by decide +kernel

end K34
set_option linter.all false
namespace K34
/-! the table as lists, and what the program does to it -/
structure LT where
  rows : List (List Rat)
  heads : List Nat
  goal : List Rat

abbrev Offer := List Nat × Nat
def row0 (m : Nat) (os : List Offer) (k : Nat) : List Rat :=
  (List.range m).map (fun t => if t ∈ (os.getD k default).1 then 1 else 0) ++ (List.range os.length).map (fun l => if k = l then 1 else 0) ++ [((os.getD k default).2 : Rat)]
def lt0 (m : Nat) (os : List Offer) : LT := ⟨(List.range os.length).map (row0 m os), (List.range os.length).map (m + ·), List.replicate m 1 ++ List.replicate (os.length + 1) 0⟩

def tabOf (L : LT) : Tab := ⟨fun i j => (L.rows.getD i []).getD j 0, fun j => L.goal.getD j 0, fun i => L.heads.getD i 0⟩

theorem getD_lt {α : Type} {l : List α} {i : Nat} {d : α} (h : i < l.length) : l.getD i d = l[i] := by
  rw [List.getD_eq_getElem?_getD, List.getElem?_eq_getElem h]; rfl
theorem getD_ge {α : Type} {l : List α} {i : Nat} {d : α} (h : l.length ≤ i) : l.getD i d = d := by
  rw [List.getD_eq_getElem?_getD, List.getElem?_eq_none h]; rfl

theorem row0_len (m : Nat) (os : List Offer) (k : Nat) : (row0 m os k).length = m + os.length + 1 := by
  unfold row0; simp; omega
theorem row0_thing {m : Nat} {os : List Offer} {k t : Nat} (h : t < m) : (row0 m os k).getD t 0 = if t ∈ (os.getD k default).1 then 1 else 0 := by
  unfold row0
  rw [List.getD_eq_getElem?_getD, List.append_assoc, List.getElem?_append_left (by simpa using h)]
  simp [h]
theorem row0_slack {m : Nat} {os : List Offer} {k l : Nat} (h : l < os.length) : (row0 m os k).getD (m + l) 0 = if k = l then 1 else 0 := by
  unfold row0
  rw [List.getD_eq_getElem?_getD, List.append_assoc, List.getElem?_append_right (by simp)]
  simp only [List.length_map, List.length_range, Nat.add_sub_cancel_left]
  rw [List.getElem?_append_left (by simpa using h)]
  simp [h]
theorem row0_price {m : Nat} {os : List Offer} {k : Nat} : (row0 m os k).getD (m + os.length) 0 = ((os.getD k default).2 : Rat) := by
  unfold row0
  rw [List.getD_eq_getElem?_getD, List.getElem?_append_right (by simp)]
  simp
def goal0 (m n : Nat) : List Rat := List.replicate m 1 ++ List.replicate (n + 1) 0
theorem goal0_thing {m n t : Nat} (h : t < m) : (goal0 m n).getD t 0 = 1 := by
  unfold goal0
  rw [List.getD_eq_getElem?_getD, List.getElem?_append_left (by simpa using h)]
  simp [h]
theorem goal0_rest {m n k : Nat} : (goal0 m n).getD (m + k) 0 = 0 := by
  unfold goal0
  rw [List.getD_eq_getElem?_getD, List.getElem?_append_right (by simp)]
  simp only [List.length_replicate, Nat.add_sub_cancel_left]
  by_cases h : k < n + 1
  · simp [h]
  · rw [List.getElem?_eq_none (by simpa using h)]; rfl

/-- the shape of a stock -/
def shp (m : Nat) (os : List Offer) : Shape where
  n := os.length
  m := m
  A := fun k j => (row0 m os k).getD j 0
  c := fun j => (goal0 m os.length).getD j 0
  unitA := fun k l hk hl => row0_slack hl
  c0 := fun k _ => goal0_rest

theorem rows0_get {m : Nat} {os : List Offer} {k : Nat} (h : k < os.length) : (lt0 m os).rows.getD k [] = row0 m os k := by
  unfold lt0
  rw [getD_lt (by simpa using h)]
  simp
theorem heads0_get {m : Nat} {os : List Offer} {k : Nat} (h : k < os.length) : (lt0 m os).heads.getD k 0 = m + k := by
  unfold lt0
  rw [getD_lt (by simpa using h)]
  simp

theorem inv0 (m : Nat) (os : List Offer) : Inv (shp m os) (tabOf (lt0 m os)) := by
  have hT : ∀ i j, i < os.length → (tabOf (lt0 m os)).T i j = (row0 m os i).getD j 0 := fun i j hi => by
    show ((lt0 m os).rows.getD i []).getD j 0 = _
    rw [rows0_get hi]
  have hh : ∀ i, i < os.length → (tabOf (lt0 m os)).h i = m + i := fun i hi => heads0_get hi
  have hg : ∀ j, (tabOf (lt0 m os)).g j = (goal0 m os.length).getD j 0 := fun j => rfl
  refine ⟨?_, ?_, ?_, ?_, ?_, ?_, ?_⟩
  · intro i (hi : i < os.length) j hj
    show (tabOf (lt0 m os)).T i j = S os.length (fun k => (tabOf (lt0 m os)).T i (m + k) * (row0 m os k).getD j 0)
    rw [hT i j hi, S_congr (g := fun k => if k = i then (row0 m os k).getD j 0 else 0) (fun k hk => by
      rw [hT i (m + k) hi, row0_slack hk]
      by_cases e : k = i
      · rw [if_pos e.symm, if_pos e]; grind
      · rw [if_neg (fun z => e z.symm), if_neg e]; grind), S_pick hi (fun k => (row0 m os k).getD j 0)]
  · intro k (hk : k < os.length) j hj
    show (row0 m os k).getD j 0 = S os.length (fun i => (row0 m os k).getD ((tabOf (lt0 m os)).h i) 0 * (tabOf (lt0 m os)).T i j)
    rw [S_congr (g := fun i => if i = k then (row0 m os i).getD j 0 else 0) (fun i hi => by
      rw [hT i j hi, hh i hi, row0_slack hi]
      by_cases e : i = k
      · rw [if_pos e.symm, if_pos e]; grind
      · rw [if_neg (fun z => e z.symm), if_neg e]; grind), S_pick hk (fun i => (row0 m os i).getD j 0)]
  · intro i l (hi : i < os.length) (hl : l < os.length)
    rw [hh l hl, hT i _ hi, row0_slack hl]
  · intro j hj
    show (tabOf (lt0 m os)).g j = (goal0 m os.length).getD j 0 + S os.length (fun k => (tabOf (lt0 m os)).g (m + k) * (row0 m os k).getD j 0)
    rw [S_zero' (fun k hk => by rw [hg, goal0_rest]; grind), hg]
    grind
  · intro i (hi : i < os.length)
    rw [hh i hi, hg, goal0_rest]
  · intro i (hi : i < os.length)
    show (tabOf (lt0 m os)).h i < m + os.length
    rw [hh i hi]; omega
  · intro i (hi : i < os.length)
    show 0 ≤ (tabOf (lt0 m os)).T i (m + os.length)
    rw [hT i _ hi, row0_price]
    exact Rat.natCast_nonneg

/-! one turn -/
def lessL (row head : List Rat) (by' : Rat) : List Rat := List.zipWith (fun one other => one - other * by') row head
def turnL (L : LT) (c r : Nat) : LT :=
  let row := L.rows.getD r []
  let head := row.map (· / row.getD c 0)
  ⟨(L.rows.map fun q => lessL q head (q.getD c 0)).set r head, L.heads.set r c, lessL L.goal head (L.goal.getD c 0)⟩

structure Wf (n w : Nat) (L : LT) : Prop where
  rl : L.rows.length = n
  rw : ∀ q ∈ L.rows, q.length = w
  hl : L.heads.length = n
  gl : L.goal.length = w

theorem wf0 (m : Nat) (os : List Offer) : Wf os.length (m + os.length + 1) (lt0 m os) := by
  refine ⟨by simp [lt0], fun q hq => ?_, by simp [lt0], by simp [lt0]; omega⟩
  obtain ⟨k, _, rfl⟩ := List.mem_map.1 hq
  exact row0_len m os k

theorem wf_row {n w : Nat} {L : LT} (W : Wf n w L) {i : Nat} (hi : i < n) : (L.rows.getD i []).length = w := by
  rw [getD_lt (by rw [W.rl]; exact hi)]
  exact W.rw _ (List.getElem_mem _)
theorem lessL_len {row head : List Rat} {b : Rat} : (lessL row head b).length = min row.length head.length := by
  unfold lessL; rw [List.length_zipWith]
theorem lessL_get {row head : List Rat} {b : Rat} (h : row.length = head.length) (j : Nat) : (lessL row head b).getD j 0 = row.getD j 0 - head.getD j 0 * b := by
  by_cases hj : j < row.length
  · rw [getD_lt (by rw [lessL_len]; omega), getD_lt hj, getD_lt (by omega)]
    unfold lessL
    rw [List.getElem_zipWith]
  · rw [getD_ge (by rw [lessL_len]; omega), getD_ge (by omega), getD_ge (by omega)]
    grind
theorem head_get {row : List Rat} {p : Rat} (j : Nat) : (row.map (· / p)).getD j 0 = row.getD j 0 / p := by
  by_cases hj : j < row.length
  · rw [getD_lt (by simpa using hj), getD_lt hj, List.getElem_map]
  · rw [getD_ge (by simp; omega), getD_ge (by omega)]
    grind

theorem wf_turn {n w : Nat} {L : LT} (W : Wf n w L) {c r : Nat} (hr : r < n) : Wf n w (turnL L c r) := by
  have h1 := wf_row W hr
  refine ⟨by simp [turnL, W.rl], fun q hq => ?_, by simp [turnL, W.hl], ?_⟩
  · rcases List.mem_or_eq_of_mem_set hq with h | h
    · obtain ⟨q0, hq0, rfl⟩ := List.mem_map.1 h
      rw [lessL_len, W.rw q0 hq0, List.length_map, h1]; omega
    · rw [h, List.length_map, h1]
  · show (lessL _ _ _).length = w
    rw [lessL_len, W.gl, List.length_map, h1]; omega

theorem turn_tab {n w : Nat} {L : LT} (W : Wf n w L) {c r : Nat} (hr : r < n) : tabOf (turnL L c r) = pivot (tabOf L) c r := by
  have h1 := wf_row W hr
  have hT : ∀ i j, (tabOf (turnL L c r)).T i j = (pivot (tabOf L) c r).T i j := by
    intro i j
    show ((turnL L c r).rows.getD i []).getD j 0 = if i = r then (tabOf L).T r j / (tabOf L).T r c else (tabOf L).T i j - (tabOf L).T r j / (tabOf L).T r c * (tabOf L).T i c
    unfold turnL
    by_cases hi : i < n
    · have hlen : i < ((L.rows.map fun q => lessL q ((L.rows.getD r []).map (· / (L.rows.getD r []).getD c 0)) (q.getD c 0)).set r ((L.rows.getD r []).map (· / (L.rows.getD r []).getD c 0))).length := by simp [W.rl, hi]
      rw [getD_lt hlen, List.getElem_set]
      by_cases e : i = r
      · rw [if_pos e.symm, if_pos e, head_get]; rfl
      · rw [if_neg (fun z => e z.symm), if_neg e, List.getElem_map]
        have hri : i < L.rows.length := by rw [W.rl]; exact hi
        rw [lessL_get ((W.rw _ (List.getElem_mem hri)).trans (by rw [List.length_map, h1])), head_get]
        show _ = (L.rows.getD i []).getD j 0 - (L.rows.getD r []).getD j 0 / (L.rows.getD r []).getD c 0 * (L.rows.getD i []).getD c 0
        rw [getD_lt (l := L.rows) hri]
    · have e : i ≠ r := by omega
      rw [if_neg e, getD_ge (l := List.set _ _ _) (by rw [List.length_set, List.length_map, W.rl]; omega)]
      have e2 : ∀ j, (tabOf L).T i j = 0 := fun j => by
        show (L.rows.getD i []).getD j 0 = 0
        rw [getD_ge (l := L.rows) (by rw [W.rl]; omega)]; rfl
      rw [e2, e2]
      show (0 : Rat) = _
      grind
  have hg : ∀ j, (tabOf (turnL L c r)).g j = (pivot (tabOf L) c r).g j := by
    intro j
    show (lessL L.goal _ _).getD j 0 = L.goal.getD j 0 - (L.rows.getD r []).getD j 0 / (L.rows.getD r []).getD c 0 * L.goal.getD c 0
    rw [lessL_get (by rw [List.length_map, h1, W.gl]), head_get]
  have hh : ∀ i, (tabOf (turnL L c r)).h i = (pivot (tabOf L) c r).h i := by
    intro i
    show (L.heads.set r c).getD i 0 = if i = r then c else L.heads.getD i 0
    by_cases hi : i < n
    · rw [getD_lt (by simp [W.hl, hi]), List.getElem_set, getD_lt (l := L.heads) (by rw [W.hl]; exact hi)]
      by_cases e : i = r
      · rw [if_pos e.symm, if_pos e]
      · rw [if_neg (fun z => e z.symm), if_neg e]
    · rw [getD_ge (by simp [W.hl]; omega), if_neg (by omega), getD_ge (by rw [W.hl]; omega)]
  cases hA : tabOf (turnL L c r)
  cases hB : pivot (tabOf L) c r
  rw [hA, hB] at hT hg hh
  congr 1
  · funext i j; exact hT i j
  · funext j; exact hg j
  · funext i; exact hh i

/-! the run -/
/-- the tables that are met -/
structure Met (m : Nat) (os : List Offer) (L : LT) : Prop where
  inv : Inv (shp m os) (tabOf L)
  wf : Wf os.length (m + os.length + 1) L
theorem met0 (m : Nat) (os : List Offer) : Met m os (lt0 m os) := ⟨inv0 m os, wf0 m os⟩
/-- a place and a row as the program takes them -/
def Pick (m : Nat) (os : List Offer) (L : LT) (c r : Nat) : Prop := Goes (shp m os) (tabOf L) c r
theorem met_turn {m : Nat} {os : List Offer} {L : LT} {c r : Nat} (M : Met m os L) (G : Pick m os L c r) : Met m os (turnL L c r) := by
  refine ⟨?_, wf_turn M.wf G.rn⟩
  rw [turn_tab M.wf G.rn]
  exact pivot_inv M.inv G
/-- it ends: the turns that the program makes have no endless chain -/
theorem ends {m : Nat} {os : List Offer} (L : Nat → LT) (c r : Nat → Nat) (M : Met m os (L 0)) (G : ∀ k, Pick m os (L k) (c k) (r k)) (hS : ∀ k, L (k + 1) = turnL (L k) (c k) (r k)) : False := by
  have hM : ∀ k, Met m os (L k) := by
    intro k
    induction k with
    | zero => exact M
    | succ k ih => rw [hS]; exact met_turn ih (G k)
  exact bland (shp m os) (fun k => tabOf (L k)) c r M.inv G fun k => by rw [hS]; exact turn_tab (hM k).wf (G k).rn

theorem pick_one {m : Nat} {os : List Offer} {L : LT} {c r c' r' : Nat} (M : Met m os L) (G : Pick m os L c r) (G' : Pick m os L c' r') : c = c' ∧ r = r' := by
  have hc : c = c' := by
    rcases Nat.lt_trichotomy c c' with h | h | h
    · have h1 := G'.gl c h
      have h2 := G.gc
      grind
    · exact h
    · have h1 := G.gl c' h
      have h2 := G'.gc
      grind
  subst hc
  refine ⟨rfl, ?_⟩
  have h1 := G.mi r' G'.rn G'.pr
  have h2 := G'.mi r G.rn G.pr
  rcases h1 with h1 | h1 <;> rcases h2 with h2 | h2
  · grind
  · have := h2.1; grind
  · have := h1.1; grind
  · exact h_inj M.inv G.rn G'.rn (Nat.le_antisymm h1.2 h2.2)
/-- n more turns at most -/
def Bnd (m : Nat) (os : List Offer) : Nat → LT → Prop
  | 0, L => ∀ c r, ¬ Pick m os L c r
  | n + 1, L => ∀ c r, Pick m os L c r → Bnd m os n (turnL L c r)
inductive Step (m : Nat) (os : List Offer) : LT → LT → Prop where
  | mk {L : LT} {c r : Nat} (M : Met m os L) (G : Pick m os L c r) : Step m os (turnL L c r) L
theorem no_chain {α : Type} {R : α → α → Prop} (h : ∀ f : Nat → α, ¬ ∀ k, R (f (k + 1)) (f k)) : ∀ a, Acc R a := by
  intro a
  refine Classical.byContradiction fun ha => ?_
  have next : ∀ x : { x // ¬ Acc R x }, ∃ y : { x // ¬ Acc R x }, R y.1 x.1 := fun ⟨x, hx⟩ => by
    refine Classical.byContradiction fun hn => hx ⟨x, fun y hy => Classical.byContradiction fun hy2 => hn ⟨⟨y, hy2⟩, hy⟩⟩
  let f : Nat → { x // ¬ Acc R x } := fun k => Nat.rec ⟨a, ha⟩ (fun _ x => Classical.choose (next x)) k
  exact h (fun k => (f k).1) fun k => Classical.choose_spec (next (f k))
theorem step_acc (m : Nat) (os : List Offer) (L : LT) : Acc (Step m os) L := by
  refine no_chain (fun f hf => ?_) L
  have h : ∀ k, ∃ c r, Met m os (f k) ∧ Pick m os (f k) c r ∧ f (k + 1) = turnL (f k) c r := fun k => by
    have := hf k
    generalize f (k + 1) = y at this
    cases this with
    | mk M G => exact ⟨_, _, M, G, rfl⟩
  have hM : Met m os (f 0) := let ⟨_, _, M, _⟩ := h 0; M
  exact ends f (fun k => Classical.choose (h k)) (fun k => Classical.choose (Classical.choose_spec (h k))) hM
    (fun k => (Classical.choose_spec (Classical.choose_spec (h k))).2.1) (fun k => (Classical.choose_spec (Classical.choose_spec (h k))).2.2)
theorem bnd (m : Nat) (os : List Offer) (L : LT) (M : Met m os L) : ∃ n, Bnd m os n L := by
  induction step_acc m os L with
  | intro L _ ih =>
    by_cases h : ∃ c r, Pick m os L c r
    · obtain ⟨c, r, G⟩ := h
      obtain ⟨n, hn⟩ := ih _ (.mk M G) (met_turn M G)
      refine ⟨n + 1, fun c' r' G' => ?_⟩
      obtain ⟨rfl, rfl⟩ := pick_one M G G'
      exact hn
    · exact ⟨0, fun c r G => h ⟨c, r, G⟩⟩
theorem bnd_turn {m : Nat} {os : List Offer} {n : Nat} {L : LT} {c r : Nat} (h : Bnd m os n L) (G : Pick m os L c r) : ∃ n', n' < n ∧ Bnd m os n' (turnL L c r) := by
  cases n with
  | zero => exact absurd G (h c r)
  | succ n => exact ⟨n, by omega, h c r G⟩
end K34
set_option Elab.async false
set_option linter.all false
set_option maxRecDepth 100000
/-! rules that the layer has not: enumerate(tuple), list.extend(tuple), set(list of ints), sorted(tuple of ints), zip of tuples in a comprehension -/
namespace KR
open PySem PySem.Spec PyProof.Rows L2 RZ

/-! ### enumerate(tuple) -/
theorem meets_enumerate_newT (l : Addr) (items : Array Value) (n : Nat) (dct : Option Addr) (sl : Array (Option Value)) :
    Meets (Builtin.«enumerate.__new__» ⟨[.type "enumerate", .ref l], []⟩) (fun _ R s => s.heap.get? l = some { cls := .type "tuple", dict := dct, data := .seq items n, slots := sl } ∧
      R (.ok (.ret (.ref (s.heap.push { cls := .type "tuple_iterator", data := .fields #[.ref l, .int 0 0] }).objs.size)))
        { s with heap := (s.heap.push { cls := .type "tuple_iterator", data := .fields #[.ref l, .int 0 0] }).push { cls := .type "enumerate", data := .fields #[.none, .bool false, .ref s.heap.objs.size, rawInt 0, .none, .none] } }) :=
  .of_wp fun prog w A R s h => by
    obtain ⟨hp, g, d, tk, os⟩ := s; obtain ⟨hl, h⟩ := h
    have hsub := sub_enumerate
    have hL : Heap.IsTuple (Shared.heap ⟨hp, g, d, tk, os⟩) l items := ⟨_, hl, rfl, n, rfl⟩
    wp_walk using AutoSeq1.wpAny_loadPart' hl
    refine wpAny_stack_any fun st => wpAny_pure ?_
    split
    · rename_i c _ _ _ _ _
      cases (c == Value.type "enumerate")
      · wp_walk using AutoSeq1.wpAny_loadPart' hl, wpAny_pyIter_tuple hL
        exact ⟨_, rfl, h⟩
      · wp_walk using AutoSeq1.wpAny_loadPart' hl, wpAny_pyIter_tuple hL
        exact ⟨_, rfl, h⟩
    · wp_walk using AutoSeq1.wpAny_loadPart' hl, wpAny_pyIter_tuple hL
      exact ⟨_, rfl, h⟩

theorem call_enumerate_tuple {prog : Program} {w : World} {A : Around} {E : Value → Shared → Prop} {s : Shared} {l : Addr} {items : Array Value} {Q : Value → Shared → Prop} (hL : s.heap.IsTuple l items)
    (h : ∀ h', IsEnum h' (s.heap.objs.size + 1) s.heap.objs.size 0 .none → h'.IsTupleIter s.heap.objs.size l 0 → h'.objs.size = s.heap.objs.size + 2 →
      (∀ b o, s.heap.get? b = some o → h'.get? b = some o) → Q (.ref (s.heap.objs.size + 1)) { s with heap := h' }) :
    wpAny (model prog w) A (call (.type "enumerate") [.ref l]) Q E s := by
  obtain ⟨⟨c, dct, dt, sl⟩, hl, hc, n, hd⟩ := hL
  replace hc : c = .type "tuple" := hc
  replace hd : dt = .seq items n := hd
  subst hc hd
  refine callType_new F.called_enumerate (by decide) (F.typeCall_enumerate_1 _) (F.newCall_enumerate_1 _) (fun obj => F.args_object_init_2 obj _) F.entry_enumerate_new
    (meets_enumerate_newT l items n dct sl) ⟨hl, ?_⟩
  have hz : (s.heap.push { cls := .type "tuple_iterator", data := .fields #[.ref l, .int 0 0] }).objs.size = s.heap.objs.size + 1 := Heap.size_push ..
  show _ ∧ _
  rw [hz]
  have he : IsEnum ((s.heap.push { cls := .type "tuple_iterator", data := .fields #[.ref l, .int 0 0] }).push
      { cls := .type "enumerate", data := .fields #[.none, .bool false, .ref s.heap.objs.size, rawInt 0, .none, .none] }) (s.heap.objs.size + 1) s.heap.objs.size 0 .none := by
    have := Heap.get?_push_size (s.heap.push { cls := .type "tuple_iterator", data := .fields #[.ref l, .int 0 0] })
      (o := { cls := .type "enumerate", data := .fields #[.none, .bool false, .ref s.heap.objs.size, rawInt 0, .none, .none] }) rfl
    rw [hz] at this; exact this
  refine ⟨⟨_, he, rfl⟩, h _ he ⟨_, Heap.get?_push_of_some _ (Heap.get?_push_size _ rfl), rfl, rfl⟩ (by rw [Heap.size_push, hz]) fun b o x => Heap.get?_push_of_some _ (Heap.get?_push_of_some _ x)⟩

def ItEt (K : PySem.W.Frag) (a : Addr) : It :=
  ⟨fun i H => ∃ (xs : List V) (x : V), SqT K H a xs ∧ xs[i]? = some x, fun i H v H' => ∃ T x, v = .ref T ∧ H T = none ∧ H' = upd H T (.tup [.int (i : Nat), x]) ∧ ∀ xs, SqT K H a xs → xs[i]? = some x, fun i H => ∃ xs : List V, SqT K H a xs ∧ xs.length = i⟩

theorem turn_enumT {P : Program} {w : World} {K : PySem.W.Frag} {elts : List Expr} {kk : Nat} {tpos : Pos} (a e it : Addr) (hai : a ≠ it) (hea : e ≠ a) :
    Turn P w K (.Tuple elts kk tpos) (ItEt K a) [e, it] e (fun i h => (∃ old, IsEnum h e it ((i : Nat) : Int) old) ∧ h.IsTupleIter it a i ∧ e ≠ it) where
  mem := by simp
  obj := fun i h st b hb => by
    obtain ⟨⟨old, he⟩, ⟨o, ho, hc, hd⟩, _⟩ := st
    have e' : b = e ∨ b = it := by simpa using hb
    rcases e' with z | z
    · rw [z]; exact ⟨_, he, fun v q => nomatch q⟩
    · rw [z]; exact ⟨o, ho, fun v q => by rw [hd] at q; cases q⟩
  keep := fun i h h' st k => let ⟨⟨old, he⟩, hi, hne⟩ := st; ⟨⟨old, k e (by simp) _ he⟩, hi.at fun o q => k it (by simp) o q, hne⟩
  item := by
    intro X hP hw hK hc i pins s σ H E I hf st hg
    subst hP hw hK
    obtain ⟨⟨old, he⟩, hit, hne⟩ := st
    obtain ⟨xs, x, hq, hx⟩ := hg
    obtain ⟨its, rv, p, hz⟩ := I.tuple hq
    obtain ⟨u, hu, ru⟩ := rv.get hx
    have hel : e < s.heap.objs.size := Heap.lt_size he
    have hil : it < s.heap.objs.size := by obtain ⟨_, q, _⟩ := hit; exact Heap.lt_size q
    have hu' : its.toArray[i]? = some u := by simpa using hu
    have hil2 : i < its.toArray.size := by
      rcases Nat.lt_or_ge i its.toArray.size with h | h
      · exact h
      · rw [Array.getElem?_eq_none h] at hu'; cases hu'
    have hef : e ∉ [it, a] := by simp [hne, hea]
    refine wpAny_pyNext_enum_itemC (Draws.tuple (prog := X.prog) (w := X.w) (A := X.A.in1) (I.ok.hd hc) it a hai its.toArray) he ⟨hit, p⟩ hil2 hne hef fun x' h' tk hP ho hs' hT hsz hk => ?_
    have ex' : x' = u := Option.some.inj (hP.symm.trans hu')
    subst ex'
    refine ⟨_, rfl, wpAny_letOwnedTupleGo_enum (s := { s with heap := h', toks := tk + 1 }) ho fun h'' he' sb => ?_⟩
    have hT2 : h''.get? s.heap.objs.size = some { cls := .type "tuple", data := .seq #[.int i tk, x'] } := (sb.2 _ (Nat.ne_of_gt hel)).trans hT
    have new : ObjOk X.prog X.w (upd H s.heap.objs.size (.tup [.int (i : Nat), x])) h'' s.heap.objs.size (.tup [.int (i : Nat), x]) :=
      ⟨by show 2 ≤ sizeLine; decide, [.int i tk, x'], .cons ⟨_, rfl⟩ (.cons ru .nil), ⟨_, hT2, rfl, _, rfl⟩⟩
    have I1 : Inv X pins σ (upd H s.heap.objs.size (.tup [.int (i : Nat), x])) { s with heap := h'', toks := tk + 1 } :=
      I.turnedNew (ch := [e, it]) (fun b ob hb q => (sb.2 b (fun z => hb (by simp [z]))).trans (hk b ob (fun z => hb (by simp [z])) (fun z => hb (by simp [z])) q)) hf (Nat.le_refl _) new
    refine ⟨.ref s.heap.objs.size, _, I1, rfl, ⟨_, x, rfl, I.hok.fresh (Nat.le_refl _), rfl, fun ys hy => by rw [I.tuple_inj hy hq]; exact hx⟩, ⟨⟨x', ?_⟩, hs'.1.at fun o q => (sb.2 it (Ne.symm hne)).trans q, hne⟩, fun b hb => ?_⟩
    · have e1 : ((i + 1 : Nat) : Int) = (i : Int) + 1 := by omega
      rw [e1]; exact he'
    · have hb' : b < s.heap.objs.size := by
        have e' : b = e ∨ b = it := by simpa using hb
        rcases e' with z | z
        · rw [z]; exact hel
        · rw [z]; exact hil
      rw [upd_ne (Nat.ne_of_lt hb')]
      exact (hf b hb).1
  done := by
    intro X hP hw hK hc i pins s σ H E I hf st hg
    subst hP hw hK
    obtain ⟨⟨old, he⟩, hit, hne⟩ := st
    obtain ⟨xs, hq, hx⟩ := hg
    obtain ⟨its, rv, p, hz⟩ := I.tuple hq
    obtain ⟨f0, f1, f2, f3, f4, f5⟩ := hf it (by simp)
    have hl := rv.length
    have hi : its.toArray.size = i := by simp; omega
    subst hi
    exact wpAny_pyNext_enum_endD (Draws.tuple (prog := X.prog) (w := X.w) (A := X.A.in1) (I.ok.hd hc) it a hai its.toArray) he ⟨hit, p⟩ fun h' eb => ⟨rfl, I.turned (t' := s.toks) (fun b o hb q => eb b o hb q) f0 f1 f3 f4 f5⟩
  self := fun A i s Q E st h => let ⟨⟨_, he⟩, _⟩ := st; wpAny_pyIter_enum he h
def iEnumT (K : PySem.W.Frag) (ta : TA) : TI := fun σ H R => ta σ H fun vs H1 => ∃ a xs, vs = [.ref a] ∧ SqT K H1 a xs ∧ R (ItEt K a) H1
theorem pi_enumT {X : Cx} {e : Expr} {ta : TA} {p pos tpos : Pos} {elts : List Expr} {kk : Nat} (hg : Gl X "enumerate") (hm : X.mg "enumerate" = none) (ha : PA X [e] ta) (hs : starEach [e] X.env = [(false, eval e X.env)] := by rfl) :
    PI X (.Tuple elts kk tpos) (.Call (.Name "enumerate" p) [e] [] pos) (iEnumT X.K ta) := by
  refine ⟨fun pins s σ H R I h => ?_⟩
  refine Call_ (ld_blt I hg hm boot_enumerate (PyProof.Rows.callWith_type1 (thn (ha.run pos pins s σ H _ I h) fun us s1 ⟨vs, H1, I1, r1, q1⟩ => ?_) hs rfl))
  obtain ⟨a, xs, ex, hq, q⟩ := q1
  subst ex
  cases r1 with
  | cons r rr =>
    cases rr
    cases r
    obtain ⟨its, rv, p', hz⟩ := I1.tuple hq
    have hal : a < s1.heap.objs.size := by obtain ⟨o, ho, _⟩ := p'; exact Heap.lt_size ho
    refine call_enumerate_tuple p' fun h' he hit hsz hk => wpAny_pyIter_enum he ?_
    have I2 : Inv X pins σ H1 { s1 with heap := h' } := I1.kept (t' := s1.toks) hk
    refine ⟨s1.heap.objs.size + 1, [s1.heap.objs.size + 1, s1.heap.objs.size], _, _, H1, rfl, I2, turn_enumT a (s1.heap.objs.size + 1) s1.heap.objs.size (Nat.ne_of_lt hal) (Nat.ne_of_gt (Nat.lt_succ_of_lt hal)), ⟨⟨.none, he⟩, hit, Nat.succ_ne_self _⟩, fun b hb => ?_, q⟩
    have e' : b = s1.heap.objs.size + 1 ∨ b = s1.heap.objs.size := by simpa using hb
    have hle : s1.heap.objs.size ≤ b := by
      rcases e' with z | z
      · rw [z]; exact Nat.le_add_right _ _
      · rw [z]; exact Nat.le_refl _
    exact I1.fpOk hle (I1.hok.fresh hle)

/-! ### walks -/
section
variable {K : PySem.W.Frag} {a b : Addr} {xs ys : List V}
theorem walk_enumT : Walk (ItEt K a) xs.length (fun H => SqT K H a xs) (YPair (fun i => some (.int (i : Nat))) (fun i => xs[i]?)) := by
  refine ⟨fun i _ hi q => ⟨xs, xs[i], q, by simp [hi]⟩, fun _ q => ⟨xs, q, rfl⟩, fun i H v H' _ q y => ?_⟩
  obtain ⟨T, x, h1, h2, h3, h4⟩ := y
  exact ⟨T, .int (i : Nat), x, h1, h2, h3, rfl, h4 xs q⟩
theorem walk_zipT {n : Nat} (hn : n = min xs.length ys.length) : Walk (ItzT K a b) n (fun H => SqT K H a xs ∧ SqT K H b ys) (YPair (fun i => xs[i]?) (fun i => ys[i]?)) := by
  subst hn
  refine ⟨fun i _ hi q => ?_, fun _ q => ⟨xs, ys, q.1, q.2, by omega⟩, fun i H v H' _ q y => ?_⟩
  · have h1 : i < xs.length := by omega
    have h2 : i < ys.length := by omega
    exact ⟨xs, ys, xs[i], ys[i], q.1, q.2, by simp [h1], by simp [h2]⟩
  · obtain ⟨T, x, z, h1, h2, h3, h4, h5⟩ := y
    exact ⟨T, x, z, h1, h2, h3, h4 xs q.1, h5 ys q.2⟩
end

/-! ### list.extend(tuple) -/
theorem extend_tuple (l : Addr) (items : Array Value) (n : Nat) (b : Addr) (items2 : Array Value) (n2 : Nat) (dct : Option Addr) (sl : Array (Option Value)) (hs0 : ¬(!items.isEmpty && Builtin.List.listTooLong (items.size + items2.size)) = true) (hs1 : items.size ≤ sizeLine) (hs2 : items.size + items2.size ≤ sizeLine + 1) :
    Meets (Builtin.«list.extend» ⟨[.ref l, .ref b], []⟩) (fun _ R s => s.heap.get? l = some { cls := .type "list", dict := none, data := .seq items n, slots := #[] } ∧
      s.heap.get? b = some { cls := .type "tuple", dict := dct, data := .seq items2 n2, slots := sl } ∧ R (.ok (.ret Value.none)) { s with heap := s.heap.update l (Obj.mapSeq fun x => x ++ items2), toks := s.toks }) :=
  .of_wp fun prog w A R s h => by
    obtain ⟨hp, g, d, tk, os⟩ := s; obtain ⟨hl, hb, h⟩ := h
    have f1 := AutoSeq1.idx_int; have f2 := AutoSeq1.sub_tuple_tuple; have f3 := AutoSeq1.sub_list_list; have f4 := AutoSeq1.sub_tuple_list; have f5 := AutoSeq1.sub_list_tuple
    have hz' : (items ++ items2).size ≤ sizeLine + 1 := by rw [Array.size_append]; exact hs2
    wp_walk using (wpAny_updateSeq hl rfl (hz := hs1) (_hz' := hz')), AutoSeq1.wpAny_loadPart' hl, AutoSeq1.wpAny_loadPart' hb
    exact ⟨_, rfl, h⟩
section
variable {X : Cx}
def rExtendT (K : PySem.W.Frag) : V → List V → Hp → VK → Prop := fun x vs H Q => ∃ l b xs zs, x = .ref l ∧ vs = [.ref b] ∧ H l = some (.lst xs) ∧ SqT K H b zs ∧ xs.length + zs.length ≤ sizeLine ∧ Q .non (upd H l (.lst (xs ++ zs)))
theorem mt_extendT : MtM X "list.extend" (rExtendT X.K) := by
  intro pins s σ H x vs v us Q I rx rv h
  obtain ⟨l, b, xs, zs, rfl, rfl, hH, hB, hz, q⟩ := h
  cases rx
  obtain ⟨u, rfl, ru⟩ := rv.one
  cases ru
  obtain ⟨z, its, n, r, hl, e⟩ := I.lstM hH
  obtain ⟨its2, r2, ⟨⟨c, dct, dt, sl⟩, e2, hc, n2, hd⟩, _⟩ := I.tuple hB
  replace hc : c = .type "tuple" := hc
  replace hd : dt = .seq its2.toArray n2 := hd
  subst hc hd
  have hl2 : its2.length = zs.length := r2.length.symm
  have hsz : its.toArray.size + its2.toArray.size ≤ sizeLine := by rw [List.size_toArray, List.size_toArray]; omega
  have hlong : ¬ (!its.toArray.isEmpty && Builtin.List.listTooLong (its.toArray.size + its2.toArray.size)) = true := by
    rw [notLongL hsz, Bool.and_false]
    exact Bool.false_ne_true
  refine call_meets F.slot_list_extend ⟨_, e, rfl⟩ F.entry_list_extend (F.args_list_extend_2 _ _) (extend_tuple l its.toArray n b its2.toArray n2 dct sl hlong (by rw [List.size_toArray]; omega) (by omega)) ⟨e, e2, ?_⟩
  exact ⟨.non, _, I.lset (its' := its ++ its2) hH e (by simp) (r.append r2) (by rw [List.length_append]; omega), rfl, q⟩

/-! ### sorted(tuple of ints) -/
theorem collect_tuple {prog : Program} {w : World} {A : Around} {E : Value → Shared → Prop} {s : Shared} {l : Addr} {vs : List Value} {Q : List Value → Shared → Prop} (hl : s.heap.IsTuple l vs.toArray)
    (h : Q vs { s with heap := (s.heap.push (seqObj "list" #[] 0)).update s.heap.objs.size (Obj.mapSeq (· ++ vs.toArray)) }) (hsz : vs.length ≤ sizeLine) :
    wpAny (model prog w) A (collect (.ref l)) Q E s := by
  obtain ⟨o, ho, hc, n, hd⟩ := id hl
  unfold collect
  refine wpAny_bind (wpAny_runValue (codeAny_builtin entry_proto_collect' ?_))
  show wpAny _ _ (do again (.builtin "list.__iadd__" ⟨[← newList [], .ref l], []⟩)) _ _ s
  refine wpAny_bind (wpAny_newList (wpAny_pure ⟨Code.quiet_builtin _ (by decide +kernel), codeAny_builtin entry_list_iadd' ?_⟩))
  show wpAny _ _ (Builtin.List.listExtendWith (.ref s.heap.objs.size) (.ref l) (.ref s.heap.objs.size)) _ _ { s with heap := s.heap.push (seqObj "list" #[] 0) }
  unfold Builtin.List.listExtendWith
  have ho' : (s.heap.push (seqObj "list" #[] 0)).get? l = some o := Heap.get?_push_of_some _ ho
  refine wpAny_bind (wpAny_typeOf (T := "tuple") ⟨o, ho', hc⟩ ?_)
  have ht : (Value.type "tuple" == Value.type "tuple") = true := by rfl
  rw [if_pos (by rw [ht]; simp)]
  refine wpAny_bind (listItems_at ho' hd ?_)
  refine wpAny_bind (listItems_at (xs := #[]) (n := 0) (Heap.get?_push_size _ rfl) rfl ?_)
  rw [if_neg (by simp)]
  refine wpAny_bind (listUpdate_at (xs := #[]) (n := 0) (Heap.get?_push_size _ rfl) rfl ?_ (Nat.zero_le _) (by show (#[] ++ vs.toArray).size ≤ sizeLine + 1; simp only [Array.size_append, List.size_toArray, List.length_nil]; omega))
  refine wpAny_pure ?_
  show wpAny (model prog w) A (do
      let o ← load s.heap.objs.size
      match o.data with
      | .seq xs _ => pure xs.toList
      | _ => unsupported "internal:collect") Q E { s with heap := (s.heap.push (seqObj "list" #[] 0)).update s.heap.objs.size (Obj.mapSeq (· ++ vs.toArray)) }
  refine wpAny_bind (wpAny_load (get?_update_seq (Heap.get?_push_size _ rfl) _) ?_)
  show wpAny _ _ (pure ((#[] : Array Value) ++ vs.toArray).toList) Q E _
  rw [show ((#[] : Array Value) ++ vs.toArray).toList = vs by simp]
  exact wpAny_pure h

theorem sorted_intsT {prog : Program} {w : World} {A : Around} {E : Value → Shared → Prop} {s : Shared} {l : Addr} {vs : List Value} {ns : List Int} {Q : Value → Shared → Prop} (hl : s.heap.IsTuple l vs.toArray) (hI : IntsAre vs ns) (h64 : vs.length < 64)
    (h : ∀ (out : Array Value) (ns' : List Int), IntsAre out.toList ns' → ns'.Perm ns → ns'.Pairwise (· ≤ ·) → Q (.ref (s.heap.objs.size + 1)) { s with heap := sortedAll s.heap vs out }) :
    wpAny (model prog w) A (call (.builtin "sorted") [.ref l]) Q E s := by
  refine Calls.call_function_entry kind_sorted plain_sorted entry_sorted (args_sorted1 _) ?_
  unfold Builtin.«sorted»
  refine wpAny_bind (m := checkCount "sorted" 1 1 _) (wpAny_pure ?_)
  refine wpAny_bind (collect_tuple hl ?_ (by rw [sizeLine_eq]; omega))
  refine wpAny_bind (wpAny_newList ?_)
  have hsz : ((s.heap.push (seqObj "list" #[] 0)).update s.heap.objs.size (Obj.mapSeq (· ++ vs.toArray))).objs.size = s.heap.objs.size + 1 := by
    rw [Heap.size_update, size_push']
  have hoL : (((s.heap.push (seqObj "list" #[] 0)).update s.heap.objs.size (Obj.mapSeq (· ++ vs.toArray))).push (seqObj "list" vs.toArray 0)).get? (s.heap.objs.size + 1) = some (seqObj "list" vs.toArray 0) := by
    rw [← hsz]; exact Heap.get?_push_size _ rfl
  show wpAny _ _ _ _ _ { s with heap := ((s.heap.push (seqObj "list" #[] 0)).update s.heap.objs.size (Obj.mapSeq (· ++ vs.toArray))).push (seqObj "list" vs.toArray 0) }
  rw [hsz]
  refine wpAny_bind (wpAny_holding (wpAny_call_entry slot_list_sort ⟨_, hoL, rfl⟩ entry_list_sort (list_sort_tree hoL hI h64 fun out ns' a1 a2 a3 => ⟨_, rfl, ?_⟩) (args_list_sort _)))
  exact wpAny_pure ⟨_, rfl, h out ns' a1 a2 a3⟩

def rSortedTp (K : PySem.W.Frag) : List V → Hp → VK → Prop := fun vs H Q => ∃ (a : Addr) (ns : List Int), vs = [V.ref a] ∧ SqT K H a (ns.map V.int) ∧ ns.length < 64 ∧
  ∀ (ns' : List Int) (p : Addr), ns'.Perm ns → ns'.Pairwise (· ≤ ·) → H p = none → Q (.ref p) (upd H p (.lst (ns'.map V.int)))
theorem cr_sortedTp : CallR X (.builtin "sorted") (rSortedTp X.K) := by
  intro pins s σ H vs us Q I r h
  obtain ⟨a, ns, rfl, hs, h64, q⟩ := h
  obtain ⟨its, rv, hl, _⟩ := I.tuple hs
  rw [Vals.ref1 r]
  have hi := rv.ints
  refine sorted_intsT hl hi (by rw [hi.length]; exact h64) fun out ns' h1 h2 h3 => ?_
  obtain ⟨ep, he'⟩ := PyProof.Rows.sortedAll_at s.heap its out
  have hlen : (ns'.map V.int).length ≤ sizeLine := by rw [List.length_map, h2.length_eq]; exact small64 h64
  exact ⟨.ref _, upd H (s.heap.objs.size + 1) (.lst (ns'.map V.int)), I.laid (t' := s.toks) (fun _ _ => PyProof.Rows.sortedAll_old) (Nat.le_succ _) ⟨hlen, out.toList, ep, vals_of_ints h1, he'⟩, rfl, q ns' _ h2 h3 (I.hok.fresh (Nat.le_succ _))⟩

/-! ### set(list of ints) -/
open PySem.W in
set_option maxRecDepth 100000 in
set_option maxHeartbeats 3200000 in
theorem call_set_lstI {prog : Program} {w : World} {A : Around} {E : Value → Shared → Prop} {s : Shared} {l : Addr} {items : Array Value} (ns : List Int) {Q : Value → Shared → Prop} (hh : A.handled = none) (hl : s.heap.IsList l items) (hit : IntsAre items.toList ns) (hb : ns.length + 1 < scanBound)
    (h : ∀ (h' : Heap) (tk c : Nat), SetR w h' s.heap.objs.size (fun j => decide (j ∈ ns)) c → c ≤ ns.length → (∀ b o, s.heap.get? b = some o → h'.get? b = some o) → Q (.ref s.heap.objs.size) { s with heap := h', toks := tk }) :
    wpAny (model prog w) A (call (.type "set") [.ref l]) Q E s := by
  have hisz : items.size = ns.length := by
    have q := IntsAre.length hit
    rw [Array.length_toList] at q
    exact q
  obtain ⟨c, tl, hmro⟩ := F.called_set.mro
  have hmade := F.called_set.made
  have hsub := F.called_set.sub
  refine wpAny_call (codeAny_of_tree ?_)
  show wpAny _ _ (callAny (.type "set") _) _ _ _
  refine wpAny_pure ⟨Code.quiet_builtin _ (by decide +kernel), codeAny_builtin F.entry_type_call ?_⟩
  rw [Around.under_plain (weight_type_call_type "set" [.ref l] []) rfl]
  have h1 := F.called_set.notType
  have h2 := F.called_set.canCreate
  have hct := F.typeCall_set_1 (.ref l)
  repeat (any_goals (first | assumption | wp_step))

  refine codeAny_mono (code_set_led1 (.ref l) (E := E) (Q₁ := fun obj s₁ => obj = .ref s.heap.objs.size ∧ s₁ = { s with heap := s.heap.push { cls := .type "set", dict := none, data := .set #[] 0 (.fresh 0 0 (!w.params.followText "set-order")) } }) ⟨rfl, rfl⟩) fun r s₁ hr => ?_
  cases r with
  | error e => exact hr
  | ok fl =>
    cases fl with
    | ret obj =>
      obtain ⟨rfl, rfl⟩ := hr
      have hS : (s.heap.push { cls := .type "set", dict := none, data := .set #[] 0 (.fresh 0 0 (!w.params.followText "set-order")) }).get? s.heap.objs.size = some { cls := .type "set", dict := none, data := .set #[] 0 (.fresh 0 0 (!w.params.followText "set-order")) } := Heap.get?_push_size _ rfl
      have hT : Shared.TypeIs { s with heap := s.heap.push { cls := .type "set", dict := none, data := .set #[] 0 (.fresh 0 0 (!w.params.followText "set-order")) } } (.ref s.heap.objs.size) "set" := ⟨_, hS, rfl⟩
      have hli := F.called_set.init.lookup
      have hbi := F.called_set.init.bind (.ref s.heap.objs.size)
      repeat (any_goals (first | assumption | wp_step))

      refine codeAny_mono (codeAny_call_builtin (R := wants (fun r s₂ => r = .none ∧ ∃ h' tk c, s₂ = { s with heap := h', toks := tk } ∧ SetR w h' s.heap.objs.size (fun j => decide (j ∈ ns)) c ∧ c ≤ ns.length ∧
          (∀ b o, s.heap.get? b = some o → h'.get? b = some o)) E) F.called_set.init.plain F.entry_set_init (check_set_init_1 hT ?_)) fun r₂ s₂ hr₂ => ?_
      · obtain ⟨ol, hol, hcl, nl, hdl⟩ := hl
        obtain ⟨ocls, odict, odata, oslots⟩ := ol
        simp only at hcl hdl
        subst hcl; subst hdl
        have hol' : (s.heap.push { cls := .type "set", dict := none, data := .set #[] 0 (.fresh 0 0 (!w.params.followText "set-order")) }).get? l = some { cls := .type "list", dict := odict, data := .seq items nl, slots := oslots } := Heap.get?_push_of_some _ hol
        have hsls := F.sub_list_set
        have hslf := F.sub_list_frozenset
        have hne : (Value.type "list" == Value.type "dict") = false := by decide
        have hl1 : (s.heap.push { cls := .type "set", dict := none, data := .set #[] 0 (.fresh 0 0 (!w.params.followText "set-order")) }).IsList l items := ⟨_, hol', rfl, nl, rfl⟩
        unfold Builtin.«set.__init__» noKeywords Builtin.Frozenset.updateFrom
        generalize hPI : pyIter = PI
        wp_walk
        subst hPI

        refine wpAny_pyIter_list hl1 ?_
        refine wpAny_bind (wpAny_runValue ?_)
        have hlS : l < s.heap.objs.size := Heap.lt_size hol
        have hh3 : A.in1.in1.in1.handled = none := by simp [hh]
        have hz1 : (s.heap.push { cls := .type "set", dict := none, data := .set #[] 0 (.fresh 0 0 (!w.params.followText "set-order")) }).objs.size = s.heap.objs.size + 1 := Heap.size_push ..
        have hneI : l ≠ (s.heap.push { cls := .type "set", dict := none, data := .set #[] 0 (.fresh 0 0 (!w.params.followText "set-order")) }).objs.size := by
          rw [Heap.size_push]; exact Nat.ne_of_lt (Nat.lt_succ_of_lt hlS)
        have hSf : s.heap.objs.size ∉ [(s.heap.push { cls := .type "set", dict := none, data := .set #[] 0 (.fresh 0 0 (!w.params.followText "set-order")) }).objs.size, l] := by
          rw [Heap.size_push]; simp only [List.mem_cons, List.mem_singleton, List.not_mem_nil, or_false, not_or]
          exact ⟨Nat.ne_of_lt (Nat.lt_succ_self _), Nat.ne_of_gt hlS⟩
        have hval : ∀ (i : Nat) (v : Value), items[i]? = some v → ∃ k t, ns[i]? = some k ∧ v = .int k t := fun i v hv => by
          have hi : i < ns.length := by rw [← hisz]; exact (Array.getElem?_eq_some_iff.mp hv).1
          obtain ⟨t, e⟩ := PyProof.Rows.IntsAre.int_at hit i v (by rw [Array.getElem?_toList]; exact hv)
          refine ⟨ns[i], t, List.getElem?_eq_getElem hi, ?_⟩
          rw [e, List.getD_eq_getElem?_getD, List.getElem?_eq_getElem hi] <;> rfl
        refine set_update_ints ((Walks.list hh3 _ l hneI items).toS) s.heap.objs.size
          hSf ns hisz hb hval (items.size - 0) 0 _ (by omega) (Nat.zero_le _)
          ⟨⟨_, Heap.get?_push_size _ rfl, rfl, rfl⟩, (hl1.push _)⟩ ?hS0 ?hR
        case hS0 =>
          have hget : ((s.heap.push { cls := .type "set", dict := none, data := .set #[] 0 (.fresh 0 0 (!w.params.followText "set-order")) }).push { cls := .type "list_iterator", data := .fields #[.ref l, .int 0 0] }).get? s.heap.objs.size
              = some { cls := .type "set", dict := none, data := .set #[] 0 (.fresh 0 0 (!w.params.followText "set-order")) } := Heap.get?_push_of_some _ hS
          exact ⟨0, Nat.le_refl 0, setR_new_at hget⟩
        case hR =>
          intro s' c' hm hc' hS'
          obtain ⟨h', g2, d', tk', os'⟩ := s'
          have eg : g2 = s.gens := hm.gens
          have ed : d' = s.drawn := hm.drawn
          have eo : os' = s.os := hm.os
          subst eg; subst ed; subst eo
          show wpAny _ _ _ _ _ _
          refine wpAny_pure ?_
          show wpAny _ _ (ret Value.none) _ _ _
          rw [hisz] at hc'
          refine wpAny_pure ⟨rfl, h', tk', c', rfl, hS', hc', fun b o e => ?_⟩
          have hb0 : b < s.heap.objs.size := Heap.lt_size e
          have hb1 : b ≠ s.heap.objs.size := Nat.ne_of_lt hb0
          have hb2 : b ≠ (s.heap.push { cls := .type "set", dict := none, data := .set #[] 0 (.fresh 0 0 (!w.params.followText "set-order")) }).objs.size := by
            rw [Heap.size_push]; exact Nat.ne_of_lt (Nat.lt_succ_of_lt hb0)
          exact hm.heap b o (by simp only [List.mem_cons, List.mem_singleton, List.not_mem_nil, or_false, not_or]; exact ⟨hb1, hb2⟩) (Heap.get?_push_of_some _ (Heap.get?_push_of_some _ e))

      · cases r₂ with
        | error e => exact hr₂
        | ok fl₂ =>
          cases fl₂ with
          | ret r =>
            obtain ⟨rfl, h', tk, c', rfl, hS', hc', hk'⟩ := hr₂
            repeat (any_goals (first | assumption | wp_step))
            exact h _ _ _ hS' hc' hk'
          | _ => exact hr₂.elim
    | _ => exact hr.elim
end
end KR
set_option Elab.async false
set_option linter.all false
set_option maxRecDepth 100000
namespace KR
open PySem PySem.Spec PyProof.Rows L2 RZ
theorem _root_.L2.SetR.few {w : World} {h : Heap} {a : Addr} {S : Int → Bool} {n B : Nat} (R : SetR w h a S n) (hB : ∀ k, S k = true → 0 ≤ k ∧ k < (B : Int)) : n ≤ B := by
  obtain ⟨o, es, ep, t, _, _, _, _, nd, hk, _, _, hn, _⟩ := R
  have h1 : ((es.toList.map keyOf).map Int.toNat).Nodup := by
    refine List.pairwise_map.2 (nd.imp_of_mem fun {x y} hx hy hne e => hne ?_)
    have h1 := hB x ((hk x).2 hx)
    have h2 := hB y ((hk y).2 hy)
    omega
  have h2 := h1.length_le_of_subset (l₂ := List.range B) fun x hx => by
    obtain ⟨y, hy, e⟩ := List.mem_map.1 hx
    have h1 := hB y ((hk y).2 hy)
    exact List.mem_range.2 (by omega)
  rw [List.length_map, List.length_map, List.length_range, Array.length_toList] at h2
  omega
section
variable {X : Cx}
def rSetL (K : PySem.W.Frag) (w : World) : List V → Hp → VK → Prop := fun xs H Q => ∃ (l : Addr) (ns : List Int), xs = [V.ref l] ∧ SqL K H l (ns.map V.int) ∧ ns.length ≤ 1000 ∧
  ∀ (a : Addr) (S : Int → Bool) (n : Nat), H a = none → (∀ k, S k = true ↔ k ∈ ns) → (∀ B : Nat, (∀ k ∈ ns, 0 ≤ k ∧ k < (B : Int)) → n ≤ B) → Q (.ref a) (upd H a (SetO w a S n))
theorem cr_setL (hc : X.calm = true) : CallR X (.type "set") (rSetL X.K X.w) := by
  intro pins s σ H xs us Q I r h
  obtain ⟨l, ns, rfl, hl, h60, q⟩ := h
  rw [Vals.ref1 r]
  obtain ⟨its, rv, pl, hz⟩ := I.list hl
  have hi := rv.ints
  have hn : H s.heap.objs.size = none := I.hok.fresh (Nat.le_refl _)
  have hb : ns.length + 1 < scanBound := Nat.lt_of_le_of_lt (Nat.succ_le_succ h60) (by decide)
  refine call_set_lstI ns (I.ok.hd hc) pl.isList (by simpa using hi) hb fun h' tk c R hc' k => ?_
  refine ⟨.ref s.heap.objs.size, upd H s.heap.objs.size (SetO X.w s.heap.objs.size (fun j => decide (j ∈ ns)) c), I.laid (t' := tk) k (Nat.le_refl _) (setO_new R), rfl, q _ _ c hn (fun k => by simp) fun B hB => ?_⟩
  exact R.few fun k hk => hB k (by simpa using hk)
end
end KR
set_option Elab.async false
set_option linter.all false
set_option maxRecDepth 100000
/-! the text by places -/
namespace K34
open PySem L2
def topS (i : Nat) : Stmt := PySem.Challenge.pw_cheapcovers_k34_whole_both_sides.main.body.getD i (.Pass ⟨0, 0, 0, 0⟩)
abbrev t_is_whole : Stmt := topS 3
abbrev n_is_whole : List Str := ["thing"]
theorem s_is_whole : FnScope n_is_whole ["thing"] (defScope t_is_whole) := ⟨rfl, rfl, rfl, by decide +kernel, rfl, by decide +kernel, by decide +kernel⟩
abbrev t_divisor : Stmt := topS 4
abbrev n_divisor : List Str := ["one", "other"]
theorem s_divisor : FnScope n_divisor ["one", "other"] (defScope t_divisor) := ⟨rfl, rfl, rfl, by decide +kernel, rfl, by decide +kernel, by decide +kernel⟩
abbrev t_made : Stmt := topS 5
abbrev n_made : List Str := ["top", "bottom", "by"]
theorem s_made : FnScope n_made ["top", "bottom"] (defScope t_made) := ⟨rfl, rfl, rfl, by decide +kernel, rfl, by decide +kernel, by decide +kernel⟩
abbrev t_is_fraction : Stmt := topS 6
abbrev n_is_fraction : List Str := ["thing"]
theorem s_is_fraction : FnScope n_is_fraction ["thing"] (defScope t_is_fraction) := ⟨rfl, rfl, rfl, by decide +kernel, rfl, by decide +kernel, by decide +kernel⟩
abbrev t_plus : Stmt := topS 7
abbrev n_plus : List Str := ["one", "other"]
theorem s_plus : FnScope n_plus ["one", "other"] (defScope t_plus) := ⟨rfl, rfl, rfl, by decide +kernel, rfl, by decide +kernel, by decide +kernel⟩
abbrev t_minus : Stmt := topS 8
abbrev n_minus : List Str := ["one", "other"]
theorem s_minus : FnScope n_minus ["one", "other"] (defScope t_minus) := ⟨rfl, rfl, rfl, by decide +kernel, rfl, by decide +kernel, by decide +kernel⟩
abbrev t_times : Stmt := topS 9
abbrev n_times : List Str := ["one", "other"]
theorem s_times : FnScope n_times ["one", "other"] (defScope t_times) := ⟨rfl, rfl, rfl, by decide +kernel, rfl, by decide +kernel, by decide +kernel⟩
abbrev t_over : Stmt := topS 10
abbrev n_over : List Str := ["one", "other"]
theorem s_over : FnScope n_over ["one", "other"] (defScope t_over) := ⟨rfl, rfl, rfl, by decide +kernel, rfl, by decide +kernel, by decide +kernel⟩
abbrev t_less : Stmt := topS 11
abbrev n_less : List Str := ["one", "other"]
theorem s_less : FnScope n_less ["one", "other"] (defScope t_less) := ⟨rfl, rfl, rfl, by decide +kernel, rfl, by decide +kernel, by decide +kernel⟩
abbrev t_total : Stmt := topS 12
abbrev n_total : List Str := ["some", "found", "one"]
theorem s_total : FnScope n_total ["some"] (defScope t_total) := ⟨rfl, rfl, rfl, by decide +kernel, rfl, by decide +kernel, by decide +kernel⟩
abbrev t_is_upto : Stmt := topS 19
abbrev n_is_upto : List Str := ["thing", "many"]
theorem s_is_upto : FnScope n_is_upto ["thing", "many"] (defScope t_is_upto) := ⟨rfl, rfl, rfl, by decide +kernel, rfl, by decide +kernel, by decide +kernel⟩
abbrev t_is_rising : Stmt := topS 20
abbrev n_is_rising : List Str := ["thing", "many", "one", "other"]
theorem s_is_rising : FnScope n_is_rising ["thing", "many"] (defScope t_is_rising) := ⟨rfl, rfl, rfl, by decide +kernel, rfl, by decide +kernel, by decide +kernel⟩
abbrev t_is_lot : Stmt := topS 21
abbrev n_is_lot : List Str := ["stock", "thing"]
theorem s_is_lot : FnScope n_is_lot ["stock", "thing"] (defScope t_is_lot) := ⟨rfl, rfl, rfl, by decide +kernel, rfl, by decide +kernel, by decide +kernel⟩
abbrev t_need_lot : Stmt := topS 22
abbrev n_need_lot : List Str := ["stock", "thing"]
theorem s_need_lot : FnScope n_need_lot ["stock", "thing"] (defScope t_need_lot) := ⟨rfl, rfl, rfl, by decide +kernel, rfl, by decide +kernel, by decide +kernel⟩
abbrev t_things_in : Stmt := topS 23
abbrev n_things_in : List Str := ["stock", "lot", "found", "offer"]
theorem s_things_in : FnScope n_things_in ["stock", "lot"] (defScope t_things_in) := ⟨rfl, rfl, rfl, by decide +kernel, rfl, by decide +kernel, by decide +kernel⟩
abbrev t_price_in : Stmt := topS 24
abbrev n_price_in : List Str := ["stock", "lot", "offer"]
theorem s_price_in : FnScope n_price_in ["stock", "lot"] (defScope t_price_in) := ⟨rfl, rfl, rfl, by decide +kernel, rfl, by decide +kernel, by decide +kernel⟩
abbrev t_price_of : Stmt := topS 25
abbrev n_price_of : List Str := ["stock", "lot"]
theorem s_price_of : FnScope n_price_of ["stock", "lot"] (defScope t_price_of) := ⟨rfl, rfl, rfl, by decide +kernel, rfl, by decide +kernel, by decide +kernel⟩
abbrev t_has_all : Stmt := topS 26
abbrev n_has_all : List Str := ["stock", "lot"]
theorem s_has_all : FnScope n_has_all ["stock", "lot"] (defScope t_has_all) := ⟨rfl, rfl, rfl, by decide +kernel, rfl, by decide +kernel, by decide +kernel⟩
abbrev t_is_full : Stmt := topS 27
abbrev n_is_full : List Str := ["stock"]
theorem s_is_full : FnScope n_is_full ["stock"] (defScope t_is_full) := ⟨rfl, rfl, rfl, by decide +kernel, rfl, by decide +kernel, by decide +kernel⟩
abbrev t_look_at_full : Stmt := topS 28
abbrev n_look_at_full : List Str := ["stock"]
theorem s_look_at_full : FnScope n_look_at_full ["stock"] (defScope t_look_at_full) := ⟨rfl, rfl, rfl, by decide +kernel, rfl, by decide +kernel, by decide +kernel⟩
abbrev t_offers_with : Stmt := topS 29
abbrev n_offers_with : List Str := ["stock", "thing", "number", "offer"]
theorem s_offers_with : FnScope n_offers_with ["stock", "thing"] (defScope t_offers_with) := ⟨rfl, rfl, rfl, by decide +kernel, rfl, by decide +kernel, by decide +kernel⟩
abbrev t_lessened_by : Stmt := topS 32
abbrev n_lessened_by : List Str := ["row", "head", "by", "one", "other"]
theorem s_lessened_by : FnScope n_lessened_by ["row", "head", "by"] (defScope t_lessened_by) := ⟨rfl, rfl, rfl, by decide +kernel, rfl, by decide +kernel, by decide +kernel⟩
abbrev t_best_of : Stmt := topS 33
abbrev n_best_of : List Str := ["stock", "table", "column"]
theorem s_best_of : FnScope n_best_of ["stock"] (defScope t_best_of) := ⟨rfl, rfl, rfl, by decide +kernel, rfl, by decide +kernel, by decide +kernel⟩
abbrev t_balanced : Stmt := topS 34
abbrev n_balanced : List Str := ["stock"]
theorem s_balanced : FnScope n_balanced ["stock"] (defScope t_balanced) := ⟨rfl, rfl, rfl, by decide +kernel, rfl, by decide +kernel, by decide +kernel⟩
abbrev t_are_shares : Stmt := topS 36
abbrev n_are_shares : List Str := ["thing", "many", "one"]
theorem s_are_shares : FnScope n_are_shares ["thing", "many"] (defScope t_are_shares) := ⟨rfl, rfl, rfl, by decide +kernel, rfl, by decide +kernel, by decide +kernel⟩
abbrev t_is_bearing : Stmt := topS 37
abbrev n_is_bearing : List Str := ["stock", "thing", "things", "price", "one"]
theorem s_is_bearing : FnScope n_is_bearing ["stock", "thing"] (defScope t_is_bearing) := ⟨rfl, rfl, rfl, by decide +kernel, rfl, by decide +kernel, by decide +kernel⟩
abbrev t_is_sharing : Stmt := topS 38
abbrev n_is_sharing : List Str := ["stock", "thing", "one", "k"]
theorem s_is_sharing : FnScope n_is_sharing ["stock", "thing"] (defScope t_is_sharing) := ⟨rfl, rfl, rfl, by decide +kernel, rfl, by decide +kernel, by decide +kernel⟩
abbrev t_worth_of : Stmt := topS 39
abbrev n_worth_of : List Str := ["stock", "bearing"]
theorem s_worth_of : FnScope n_worth_of ["stock", "bearing"] (defScope t_worth_of) := ⟨rfl, rfl, rfl, by decide +kernel, rfl, by decide +kernel, by decide +kernel⟩
abbrev t_shared_price : Stmt := topS 40
abbrev n_shared_price : List Str := ["stock", "sharing", "share", "offer"]
theorem s_shared_price : FnScope n_shared_price ["stock", "sharing"] (defScope t_shared_price) := ⟨rfl, rfl, rfl, by decide +kernel, rfl, by decide +kernel, by decide +kernel⟩
abbrev t_law_cell : Stmt := topS 42
abbrev n_law_cell : List Str := ["script", "k"]
theorem s_law_cell : FnScope n_law_cell ["script", "k"] (defScope t_law_cell) := ⟨rfl, rfl, rfl, by decide +kernel, rfl, by decide +kernel, by decide +kernel⟩
abbrev t_law_box : Stmt := topS 43
abbrev n_law_box : List Str := ["script", "k", "cell", "number", "mixed", "j"]
theorem s_law_box : FnScope n_law_box ["script", "k"] (defScope t_law_box) := ⟨rfl, rfl, rfl, by decide +kernel, rfl, by decide +kernel, by decide +kernel⟩
abbrev t_law_take : Stmt := topS 44
abbrev n_law_take : List Str := ["box", "many", "digit"]
theorem s_law_take : FnScope n_law_take ["box", "many"] (defScope t_law_take) := ⟨rfl, rfl, rfl, by decide +kernel, rfl, by decide +kernel, by decide +kernel⟩
abbrev t_law_things : Stmt := topS 45
abbrev n_law_things : List Str := ["box", "many", "way", "bits", "first", "step", "thing", "k"]
theorem s_law_things : FnScope n_law_things ["box", "many"] (defScope t_law_things) := ⟨rfl, rfl, rfl, by decide +kernel, rfl, by decide +kernel, by decide +kernel⟩
abbrev t_law_full : Stmt := topS 46
abbrev n_law_full : List Str := ["box", "most", "lots", "many", "far", "rows", "thing", "row", "k"]
theorem s_law_full : FnScope n_law_full ["box", "most", "lots"] (defScope t_law_full) := ⟨rfl, rfl, rfl, by decide +kernel, rfl, by decide +kernel, by decide +kernel⟩
abbrev t_law_has : Stmt := topS 47
abbrev n_law_has : List Str := ["stock", "lot", "found", "offer", "thing"]
theorem s_law_has : FnScope n_law_has ["stock", "lot"] (defScope t_law_has) := ⟨rfl, rfl, rfl, by decide +kernel, rfl, by decide +kernel, by decide +kernel⟩
abbrev t_law_cover : Stmt := topS 48
abbrev n_law_cover : List Str := ["box", "stock", "left", "found"]
theorem s_law_cover : FnScope n_law_cover ["box", "stock"] (defScope t_law_cover) := ⟨rfl, rfl, rfl, by decide +kernel, rfl, by decide +kernel, by decide +kernel⟩
abbrev t_law_frac : Stmt := topS 49
abbrev n_law_frac : List Str := ["top", "bottom", "one", "other"]
theorem s_law_frac : FnScope n_law_frac ["top", "bottom"] (defScope t_law_frac) := ⟨rfl, rfl, rfl, by decide +kernel, rfl, by decide +kernel, by decide +kernel⟩
abbrev t_law_sum : Stmt := topS 50
abbrev n_law_sum : List Str := ["some", "top", "bottom", "one"]
theorem s_law_sum : FnScope n_law_sum ["some"] (defScope t_law_sum) := ⟨rfl, rfl, rfl, by decide +kernel, rfl, by decide +kernel, by decide +kernel⟩
abbrev t_law_bearing : Stmt := topS 51
abbrev n_law_bearing : List Str := ["box", "stock", "thing", "found", "left", "room", "things", "price", "top", "bottom", "here", "part", "one"]
theorem s_law_bearing : FnScope n_law_bearing ["box", "stock"] (defScope t_law_bearing) := ⟨rfl, rfl, rfl, by decide +kernel, rfl, by decide +kernel, by decide +kernel⟩
abbrev t_law_sharing : Stmt := topS 52
abbrev n_law_sharing : List Str := ["box", "stock", "covers", "found", "offer", "turn", "cover"]
theorem s_law_sharing : FnScope n_law_sharing ["box", "stock"] (defScope t_law_sharing) := ⟨rfl, rfl, rfl, by decide +kernel, rfl, by decide +kernel, by decide +kernel⟩
abbrev t_law_less : Stmt := topS 53
abbrev n_law_less : List Str := ["one", "other"]
theorem s_law_less : FnScope n_law_less ["one", "other"] (defScope t_law_less) := ⟨rfl, rfl, rfl, by decide +kernel, rfl, by decide +kernel, by decide +kernel⟩
abbrev t_law_tight : Stmt := topS 54
abbrev n_law_tight : List Str := ["stock", "bears", "shares", "share", "offer", "thing", "some"]
theorem s_law_tight : FnScope n_law_tight ["stock", "bears", "shares"] (defScope t_law_tight) := ⟨rfl, rfl, rfl, by decide +kernel, rfl, by decide +kernel, by decide +kernel⟩
abbrev t_law_drawn_right : Stmt := topS 55
abbrev n_law_drawn_right : List Str := ["box", "stock", "best", "bears", "shares", "cover", "ones", "price", "offer"]
theorem s_law_drawn_right : FnScope n_law_drawn_right ["box", "stock", "best"] (defScope t_law_drawn_right) := ⟨rfl, rfl, rfl, by decide +kernel, rfl, by decide +kernel, by decide +kernel⟩
abbrev t_law : Stmt := topS 56
abbrev n_law : List Str := ["script", "k", "box", "stock", "bears", "shares", "best", "often", "dearer", "things", "price"]
theorem s_law : FnScope n_law ["script"] (defScope t_law) := ⟨rfl, rfl, rfl, by decide +kernel, rfl, by decide +kernel, by decide +kernel⟩
abbrev t_Tinit : Stmt := inClass (topS 31) 0
abbrev n_Tinit : List Str := ["self", "stock", "number", "offer", "row", "thing", "other"]
theorem s_Tinit : FnScope n_Tinit ["self", "stock"] (defScope t_Tinit) := ⟨rfl, rfl, rfl, by decide +kernel, rfl, by decide +kernel, by decide +kernel⟩
abbrev t_Tcoming : Stmt := inClass (topS 31) 1
abbrev n_Tcoming : List Str := ["self", "column"]
theorem s_Tcoming : FnScope n_Tcoming ["self"] (defScope t_Tcoming) := ⟨rfl, rfl, rfl, by decide +kernel, rfl, by decide +kernel, by decide +kernel⟩
abbrev t_Tgoing : Stmt := inClass (topS 31) 2
abbrev n_Tgoing : List Str := ["self", "column", "best", "place", "row", "key"]
theorem s_Tgoing : FnScope n_Tgoing ["self", "column"] (defScope t_Tgoing) := ⟨rfl, rfl, rfl, by decide +kernel, rfl, by decide +kernel, by decide +kernel⟩
abbrev t_Tturn : Stmt := inClass (topS 31) 3
abbrev n_Tturn : List Str := ["self", "column", "place", "by", "head", "one", "row"]
theorem s_Tturn : FnScope n_Tturn ["self", "column", "place"] (defScope t_Tturn) := ⟨rfl, rfl, rfl, by decide +kernel, rfl, by decide +kernel, by decide +kernel⟩
abbrev t_Tbearing : Stmt := inClass (topS 31) 4
abbrev n_Tbearing : List Str := ["self", "found", "head", "row"]
theorem s_Tbearing : FnScope n_Tbearing ["self"] (defScope t_Tbearing) := ⟨rfl, rfl, rfl, by decide +kernel, rfl, by decide +kernel, by decide +kernel⟩
abbrev t_Tsharing : Stmt := inClass (topS 31) 5
abbrev n_Tsharing : List Str := ["self", "one"]
theorem s_Tsharing : FnScope n_Tsharing ["self"] (defScope t_Tsharing) := ⟨rfl, rfl, rfl, by decide +kernel, rfl, by decide +kernel, by decide +kernel⟩
end K34
set_option Elab.async false
set_option linter.all false
set_option maxRecDepth 100000
/-! words for the walk: a def that stands, a def that keeps its promise, fractions and lists of them in the heap -/
namespace K34
open PySem PySem.Spec PyProof.Rows L2

/-- a def of the text that stands behind the top, by its module's name -/
structure Df (K : PySem.W.Frag) (mg : Str → Option Value) (x qual : Str) (st : Stmt) (ps : List Str) : Prop where
  ex : ∃ f fd, Fun K x qual st f fd ∧ mg x = some (.ref f) ∧ Binds K fd ps []
/-- a def that keeps a promise, by its module's name -/
structure Cal (P : Program) (w : World) (K : PySem.W.Frag) (mg : Str → Option Value) (base : Heap) (k : Nat) (x : Str) (ps : List Str) (sp : Sp) : Prop where
  ex : ∃ f fd, FnOk P w K mg base CX0 k f fd ps sp ∧ mg x = some (.ref f) ∧ PySem.W.keepIn K (.ref f) = true ∧ Binds K fd ps []
theorem Cal.mono {P : Program} {w : World} {K : PySem.W.Frag} {mg : Str → Option Value} {base : Heap} {j k : Nat} {x : Str} {ps : List Str} {sp : Sp} (C : Cal P w K mg base j x ps sp) (h : j ≤ k) : Cal P w K mg base k x ps sp := by
  obtain ⟨f, fd, F, r⟩ := C.ex
  exact ⟨f, fd, F.mono h, r⟩
theorem Cal.imp {P : Program} {w : World} {K : PySem.W.Frag} {mg : Str → Option Value} {base : Heap} {k : Nat} {x : Str} {ps : List Str} {sp sp' : Sp} (C : Cal P w K mg base k x ps sp) (h : ∀ vs H Q E, sp' vs H Q E → sp vs H Q E) : Cal P w K mg base k x ps sp' := by
  obtain ⟨f, fd, F, r⟩ := C.ex
  exact ⟨f, fd, F.imp h, r⟩

/-! ### heaps -/
theorem _root_.L2.Same.sqt {K : PySem.W.Frag} {H H' : Hp} {a : Addr} {xs : List V} (e : Same H H') (h : SqT K H a xs) : SqT K H' a xs := by
  rcases h with (h | ⟨o, h⟩) | h
  · exact .inl (.inl (e _ _ h))
  · exact .inl (.inr ⟨o, e _ _ h⟩)
  · exact .inr h
theorem same_upd {H : Hp} {p : Addr} {o : HO} (h : H p = none) : Same H (upd H p o) := fun b x e => by
  rw [upd_ne (ne_of_none e h)]
  exact e
/-- an object that H does not know may change -/
theorem same_mut {H H' : Hp} {p : Addr} {o : HO} (e : Same H H') (h : H p = none) : Same H (upd H' p o) := fun a u ha => by
  rw [upd_ne (ne_of_none ha h)]
  exact e a u ha
theorem tyT {K : PySem.W.Frag} {H : Hp} {a : Addr} {xs : List V} (h : SqT K H a xs) : TyX K H (.ref a) (.type "tuple") := by
  rcases h with (h | ⟨o, h⟩) | ⟨o, its, n, hk, hc, _⟩
  · exact .base (.tup h)
  · exact .fTuple h
  · exact .kTuple hk hc
/-- a list is no tuple's place: two things known of one address -/
theorem sqt_ne {K : PySem.W.Frag} {H : Hp} {a b : Addr} {xs : List V} {o : HO} (h : H a = some (.tup xs)) (h' : H b = some o) (d : HO.tup xs ≠ o) : a ≠ b := ne_of h h' d

/-! ### values that stand for data, place by place -/
def Rl {α : Type} (R : V → α → Prop) (vs : List V) (xs : List α) : Prop := vs.length = xs.length ∧ ∀ (i : Nat) (v : V) (x : α), vs[i]? = some v → xs[i]? = some x → R v x
section
variable {α : Type} {R : V → α → Prop} {vs : List V} {xs : List α}
theorem Rl.nil : Rl R [] ([] : List α) := ⟨rfl, fun i v x h => by simp at h⟩
theorem Rl.get (r : Rl R vs xs) {i : Nat} {x : α} (h : xs[i]? = some x) : ∃ v, vs[i]? = some v ∧ R v x := by
  have hi : i < xs.length := (List.getElem?_eq_some_iff.mp h).1
  have hv : i < vs.length := by rw [r.1]; exact hi
  exact ⟨vs[i], List.getElem?_eq_getElem hv, r.2 i _ x (List.getElem?_eq_getElem hv) h⟩
theorem Rl.getV (r : Rl R vs xs) {i : Nat} {v : V} (h : vs[i]? = some v) : ∃ x, xs[i]? = some x ∧ R v x := by
  have hi : i < vs.length := (List.getElem?_eq_some_iff.mp h).1
  have hv : i < xs.length := by rw [← r.1]; exact hi
  exact ⟨xs[i], List.getElem?_eq_getElem hv, r.2 i v _ h (List.getElem?_eq_getElem hv)⟩
theorem Rl.snoc {v : V} {x : α} (r : Rl R vs xs) (h : R v x) : Rl R (vs ++ [v]) (xs ++ [x]) := by
  refine ⟨by simp [r.1], fun i v' x' h1 h2 => ?_⟩
  by_cases hi : i < vs.length
  · rw [List.getElem?_append_left hi] at h1
    rw [List.getElem?_append_left (by rw [← r.1]; exact hi)] at h2
    exact r.2 i v' x' h1 h2
  · rw [List.getElem?_append_right (by omega)] at h1
    rw [List.getElem?_append_right (by rw [← r.1]; omega)] at h2
    rw [← r.1] at h2
    by_cases hz : i - vs.length = 0
    · rw [hz] at h1 h2
      have e1 : v = v' := Option.some.inj h1
      have e2 : x = x' := Option.some.inj h2
      rw [← e1, ← e2]; exact h
    · have h3 : [v].length ≤ i - vs.length := by
        show 1 ≤ _
        omega
      rw [List.getElem?_eq_none h3] at h1
      cases h1
theorem Rl.imp {R' : V → α → Prop} (r : Rl R vs xs) (h : ∀ v x, R v x → R' v x) : Rl R' vs xs := ⟨r.1, fun i v x a b => h v x (r.2 i v x a b)⟩
theorem Rl.set {v : V} {x : α} (r : Rl R vs xs) (h : R v x) (j : Nat) : Rl R (vs.set j v) (xs.set j x) := by
  refine ⟨by simp [r.1], fun i v' x' h1 h2 => ?_⟩
  rw [List.getElem?_set] at h1 h2
  by_cases e : j = i
  · rw [if_pos e] at h1 h2
    split at h1 <;> split at h2
    · cases h1; cases h2; exact h
    · cases h2
    · cases h1
    · cases h1
  · rw [if_neg e] at h1 h2
    exact r.2 i v' x' h1 h2
theorem Rl.append {ws : List V} {ys : List α} (r : Rl R vs xs) (q : Rl R ws ys) : Rl R (vs ++ ws) (xs ++ ys) := by
  refine ⟨by simp [r.1, q.1], fun i v' x' h1 h2 => ?_⟩
  by_cases hi : i < vs.length
  · rw [List.getElem?_append_left hi] at h1
    rw [List.getElem?_append_left (by rw [← r.1]; exact hi)] at h2
    exact r.2 i v' x' h1 h2
  · rw [List.getElem?_append_right (by omega)] at h1
    rw [List.getElem?_append_right (by rw [← r.1]; omega)] at h2
    rw [← r.1] at h2
    exact q.2 _ v' x' h1 h2
theorem Rl.map_int {xs : List Nat} : Rl (fun v (x : Nat) => v = .int (x : Int)) (xs.map fun (x : Nat) => V.int (x : Int)) xs := by
  refine ⟨by simp, fun i v x h1 h2 => ?_⟩
  rw [List.getElem?_map, h2] at h1
  exact (Option.some.inj h1).symm
end

/-! ### fractions -/
/-- the fraction q at a -/
def FrA (K : PySem.W.Frag) (H : Hp) (a : Addr) (q : Rat) : Prop := SqT K H a [.int q.num, .int (q.den : Int)]
def Fr (K : PySem.W.Frag) (H : Hp) (v : V) (q : Rat) : Prop := ∃ a, v = .ref a ∧ FrA K H a q
theorem FrA.mono {K : PySem.W.Frag} {H H' : Hp} {a : Addr} {q : Rat} (h : FrA K H a q) (e : Same H H') : FrA K H' a q := e.sqt h
theorem Fr.mono {K : PySem.W.Frag} {H H' : Hp} {v : V} {q : Rat} (h : Fr K H v q) (e : Same H H') : Fr K H' v q := let ⟨a, h1, h2⟩ := h; ⟨a, h1, h2.mono e⟩
theorem FrA.fr {K : PySem.W.Frag} {H : Hp} {a : Addr} {q : Rat} (h : FrA K H a q) : Fr K H (.ref a) q := ⟨a, rfl, h⟩
/-- lists and tuples of fractions -/
def FrL (K : PySem.W.Frag) (H : Hp) (a : Addr) (qs : List Rat) : Prop := ∃ vs, SqL K H a vs ∧ Rl (Fr K H) vs qs
def FrT (K : PySem.W.Frag) (H : Hp) (a : Addr) (qs : List Rat) : Prop := ∃ vs, SqT K H a vs ∧ Rl (Fr K H) vs qs
theorem FrL.mono {K : PySem.W.Frag} {H H' : Hp} {a : Addr} {qs : List Rat} (h : FrL K H a qs) (e : Same H H') : FrL K H' a qs := let ⟨vs, h1, h2⟩ := h; ⟨vs, e.seq h1, h2.imp fun _ _ r => r.mono e⟩
theorem FrT.mono {K : PySem.W.Frag} {H H' : Hp} {a : Addr} {qs : List Rat} (h : FrT K H a qs) (e : Same H H') : FrT K H' a qs := let ⟨vs, h1, h2⟩ := h; ⟨vs, e.sqt h1, h2.imp fun _ _ r => r.mono e⟩

/-! ### short words for terms -/
section
variable {X : Cx}
/-- t[j], t the tuple (the list) in slot i, j written -/
theorem pvt (i : Nat) {x : Str} {pos p2 p3 : Pos} {j : Int} {k} (hN : X.N[i]? = some x := by rfl) (hv : Vis X.env.scope x := by first | exact Or.inl rfl | exact Or.inr (Or.inl rfl) | exact Or.inr (Or.inr rfl)) (hd : (x == ("__debug__" : Str)) = false := by decide)
    (hcd : (x == ("__classdict__" : Str)) = false := by decide) : PE X (.Subscript (.Name x pos) (.Constant (.int j) k p2) p3) (tOp (rIxT X.K) (tVar i) (tC (.int j))) := pe_ix ix_tup (pv i hN hv hd hcd) pe_int (fun _ _ => rfl)
theorem pvl (i : Nat) {x : Str} {pos p2 p3 : Pos} {j : Int} {k} (hN : X.N[i]? = some x := by rfl) (hv : Vis X.env.scope x := by first | exact Or.inl rfl | exact Or.inr (Or.inl rfl) | exact Or.inr (Or.inr rfl)) (hd : (x == ("__debug__" : Str)) = false := by decide)
    (hcd : (x == ("__classdict__" : Str)) = false := by decide) : PE X (.Subscript (.Name x pos) (.Constant (.int j) k p2) p3) (tOp (rIxL X.K) (tVar i) (tC (.int j))) := pe_ix ix_list (pv i hN hv hd hcd) pe_int (fun _ _ => rfl)
/-- a built-in class as a value -/
theorem pty {n : String} {x : Str} {pos : Pos} (hg : Gl X x) (hm : X.mg x = none) (hv : bootBuiltins x = some (.type n)) (hn : x ≠ "__name__" := by decide) (hd : (x == ("__debug__" : Str)) = false := by decide) : PE X (.Name x pos) (tC (.ty n)) :=
  pe_bltn hg hm hv rfl hn hd
end
theorem at0 {x : V} {r : List V} : atI (x :: r) 0 = some x := atI_nat (j := 0) rfl
theorem at1 {x y : V} {r : List V} : atI (x :: y :: r) 1 = some y := atI_nat (j := 1) rfl
theorem two_line : 2 ≤ sizeLine := by decide
theorem three_line : 3 ≤ sizeLine := by decide
theorem ld_of {n : Nat} (h : n ≤ 100000) : n ≤ sizeLine := Nat.le_trans h (by decide)
theorem ld_lt {n : Nat} (h : n < 100000) : n < sizeLine := Nat.lt_of_lt_of_le h (by decide)

/-! ### the mathematics of the fractions' tuples -/
theorem gcd_fmod (a b : Int) : Int.gcd b (a.fmod b) = Int.gcd a b := by
  have h : a.fmod b = a - b * a.fdiv b := by
    have := Int.mul_fdiv_add_fmod a b
    omega
  rw [h, Int.gcd_comm a b]
  have e : a - b * a.fdiv b = a + b * (-(a.fdiv b)) := by rw [Int.mul_neg]; omega
  rw [e]
  exact Int.gcd_add_mul_left_right b a _
theorem fmod_lt (a : Int) {b : Int} (h : 0 < b) : 0 ≤ a.fmod b ∧ a.fmod b < b :=
  ⟨Int.fmod_nonneg_of_pos a h, Int.fmod_lt_of_pos a h⟩

/-! ### the module's numbers -/
structure Nums (K : PySem.W.Frag) (mg : Str → Option Value) : Prop where
  z : ∃ a, mg "NOUGHT" = some (.ref a) ∧ ∀ H, FrA K H a 0
  o : ∃ a, mg "ONE" = some (.ref a) ∧ ∀ H, FrA K H a 1
/-! ### sums -/
def tot (qs : List Rat) : Rat := qs.foldl (· + ·) 0
theorem tot_take {qs : List Rat} {i : Nat} {q : Rat} (h : qs[i]? = some q) : tot (qs.take (i + 1)) = tot (qs.take i) + q := by
  rw [List.take_add_one, h]
  unfold tot
  simp [List.foldl_append]
end K34
set_option Elab.async false
set_option linter.all false
set_option maxRecDepth 100000
/-! the walk: ratios -/
namespace K34
open PySem PySem.Spec PyProof.Rows L2
section
variable {P : Program} {w : World} {K : PySem.W.Frag} {mg : Str → Option Value} {base : Heap}

/-! ### divisor -/
def spDivisor : Sp := fun vs H Q _ => ∃ i j : Int, vs = [.int i, .int j] ∧ 0 ≤ j ∧ Q (.int (Int.gcd i j : Nat)) H
theorem c_divisor (D : Df K mg "divisor" "divisor" t_divisor ["one", "other"]) (ma : mg "abs" = none) : Cal P w K mg base 1 "divisor" ["one", "other"] spDivisor := by
  obtain ⟨f, fd, F, g, b⟩ := D.ex
  refine ⟨f, fd, F.ok s_divisor (fun vs H Q E h => ?_) (fun cdv A outer s H vs Q E hr h => ?_), g, F.kp, b⟩
  · obtain ⟨i, j, rfl, _⟩ := h
    rfl
  · obtain ⟨i, j, rfl, hj, q⟩ := h
    refine ⟨_, pss_cons (ps_while PassesOwn.never (pt_cmpR op_ne (pv 1) pe_int (nomark _))
        (pss_one (ps_par (i := 0) (j := 1) (by rfl) s_divisor.nd rfl rfl (by decide) rfl rfl (pa_cons (pv 1) (pa_cons (pe_op op_modN (pv 0) (pv 1)) pa_nil)) (by rfl))))
      (pss_one (ps_ret (pe_callB call_abs (by rfl) ma boot_abs (pa_cons (pv 0) pa_nil)))), ?_⟩
    refine ⟨fun m σ H' => ∃ a c : Int, σ = [some (.int a), some (.int c)] ∧ H' = H ∧ 0 ≤ c ∧ m = c.natAbs ∧ Int.gcd a c = Int.gcd i j,
      ⟨j.natAbs, i, j, rfl, rfl, hj, rfl, rfl⟩, fun m σ H' hW => ?_⟩
    obtain ⟨a, c, rfl, rfl, hc, rfl, hg⟩ := hW
    refine ⟨_, rfl, rfl, _, rfl, ite2 (fun e => ?_) (fun e => ?_)⟩
    · have hc0 : c ≠ 0 := by
        intro z
        subst z
        simp at e
      obtain ⟨m1, m2⟩ := fmod_lt a (b := c) (by omega)
      refine ⟨fun σ' H'' => ∃ a' c' : Int, σ' = [some (.int a'), some (.int c')] ∧ H'' = H' ∧ 0 ≤ c' ∧ c' < c ∧ Int.gcd a' c' = Int.gcd i j, fun σ' H'' hN => ?_, ?_⟩
      · obtain ⟨a', c', e1, e2, e3, e4, e5⟩ := hN
        exact ⟨c'.natAbs, by omega, a', c', e1, e2, e3, rfl, e5⟩
      · exact ⟨_, rfl, _, rfl, _, rfl, a, c, rfl, rfl, hc0, _, _, rfl, c, a.fmod c, rfl, rfl, m1, m2, by rw [gcd_fmod]; exact hg⟩
    · have hc0 : c = 0 := by
        refine Classical.byContradiction fun z => e ?_
        simp [z]
      subst hc0
      refine ⟨_, rfl, a, rfl, ?_⟩
      have e2 : ((Int.gcd i j : Nat) : Int) = if a < 0 then -a else a := by
        rw [← hg, Int.gcd_zero_right]
        split <;> omega
      rw [← e2]
      exact q

/-! ### made -/
def spMade (K : PySem.W.Frag) : Sp := fun vs H Q _ => ∃ i j : Int, vs = [.int i, .int j] ∧ 0 < j ∧ j.natAbs < 2 ^ 9000 ∧
  ∀ c H', Same H H' → FrA K H' c (Rat.divInt i j) → Q (.ref c) H'
theorem divInt_num {i j : Int} (h : 0 < j) : (Rat.divInt i j).num = i / ((Int.gcd i j : Nat) : Int) := by
  rw [Rat.num_divInt, Int.sign_eq_one_of_pos h, Int.one_mul, Int.gcd_comm]
theorem divInt_den {i j : Int} (h : 0 < j) : ((Rat.divInt i j).den : Int) = j / ((Int.gcd i j : Nat) : Int) := by
  rw [Rat.den_divInt, if_neg (by omega), Int.gcd_comm, Int.natCast_ediv, Int.natAbs_of_nonneg (by omega)]
theorem gcd_le {i j : Int} (h : 0 < j) : 0 < Int.gcd i j ∧ Int.gcd i j ≤ j.natAbs := by
  have h1 : Int.gcd i j ∣ j.natAbs := Int.gcd_dvd_natAbs_right i j
  have h2 := Nat.le_of_dvd (by omega) h1
  have h3 : 0 < Int.gcd i j := Nat.pos_of_ne_zero fun z => by
    rw [z] at h1
    have := Nat.eq_zero_of_zero_dvd h1
    omega
  exact ⟨h3, h2⟩
theorem c_made (D : Df K mg "made" "made" t_made ["top", "bottom"]) (C : Cal P w K mg base 1 "divisor" ["one", "other"] spDivisor) : Cal P w K mg base 2 "made" ["top", "bottom"] (spMade K) := by
  obtain ⟨f, fd, F, g, b⟩ := D.ex
  obtain ⟨f1, d1, G1, g1, k1, b1⟩ := C.ex
  refine ⟨f, fd, F.ok s_made (fun vs H Q E h => ?_) (fun cdv A outer s H vs Q E hr h => ?_), g, F.kp, b⟩
  · obtain ⟨i, j, rfl, _⟩ := h
    rfl
  · obtain ⟨i, j, rfl, hj, hs, q⟩ := h
    refine ⟨_, pss_cons (ps_set (i := 2) s_made.nd rfl (.inl rfl) (pe_call G1 hr (by rfl) g1 k1 b1 .nil pass0 (pa_cons (pv 0) (pa_cons (pv 1) pa_nil))))
      (pss_cons (ps_if (pt_cmpR op_lt (pv 1) pe_int (nomark _)) (pss_one (ps_set (i := 2) s_made.nd rfl (.inl rfl) (pe_op op_sub pe_int (pv 2)))) pss_nil)
      (pss_one (ps_ret (pe_tup (pa_cons (pe_op op_fdivW (pv 0) (pv 2)) (pa_cons (pe_op op_fdivW (pv 1) (pv 2)) pa_nil)))))), ?_⟩
    obtain ⟨p1, p2⟩ := gcd_le (i := i) hj
    have hd : ∀ a : Int, CDivW a ((Int.gcd i j : Nat) : Int) := fun a => wide_div (by omega) (b := 9000) (by omega) (by decide) (by decide)
    refine ⟨_, rfl, _, rfl, i, j, rfl, by omega, ?_⟩
    refine ⟨_, rfl, j, 0, rfl, rfl, _, rfl, ite2 (fun e => absurd (of_decide_eq_true e) (by omega)) (fun e => ?_)⟩
    refine ⟨_, rfl, _, rfl, i, _, rfl, rfl, hd _, _, rfl, _, rfl, j, _, rfl, rfl, hd _, by show 2 ≤ sizeLine; decide, fun p hp => ?_⟩
    refine q p _ (same_upd hp) (.inl (.inl ?_))
    rw [divInt_num hj, divInt_den hj]
    exact upd_same

/-! ### plus, minus, times, over -/
/-- a fraction whose figures are few enough for the machine's products -/
structure Sz (q : Rat) : Prop where
  n : q.num.natAbs < 2 ^ 100000
  d : q.den < 2 ^ 100000
/-- two fractions whose bottoms' product is small enough for the machine's divisions -/
def Bd (p q : Rat) : Prop := p.den * q.den < 2 ^ 9000
theorem sz_mul {i j : Int} (h1 : i.natAbs < 2 ^ 100000) (h2 : j.natAbs < 2 ^ 100000) : CMulW i j := wide_mul h1 h2 (by decide) (by decide) (by decide)
theorem dd_pos (p q : Rat) : 0 < (p.den : Int) * (q.den : Int) := by
  have h1 := p.den_nz
  have h2 := q.den_nz
  exact Int.mul_pos (by omega) (by omega)
theorem bd_nat {p q : Rat} (h : Bd p q) : ((p.den : Int) * (q.den : Int)).natAbs < 2 ^ 9000 := by
  rw [Int.natAbs_mul, Int.natAbs_natCast, Int.natAbs_natCast]
  exact h
theorem plus_eq (p q : Rat) : Rat.divInt (p.num * (q.den : Int) + q.num * (p.den : Int)) ((p.den : Int) * (q.den : Int)) = p + q := by
  rw [Rat.add_def', ← Rat.divInt_ofNat, Int.natCast_mul]
theorem times_eq (p q : Rat) : Rat.divInt (p.num * q.num) ((p.den : Int) * (q.den : Int)) = p * q := by
  rw [Rat.mul_def', ← Rat.divInt_ofNat, Int.natCast_mul]
theorem num_pos {q : Rat} (h : 0 < q) : 0 < q.num := by
  have h1 : 0 ≤ q.num := Rat.num_nonneg.2 (Rat.le_of_lt h)
  have h2 : q.num ≠ 0 := fun z => by
    rw [Rat.num_eq_zero.1 z] at h
    exact absurd h Rat.lt_irrefl
  omega
theorem rat_nd (p : Rat) : (p.num : Rat) / ((p.den : Int) : Rat) = p := by rw [← Rat.divInt_eq_div, Rat.num_divInt_den]
theorem over_eq (p q : Rat) (h : 0 < q) : Rat.divInt (p.num * (q.den : Int)) ((p.den : Int) * q.num) = p / q := by
  rw [Rat.divInt_eq_div, Rat.intCast_mul, Rat.intCast_mul]
  have h1 := rat_nd p
  have h2 := rat_nd q
  have h3 : ((p.den : Int) : Rat) ≠ 0 := fun z => by
    have := Rat.intCast_eq_zero_iff.1 z
    have := p.den_nz
    omega
  have h4 : ((q.den : Int) : Rat) ≠ 0 := fun z => by
    have := Rat.intCast_eq_zero_iff.1 z
    have := q.den_nz
    omega
  have h5 : (q.num : Rat) ≠ 0 := fun z => by
    have := Rat.intCast_eq_zero_iff.1 z
    have := num_pos h
    omega
  generalize (p.num : Rat) = a at *
  generalize ((p.den : Int) : Rat) = b at *
  generalize (q.num : Rat) = c at *
  generalize ((q.den : Int) : Rat) = d at *
  rw [← h1, ← h2]
  grind
def sp2 (K : PySem.W.Frag) (C : Rat → Rat → Prop) (op : Rat → Rat → Rat) : Sp := fun vs H Q _ => ∃ a b p q, vs = [.ref a, .ref b] ∧ FrA K H a p ∧ FrA K H b q ∧ Sz p ∧ Sz q ∧ C p q ∧
  ∀ c H', Same H H' → FrA K H' c (op p q) → Q (.ref c) H'
theorem c_plus (D : Df K mg "plus" "plus" t_plus ["one", "other"]) (C : Cal P w K mg base 2 "made" ["top", "bottom"] (spMade K)) : Cal P w K mg base 3 "plus" ["one", "other"] (sp2 K Bd (· + ·)) := by
  obtain ⟨f, fd, F, g, b⟩ := D.ex
  obtain ⟨f1, d1, G1, g1, k1, b1⟩ := C.ex
  refine ⟨f, fd, F.ok s_plus (fun vs H Q E h => ?_) (fun cdv A outer s H vs Q E hr h => ?_), g, F.kp, b⟩
  · obtain ⟨_, _, _, _, rfl, _⟩ := h
    rfl
  · obtain ⟨a, b, p, q, rfl, ha, hb, sp, sq, hd, k⟩ := h
    refine ⟨_, pss_one (ps_ret (pe_call G1 hr (by rfl) g1 k1 b1 .nil pass0 (pa_cons (pe_op op_add (pe_op op_mulW (pe_ix ix_tup (pv 0) pe_int (fun _ _ => rfl)) (pe_ix ix_tup (pv 1) pe_int (fun _ _ => rfl)))
        (pe_op op_mulW (pe_ix ix_tup (pv 1) pe_int (fun _ _ => rfl)) (pe_ix ix_tup (pv 0) pe_int (fun _ _ => rfl))))
      (pa_cons (pe_op op_mulW (pe_ix ix_tup (pv 0) pe_int (fun _ _ => rfl)) (pe_ix ix_tup (pv 1) pe_int (fun _ _ => rfl))) pa_nil)))), ?_⟩
    have e0 : ∀ x y : V, atI [x, y] 0 = some x := fun _ _ => atI_nat (j := 0) rfl
    have e1 : ∀ x y : V, atI [x, y] 1 = some y := fun _ _ => atI_nat (j := 1) rfl
    refine ⟨_, rfl, a, _, 0, _, rfl, rfl, ha, e0 _ _, _, rfl, b, _, 1, _, rfl, rfl, hb, e1 _ _, _, _, rfl, rfl, sz_mul sp.n sq.d,
      _, rfl, b, _, 0, _, rfl, rfl, hb, e0 _ _, _, rfl, a, _, 1, _, rfl, rfl, ha, e1 _ _, _, _, rfl, rfl, sz_mul sq.n sp.d, _, _, rfl, rfl,
      _, rfl, a, _, 1, _, rfl, rfl, ha, e1 _ _, _, rfl, b, _, 1, _, rfl, rfl, hb, e1 _ _, _, _, rfl, rfl, sz_mul sp.d sq.d,
      _, _, rfl, dd_pos p q, bd_nat hd, fun c H' s hc => ?_⟩
    rw [plus_eq] at hc
    exact k c H' s hc

theorem c_minus (D : Df K mg "minus" "minus" t_minus ["one", "other"]) (C : Cal P w K mg base 3 "plus" ["one", "other"] (sp2 K Bd (· + ·))) : Cal P w K mg base 4 "minus" ["one", "other"] (sp2 K Bd (· - ·)) := by
  obtain ⟨f, fd, F, g, b⟩ := D.ex
  obtain ⟨f1, d1, G1, g1, k1, b1⟩ := C.ex
  refine ⟨f, fd, F.ok s_minus (fun vs H Q E h => ?_) (fun cdv A outer s H vs Q E hr h => ?_), g, F.kp, b⟩
  · obtain ⟨_, _, _, _, rfl, _⟩ := h
    rfl
  · obtain ⟨a, b, p, q, rfl, ha, hb, sp, sq, hd, k⟩ := h
    refine ⟨_, pss_one (ps_ret (pe_call G1 hr (by rfl) g1 k1 b1 .nil pass0 (pa_cons (pv 0) (pa_cons (pe_tup (pa_cons (pe_op op_sub pe_int (pvt 1)) (pa_cons (pvt 1) pa_nil))) pa_nil)))), ?_⟩
    refine ⟨_, rfl, _, rfl, b, _, 0, _, rfl, rfl, hb, at0, 0, _, rfl, rfl, _, rfl, b, _, 1, _, rfl, rfl, hb, at1, two_line, fun t ht => ?_⟩
    have st := same_upd (o := .tup [.int (0 - q.num), .int (q.den : Int)]) ht
    refine ⟨a, t, p, -q, rfl, ha.mono st, .inl (.inl ?_), sp, ⟨?_, sq.d⟩, hd, fun c H' s hc => ?_⟩
    · rw [show (-q).num = 0 - q.num by rw [Rat.neg_num, Int.zero_sub]]
      exact upd_same
    · rw [Rat.neg_num, Int.natAbs_neg]
      exact sq.n
    · refine k c H' (st.trans s) ?_
      show FrA K H' c (p - q)
      rw [Rat.sub_eq_add_neg]
      exact hc
theorem c_times (D : Df K mg "times" "times" t_times ["one", "other"]) (C : Cal P w K mg base 2 "made" ["top", "bottom"] (spMade K)) : Cal P w K mg base 3 "times" ["one", "other"] (sp2 K Bd (· * ·)) := by
  obtain ⟨f, fd, F, g, b⟩ := D.ex
  obtain ⟨f1, d1, G1, g1, k1, b1⟩ := C.ex
  refine ⟨f, fd, F.ok s_times (fun vs H Q E h => ?_) (fun cdv A outer s H vs Q E hr h => ?_), g, F.kp, b⟩
  · obtain ⟨_, _, _, _, rfl, _⟩ := h
    rfl
  · obtain ⟨a, b, p, q, rfl, ha, hb, sp, sq, hd, k⟩ := h
    refine ⟨_, pss_one (ps_ret (pe_call G1 hr (by rfl) g1 k1 b1 .nil pass0 (pa_cons (pe_op op_mulW (pvt 0) (pvt 1)) (pa_cons (pe_op op_mulW (pvt 0) (pvt 1)) pa_nil)))), ?_⟩
    refine ⟨_, rfl, a, _, 0, _, rfl, rfl, ha, at0, _, rfl, b, _, 0, _, rfl, rfl, hb, at0, _, _, rfl, rfl, sz_mul sp.n sq.n,
      _, rfl, a, _, 1, _, rfl, rfl, ha, at1, _, rfl, b, _, 1, _, rfl, rfl, hb, at1, _, _, rfl, rfl, sz_mul sp.d sq.d,
      _, _, rfl, dd_pos p q, bd_nat hd, fun c H' s hc => ?_⟩
    rw [times_eq] at hc
    exact k c H' s hc
/-- p by q: q above nought, and p's bottom by q's top small enough -/
def Od (p q : Rat) : Prop := 0 < q ∧ p.den * q.num.natAbs < 2 ^ 9000
theorem c_over (D : Df K mg "over" "over" t_over ["one", "other"]) (C : Cal P w K mg base 2 "made" ["top", "bottom"] (spMade K)) : Cal P w K mg base 3 "over" ["one", "other"] (sp2 K Od (· / ·)) := by
  obtain ⟨f, fd, F, g, b⟩ := D.ex
  obtain ⟨f1, d1, G1, g1, k1, b1⟩ := C.ex
  refine ⟨f, fd, F.ok s_over (fun vs H Q E h => ?_) (fun cdv A outer s H vs Q E hr h => ?_), g, F.kp, b⟩
  · obtain ⟨_, _, _, _, rfl, _⟩ := h
    rfl
  · obtain ⟨a, b, p, q, rfl, ha, hb, sp, sq, hd, k⟩ := h
    refine ⟨_, pss_one (ps_ret (pe_call G1 hr (by rfl) g1 k1 b1 .nil pass0 (pa_cons (pe_op op_mulW (pvt 0) (pvt 1)) (pa_cons (pe_op op_mulW (pvt 0) (pvt 1)) pa_nil)))), ?_⟩
    refine ⟨_, rfl, a, _, 0, _, rfl, rfl, ha, at0, _, rfl, b, _, 1, _, rfl, rfl, hb, at1, _, _, rfl, rfl, sz_mul sp.n sq.d,
      _, rfl, a, _, 1, _, rfl, rfl, ha, at1, _, rfl, b, _, 0, _, rfl, rfl, hb, at0, _, _, rfl, rfl, sz_mul sp.d sq.n,
      _, _, rfl, ?_, ?_, fun c H' s hc => ?_⟩
    · have h1 := p.den_nz
      have h2 := num_pos hd.1
      exact Int.mul_pos (by omega) h2
    · rw [Int.natAbs_mul, Int.natAbs_natCast]
      exact hd.2
    · rw [over_eq p q hd.1] at hc
      exact k c H' s hc
/-! ### less -/
def spLess (K : PySem.W.Frag) : Sp := fun vs H Q _ => ∃ a b p q, vs = [.ref a, .ref b] ∧ FrA K H a p ∧ FrA K H b q ∧ Sz p ∧ Sz q ∧ Q (.bl (decide (p < q))) H
theorem c_less_of {x : Str} {st : Stmt} (sc : FnScope ["one", "other"] ["one", "other"] (defScope st)) (hst : defBody st = defBody t_less) (hsc : (defScope st) = defScope t_less) (D : Df K mg x x st ["one", "other"]) : Cal P w K mg base 1 x ["one", "other"] (spLess K) := by
  obtain ⟨f, fd, F, g, b⟩ := D.ex
  refine ⟨f, fd, F.ok sc (fun vs H Q E h => ?_) (fun cdv A outer s H vs Q E hr h => ?_), g, F.kp, b⟩
  · obtain ⟨_, _, _, _, rfl, _⟩ := h
    rfl
  · obtain ⟨a, b, p, q, rfl, ha, hb, sp, sq, k⟩ := h
    rw [hst, hsc]
    refine ⟨_, pss_one (ps_ret (pe_cmpR op_lt (pe_op op_mulW (pvt 0) (pvt 1)) (pe_op op_mulW (pvt 1) (pvt 0)) (nomark _))), ?_⟩
    refine ⟨_, rfl, a, _, 0, _, rfl, rfl, ha, at0, _, rfl, b, _, 1, _, rfl, rfl, hb, at1, _, _, rfl, rfl, sz_mul sp.n sq.d,
      _, rfl, b, _, 0, _, rfl, rfl, hb, at0, _, rfl, a, _, 1, _, rfl, rfl, ha, at1, _, _, rfl, rfl, sz_mul sq.n sp.d, _, _, rfl, rfl, ?_⟩
    have e : decide (p < q) = decide (p.num * (q.den : Int) < q.num * (p.den : Int)) := decide_eq_decide.2 (Rat.lt_iff p q)
    rw [e] at k
    exact k
theorem c_less (D : Df K mg "less" "less" t_less ["one", "other"]) : Cal P w K mg base 1 "less" ["one", "other"] (spLess K) := c_less_of s_less rfl rfl D
/-! ### total -/
def Tots (qs : List Rat) : Prop := ∀ i q, qs[i]? = some q → Sz (tot (qs.take i)) ∧ Sz q ∧ Bd (tot (qs.take i)) q
def spTot (W : Hp → Addr → List Rat → Prop) (K : PySem.W.Frag) : Sp := fun vs H Q _ => ∃ a qs, vs = [.ref a] ∧ W H a qs ∧ Tots qs ∧ ∀ c H', Same H H' → FrA K H' c (tot qs) → Q (.ref c) H'
theorem c_totalL (D : Df K mg "total" "total" t_total ["some"]) (U : Nums K mg) (C : Cal P w K mg base 3 "plus" ["one", "other"] (sp2 K Bd (· + ·))) : Cal P w K mg base 4 "total" ["some"] (spTot (FrL K) K) := by
  obtain ⟨f, fd, F, g, b⟩ := D.ex
  obtain ⟨f1, d1, G1, g1, k1, b1⟩ := C.ex
  obtain ⟨z, gz, fz⟩ := U.z
  refine ⟨f, fd, F.ok s_total (fun vs H Q E h => ?_) (fun cdv A outer s H vs Q E hr h => ?_), g, F.kp, b⟩
  · obtain ⟨_, _, rfl, _⟩ := h
    rfl
  · obtain ⟨a, qs, rfl, ⟨vs, ha, hl⟩, ht, k⟩ := h
    refine ⟨_, pss_cons (ps_set (i := 1) s_total.nd rfl (.inl rfl) (pe_glob (v := .ref z) rfl gz rfl))
      (pss_cons (ps_for PassesOwn.never rfl (pi_list (pv 0)) (pg_name (i := 2) s_total.nd rfl (.inl rfl)) (pss_one (ps_set (i := 1) s_total.nd rfl (.inl rfl) (pe_call G1 hr (by rfl) g1 k1 b1 .nil pass0 (pa_cons (pv 1) (pa_cons (pv 2) pa_nil))))))
      (pss_one (ps_ret (pv 1)))), ?_⟩
    refine ⟨_, rfl, a, rfl, ⟨_, ha⟩, for_it (walk_list (xs := vs)) (fun i σ H' => ∃ c y, σ = [some (.ref a), some (.ref c), y] ∧ Same H H' ∧ FrA K H' c (tot (qs.take i)))
      ⟨z, none, rfl, Same.refl _, fz _⟩ (fun i σ H' _ h => ?_) (fun i x σ H' H'' hi h hy => ?_) (fun σ H' h => ?_)⟩
    · obtain ⟨c, y, rfl, s, _⟩ := h
      exact s.seq ha
    · obtain ⟨c, y, rfl, s, hc⟩ := h
      obtain ⟨rfl, hx⟩ := hy
      obtain ⟨q, hq, ⟨d, rfl, hd⟩⟩ := hl.getV hx
      obtain ⟨t1, t2, t3⟩ := ht i q hq
      refine ⟨_, rfl, _, rfl, c, d, _, q, rfl, hc, hd.mono s, t1, t2, t3, fun e H3 s3 he => ?_⟩
      refine ⟨e, some (.ref d), rfl, s.trans s3, ?_⟩
      rw [tot_take hq]
      exact he
    · obtain ⟨c, y, rfl, s, hc⟩ := h
      refine ⟨_, rfl, k c H' s ?_⟩
      rw [hl.1, List.take_length] at hc
      exact hc
theorem c_totalT (D : Df K mg "total" "total" t_total ["some"]) (U : Nums K mg) (C : Cal P w K mg base 3 "plus" ["one", "other"] (sp2 K Bd (· + ·))) : Cal P w K mg base 4 "total" ["some"] (spTot (FrT K) K) := by
  obtain ⟨f, fd, F, g, b⟩ := D.ex
  obtain ⟨f1, d1, G1, g1, k1, b1⟩ := C.ex
  obtain ⟨z, gz, fz⟩ := U.z
  refine ⟨f, fd, F.ok s_total (fun vs H Q E h => ?_) (fun cdv A outer s H vs Q E hr h => ?_), g, F.kp, b⟩
  · obtain ⟨_, _, rfl, _⟩ := h
    rfl
  · obtain ⟨a, qs, rfl, ⟨vs, ha, hl⟩, ht, k⟩ := h
    refine ⟨_, pss_cons (ps_set (i := 1) s_total.nd rfl (.inl rfl) (pe_glob (v := .ref z) rfl gz rfl))
      (pss_cons (ps_for PassesOwn.never rfl (pi_tup (pv 0)) (pg_name (i := 2) s_total.nd rfl (.inl rfl)) (pss_one (ps_set (i := 1) s_total.nd rfl (.inl rfl) (pe_call G1 hr (by rfl) g1 k1 b1 .nil pass0 (pa_cons (pv 1) (pa_cons (pv 2) pa_nil))))))
      (pss_one (ps_ret (pv 1)))), ?_⟩
    refine ⟨_, rfl, a, rfl, ⟨_, ha⟩, for_it (walk_tup (xs := vs)) (fun i σ H' => ∃ c y, σ = [some (.ref a), some (.ref c), y] ∧ Same H H' ∧ FrA K H' c (tot (qs.take i)))
      ⟨z, none, rfl, Same.refl _, fz _⟩ (fun i σ H' _ h => ?_) (fun i x σ H' H'' hi h hy => ?_) (fun σ H' h => ?_)⟩
    · obtain ⟨c, y, rfl, s, _⟩ := h
      exact s.sqt ha
    · obtain ⟨c, y, rfl, s, hc⟩ := h
      obtain ⟨rfl, hx⟩ := hy
      obtain ⟨q, hq, ⟨d, rfl, hd⟩⟩ := hl.getV hx
      obtain ⟨t1, t2, t3⟩ := ht i q hq
      refine ⟨_, rfl, _, rfl, c, d, _, q, rfl, hc, hd.mono s, t1, t2, t3, fun e H3 s3 he => ?_⟩
      refine ⟨e, some (.ref d), rfl, s.trans s3, ?_⟩
      rw [tot_take hq]
      exact he
    · obtain ⟨c, y, rfl, s, hc⟩ := h
      refine ⟨_, rfl, k c H' s ?_⟩
      rw [hl.1, List.take_length] at hc
      exact hc

/-! ### is_whole, is_fraction -/
structure Bi (mg : Str → Option Value) : Prop where
  isi : mg "isinstance" = none
  int : mg "int" = none
  bool : mg "bool" = none
  tuple : mg "tuple" = none
  len : mg "len" = none
  list : mg "list" = none
  range : mg "range" = none
  set : mg "set" = none
  sorted : mg "sorted" = none
  sum : mg "sum" = none
  all : mg "all" = none
  any : mg "any" = none
  zip : mg "zip" = none
  enum : mg "enumerate" = none
  abs : mg "abs" = none
  max : mg "max" = none
  min : mg "min" = none
def spWhole : Sp := fun vs H Q _ => ∃ i : Int, vs = [.int i] ∧ Q (.bl true) H
theorem c_is_whole (D : Df K mg "is_whole" "is_whole" t_is_whole ["thing"]) (B : Bi mg) : Cal P w K mg base 1 "is_whole" ["thing"] spWhole := by
  obtain ⟨f, fd, F, g, b⟩ := D.ex
  refine ⟨f, fd, F.ok s_is_whole (fun vs H Q E h => ?_) (fun cdv A outer s H vs Q E hr h => ?_), g, F.kp, b⟩
  · obtain ⟨_, rfl, _⟩ := h
    rfl
  · obtain ⟨i, rfl, k⟩ := h
    refine ⟨_, pss_one (ps_ret (pe_and (pe_callB call_isi (by rfl) B.isi (by decide +kernel) (pa_cons (pv 0) (pa_cons (pty (n := "int") (by rfl) B.int (by decide +kernel)) pa_nil)))
      (pe_one (pe_not (pe_callB call_isi (by rfl) B.isi (by decide +kernel) (pa_cons (pv 0) (pa_cons (pty (n := "bool") (by rfl) B.bool (by decide +kernel)) pa_nil))))))), ?_⟩
    refine ⟨_, rfl, _, _, _, _, _, rfl, .ty _, .base (.int i), kit_ty (r := true) (by decide +kernel), _, rfl, iteT ?_⟩
    refine ⟨_, rfl, _, _, _, _, _, rfl, .ty _, .base (.int i), kit_ty (r := false) (by decide +kernel), _, rfl, ?_⟩
    exact k
def spIsFr (K : PySem.W.Frag) : Sp := fun vs H Q _ => ∃ a q, vs = [.ref a] ∧ FrA K H a q ∧ Q (.bl true) H
theorem c_is_fraction (D : Df K mg "is_fraction" "is_fraction" t_is_fraction ["thing"]) (B : Bi mg) (C : Cal P w K mg base 1 "is_whole" ["thing"] spWhole) (C2 : Cal P w K mg base 1 "divisor" ["one", "other"] spDivisor) :
    Cal P w K mg base 2 "is_fraction" ["thing"] (spIsFr K) := by
  obtain ⟨f, fd, F, g, b⟩ := D.ex
  obtain ⟨f1, d1, G1, g1, k1, b1⟩ := C.ex
  obtain ⟨f2, d2, G2, g2, k2, b2⟩ := C2.ex
  refine ⟨f, fd, F.ok s_is_fraction (fun vs H Q E h => ?_) (fun cdv A outer s H vs Q E hr h => ?_), g, F.kp, b⟩
  · obtain ⟨_, _, rfl, _⟩ := h
    rfl
  · obtain ⟨a, q, rfl, ha, k⟩ := h
    refine ⟨_, pss_cons (ps_if (PW.pt (pw_or (pt_not (pt_val (pe_callB call_isi (by rfl) B.isi (by decide +kernel) (pa_cons (pv 0) (pa_cons (pty (n := "tuple") (by rfl) B.tuple (by decide +kernel)) pa_nil)))))
        (pw_or (pt_cmpR op_ne (pe_callB call_len_seq (by rfl) B.len PySem.boot_len (pa_cons (pv 0) pa_nil)) pe_int (nomark _))
        (pw_or (pt_not (pt_val (pe_call G1 hr (by rfl) g1 k1 b1 .nil pass0 (pa_cons (pvt 0) pa_nil))))
        (pw_or1 (pt_not (pt_val (pe_call G1 hr (by rfl) g1 k1 b1 .nil pass0 (pa_cons (pvt 0) pa_nil)))))))))
        (pss_one (ps_ret pe_bl)) pss_nil)
      (pss_one (ps_ret (pe_and (pe_cmpR op_ge (pvt 0) pe_int (nomark _)) (pe_one (pe_cmpR op_eq (pe_call G2 hr (by rfl) g2 k2 b2 .nil pass0 (pa_cons (pvt 0) (pa_cons (pvt 0) pa_nil))) pe_int (nomark _)))))), ?_⟩
    refine ⟨_, rfl, _, _, _, _, _, rfl, .ty _, tyT ha, kit_ty (r := true) (by decide +kernel), _, rfl, iteF ?_⟩
    refine ⟨_, rfl, a, _, rfl, .inr ha, rfl, _, rfl, iteF ?_⟩
    refine ⟨_, rfl, a, _, 0, _, rfl, rfl, ha, at0, _, rfl, _, rfl, iteF ?_⟩
    refine ⟨_, rfl, a, _, 1, _, rfl, rfl, ha, at1, _, rfl, _, rfl, iteF ?_⟩
    have hd : (1 : Int) ≤ (q.den : Int) := by
      have := q.den_nz
      omega
    refine ⟨_, rfl, a, _, 1, _, rfl, rfl, ha, at1, _, _, rfl, rfl, _, rfl, ?_⟩
    rw [decide_eq_true hd]
    refine iteT ⟨_, rfl, a, _, 0, _, rfl, rfl, ha, at0, _, rfl, a, _, 1, _, rfl, rfl, ha, at1, _, _, rfl, by omega, rfl, ?_⟩
    have e : Int.gcd q.num (q.den : Int) = 1 := q.reduced
    rw [e]
    exact k
end
end K34
set_option Elab.async false
set_option linter.all false
set_option maxRecDepth 100000
/-! comprehensions whose elements leave what stood as it was -/
namespace K34
open PySem PySem.Spec PyProof.Rows L2

/-- all but the list at D stands -/
def But (D : Addr) (H H' : Hp) : Prop := ∀ b o, b ≠ D → H b = some o → H' b = some o
theorem _root_.L2.Same.but {D : Addr} {H H' : Hp} (s : Same H H') : But D H H' := fun b o _ h => s b o h
theorem But.refl (D : Addr) (H : Hp) : But D H H := fun _ _ _ h => h
theorem But.trans {D : Addr} {H H1 H2 : Hp} (a : But D H H1) (b : But D H1 H2) : But D H H2 := fun c o n h => b c o n (a c o n h)
theorem but_upd {D : Addr} {H : Hp} {o : HO} : But D H (upd H D o) := fun b o' n h => by rw [upd_ne n]; exact h
theorem But.sqt {K : PySem.W.Frag} {D : Addr} {H H' : Hp} {a : Addr} {xs ys : List V} (e : But D H H') (hD : H D = some (.lst ys)) (h : SqT K H a xs) : SqT K H' a xs := by
  rcases h with (h | ⟨o, h⟩) | h
  · exact .inl (.inl (e _ _ (ne_of h hD (by intro z; cases z)) h))
  · exact .inl (.inr ⟨o, e _ _ (ne_of h hD (by intro z; cases z)) h⟩)
  · exact .inr h
theorem Rl.eq_map {α : Type} {vs : List V} {xs : List α} {f : α → V} (r : Rl (fun v x => v = f x) vs xs) : vs = xs.map f := by
  refine List.ext_getElem? fun i => ?_
  rw [List.getElem?_map]
  by_cases hi : i < xs.length
  · have hv : i < vs.length := by rw [r.1]; exact hi
    rw [List.getElem?_eq_getElem hi, List.getElem?_eq_getElem hv]
    exact congrArg some (r.2 i _ _ (List.getElem?_eq_getElem hv) (List.getElem?_eq_getElem hi))
  · rw [List.getElem?_eq_none (by rw [r.1]; omega), List.getElem?_eq_none (by omega)]
    rfl
/-- tuples and what is frozen stand -/
def SameT (H H' : Hp) : Prop := (∀ a xs, H a = some (.tup xs) → H' a = some (.tup xs)) ∧ ∀ a o u, H a = some (.frz o u) → H' a = some (.frz o u)
theorem SameT.refl (H : Hp) : SameT H H := ⟨fun _ _ h => h, fun _ _ _ h => h⟩
theorem SameT.trans {H H1 H2 : Hp} (a : SameT H H1) (b : SameT H1 H2) : SameT H H2 := ⟨fun p xs h => b.1 p xs (a.1 p xs h), fun p o u h => b.2 p o u (a.2 p o u h)⟩
theorem _root_.L2.Same.t {H H' : Hp} (s : Same H H') : SameT H H' := ⟨fun a xs h => s a _ h, fun a o u h => s a _ h⟩
theorem SameT.sqt {K : PySem.W.Frag} {H H' : Hp} {a : Addr} {xs : List V} (e : SameT H H') (h : SqT K H a xs) : SqT K H' a xs := by
  rcases h with (h | ⟨o, h⟩) | h
  · exact .inl (.inl (e.1 _ _ h))
  · exact .inl (.inr ⟨o, e.2 _ _ _ h⟩)
  · exact .inr h
theorem But.t {D : Addr} {H H' : Hp} {ys : List V} (e : But D H H') (hD : H D = some (.lst ys)) : SameT H H' :=
  ⟨fun a xs h => e _ _ (ne_of h hD (by intro z; cases z)) h, fun a o u h => e _ _ (ne_of h hD (by intro z; cases z)) h⟩
theorem FrA.monoT {K : PySem.W.Frag} {H H' : Hp} {a : Addr} {q : Rat} (h : FrA K H a q) (e : SameT H H') : FrA K H' a q := e.sqt h
theorem Fr.monoT {K : PySem.W.Frag} {H H' : Hp} {v : V} {q : Rat} (h : Fr K H v q) (e : SameT H H') : Fr K H' v q := let ⟨a, h1, h2⟩ := h; ⟨a, h1, h2.monoT e⟩
theorem FrT.monoT {K : PySem.W.Frag} {H H' : Hp} {a : Addr} {qs : List Rat} (h : FrT K H a qs) (e : SameT H H') : FrT K H' a qs := let ⟨vs, h1, h2⟩ := h; ⟨vs, e.sqt h1, h2.imp fun _ _ r => r.monoT e⟩

theorem walk_range0 {n : Nat} : Walk (Itr 0 n) n (fun _ => True) (fun i H x H' => H' = H ∧ x = .int (i : Int)) :=
  walk_range.mono (fun _ h => h) fun i H x H' _ _ y => ⟨y.1, y.2.trans (congrArg V.int (Int.zero_add _))⟩
/-! ### slices of tuples and lists -/
theorem slA {K : PySem.W.Frag} {H : Hp} {a : Addr} {xs : List V} {lo hi : Option Int} {Q : VK} (h : SqT K H a xs) (k : ∀ p H', Same H H' → SqT K H' p (cutV xs lo hi) → Q (.ref p) H') : rSlA K (.ref a) lo hi H Q := by
  refine ⟨a, xs, rfl, h, fun e => k a H (Same.refl H) ?_, fun _ p hp => k p _ (same_upd hp) (.of upd_same)⟩
  have e2 : cutV xs lo hi = xs := by
    unfold cutV
    rw [e.1, e.2]
    simp
  rw [e2]
  exact h
theorem cut_tail (xs : List V) : cutV xs (some 1) none = xs.drop 1 := by
  unfold cutV
  rw [show HT.sIx xs.length 0 (some 1) = min 1 xs.length from HT.sIx_nat xs.length 0 1, HT.sIx_none]
  cases xs with
  | nil => rfl
  | cons x r =>
    rw [show min 1 (x :: r).length = 1 by rw [List.length_cons]; omega, List.take_of_length_le (by simp)]
theorem cut_init (xs : List V) : cutV xs none (some (-1)) = xs.take (xs.length - 1) := by
  unfold cutV
  rw [HT.sIx_none]
  show (xs.drop 0).take (((-1 : Int) + (xs.length : Int)).toNat - 0) = _
  rw [List.drop_zero, show ((-1 : Int) + (xs.length : Int)).toNat - 0 = xs.length - 1 by omega]
/-- the places below n that f takes, each by its value -/
def pick {α : Type} (n : Nat) (f : Nat → Bool) (val : Nat → α) : List α := ((List.range n).filter f).map val
theorem pick_yes {α : Type} {n : Nat} {f : Nat → Bool} {val : Nat → α} (h : f n = true) : pick (n + 1) f val = pick n f val ++ [val n] := by
  unfold pick
  rw [List.range_succ, List.filter_append, List.map_append]
  simp [h]
theorem pick_no {α : Type} {n : Nat} {f : Nat → Bool} {val : Nat → α} (h : f n = false) : pick (n + 1) f val = pick n f val := by
  unfold pick
  rw [List.range_succ, List.filter_append, List.map_append]
  simp [h]
theorem pick_len {α : Type} (n : Nat) (f : Nat → Bool) (val : Nat → α) : (pick n f val).length ≤ n := by
  unfold pick
  rw [List.length_map]
  have h := List.length_filter_le f (List.range n)
  rw [List.length_range] at h
  exact h
theorem pick_all {α : Type} {xs : List α} {n : Nat} {val : Nat → α} (hn : xs.length = n) (h : ∀ i x, xs[i]? = some x → val i = x) : pick n (fun _ => true) val = xs := by
  unfold pick
  rw [List.filter_eq_self.2 (fun _ _ => rfl)]
  refine List.ext_getElem? fun i => ?_
  rw [List.getElem?_map]
  by_cases hi : i < n
  · rw [List.getElem?_range hi, List.getElem?_eq_getElem (by omega)]
    exact congrArg some (h i _ (List.getElem?_eq_getElem (by omega)))
  · rw [List.getElem?_eq_none (by rw [List.length_range]; omega), List.getElem?_eq_none (by omega)]
    rfl

/-- a comprehension with a test: what is kept stands place by place at the new list -/
theorem lc_filt {α : Type} {J : It} {n : Nat} {G : Hp → Prop} {Y : Nat → Hp → V → Hp → Prop} {g : TG} {tt : TT} {te : TE} {vs : List Nat} {σ : L2.St} {Qd : Addr → Hp → Prop}
    (w : Walk J n G Y) (hb : n < 100000) (f : Nat → Bool) (val : Nat → α) (R : Addr → Hp → V → α → Prop)
    (hR : ∀ D H H' v x, (∃ ys, H D = some (.lst ys)) → But D H H' → R D H v x → R D H' v x) {H1 : Hp} (hG : ∀ H, Same H1 H → G H)
    (hs : ∀ D i v H H', H1 D = none → i < n → Same H1 H → (∃ ys, H D = some (.lst ys)) → Y i H v H' → ∀ (Kp : V → Hp → Prop) (Kn : Hp → Prop),
      (∀ y H4, f i = true → Same H H4 → R D H4 y (val i) → Kp y H4) → (∀ H3, f i = false → Same H H3 → Kn H3) →
      g v (wipe σ vs) H' fun σ2 H2 => wipe σ2 vs = wipe σ vs ∧ tt σ2 H2 fun b H3 => if b = true then te σ2 H3 Kp else Kn H3)
    (hd : ∀ D ys H, H1 D = none → Same H1 H → H D = some (.lst ys) → Rl (R D H) ys (pick n f val) → Qd D H) :
    ∀ D, H1 D = none → ∃ W : Nat → Nat → Hp → Prop, (∃ m, W 0 m (upd H1 D (.lst []))) ∧ ∀ i m H, W i m H →
      (J.stop i H ∧ Qd D H) ∨ (J.go i H ∧ ∃ Nx : Hp → Prop, (∀ H', Nx H' → ∃ m', m' < m ∧ W (i + 1) m' H') ∧ ∀ x H', J.yld i H x H' → g x (wipe σ vs) H' fun σ2 H2 => wipe σ2 vs = wipe σ vs ∧ tt σ2 H2 fun b H3 =>
        if b = true then te σ2 H3 fun y H4 => ∃ acc, H4 D = some (.lst acc) ∧ acc.length < sizeLine ∧ Nx (upd H4 D (.lst (acc ++ [y]))) else Nx H3) := fun D hD =>
  lc_it w (Qd := fun H => Qd D H) (fun i H => Same H1 H ∧ ∃ ys, H D = some (.lst ys) ∧ Rl (R D H) ys (pick i f val)) ⟨same_upd hD, [], upd_same, Rl.nil⟩ (fun i H _ h => hG H h.1)
    (fun i v H H' hi h hy => by
      obtain ⟨s, ys, hl, r⟩ := h
      refine hs D i v H H' hD hi s ⟨ys, hl⟩ hy _ _ (fun y H4 hf s4 ry => ?_) (fun H3 hf s3 => ?_)
      · have hl4 : H4 D = some (.lst ys) := s4 D _ hl
        have hz : ys.length < sizeLine := ld_lt (Nat.lt_of_le_of_lt (by rw [r.1]; exact pick_len i f val) (by omega : i < 100000))
        refine ⟨ys, hl4, hz, same_mut (s.trans s4) hD, ys ++ [y], upd_same, ?_⟩
        rw [pick_yes hf]
        exact (r.imp fun v x q => hR D H _ v x ⟨ys, hl⟩ ((s4.but).trans but_upd) q).snoc (hR D H4 _ y _ ⟨ys, hl4⟩ but_upd ry)
      · refine ⟨s.trans s3, ys, s3 D _ hl, ?_⟩
        rw [pick_no hf]
        exact r.imp fun v x q => hR D H _ v x ⟨ys, hl⟩ s3.but q)
    (fun H h => by
      obtain ⟨s, ys, hl, r⟩ := h
      exact hd D ys H hD s hl r)
/-- a comprehension without a test -/
theorem lc_all {α : Type} [Inhabited α] {J : It} {n : Nat} {G : Hp → Prop} {Y : Nat → Hp → V → Hp → Prop} {g : TG} {te : TE} {vs : List Nat} {σ : L2.St} {Qd : Addr → Hp → Prop}
    (w : Walk J n G Y) (hb : n < 100000) (xs : List α) (hn : xs.length = n) (R : Addr → Hp → V → α → Prop)
    (hR : ∀ D H H' v x, (∃ ys, H D = some (.lst ys)) → But D H H' → R D H v x → R D H' v x) {H1 : Hp} (hG : ∀ H, Same H1 H → G H)
    (hs : ∀ D i v H H' x, H1 D = none → xs[i]? = some x → Same H1 H → (∃ ys, H D = some (.lst ys)) → Y i H v H' → ∀ (Kp : V → Hp → Prop),
      (∀ y H4, Same H H4 → R D H4 y x → Kp y H4) → g v (wipe σ vs) H' fun σ2 H2 => wipe σ2 vs = wipe σ vs ∧ te σ2 H2 Kp)
    (hd : ∀ D ys H, H1 D = none → Same H1 H → H D = some (.lst ys) → Rl (R D H) ys xs → Qd D H) :
    ∀ D, H1 D = none → ∃ W : Nat → Nat → Hp → Prop, (∃ m, W 0 m (upd H1 D (.lst []))) ∧ ∀ i m H, W i m H →
      (J.stop i H ∧ Qd D H) ∨ (J.go i H ∧ ∃ Nx : Hp → Prop, (∀ H', Nx H' → ∃ m', m' < m ∧ W (i + 1) m' H') ∧ ∀ x H', J.yld i H x H' → g x (wipe σ vs) H' fun σ2 H2 => wipe σ2 vs = wipe σ vs ∧ tYes σ2 H2 fun b H3 =>
        if b = true then te σ2 H3 fun y H4 => ∃ acc, H4 D = some (.lst acc) ∧ acc.length < sizeLine ∧ Nx (upd H4 D (.lst (acc ++ [y]))) else Nx H3) := by
  refine lc_filt w hb (fun _ => true) (fun i => xs.getD i default) R hR hG (fun D i v H H' hD hi s hl hy Kp Kn k1 k2 => ?_) (fun D ys H hD s hl r => ?_)
  · have hx : xs[i]? = some (xs.getD i default) := by
      rw [List.getD_eq_getElem?_getD, List.getElem?_eq_getElem (by omega)]
      rfl
    have h := hs D i v H H' _ hD hx s hl hy Kp fun y H4 s4 ry => k1 y H4 rfl s4 ry
    have e : (fun σ2 H2 => wipe σ2 vs = wipe σ vs ∧ tYes σ2 H2 fun b H3 => if b = true then te σ2 H3 Kp else Kn H3) = (fun σ2 H2 => wipe σ2 vs = wipe σ vs ∧ te σ2 H2 Kp) := by
      funext σ2 H2
      show (wipe σ2 vs = wipe σ vs ∧ if true = true then te σ2 H2 Kp else Kn H2) = _
      rw [if_pos rfl]
    rw [e]
    exact h
  · refine hd D ys H hD s hl ?_
    rw [← pick_all hn (val := fun i => xs.getD i default) fun i x hx => by rw [List.getD_eq_getElem?_getD, hx]; rfl]
    exact r
end K34
set_option Elab.async false
set_option linter.all false
set_option maxRecDepth 100000
/-! the walk: stocks -/
namespace K34
open PySem PySem.Spec PyProof.Rows L2

/-! ### a stock in the heap -/
abbrev Of := List Nat × Nat
abbrev iv (ts : List Nat) : List V := ts.map fun (t : Nat) => V.int (t : Int)
def ThA (K : PySem.W.Frag) (H : Hp) (a : Addr) (ts : List Nat) : Prop := SqT K H a (iv ts)
def OfA (K : PySem.W.Frag) (H : Hp) (a : Addr) (o : Of) : Prop := ∃ t, SqT K H a [.ref t, .int (o.2 : Int)] ∧ ThA K H t o.1
def Ofr (K : PySem.W.Frag) (H : Hp) (v : V) (o : Of) : Prop := ∃ a, v = .ref a ∧ OfA K H a o
def OsA (K : PySem.W.Frag) (H : Hp) (b : Addr) (os : List Of) : Prop := ∃ vs, SqT K H b vs ∧ Rl (Ofr K H) vs os
def StA (K : PySem.W.Frag) (H : Hp) (a : Addr) (m : Nat) (os : List Of) : Prop := ∃ b, SqT K H a [.int (m : Int), .ref b] ∧ OsA K H b os
section
variable {K : PySem.W.Frag} {H H' : Hp} {a b : Addr} {v : V} {o : Of} {os : List Of} {m : Nat} {ts : List Nat}
theorem iv_get {ns : List Nat} {i x : Nat} (hv : (iv ns)[i]? = some v) (hx : ns[i]? = some x) : v = .int (x : Int) := by
  rw [List.getElem?_map, hx] at hv
  exact (Option.some.inj hv).symm
theorem iv_len {ns : List Nat} : (iv ns).length = ns.length := List.length_map _
theorem ThA.monoT (h : ThA K H a ts) (e : SameT H H') : ThA K H' a ts := e.sqt h
theorem OfA.monoT (h : OfA K H a o) (e : SameT H H') : OfA K H' a o := let ⟨t, h1, h2⟩ := h; ⟨t, e.sqt h1, h2.monoT e⟩
theorem Ofr.monoT (h : Ofr K H v o) (e : SameT H H') : Ofr K H' v o := let ⟨t, h1, h2⟩ := h; ⟨t, h1, h2.monoT e⟩
theorem OsA.monoT (h : OsA K H b os) (e : SameT H H') : OsA K H' b os := let ⟨vs, h1, h2⟩ := h; ⟨vs, e.sqt h1, h2.imp fun _ _ r => r.monoT e⟩
theorem StA.monoT (h : StA K H a m os) (e : SameT H H') : StA K H' a m os := let ⟨t, h1, h2⟩ := h; ⟨t, e.sqt h1, h2.monoT e⟩
end
/-- a full stock of few things and offers -/
structure Good (m : Nat) (os : List Of) : Prop where
  m1 : 1 ≤ m
  m10 : m ≤ 10
  n1 : 1 ≤ os.length
  n10 : os.length ≤ 10
  up : ∀ o ∈ os, o.1.Pairwise (· < ·)
  lt : ∀ o ∈ os, ∀ t ∈ o.1, t < m
  ne : ∀ o ∈ os, o.1 ≠ []
  p1 : ∀ o ∈ os, 1 ≤ o.2
  p2 : ∀ o ∈ os, o.2 ≤ 2 ^ 44
  full : ∀ t, t < m → ∃ o ∈ os, t ∈ o.1

section
variable {P : Program} {w : World} {K : PySem.W.Frag} {mg : Str → Option Value} {base : Heap}

/-! ### is_upto, is_rising, is_lot, need_lot -/
def spUpto : Sp := fun vs H Q _ => ∃ i n : Int, vs = [.int i, .int n] ∧ Q (.bl (decide (0 ≤ i ∧ i < n))) H
theorem c_is_upto (D : Df K mg "is_upto" "is_upto" t_is_upto ["thing", "many"]) (C : Cal P w K mg base 1 "is_whole" ["thing"] spWhole) : Cal P w K mg base 2 "is_upto" ["thing", "many"] spUpto := by
  obtain ⟨f, fd, F, g, b⟩ := D.ex
  obtain ⟨f1, d1, G1, g1, k1, b1⟩ := C.ex
  refine ⟨f, fd, F.ok s_is_upto (fun vs H Q E h => ?_) (fun cdv A outer s H vs Q E hr h => ?_), g, F.kp, b⟩
  · obtain ⟨_, _, rfl, _⟩ := h
    rfl
  · obtain ⟨i, n, rfl, k⟩ := h
    refine ⟨_, pss_one (ps_ret (pe_and (pe_call G1 hr (by rfl) g1 k1 b1 .nil pass0 (pa_cons (pv 0) pa_nil)) (pe_one (pe_chain op_le op_lt pe_int (pv 0) (pv 1))))), ?_⟩
    refine ⟨_, rfl, i, rfl, _, rfl, iteT ⟨_, rfl, 0, i, rfl, rfl, _, rfl, ?_⟩⟩
    by_cases h0 : 0 ≤ i
    · rw [decide_eq_true h0]
      refine iteT ⟨_, rfl, i, n, rfl, rfl, ?_⟩
      have e : decide (0 ≤ i ∧ i < n) = decide (i < n) := decide_eq_decide.2 ⟨fun h => h.2, fun h => ⟨h0, h⟩⟩
      rw [e] at k
      exact k
    · rw [decide_eq_false h0]
      refine iteF ?_
      rw [decide_eq_false (fun h => h0 h.1)] at k
      exact k
def spRising (K : PySem.W.Frag) : Sp := fun vs H Q _ => ∃ (a : Addr) (ns : List Nat) (n : Nat), vs = [.ref a, .int (n : Int)] ∧ ThA K H a ns ∧ ns.length ≤ 1000 ∧ ns.Pairwise (· < ·) ∧ (∀ x ∈ ns, x < n) ∧ ∀ H', Same H H' → Q (.bl true) H'
theorem c_is_rising (D : Df K mg "is_rising" "is_rising" t_is_rising ["thing", "many"]) (B : Bi mg) (C : Cal P w K mg base 2 "is_upto" ["thing", "many"] spUpto) : Cal P w K mg base 3 "is_rising" ["thing", "many"] (spRising K) := by
  obtain ⟨f, fd, F, g, b⟩ := D.ex
  obtain ⟨f1, d1, G1, g1, k1, b1⟩ := C.ex
  refine ⟨f, fd, F.ok s_is_rising (fun vs H Q E h => ?_) (fun cdv A outer s H vs Q E hr h => ?_), g, F.kp, b⟩
  · obtain ⟨_, _, _, rfl, _⟩ := h
    rfl
  · obtain ⟨a, ns, n, rfl, ha, hz, hp, hn, k⟩ := h
    refine ⟨_, pss_cons (ps_if (PW.pt (pw_or (pt_not (pt_val (pe_callB call_isi (by rfl) B.isi (by decide +kernel) (pa_cons (pv 0) (pa_cons (pty (n := "tuple") (by rfl) B.tuple (by decide +kernel)) pa_nil)))))
        (pw_or1 (pt_not (pt_val (pe_callB (cr_all rfl) (by rfl) B.all (by decide +kernel) (pa_cons (pe_lc (own := [("one", 2)]) (g := gName 2) (tt := tYes) rfl s_is_rising.nd (pi_tup (pv 0)) (blkOk_by (N := n_is_rising) (sc := defScope t_is_rising) (by decide +kernel)) (fun _ _ _ _ _ => pg_name (i := 2) s_is_rising.nd rfl (Or.inl rfl)) (fun _ _ _ _ _ => pts_nil)
          (fun _ _ _ _ _ => pe_call G1 hr (by rfl) g1 k1 b1 .nil pass0 (pa_cons (pv 2) (pa_cons (pv 1) pa_nil)))) pa_nil)))))))
        (pss_one (ps_ret pe_bl)) pss_nil)
      (pss_one (ps_ret (pe_callB (cr_all rfl) (by rfl) B.all (by decide +kernel) (pa_cons (pe_lc (own := [("one", 2), ("other", 3)]) (g := gTup K 2 (gCons (gName 2) (gCons (gName 3) gNil))) (tt := tYes) rfl s_is_rising.nd (RZ.pi_zipA (by rfl) B.zip (pa_cons (pe_slice sl_tupA (pv 0) po_none (po_some (pe_un un_neg pe_int))) (pa_cons (pe_slice sl_tupA (pv 0) (po_some pe_int) po_none) pa_nil))) (blkOk_by (N := n_is_rising) (sc := defScope t_is_rising) (by decide +kernel))
          (fun _ _ _ _ _ => pg_tup rfl (pgs_cons (pg_name (i := 2) s_is_rising.nd rfl (.inl rfl)) (pgs_cons (pg_name (i := 3) s_is_rising.nd rfl (.inl rfl)) pgs_nil))) (fun _ _ _ _ _ => pts_nil)
          (fun _ _ _ _ _ => pe_cmpR op_lt (pv 2) (pv 3) (nomark _))) pa_nil)))), ?_⟩
    refine ⟨_, rfl, _, _, _, _, _, rfl, .ty _, tyT ha, kit_ty (r := true) (by decide +kernel), _, rfl, iteF ?_⟩
    refine ⟨_, rfl, a, rfl, ⟨_, ha⟩, lc_all (walk_tup (xs := iv ns)) (by rw [iv_len]; omega) ns iv_len.symm (fun _ _ v _ => v = .bl true) (fun _ _ _ _ _ _ _ h => h) (fun H' s' => s'.sqt ha)
      (fun D i v H' H'' x hD hx s' hl hy Kp kp => ?_) (fun D ys H' hD s' hl r => ?_)⟩
    · obtain ⟨rfl, hv⟩ := hy
      have hv' := iv_get hv hx
      subst hv'
      have hlt := hn x (List.mem_of_getElem? hx)
      refine ⟨rfl, _, rfl, _, rfl, x, n, rfl, ?_⟩
      rw [decide_eq_true (⟨by omega, by omega⟩ : (0 : Int) ≤ (x : Int) ∧ (x : Int) < (n : Int))]
      exact kp _ _ (Same.refl _) rfl
    · have e : ys = (ns.map fun _ => true).map V.bl := by
        rw [List.map_map]
        exact r.eq_map
      refine ⟨D, ns.map fun _ => true, rfl, .of (by rw [← e]; exact hl), ?_⟩
      have e2 : (ns.map fun _ => true).all id = true := by simp
      rw [e2]
      refine ⟨_, rfl, iteF ?_⟩
      have ha2 := s'.sqt ha
      refine ⟨_, rfl, 1, rfl, _, rfl, slA ha2 fun p H2 s2 hp2 => ?_⟩
      refine ⟨_, rfl, _, rfl, ?_⟩
      unfold tNoPart
      refine slA (s2.sqt ha2) fun q H3 s3 hq3 => ?_
      have hp3 := s3.sqt hp2
      rw [cut_init] at hp3
      rw [cut_tail] at hq3
      have hl3 : min ((iv ns).take ((iv ns).length - 1)).length ((iv ns).drop 1).length = ns.length - 1 := by simp
      refine ⟨p, q, _, _, rfl, .inr ⟨hp3, hq3, lc_all (KR.walk_zipT rfl) (by rw [hl3]; omega) (List.replicate (ns.length - 1) true) (by rw [hl3]; simp) (fun _ _ v _ => v = .bl true) (fun _ _ _ _ _ _ _ h => h) (fun H' s' => ⟨s'.sqt hp3, s'.sqt hq3⟩)
        (fun D i v H' H'' x hD hx s' hl hy Kp kp => ?_) (fun D ys H' hD s' hl r => ?_)⟩⟩
      · obtain ⟨T, x1, x2, rfl, hT, rfl, e1, e2⟩ := hy
        have hi : i < ns.length - 1 := by
          have := (List.getElem?_eq_some_iff.mp hx).1
          simpa using this
        have e1' : x1 = .int ((ns[i] : Nat) : Int) := by
          have e3 : ((iv ns).take ((iv ns).length - 1))[i]? = some x1 := e1
          rw [List.getElem?_take, if_pos (by rw [iv_len]; exact hi)] at e3
          exact iv_get e3 (List.getElem?_eq_getElem (by omega))
        have e2' : x2 = .int ((ns[i + 1] : Nat) : Int) := by
          have e3 : ((iv ns).drop 1)[i]? = some x2 := e2
          rw [List.getElem?_drop, Nat.add_comm] at e3
          exact iv_get e3 (List.getElem?_eq_getElem (by omega))
        subst e1' e2'
        refine ⟨T, _, rfl, .of upd_same, rfl, _, _, rfl, _, _, rfl, rfl, rfl, _, rfl, _, rfl, _, _, rfl, rfl, kp _ _ (same_upd hT) ?_⟩
        have h12 := List.pairwise_iff_getElem.mp hp i (i + 1) (by omega) (by omega) (by omega)
        exact congrArg V.bl (decide_eq_true (by omega))
      · have e : ys = (List.replicate (ns.length - 1) true).map V.bl := by
          rw [r.eq_map, List.map_replicate, List.map_replicate]
        refine ⟨D, _, rfl, .of (by rw [← e]; exact hl), ?_⟩
        have e2 : (List.replicate (ns.length - 1) true).all id = true := by simp
        rw [e2]
        exact k _ (((Same.trans ‹Same H _› s2).trans s3).trans s')
def spLot (K : PySem.W.Frag) (R : V) : Sp := fun vs H Q _ => ∃ (a b : Addr) (m : Nat) (os : List Of) (ns : List Nat), vs = [.ref a, .ref b] ∧ StA K H a m os ∧ ThA K H b ns ∧ ns.length ≤ 1000 ∧ ns.Pairwise (· < ·) ∧ (∀ x ∈ ns, x < os.length) ∧ ∀ H', Same H H' → Q R H'
theorem c_is_lot (D : Df K mg "is_lot" "is_lot" t_is_lot ["stock", "thing"]) (B : Bi mg) (C : Cal P w K mg base 3 "is_rising" ["thing", "many"] (spRising K)) : Cal P w K mg base 4 "is_lot" ["stock", "thing"] (spLot K (.bl true)) := by
  obtain ⟨f, fd, F, g, b⟩ := D.ex
  obtain ⟨f1, d1, G1, g1, k1, b1⟩ := C.ex
  refine ⟨f, fd, F.ok s_is_lot (fun vs H Q E h => ?_) (fun cdv A outer s H vs Q E hr h => ?_), g, F.kp, b⟩
  · obtain ⟨_, _, _, _, _, rfl, _⟩ := h
    rfl
  · obtain ⟨a, b, m, os, ns, rfl, ⟨ob, ha, vs, hb, ho⟩, hn, hz, hp, hlt, k⟩ := h
    refine ⟨_, pss_one (ps_ret (pe_call G1 hr (by rfl) g1 k1 b1 .nil pass0 (pa_cons (pv 1) (pa_cons (pe_callB call_len_seq (by rfl) B.len PySem.boot_len (pa_cons (pvt 0) pa_nil)) pa_nil)))), ?_⟩
    refine ⟨_, rfl, _, rfl, a, _, 1, _, rfl, rfl, ha, at1, ob, _, rfl, .inr hb, b, ns, os.length, ?_, hn, hz, hp, hlt, k⟩
    rw [ho.1]
    rfl
theorem c_need_lot (D : Df K mg "need_lot" "need_lot" t_need_lot ["stock", "thing"]) (C : Cal P w K mg base 4 "is_lot" ["stock", "thing"] (spLot K (.bl true))) : Cal P w K mg base 5 "need_lot" ["stock", "thing"] (spLot K .non) := by
  obtain ⟨f, fd, F, g, b⟩ := D.ex
  obtain ⟨f1, d1, G1, g1, k1, b1⟩ := C.ex
  refine ⟨f, fd, F.ok s_need_lot (fun vs H Q E h => ?_) (fun cdv A outer s H vs Q E hr h => ?_), g, F.kp, b⟩
  · obtain ⟨_, _, _, _, _, rfl, _⟩ := h
    rfl
  · obtain ⟨a, b, m, os, ns, rfl, ho, hn, hz, hp, hlt, k⟩ := h
    refine ⟨_, pss_one (ps_if (pt_not (pt_val (pe_call G1 hr (by rfl) g1 k1 b1 .nil pass0 (pa_cons (pv 0) (pa_cons (pv 1) pa_nil))))) (pss_one ps_never) pss_nil), ?_⟩
    exact ⟨_, rfl, _, rfl, a, b, m, os, ns, rfl, ho, hn, hz, hp, hlt, fun H' s => ⟨_, rfl, iteF (k H' s)⟩⟩
end
end K34
set_option Elab.async false
set_option linter.all false
set_option maxRecDepth 100000
/-! the walk: stocks, further -/
namespace K34
open PySem PySem.Spec PyProof.Rows L2

theorem iv_ints (fs : List Nat) : iv fs = (fs.map fun (t : Nat) => (t : Int)).map V.int := by rw [List.map_map]; rfl
theorem iv_toNat {ns : List Int} (h : ∀ k ∈ ns, 0 ≤ k) : iv (ns.map Int.toNat) = ns.map V.int := by
  show (ns.map Int.toNat).map (fun (t : Nat) => V.int (t : Int)) = _
  rw [List.map_map]
  refine List.map_congr_left fun k hk => ?_
  show V.int ((k.toNat : Nat) : Int) = V.int k
  rw [Int.toNat_of_nonneg (h k hk)]
theorem up_nd {ts : List Nat} (hu : ts.Pairwise (· < ·)) : ts.Nodup := hu.imp fun h => Nat.ne_of_lt h
theorem up_len {ts : List Nat} {m : Nat} (hu : ts.Pairwise (· < ·)) (hl : ∀ t ∈ ts, t < m) : ts.length ≤ m := by
  have h := (up_nd hu).length_le_of_subset (l₂ := List.range m) fun t ht => List.mem_range.2 (hl t ht)
  rwa [List.length_range] at h
theorem up_all {ts : List Nat} {m : Nat} (hu : ts.Pairwise (· < ·)) (hl : ∀ t, t ∈ ts ↔ t < m) : ts.length = m := by
  have h : ts.Perm (List.range m) := (List.perm_ext_iff_of_nodup (up_nd hu) List.nodup_range).2 fun t => by rw [hl, List.mem_range]
  rw [h.length_eq, List.length_range]
/-- the things of a lot, offer by offer -/
def had (os : List Of) (ls : List Nat) : List Nat := ls.flatMap fun l => (os.getD l default).1
theorem had_take {os : List Of} {ls : List Nat} {i l : Nat} {o : Of} (h : ls[i]? = some l) (ho : os[l]? = some o) : had os (ls.take (i + 1)) = had os (ls.take i) ++ o.1 := by
  unfold had
  rw [List.take_add_one, h, List.flatMap_append]
  congr 1
  show (os.getD l default).1 ++ [] = o.1
  rw [List.append_nil, List.getD_eq_getElem?_getD, ho]
  rfl
theorem had_mem {os : List Of} {ls : List Nat} (h : ∀ l ∈ ls, l < os.length) (t : Nat) : t ∈ had os ls ↔ ∃ l ∈ ls, ∃ o, os[l]? = some o ∧ t ∈ o.1 := by
  unfold had
  rw [List.mem_flatMap]
  constructor
  · rintro ⟨l, hl, ht⟩
    have e := List.getElem?_eq_getElem (h l hl)
    rw [List.getD_eq_getElem?_getD, e] at ht
    exact ⟨l, hl, _, e, ht⟩
  · rintro ⟨l, hl, o, ho, ht⟩
    refine ⟨l, hl, ?_⟩
    rw [List.getD_eq_getElem?_getD, ho]
    exact ht

section
variable {P : Program} {w : World} {K : PySem.W.Frag} {mg : Str → Option Value} {base : Heap}
def spThings (K : PySem.W.Frag) : Sp := fun vs H Q _ => ∃ (a b : Addr) (m : Nat) (os : List Of) (ls : List Nat), vs = [.ref a, .ref b] ∧ StA K H a m os ∧ SqL K H b (iv ls) ∧ (∀ l ∈ ls, l < os.length) ∧ ls.length ≤ 10 ∧ (∀ o ∈ os, o.1.length ≤ 10 ∧ ∀ t ∈ o.1, t < 10) ∧
  ∀ p H' ts, Same H H' → ThA K H' p ts → ts.Pairwise (· < ·) → (∀ t, t ∈ ts ↔ t ∈ had os ls) → Q (.ref p) H'
theorem c_things_in (D : Df K mg "things_in" "things_in" t_things_in ["stock", "lot"]) (B : Bi mg) : Cal P w K mg base 1 "things_in" ["stock", "lot"] (spThings K) := by
  obtain ⟨f, fd, F, g, b⟩ := D.ex
  refine ⟨f, fd, F.ok s_things_in (fun vs H Q E h => ?_) (fun cdv A outer s H vs Q E hr h => ?_), g, F.kp, b⟩
  · obtain ⟨_, _, _, _, _, rfl, _⟩ := h
    rfl
  · obtain ⟨a, b, m, os, ls, rfl, ⟨ob, ha, vs, hb, ho⟩, hls, hin, h10, ho10, k⟩ := h
    refine ⟨_, pss_cons (ps_set (i := 2) s_things_in.nd rfl (.inl rfl) (pe_lst pa_nil))
      (pss_cons (ps_for PassesOwn.never rfl (pi_list (pv 1)) (pg_name (i := 3) s_things_in.nd rfl (.inl rfl))
        (pss_one (ps_expr (pe_bm PySem.F.plainAttrs_list PySem.F.slot_list_extend PySem.F.type_list_extend KR.mt_extendT (pv 2) (pa_cons (pe_ix ix_tup (pe_ix ix_tup (pvt 0) (pv 3) (fun _ _ => rfl)) pe_int (fun _ _ => rfl)) pa_nil)))))
      (pss_one (ps_ret (pe_callTy call_tuple_of (by rfl) B.tuple (by decide +kernel) (pa_cons (pe_callB (cr_sortedSet rfl) (by rfl) B.sorted (by decide +kernel) (pa_cons (pe_callTy (KR.cr_setL rfl) (by rfl) B.set (by decide +kernel) (pa_cons (pv 2) pa_nil)) pa_nil)) pa_nil))))), ?_⟩
    refine ⟨Nat.zero_le _, fun l hl => ?_⟩
    have s0 : Same H (upd H l (.lst [])) := same_upd hl
    refine ⟨_, rfl, b, rfl, ⟨_, s0.seq hls⟩, for_it (walk_list (xs := iv ls)) (fun i σ H' => ∃ y, σ = [some (.ref a), some (.ref b), some (.ref l), y] ∧ Same H H' ∧ H' l = some (.lst (iv (had os (ls.take i)))) ∧ (had os (ls.take i)).length ≤ 10 * i)
      ⟨none, rfl, s0, upd_same, Nat.zero_le _⟩ (fun i σ H' _ h => ?_) (fun i x σ H' H'' hi h hy => ?_) (fun σ H' h => ?_)⟩
    · obtain ⟨y, rfl, s, _⟩ := h
      exact s.seq hls
    · obtain ⟨y, rfl, s, hf, hlen⟩ := h
      obtain ⟨rfl, hx⟩ := hy
      have hi' : i < ls.length := by rw [iv_len] at hi; exact hi
      have hx' := iv_get hx (List.getElem?_eq_getElem hi')
      subst hx'
      have hln := hin ls[i] (List.getElem_mem hi')
      have hoo := List.getElem?_eq_getElem hln
      obtain ⟨v, hv, c, rfl, t, hc, ht⟩ := ho.get hoo
      have hm := ho10 _ (List.mem_of_getElem? hoo)
      have e := had_take (List.getElem?_eq_getElem hi') hoo
      refine ⟨_, rfl, .inl ⟨rfl, _, .of hf⟩, _, rfl, a, _, 1, _, rfl, rfl, s.sqt ha, at1, _, rfl, ob, _, _, _, rfl, rfl, s.sqt hb, atI_nat hv, c, _, 0, _, rfl, rfl, s.sqt hc, at0, l, t, _, _, rfl, rfl, hf, s.sqt ht, ?_, ?_⟩
      · rw [iv_len, iv_len]
        exact ld_of (by omega)
      · refine ⟨_, rfl, same_mut s hl, ?_, ?_⟩
        · rw [upd_same, e]
          simp
        · rw [e, List.length_append]
          omega
    · obtain ⟨y, rfl, s, hf, hlen⟩ := h
      rw [iv_len, List.take_length] at hf hlen
      have hb10 : ∀ t ∈ had os ls, t < 10 := fun t ht => by
        obtain ⟨l', hl', o, ho', hto⟩ := (had_mem hin t).1 ht
        exact (ho10 o (List.mem_of_getElem? ho')).2 t hto
      rw [iv_ints] at hf
      refine ⟨_, rfl, l, _, rfl, .of hf, ?_, fun q S n hq hS hn => ?_⟩
      · rw [List.length_map]; omega
      · refine ⟨q, S, n, rfl, upd_same, ?_, fun ns p hu hmem hl2 hp => ?_⟩
        · have := hn 10 fun k hk => by
            obtain ⟨t, ht, rfl⟩ := List.mem_map.1 hk
            have := hb10 t ht
            omega
          omega
        · have h0 : ∀ k ∈ ns, 0 ≤ k := fun k hk => by
            obtain ⟨t, ht, rfl⟩ := List.mem_map.1 ((hS k).1 ((hmem k).1 hk))
            omega
          have s1 : Same H (upd (upd H' q (SetO w q S n)) p (.lst (ns.map V.int))) := (s.trans (same_upd hq)).trans (same_upd hp)
          refine ⟨p, _, rfl, .inl ⟨.of upd_same, fun r hr => ?_⟩⟩
          refine k r _ (ns.map Int.toNat) (s1.trans (same_upd hr)) ?_ ?_ fun t => ?_
          · show SqT _ _ _ (iv (ns.map Int.toNat))
            rw [iv_toNat h0]
            exact .of upd_same
          · refine List.pairwise_map.2 (hu.imp_of_mem fun {x y} hx hy hxy => ?_)
            have := h0 x hx
            have := h0 y hy
            omega
          · rw [List.mem_map]
            constructor
            · rintro ⟨k', hk', rfl⟩
              obtain ⟨t, ht, rfl⟩ := List.mem_map.1 ((hS k').1 ((hmem k').1 hk'))
              exact ht
            · intro ht
              exact ⟨(t : Int), (hmem _).2 ((hS _).2 (List.mem_map.2 ⟨t, ht, rfl⟩)), rfl⟩
/-! ### has_all, is_full, look_at_full -/
theorem good_ten {m : Nat} {os : List Of} (G : Good m os) : ∀ o ∈ os, o.1.length ≤ 10 ∧ ∀ t ∈ o.1, t < 10 := fun o ho =>
  ⟨Nat.le_trans (up_len (G.up o ho) (G.lt o ho)) G.m10, fun t ht => Nat.lt_of_lt_of_le (G.lt o ho t ht) G.m10⟩
theorem had_all {m : Nat} {os : List Of} (G : Good m os) (t : Nat) : t ∈ had os (List.range os.length) ↔ t < m := by
  rw [had_mem (fun l hl => List.mem_range.1 hl)]
  constructor
  · rintro ⟨l, _, o, ho, ht⟩
    exact G.lt o (List.mem_of_getElem? ho) t ht
  · intro h
    obtain ⟨o, ho, ht⟩ := G.full t h
    obtain ⟨l, hl, e⟩ := List.mem_iff_getElem.1 ho
    exact ⟨l, List.mem_range.2 hl, o, by rw [List.getElem?_eq_getElem hl, e], ht⟩
def spHasAll (K : PySem.W.Frag) : Sp := fun vs H Q _ => ∃ (a b : Addr) (m : Nat) (os : List Of), vs = [.ref a, .ref b] ∧ StA K H a m os ∧ Good m os ∧ SqL K H b (iv (List.range os.length)) ∧ ∀ H', Same H H' → Q (.bl true) H'
theorem c_has_all (D : Df K mg "has_all" "has_all" t_has_all ["stock", "lot"]) (B : Bi mg) (C : Cal P w K mg base 1 "things_in" ["stock", "lot"] (spThings K)) : Cal P w K mg base 2 "has_all" ["stock", "lot"] (spHasAll K) := by
  obtain ⟨f, fd, F, g, b⟩ := D.ex
  obtain ⟨f1, d1, G1, g1, k1, b1⟩ := C.ex
  refine ⟨f, fd, F.ok s_has_all (fun vs H Q E h => ?_) (fun cdv A outer s H vs Q E hr h => ?_), g, F.kp, b⟩
  · obtain ⟨_, _, _, _, rfl, _⟩ := h
    rfl
  · obtain ⟨a, b, m, os, rfl, ho, G, hl, k⟩ := h
    have ho' := ho
    obtain ⟨ob, ha, _⟩ := ho
    refine ⟨_, pss_one (ps_ret (pe_cmpR op_eq (pe_callB call_len_seq (by rfl) B.len PySem.boot_len (pa_cons (pe_call G1 hr (by rfl) g1 k1 b1 .nil pass0 (pa_cons (pv 0) (pa_cons (pv 1) pa_nil))) pa_nil)) (pvt 0) (nomark _))), ?_⟩
    refine ⟨_, rfl, _, rfl, a, b, m, os, List.range os.length, rfl, ho', hl, fun l h => List.mem_range.1 h, by rw [List.length_range]; exact G.n10, good_ten G, fun p H' ts s hp hu hm => ?_⟩
    refine ⟨p, _, rfl, .inr hp, _, rfl, a, _, 0, _, rfl, rfl, s.sqt ha, at0, rfl, ?_⟩
    have e : ts.length = m := up_all hu fun t => (hm t).trans (had_all G t)
    rw [iv_len, e, decide_eq_true rfl]
    exact k H' s
def spFull (K : PySem.W.Frag) (R : V) : Sp := fun vs H Q _ => ∃ (a : Addr) (m : Nat) (os : List Of), vs = [.ref a] ∧ StA K H a m os ∧ Good m os ∧ ∀ H', Same H H' → Q R H'
theorem rgV_iv (n : Nat) : rgV 0 (n : Int) = iv (List.range n) := by
  unfold rgV
  rw [show ((n : Int) - 0).toNat = n by omega]
  refine List.map_congr_left fun i _ => ?_
  rw [Int.zero_add]
theorem c_is_full (D : Df K mg "is_full" "is_full" t_is_full ["stock"]) (B : Bi mg) (C : Cal P w K mg base 2 "has_all" ["stock", "lot"] (spHasAll K)) : Cal P w K mg base 3 "is_full" ["stock"] (spFull K (.bl true)) := by
  obtain ⟨f, fd, F, g, b⟩ := D.ex
  obtain ⟨f1, d1, G1, g1, k1, b1⟩ := C.ex
  refine ⟨f, fd, F.ok s_is_full (fun vs H Q E h => ?_) (fun cdv A outer s H vs Q E hr h => ?_), g, F.kp, b⟩
  · obtain ⟨_, _, _, rfl, _⟩ := h
    rfl
  · obtain ⟨a, m, os, rfl, ho, G, k⟩ := h
    have ho' := ho
    obtain ⟨ob, ha, vs, hb, hvs⟩ := ho
    refine ⟨_, pss_one (ps_ret (pe_call G1 hr (by rfl) g1 k1 b1 .nil pass0 (pa_cons (pv 0) (pa_cons (pe_listRg rfl (by rfl) B.list (prg_1 (by rfl) B.range (pe_callB call_len_seq (by rfl) B.len PySem.boot_len (pa_cons (pvt 0) pa_nil)))) pa_nil)))), ?_⟩
    refine ⟨_, rfl, _, rfl, a, _, 1, _, rfl, rfl, ha, at1, ob, _, rfl, .inr hb, _, rfl, ?_, fun q hq => ?_⟩
    · exact RgOk.of_le (by decide) (by have := G.n10; rw [hvs.1]; omega) (by decide) (by omega)
    · have s := same_upd (o := .lst (rgV 0 (vs.length : Int))) hq
      refine ⟨a, q, m, os, rfl, ho'.monoT s.t, G, ?_, fun H' s' => k H' (s.trans s')⟩
      rw [hvs.1, rgV_iv]
      exact .of upd_same
theorem c_look_at_full (D : Df K mg "look_at_full" "look_at_full" t_look_at_full ["stock"]) (C : Cal P w K mg base 3 "is_full" ["stock"] (spFull K (.bl true))) : Cal P w K mg base 4 "look_at_full" ["stock"] (spFull K .non) := by
  obtain ⟨f, fd, F, g, b⟩ := D.ex
  obtain ⟨f1, d1, G1, g1, k1, b1⟩ := C.ex
  refine ⟨f, fd, F.ok s_look_at_full (fun vs H Q E h => ?_) (fun cdv A outer s H vs Q E hr h => ?_), g, F.kp, b⟩
  · obtain ⟨_, _, _, rfl, _⟩ := h
    rfl
  · obtain ⟨a, m, os, rfl, ho, G, k⟩ := h
    refine ⟨_, pss_one (ps_if (pt_not (pt_val (pe_call G1 hr (by rfl) g1 k1 b1 .nil pass0 (pa_cons (pv 0) pa_nil)))) (pss_one ps_never) pss_nil), ?_⟩
    exact ⟨_, rfl, a, m, os, rfl, ho, G, fun H' s => ⟨_, rfl, iteF (k H' s)⟩⟩
/-! ### price_in, price_of -/
def prices (os : List Of) (ls : List Nat) : List Nat := ls.map fun l => (os.getD l default).2
def spPrice (K : PySem.W.Frag) : Sp := fun vs H Q _ => ∃ (a b : Addr) (m : Nat) (os : List Of) (ns : List Nat), vs = [.ref a, .ref b] ∧ StA K H a m os ∧ ThA K H b ns ∧ ns.length ≤ 1000 ∧ ns.Pairwise (· < ·) ∧ (∀ x ∈ ns, x < os.length) ∧ ∀ H', Same H H' → Q (.int ((prices os ns).sum : Nat)) H'
theorem c_price_in (D : Df K mg "price_in" "price_in" t_price_in ["stock", "lot"]) (B : Bi mg) : Cal P w K mg base 1 "price_in" ["stock", "lot"] (spPrice K) := by
  obtain ⟨f, fd, F, g, b⟩ := D.ex
  refine ⟨f, fd, F.ok s_price_in (fun vs H Q E h => ?_) (fun cdv A outer s H vs Q E hr h => ?_), g, F.kp, b⟩
  · obtain ⟨_, _, _, _, _, rfl, _⟩ := h
    rfl
  · obtain ⟨a, b, m, os, ns, rfl, ⟨ob, ha, vs, hb, ho⟩, hn, hz, hp, hlt, k⟩ := h
    refine ⟨_, pss_one (ps_ret (pe_callB (cr_sum rfl) (by rfl) B.sum (by decide +kernel) (pa_cons (pe_lc (own := [("offer", 2)]) (g := gName 2) (tt := tYes) (te := tOp (rIxT K) (tOp (rIxT K) (tOp (rIxT K) (tVar 0) (tC (.int 1))) (tVar 2)) (tC (.int 1))) rfl s_price_in.nd (pi_tup (pv 1)) (blkOk_by (N := n_price_in) (sc := defScope t_price_in) (by decide +kernel)) (fun _ _ _ _ _ => pg_name (i := 2) s_price_in.nd rfl (Or.inl rfl)) (fun _ _ _ _ _ => pts_nil)
      (fun _ _ _ _ _ => pe_ix ix_tup (pe_ix ix_tup (pvt 0) (pv 2) (fun _ _ => rfl)) pe_int (fun _ _ => rfl))) pa_nil))), ?_⟩
    refine ⟨_, rfl, b, rfl, ⟨_, hn⟩, lc_all (walk_tup (xs := iv ns)) (by rw [iv_len]; omega) ns iv_len.symm (fun _ _ v x => v = .int ((os.getD x default).2 : Int)) (fun _ _ _ _ _ _ _ h => h) (fun H' s' => s'.sqt hn)
      (fun D i v H' H'' x hD hx s' hl hy Kp kp => ?_) (fun D ys H' hD s' hl r => ?_)⟩
    · obtain ⟨rfl, hv⟩ := hy
      have hv' := iv_get hv hx
      subst hv'
      have hoo := List.getElem?_eq_getElem (hlt x (List.mem_of_getElem? hx))
      obtain ⟨v, hv, c, rfl, t, hc, ht⟩ := ho.get hoo
      refine ⟨rfl, _, rfl, a, _, 1, _, rfl, rfl, s'.sqt ha, at1, _, rfl, ob, _, _, _, rfl, rfl, s'.sqt hb, atI_nat hv, c, _, 1, _, rfl, rfl, s'.sqt hc, at1, kp _ _ (Same.refl _) ?_⟩
      rw [List.getD_eq_getElem?_getD, hoo]
      rfl
    · have e : ys = ((prices os ns).map fun (t : Nat) => (t : Int)).map V.int := by
        unfold prices
        rw [List.map_map, List.map_map]
        exact r.eq_map
      refine ⟨D, _, rfl, .of (by rw [← e]; exact hl), ?_⟩
      have e2 : ((prices os ns).map fun (t : Nat) => (t : Int)).sum = ((prices os ns).sum : Nat) := by
        generalize prices os ns = l
        induction l with
        | nil => rfl
        | cons x r ih => rw [List.map_cons, List.sum_cons, List.sum_cons, ih]; omega
      rw [e2]
      exact k H' s'
theorem c_price_of (D : Df K mg "price_of" "price_of" t_price_of ["stock", "lot"]) (C : Cal P w K mg base 5 "need_lot" ["stock", "thing"] (spLot K .non)) (C2 : Cal P w K mg base 1 "price_in" ["stock", "lot"] (spPrice K)) : Cal P w K mg base 6 "price_of" ["stock", "lot"] (spPrice K) := by
  obtain ⟨f, fd, F, g, b⟩ := D.ex
  obtain ⟨f1, d1, G1, g1, k1, b1⟩ := C.ex
  obtain ⟨f2, d2, G2, g2, k2, b2⟩ := C2.ex
  refine ⟨f, fd, F.ok s_price_of (fun vs H Q E h => ?_) (fun cdv A outer s H vs Q E hr h => ?_), g, F.kp, b⟩
  · obtain ⟨_, _, _, _, _, rfl, _⟩ := h
    rfl
  · obtain ⟨a, b, m, os, ns, rfl, ho, hn, hz, hp, hlt, k⟩ := h
    refine ⟨_, pss_cons (ps_expr (pe_call G1 hr (by rfl) g1 k1 b1 .nil pass0 (pa_cons (pv 0) (pa_cons (pv 1) pa_nil)))) (pss_one (ps_ret (pe_call G2 (hr.mono (by decide)) (by rfl) g2 k2 b2 .nil pass0 (pa_cons (pv 0) (pa_cons (pv 1) pa_nil))))), ?_⟩
    refine ⟨_, rfl, _, rfl, a, b, m, os, ns, rfl, ho, hn, hz, hp, hlt, fun H' s => ?_⟩
    exact ⟨_, rfl, _, rfl, a, b, m, os, ns, rfl, ho.monoT s.t, hn.monoT s.t, hz, hp, hlt, fun H2 s2 => k H2 (s.trans s2)⟩
/-! ### offers_with -/
/-- the offers that have a thing -/
def withT (os : List Of) (t : Nat) : List Nat := pick os.length (fun i => decide (t ∈ (os.getD i default).1)) id
def spWith (K : PySem.W.Frag) : Sp := fun vs H Q _ => ∃ (a : Addr) (m : Nat) (os : List Of) (t : Nat), vs = [.ref a, .int (t : Int)] ∧ StA K H a m os ∧ os.length ≤ 10 ∧ ∀ p H', Same H H' → H p = none → H' p = some (.lst (iv (withT os t))) → Q (.ref p) H'
theorem in_iv {t : Nat} {ts : List Nat} : inV (.int (t : Int)) (iv ts) = decide (t ∈ ts) := by
  unfold inV
  induction ts with
  | nil => rfl
  | cons x r ih =>
    show (eqV (.int (x : Int)) (.int (t : Int)) || (iv r).any fun y => eqV y (.int (t : Int))) = _
    rw [ih]
    have e : eqV (.int (x : Int)) (.int (t : Int)) = decide (t = x) := by
      show ((x : Int) == (t : Int)) = decide (t = x)
      by_cases h : t = x
      · subst h; simp
      · rw [decide_eq_false h]
        exact beq_eq_false_iff_ne.mpr fun z => h (by omega)
    rw [e]
    by_cases h : t = x <;> simp [h]
theorem c_offers_with (D : Df K mg "offers_with" "offers_with" t_offers_with ["stock", "thing"]) (B : Bi mg) : Cal P w K mg base 1 "offers_with" ["stock", "thing"] (spWith K) := by
  obtain ⟨f, fd, F, g, b⟩ := D.ex
  refine ⟨f, fd, F.ok s_offers_with (fun vs H Q E h => ?_) (fun cdv A outer s H vs Q E hr h => ?_), g, F.kp, b⟩
  · obtain ⟨_, _, _, _, rfl, _⟩ := h
    rfl
  · obtain ⟨a, m, os, t, rfl, ⟨ob, ha, vs, hb, ho⟩, h10, k⟩ := h
    refine ⟨_, pss_one (ps_ret (pe_lc (own := [("number", 2), ("offer", 3)]) (g := gTup K 2 (gCons (gName 2) (gCons (gName 3) gNil))) (tt := tTest (tOp (rIn K false) (tVar 1) (tOp (rIxT K) (tVar 3) (tC (.int 0))))) (te := tVar 2) rfl s_offers_with.nd (KR.pi_enumT (by rfl) B.enum (pa_cons (pvt 0) pa_nil)) (blkOk_by (N := n_offers_with) (sc := defScope t_offers_with) (by decide +kernel))
      (fun _ _ _ _ _ => pg_tup rfl (pgs_cons (pg_name (i := 2) s_offers_with.nd rfl (.inl rfl)) (pgs_cons (pg_name (i := 3) s_offers_with.nd rfl (.inl rfl)) pgs_nil))) (fun _ _ _ _ _ => pts_one (pt_cmpR op_in_seq (pv 1) (pvt 3) rfl))
      (fun _ _ _ _ _ => pv 2))), ?_⟩
    have hvl : vs.length = os.length := ho.1
    refine ⟨_, rfl, a, _, 1, _, rfl, rfl, ha, at1, ob, vs, rfl, hb, lc_filt KR.walk_enumT (by omega) (fun i => decide (t ∈ (os.getD i default).1)) id (fun _ _ v x => v = .int (x : Int)) (fun _ _ _ _ _ _ _ h => h) (fun H' s' => s'.sqt hb)
      (fun D i v H' H'' hD hi s' hl hy Kp Kn kp kn => ?_) (fun D ys H' hD s' hl r => ?_)⟩
    · obtain ⟨T, x1, x2, rfl, hT, rfl, e1, e2⟩ := hy
      have e1' : V.int (i : Int) = x1 := Option.some.inj e1
      have hoo := List.getElem?_eq_getElem (show i < os.length by omega)
      obtain ⟨v, hv, c, rfl, tt, hc, ht⟩ := ho.get hoo
      have e2' : x2 = .ref c := Option.some.inj ((show vs[i]? = some x2 from e2).symm.trans hv)
      subst e1' e2'
      have sT := same_upd (o := .tup [.int (i : Int), .ref c]) hT
      have e3 : (os.getD i default).1 = os[i].1 := by rw [List.getD_eq_getElem?_getD, hoo]; rfl
      refine ⟨T, _, rfl, .of upd_same, rfl, _, _, rfl, _, _, rfl, rfl, rfl, ?_⟩
      refine ⟨_, rfl, _, rfl, c, _, 0, _, rfl, rfl, (s'.trans sT).sqt hc, at0, tt, _, rfl, .inr ((s'.trans sT).sqt ht), rfl, ?_, _, rfl, ?_⟩
      · simp [flatV]
      · show if inV (.int (t : Int)) (iv os[i].1) = true then _ else _
        rw [in_iv]
        by_cases hin : t ∈ os[i].1
        · rw [decide_eq_true hin]
          refine iteT ⟨_, rfl, kp _ _ (by rw [e3]; exact decide_eq_true hin) sT rfl⟩
        · rw [decide_eq_false hin]
          exact iteF (kn _ (by rw [e3]; exact decide_eq_false hin) sT)
    · refine k D H' s' hD ?_
      have e : ys = iv (withT os t) := by
        have := r.eq_map
        rw [hvl] at this
        exact this
      rw [← e]
      exact hl
end
end K34
set_option Elab.async false
set_option linter.all false
set_option maxRecDepth 100000
/-! the walk: shares -/
namespace K34
open PySem PySem.Spec PyProof.Rows L2

/-- the values at some places -/
def sel (ys : List Rat) (ts : List Nat) : List Rat := ts.map fun t => ys.getD t 0
/-- shares by prices -/
def priced (us : List Rat) (os : List Of) : List Rat := List.zipWith (fun u (o : Of) => u * (o.2 : Rat)) us os
/-- a bearing, with what the machine asks of sizes -/
structure Bear (m : Nat) (os : List Of) (ys : List Rat) : Prop where
  len : ys.length = m
  nn : ∀ y ∈ ys, 0 ≤ y
  ok : ∀ o ∈ os, tot (sel ys o.1) ≤ (o.2 : Rat)
  ts : ∀ o ∈ os, Tots (sel ys o.1) ∧ Sz (tot (sel ys o.1))
  tw : Tots ys
/-- a sharing, likewise -/
structure Share (m : Nat) (os : List Of) (us : List Rat) : Prop where
  len : us.length = os.length
  nn : ∀ u ∈ us, 0 ≤ u
  ok : ∀ t, t < m → 1 ≤ tot (sel us (withT os t))
  ts : ∀ t, t < m → Tots (sel us (withT os t)) ∧ Sz (tot (sel us (withT os t)))
  sz : ∀ u ∈ us, Sz u ∧ u.den < 2 ^ 9000
  tp : Tots (priced us os)
theorem fr_nat {K : PySem.W.Frag} {H : Hp} {a : Addr} {n : Nat} (h : SqT K H a [.int (n : Int), .int 1]) : FrA K H a (n : Rat) := h
theorem sz_nat {n : Nat} (h : n ≤ 2 ^ 44) : Sz (n : Rat) := ⟨by rw [Rat.num_natCast, Int.natAbs_natCast]; exact Nat.lt_of_le_of_lt h (Nat.pow_lt_pow_right (by decide) (by decide)), by rw [Rat.den_natCast]; exact Nat.one_lt_two_pow (by decide)⟩
theorem sz_one : Sz 1 := sz_nat (n := 1) (by decide)
theorem sz_zero : Sz 0 := sz_nat (n := 0) (by decide)
theorem getD_of {α : Type} {l : List α} {i : Nat} {x d : α} (h : l[i]? = some x) : l.getD i d = x := by rw [List.getD_eq_getElem?_getD, h]; rfl
section
variable {P : Program} {w : World} {K : PySem.W.Frag} {mg : Str → Option Value} {base : Heap}
def spShares (K : PySem.W.Frag) : Sp := fun vs H Q _ => ∃ (a : Addr) (qs : List Rat) (n : Nat), vs = [.ref a, .int (n : Int)] ∧ FrT K H a qs ∧ qs.length = n ∧ n ≤ 1000 ∧ (∀ q ∈ qs, 0 ≤ q) ∧ ∀ H', Same H H' → Q (.bl true) H'
theorem c_are_shares (D : Df K mg "are_shares" "are_shares" t_are_shares ["thing", "many"]) (B : Bi mg) (C : Cal P w K mg base 2 "is_fraction" ["thing"] (spIsFr K)) : Cal P w K mg base 3 "are_shares" ["thing", "many"] (spShares K) := by
  obtain ⟨f, fd, F, g, b⟩ := D.ex
  obtain ⟨f1, d1, G1, g1, k1, b1⟩ := C.ex
  refine ⟨f, fd, F.ok s_are_shares (fun vs H Q E h => ?_) (fun cdv A outer s H vs Q E hr h => ?_), g, F.kp, b⟩
  · obtain ⟨_, _, _, rfl, _⟩ := h
    rfl
  · obtain ⟨a, qs, n, rfl, ⟨vs, ha, hv⟩, hn, hz, hnn, k⟩ := h
    refine ⟨_, pss_cons (ps_if (PW.pt (pw_or (pt_not (pt_val (pe_callB call_isi (by rfl) B.isi (by decide +kernel) (pa_cons (pv 0) (pa_cons (pty (n := "tuple") (by rfl) B.tuple (by decide +kernel)) pa_nil)))))
        (pw_or1 (pt_cmpR op_ne (pe_callB call_len_seq (by rfl) B.len PySem.boot_len (pa_cons (pv 0) pa_nil)) (pv 1) (nomark _))))) (pss_one (ps_ret pe_bl)) pss_nil)
      (pss_one (ps_ret (pe_callB (cr_all rfl) (by rfl) B.all (by decide +kernel) (pa_cons (pe_lc (own := [("one", 2)]) (g := gName 2) (tt := tYes)
        (te := tAndV (tCall (spIsFr K) [] E0 (tCons (tVar 2) tNil)) (tOp (rI0 fun i j => .bl (decide (j ≤ i))) (tOp (rIxT K) (tVar 2) (tC (.int 0))) (tC (.int 0)))) rfl s_are_shares.nd (pi_tup (pv 0)) (blkOk_by (N := n_are_shares) (sc := defScope t_are_shares) (by decide +kernel))
        (fun _ _ _ _ _ => pg_name (i := 2) s_are_shares.nd rfl (Or.inl rfl)) (fun _ _ _ _ _ => pts_nil)
        (fun _ _ _ _ _ => pe_and (pe_call G1 hr (by rfl) g1 k1 b1 .nil pass0 (pa_cons (pv 2) pa_nil)) (pe_one (pe_cmpR op_ge (pvt 2) pe_int (nomark _))))) pa_nil)))), ?_⟩
    refine ⟨_, rfl, _, _, _, _, _, rfl, .ty _, tyT ha, kit_ty (r := true) (by decide +kernel), _, rfl, iteF ?_⟩
    refine ⟨_, rfl, a, _, rfl, .inr ha, _, rfl, rfl, _, rfl, ?_⟩
    have hvn : (vs.length : Int) = (n : Int) := by rw [hv.1, hn]
    rw [hvn, decide_eq_true rfl]
    refine iteF ?_
    refine ⟨_, rfl, a, rfl, ⟨_, ha⟩, lc_all (walk_tup (xs := vs)) (by rw [hv.1]; omega) qs hv.1.symm (fun _ _ v _ => v = .bl true) (fun _ _ _ _ _ _ _ h => h) (fun H' s' => s'.sqt ha)
      (fun D i v H' H'' x hD hx s' hl hy Kp kp => ?_) (fun D ys H' hD s' hl r => ?_)⟩
    · obtain ⟨rfl, hv'⟩ := hy
      obtain ⟨c, rfl, hc⟩ := hv.2 i v x hv' hx
      have hc' := hc.mono s'
      refine ⟨rfl, _, rfl, c, x, rfl, hc', _, rfl, iteT ⟨_, rfl, c, _, 0, _, rfl, rfl, hc', at0, _, _, rfl, rfl, kp _ _ (Same.refl _) ?_⟩⟩
      exact congrArg V.bl (decide_eq_true (Rat.num_nonneg.2 (hnn x (List.mem_of_getElem? hx))))
    · have e : ys = (qs.map fun _ => true).map V.bl := by
        rw [List.map_map]
        exact r.eq_map
      refine ⟨D, qs.map fun _ => true, rfl, .of (by rw [← e]; exact hl), ?_⟩
      have e2 : (qs.map fun _ => true).all id = true := by simp
      rw [e2]
      exact k _ s'
/-- the comprehension [thing[one] for one in ..] -/
theorem sel_rl {K : PySem.W.Frag} {H : Hp} {ys : List V} {ts : List Nat} {qs : List Rat} (r : Rl (fun v (t : Nat) => Fr K H v (qs.getD t 0)) ys ts) : Rl (Fr K H) ys (sel qs ts) := by
  refine ⟨by rw [r.1]; unfold sel; rw [List.length_map], fun i v x h1 h2 => ?_⟩
  unfold sel at h2
  rw [List.getElem?_map] at h2
  cases e : ts[i]? with
  | none => rw [e] at h2; cases h2
  | some t =>
    rw [e] at h2
    cases h2
    exact r.2 i v t h1 e
def spBear (K : PySem.W.Frag) (T : List Rat → Hp → VK → Prop) : Sp := fun vs H Q _ => ∃ (a b : Addr) (m : Nat) (os : List Of) (ys : List Rat), vs = [.ref a, .ref b] ∧ StA K H a m os ∧ Good m os ∧ FrT K H b ys ∧ Bear m os ys ∧ T ys H Q
def toTrue : List Rat → Hp → VK → Prop := fun _ H Q => ∀ H', Same H H' → Q (.bl true) H'
theorem c_is_bearing (D : Df K mg "is_bearing" "is_bearing" t_is_bearing ["stock", "thing"]) (B : Bi mg) (C : Cal P w K mg base 3 "are_shares" ["thing", "many"] (spShares K)) (C2 : Cal P w K mg base 1 "less" ["one", "other"] (spLess K))
    (C3 : Cal P w K mg base 4 "total" ["some"] (spTot (FrL K) K)) : Cal P w K mg base 5 "is_bearing" ["stock", "thing"] (spBear K toTrue) := by
  obtain ⟨f, fd, F, g, b⟩ := D.ex
  obtain ⟨f1, d1, G1, g1, k1, b1⟩ := C.ex
  obtain ⟨f2, d2, G2, g2, k2, b2⟩ := C2.ex
  obtain ⟨f3, d3, G3, g3, k3, b3⟩ := C3.ex
  refine ⟨f, fd, F.ok s_is_bearing (fun vs H Q E h => ?_) (fun cdv A outer s H vs Q E hr h => ?_), g, F.kp, b⟩
  · obtain ⟨_, _, _, _, _, rfl, _⟩ := h
    rfl
  · obtain ⟨a, b, m, os, ys, rfl, ⟨ob, ha, vs, hb, ho⟩, G, hy0, Z, k⟩ := h
    have hy := hy0
    obtain ⟨ws, hws, hw⟩ := hy0
    refine ⟨_, pss_cons (ps_if (pt_not (pt_val (pe_call G1 (hr.mono (by decide)) (by rfl) g1 k1 b1 .nil pass0 (pa_cons (pv 1) (pa_cons (pvt 0) pa_nil))))) (pss_one (ps_ret pe_bl)) pss_nil)
      (pss_cons (ps_for PassesOwn.never rfl (pi_tup (pvt 0)) (pg_tup rfl (pgs_cons (pg_name (i := 2) s_is_bearing.nd rfl (.inl rfl)) (pgs_cons (pg_name (i := 3) s_is_bearing.nd rfl (.inl rfl)) pgs_nil)))
        (pss_one (ps_if (pt_val (pe_call G2 (hr.mono (by decide)) (by rfl) g2 k2 b2 .nil pass0 (pa_cons (pe_tup (pa_cons (pv 3) (pa_cons pe_int pa_nil))) (pa_cons (pe_call G3 hr (by rfl) g3 k3 b3 .nil pass0 (pa_cons
          (pe_lc (own := [("one", 4)]) (g := gName 4) (tt := tYes) (te := tOp (rIxT K) (tVar 1) (tVar 4)) rfl s_is_bearing.nd (pi_tup (pv 2)) (blkOk_by (N := n_is_bearing) (sc := defScope t_is_bearing) (by decide +kernel))
            (fun _ _ _ _ _ => pg_name (i := 4) s_is_bearing.nd rfl (Or.inl rfl)) (fun _ _ _ _ _ => pts_nil) (fun _ _ _ _ _ => pe_ix ix_tup (pv 1) (pv 4) (fun _ _ => rfl))) pa_nil)) pa_nil))))
          (pss_one (ps_ret pe_bl)) pss_nil)))
      (pss_one (ps_ret pe_bl))), ?_⟩
    refine ⟨_, rfl, _, rfl, a, _, 0, _, rfl, rfl, ha, at0, b, ys, m, rfl, hy, Z.len, by have := G.m10; omega, Z.nn, fun H1 s1 => ⟨_, rfl, iteF ?_⟩⟩
    refine ⟨_, rfl, a, _, 1, _, rfl, rfl, s1.sqt ha, at1, ob, rfl, ⟨_, s1.sqt hb⟩, for_it (walk_tup (xs := vs)) (fun i σ H' => ∃ y2 y3 y4, σ = [some (.ref a), some (.ref b), y2, y3, y4] ∧ Same H H')
      ⟨none, none, none, rfl, s1⟩ (fun i σ H' _ h => ?_) (fun i x σ H' H'' hi h hyy => ?_) (fun σ H' h => ?_)⟩
    · obtain ⟨_, _, _, _, s⟩ := h
      exact s.sqt hb
    · obtain ⟨y2, y3, y4, rfl, s⟩ := h
      obtain ⟨rfl, hx⟩ := hyy
      obtain ⟨o, hoo, c, rfl, t, hc, ht⟩ := ho.getV hx
      have hmem := List.mem_of_getElem? hoo
      refine ⟨c, _, rfl, s.sqt hc, rfl, _, _, rfl, _, _, rfl, rfl, ?_⟩
      refine ⟨_, rfl, two_line, fun p hp => ?_⟩
      have sp := same_upd (o := .tup [.int (o.2 : Int), .int 1]) hp
      have hpr : FrA K (upd H'' p (.tup [.int (o.2 : Int), .int 1])) p (o.2 : Rat) := fr_nat (.of upd_same)
      have s2 := s.trans sp
      have ht2 : SqT K (upd H'' p (.tup [.int (o.2 : Int), .int 1])) t (iv o.1) := s2.sqt ht
      refine ⟨_, rfl, t, rfl, ⟨_, ht2⟩, lc_all (walk_tup (xs := iv o.1)) (by rw [iv_len]; have := (good_ten G o hmem).1; omega) o.1 iv_len.symm (fun D H v (x : Nat) => Fr K H v (ys.getD x 0)) (fun D H H' v x ⟨l, hl⟩ hb' h => h.monoT (hb'.t hl)) (fun H' s' => s'.sqt ht2)
        (fun D i v H3 H4 x hD hx s' hl hy' Kp kp => ?_) (fun D zs H3 hD s' hl r => ?_)⟩
      · obtain ⟨rfl, hv⟩ := hy'
        have hv' := iv_get hv hx
        subst hv'
        have hlt : x < ys.length := by rw [Z.len]; exact G.lt o hmem x (List.mem_of_getElem? hx)
        have hq := List.getElem?_eq_getElem hlt
        obtain ⟨u, hu, hfr⟩ := hw.get hq
        refine ⟨rfl, _, rfl, _, rfl, b, _, _, _, rfl, rfl, (s2.trans s').sqt hws, atI_nat hu, kp _ _ (Same.refl _) ?_⟩
        rw [getD_of hq]
        exact hfr.mono (s2.trans s')
      · obtain ⟨z1, z2⟩ := Z.ts o hmem
        refine ⟨D, sel ys o.1, rfl, ⟨zs, .of hl, sel_rl r⟩, z1, fun e H4 s4 he => ?_⟩
        refine ⟨p, e, _, _, rfl, hpr.mono (s'.trans s4), he, sz_nat (G.p2 o hmem), z2, _, rfl, ?_⟩
        rw [decide_eq_false (by have := Z.ok o hmem; exact Rat.not_lt.2 this)]
        exact iteF ⟨_, _, _, rfl, (s2.trans s').trans s4⟩
    · obtain ⟨y2, y3, y4, rfl, s⟩ := h
      exact k H' s
def toTot (K : PySem.W.Frag) : List Rat → Hp → VK → Prop := fun ys H Q => ∀ c H', Same H H' → FrA K H' c (tot ys) → Q (.ref c) H'
theorem c_worth_of (D : Df K mg "worth_of" "worth_of" t_worth_of ["stock", "bearing"]) (C : Cal P w K mg base 5 "is_bearing" ["stock", "thing"] (spBear K toTrue)) (C2 : Cal P w K mg base 4 "total" ["some"] (spTot (FrT K) K)) :
    Cal P w K mg base 6 "worth_of" ["stock", "bearing"] (spBear K (toTot K)) := by
  obtain ⟨f, fd, F, g, b⟩ := D.ex
  obtain ⟨f1, d1, G1, g1, k1, b1⟩ := C.ex
  obtain ⟨f2, d2, G2, g2, k2, b2⟩ := C2.ex
  refine ⟨f, fd, F.ok s_worth_of (fun vs H Q E h => ?_) (fun cdv A outer s H vs Q E hr h => ?_), g, F.kp, b⟩
  · obtain ⟨_, _, _, _, _, rfl, _⟩ := h
    rfl
  · obtain ⟨a, b, m, os, ys, rfl, ho, G, hy, Z, k⟩ := h
    refine ⟨_, pss_cons (ps_if (pt_not (pt_val (pe_call G1 hr (by rfl) g1 k1 b1 .nil pass0 (pa_cons (pv 0) (pa_cons (pv 1) pa_nil))))) (pss_one ps_never) pss_nil)
      (pss_one (ps_ret (pe_call G2 (hr.mono (by decide)) (by rfl) g2 k2 b2 .nil pass0 (pa_cons (pv 1) pa_nil)))), ?_⟩
    refine ⟨_, rfl, _, rfl, a, b, m, os, ys, rfl, ho, G, hy, Z, fun H1 s1 => ⟨_, rfl, iteF ?_⟩⟩
    exact ⟨_, rfl, b, ys, rfl, hy.mono s1, Z.tw, fun c H' s' hc => k c H' (s1.trans s') hc⟩
end
end K34
set_option Elab.async false
set_option linter.all false
set_option maxRecDepth 100000
/-! the walk: shares, further -/
namespace K34
open PySem PySem.Spec PyProof.Rows L2
section
variable {P : Program} {w : World} {K : PySem.W.Frag} {mg : Str → Option Value} {base : Heap}
def spShare (K : PySem.W.Frag) (T : List Of → List Rat → Hp → VK → Prop) : Sp := fun vs H Q _ => ∃ (a b : Addr) (m : Nat) (os : List Of) (us : List Rat), vs = [.ref a, .ref b] ∧ StA K H a m os ∧ Good m os ∧ FrT K H b us ∧ Share m os us ∧ T os us H Q
theorem withT_lt {os : List Of} {t k : Nat} (h : k ∈ withT os t) : k < os.length ∧ t ∈ (os.getD k default).1 := by
  unfold withT pick at h
  rw [List.map_id] at h
  have := List.mem_filter.1 h
  exact ⟨List.mem_range.1 this.1, of_decide_eq_true this.2⟩
theorem withT_len (os : List Of) (t : Nat) : (withT os t).length ≤ os.length := pick_len _ _ _
theorem c_is_sharing (D : Df K mg "is_sharing" "is_sharing" t_is_sharing ["stock", "thing"]) (B : Bi mg) (U : Nums K mg) (C : Cal P w K mg base 3 "are_shares" ["thing", "many"] (spShares K)) (C2 : Cal P w K mg base 1 "less" ["one", "other"] (spLess K))
    (C3 : Cal P w K mg base 4 "total" ["some"] (spTot (FrL K) K)) (C4 : Cal P w K mg base 1 "offers_with" ["stock", "thing"] (spWith K)) : Cal P w K mg base 5 "is_sharing" ["stock", "thing"] (spShare K fun _ => toTrue) := by
  obtain ⟨f, fd, F, g, b⟩ := D.ex
  obtain ⟨f1, d1, G1, g1, k1, b1⟩ := C.ex
  obtain ⟨f2, d2, G2, g2, k2, b2⟩ := C2.ex
  obtain ⟨f3, d3, G3, g3, k3, b3⟩ := C3.ex
  obtain ⟨f4, d4, G4, g4, k4, b4⟩ := C4.ex
  obtain ⟨z, gz, fz⟩ := U.o
  refine ⟨f, fd, F.ok s_is_sharing (fun vs H Q E h => ?_) (fun cdv A outer s H vs Q E hr h => ?_), g, F.kp, b⟩
  · obtain ⟨_, _, _, _, _, rfl, _⟩ := h
    rfl
  · obtain ⟨a, b, m, os, us, rfl, ⟨ob, ha, vs, hb, ho⟩, G, hy0, Z, k⟩ := h
    have hst : StA K H a m os := ⟨ob, ha, vs, hb, ho⟩
    have hy := hy0
    obtain ⟨ws, hws, hw⟩ := hy0
    refine ⟨_, pss_cons (ps_if (pt_not (pt_val (pe_call G1 (hr.mono (by decide)) (by rfl) g1 k1 b1 .nil pass0 (pa_cons (pv 1) (pa_cons (pe_callB call_len_seq (by rfl) B.len PySem.boot_len (pa_cons (pvt 0) pa_nil)) pa_nil))))) (pss_one (ps_ret pe_bl)) pss_nil)
      (pss_one (ps_ret (pe_not (pe_callB (cr_any rfl) (by rfl) B.any (by decide +kernel) (pa_cons
        (pe_lc (own := [("one", 2)]) (g := gName 2) (tt := tYes)
          (te := tCall (spLess K) [] E0 (tCons (tCall (spTot (FrL K) K) [] E0 (tCons (tLc (iList K (tCall (spWith K) [] E0 (tCons (tVar 0) (tCons (tVar 2) tNil)))) (gName 3) tYes (tOp (rIxT K) (tVar 1) (tVar 3)) [3]) tNil)) (tCons (tC (.ref z)) tNil)))
          rfl s_is_sharing.nd (pi_range1 (by rfl) B.range (pa_cons (pvt 0) pa_nil)) (blkOk_by (N := n_is_sharing) (sc := defScope t_is_sharing) (by decide +kernel))
          (fun _ _ _ _ _ => pg_name (i := 2) s_is_sharing.nd rfl (Or.inl rfl)) (fun _ _ _ _ _ => pts_nil)
          (fun _ _ _ _ _ => pe_call G2 (hr.mono (by decide)) (by rfl) g2 k2 b2 .nil pass0 (pa_cons (pe_call G3 hr (by rfl) g3 k3 b3 .nil pass0 (pa_cons
            (pe_lc (own := [("k", 3)]) (g := gName 3) (tt := tYes) (te := tOp (rIxT K) (tVar 1) (tVar 3)) rfl s_is_sharing.nd (pi_list (pe_call G4 (hr.mono (by decide)) (by rfl) g4 k4 b4 .nil pass0 (pa_cons (pv 0) (pa_cons (pv 2) pa_nil)))) (blkOk_by (by kernel_rfl))
              (fun _ _ _ _ _ => pg_name (i := 3) s_is_sharing.nd rfl (Or.inl rfl)) (fun _ _ _ _ _ => pts_nil) (fun _ _ _ _ _ => pe_ix ix_tup (pv 1) (pv 3) (fun _ _ => rfl))) pa_nil))
            (pa_cons (pe_glob (v := .ref z) rfl gz rfl) pa_nil)))) pa_nil))))), ?_⟩
    refine ⟨_, rfl, _, rfl, a, _, 1, _, rfl, rfl, ha, at1, ob, _, rfl, .inr hb, b, us, vs.length, rfl, hy, by rw [Z.len, ho.1], by rw [ho.1]; have := G.n10; omega, Z.nn, fun H1 s1 => ⟨_, rfl, iteF ?_⟩⟩
    have hm10 := G.m10
    refine ⟨_, rfl, a, _, 0, _, rfl, rfl, s1.sqt ha, at0, (m : Int), rfl, by omega, by omega, lc_all walk_range0 (by omega) (List.range m) (by rw [List.length_range]; omega) (fun _ _ v _ => v = .bl false) (fun _ _ _ _ _ _ _ h => h) (fun H' s' => trivial)
        (fun D i v H2 H3 x hD hx s2 hl hyy Kp kp => ?_) (fun D ys H2 hD s2 hl r => ?_)⟩
    · obtain ⟨rfl, rfl⟩ := hyy
      have hxi : i < m := by have := (List.getElem?_eq_some_iff.mp hx).1; rwa [List.length_range] at this
      have s12 := s1.trans s2
      refine ⟨rfl, _, rfl, _, rfl, a, m, os, i, rfl, hst.monoT s12.t, G.n10, fun p H4 s4 _ hp => ?_⟩
      have s14 := s12.trans s4
      refine ⟨p, rfl, ⟨_, .of hp⟩, lc_all (walk_list (xs := iv (withT os i))) (by rw [iv_len]; have := withT_len os i; have := G.n10; omega) (withT os i) iv_len.symm (fun D H v (x : Nat) => Fr K H v (us.getD x 0)) (fun D H H' v x ⟨l, hl⟩ hb' h => h.monoT (hb'.t hl)) (fun H' s' => s'.seq (.of hp))
        (fun D2 j v H5 H6 y hD2 hyx s5 hl2 hy' Kp2 kp2 => ?_) (fun D2 zs H5 hD2 s5 hl2 r2 => ?_)⟩
      · obtain ⟨rfl, hv⟩ := hy'
        have hv' := iv_get hv hyx
        subst hv'
        have hlt : y < us.length := by rw [Z.len]; exact (withT_lt (List.mem_of_getElem? hyx)).1
        have hq := List.getElem?_eq_getElem hlt
        obtain ⟨u, hu, hfr⟩ := hw.get hq
        refine ⟨rfl, _, rfl, _, rfl, b, _, _, _, rfl, rfl, (s14.trans s5).sqt hws, atI_nat hu, kp2 _ _ (Same.refl _) ?_⟩
        rw [getD_of hq]
        exact hfr.mono (s14.trans s5)
      · obtain ⟨z1, z2⟩ := Z.ts i hxi
        refine ⟨D2, sel us (withT os i), rfl, ⟨zs, .of hl2, sel_rl r2⟩, z1, fun e H6 s6 he => ?_⟩
        refine ⟨e, z, _, 1, rfl, he, fz _, z2, sz_one, kp _ _ ((s4.trans s5).trans s6) ?_⟩
        exact congrArg V.bl (decide_eq_false (Rat.not_lt.2 (Z.ok i hxi)))
    · have e : ys = ((List.range m).map fun _ => false).map V.bl := by
        rw [List.map_map]
        exact r.eq_map
      refine ⟨D, _, rfl, .of (by rw [← e]; exact hl), ?_⟩
      have e2 : ((List.range m).map fun _ => false).any id = false := by simp
      rw [e2]
      exact ⟨_, rfl, k H2 (s1.trans s2)⟩
def toPrice (K : PySem.W.Frag) : List Of → List Rat → Hp → VK → Prop := fun os us H Q => ∀ c H', Same H H' → FrA K H' c (tot (priced us os)) → Q (.ref c) H'
theorem c_shared_price (D : Df K mg "shared_price" "shared_price" t_shared_price ["stock", "sharing"]) (B : Bi mg) (C : Cal P w K mg base 5 "is_sharing" ["stock", "thing"] (spShare K fun _ => toTrue)) (C2 : Cal P w K mg base 4 "total" ["some"] (spTot (FrL K) K))
    (C3 : Cal P w K mg base 3 "times" ["one", "other"] (sp2 K Bd (· * ·))) : Cal P w K mg base 6 "shared_price" ["stock", "sharing"] (spShare K (toPrice K)) := by
  obtain ⟨f, fd, F, g, b⟩ := D.ex
  obtain ⟨f1, d1, G1, g1, k1, b1⟩ := C.ex
  obtain ⟨f2, d2, G2, g2, k2, b2⟩ := C2.ex
  obtain ⟨f3, d3, G3, g3, k3, b3⟩ := C3.ex
  refine ⟨f, fd, F.ok s_shared_price (fun vs H Q E h => ?_) (fun cdv A outer s H vs Q E hr h => ?_), g, F.kp, b⟩
  · obtain ⟨_, _, _, _, _, rfl, _⟩ := h
    rfl
  · obtain ⟨a, b, m, os, us, rfl, hst, G, hy, Z, k⟩ := h
    have ⟨ob, ha, vs, hb, ho⟩ := hst
    have ⟨ws, hws, hw⟩ := hy
    refine ⟨_, pss_cons (ps_if (pt_not (pt_val (pe_call G1 hr (by rfl) g1 k1 b1 .nil pass0 (pa_cons (pv 0) (pa_cons (pv 1) pa_nil))))) (pss_one ps_never) pss_nil)
      (pss_one (ps_ret (pe_call G2 (hr.mono (by decide)) (by rfl) g2 k2 b2 .nil pass0 (pa_cons
        (pe_lc (own := [("share", 2), ("offer", 3)]) (g := gTup K 2 (gCons (gName 2) (gCons (gName 3) gNil))) (tt := tYes)
          (te := tCall (sp2 K Bd (· * ·)) [] E0 (tCons (tVar 2) (tCons (tTup (tCons (tOp (rIxT K) (tVar 3) (tC (.int 1))) (tCons (tC (.int 1)) tNil))) tNil))) rfl s_shared_price.nd
          (RZ.pi_zipA (by rfl) B.zip (pa_cons (pv 1) (pa_cons (pvt 0) pa_nil))) (blkOk_by (N := n_shared_price) (sc := defScope t_shared_price) (by decide +kernel))
          (fun _ _ _ _ _ => pg_tup rfl (pgs_cons (pg_name (i := 2) s_shared_price.nd rfl (.inl rfl)) (pgs_cons (pg_name (i := 3) s_shared_price.nd rfl (.inl rfl)) pgs_nil))) (fun _ _ _ _ _ => pts_nil)
          (fun _ _ _ _ _ => pe_call G3 (hr.mono (by decide)) (by rfl) g3 k3 b3 .nil pass0 (pa_cons (pv 2) (pa_cons (pe_tup (pa_cons (pvt 3) (pa_cons pe_int pa_nil))) pa_nil)))) pa_nil)))), ?_⟩
    refine ⟨_, rfl, _, rfl, a, b, m, os, us, rfl, hst, G, hy, Z, fun H1 s1 => ⟨_, rfl, iteF ?_⟩⟩
    have hmin : min ws.length vs.length = os.length := by rw [hw.1, ho.1, Z.len]; omega
    have hpl : (priced us os).length = os.length := by unfold priced; rw [List.length_zipWith, Z.len]; omega
    refine ⟨_, rfl, _, rfl, a, _, 1, _, rfl, rfl, s1.sqt ha, at1, b, ob, ws, vs, rfl, .inr ⟨s1.sqt hws, s1.sqt hb, lc_all (KR.walk_zipT rfl) (by rw [hmin]; have := G.n10; omega) (priced us os) (by rw [hpl, hmin])
        (fun D H v (x : Rat) => Fr K H v x) (fun D H H' v x ⟨l, hl⟩ hb' h => h.monoT (hb'.t hl)) (fun H' s' => ⟨s'.sqt (s1.sqt hws), s'.sqt (s1.sqt hb)⟩) (fun D i v H2 H3 x hD hx s2 hl hyy Kp kp => ?_) (fun D ys H2 hD s2 hl r => ?_)⟩⟩
    · obtain ⟨T, x1, x2, rfl, hT, rfl, e1, e2⟩ := hyy
      obtain ⟨u, hu, c, rfl, hc⟩ := hw.getV (show ws[i]? = some x1 from e1)
      obtain ⟨o, hoo, d, rfl, t, hd, ht⟩ := ho.getV (show vs[i]? = some x2 from e2)
      have hxe : x = u * (o.2 : Rat) := by
        unfold priced at hx
        rw [List.getElem?_zipWith, hu, hoo] at hx
        exact (Option.some.inj hx).symm
      subst hxe
      have sT := same_upd (o := .tup [.ref c, .ref d]) hT
      have s3 := (s1.trans s2).trans sT
      obtain ⟨z1, z2⟩ := Z.sz u (List.mem_of_getElem? hu)
      refine ⟨T, _, rfl, .of upd_same, rfl, _, _, rfl, _, _, rfl, rfl, rfl, _, rfl, _, rfl, d, _, 1, _, rfl, rfl, s3.sqt hd, at1, two_line, fun p hp => ?_⟩
      have sp := same_upd (o := .tup [.int (o.2 : Int), .int 1]) hp
      refine ⟨c, p, u, (o.2 : Rat), rfl, hc.mono (s3.trans sp), fr_nat (.of upd_same), z1, sz_nat (G.p2 o (List.mem_of_getElem? hoo)), ?_, fun e H5 s5 he => kp _ _ ((sT.trans sp).trans s5) ⟨e, rfl, he⟩⟩
      show u.den * (o.2 : Rat).den < 2 ^ 9000
      rw [Rat.den_natCast, Nat.mul_one]
      exact z2
    · exact ⟨D, priced us os, rfl, ⟨ys, .of hl, r⟩, Z.tp, fun c H3 s3 hc => k c H3 ((s1.trans s2).trans s3) hc⟩
end
end K34
set_option Elab.async false
set_option linter.all false
set_option maxRecDepth 100000
set_option exponentiation.threshold 200000
/-! the walk: balance -/
namespace K34
open PySem PySem.Spec PyProof.Rows L2

/-! ### sizes -/
/-- few figures: what stands in a table -/
def Lim (x : Rat) : Prop := x.num.natAbs < 2 ^ 1100 ∧ x.den < 2 ^ 1100
theorem Lim.sz {x : Rat} (h : Lim x) : Sz x := ⟨Nat.lt_of_lt_of_le h.1 (Nat.pow_le_pow_right (by decide) (by decide)), Nat.lt_of_lt_of_le h.2 (Nat.pow_le_pow_right (by decide) (by decide))⟩
theorem mul_lt_pow {a b m n k : Nat} (ha : a < 2 ^ m) (hb : b < 2 ^ n) (h : m + n ≤ k) : a * b < 2 ^ k :=
  Nat.lt_of_lt_of_le (Nat.mul_lt_mul'' ha hb) (by rw [← Nat.pow_add]; exact Nat.pow_le_pow_right (by decide) h)
theorem den_mul_le (x y : Rat) : (x * y).den ≤ x.den * y.den := by rw [Rat.den_mul]; exact Nat.div_le_self _ _
theorem num_mul_le (x y : Rat) : (x * y).num.natAbs ≤ x.num.natAbs * y.num.natAbs := by
  rw [Rat.num_mul, ← Int.natAbs_mul]
  exact Int.natAbs_ediv_le_natAbs _ _
theorem Lim.bd {x y : Rat} (hx : Lim x) (hy : Lim y) : Bd x y := mul_lt_pow hx.2 hy.2 (by decide)
theorem Lim.mul {x y : Rat} (hx : Lim x) (hy : Lim y) : (x * y).num.natAbs < 2 ^ 2200 ∧ (x * y).den < 2 ^ 2200 :=
  ⟨Nat.lt_of_le_of_lt (num_mul_le x y) (mul_lt_pow hx.1 hy.1 (by decide)), Nat.lt_of_le_of_lt (den_mul_le x y) (mul_lt_pow hx.2 hy.2 (by decide))⟩
theorem Lim.szmul {x y : Rat} (hx : Lim x) (hy : Lim y) : Sz (x * y) := ⟨Nat.lt_of_lt_of_le (hx.mul hy).1 (Nat.pow_le_pow_right (by decide) (by decide)), Nat.lt_of_lt_of_le (hx.mul hy).2 (Nat.pow_le_pow_right (by decide) (by decide))⟩
theorem Lim.bdmul {x y z : Rat} (hx : Lim x) (hy : Lim y) (hz : Lim z) : Bd z (x * y) := mul_lt_pow hz.2 (hx.mul hy).2 (by decide)
theorem Lim.od {x y : Rat} (hx : Lim x) (hy : Lim y) (h : 0 < y) : Od x y := ⟨h, mul_lt_pow hx.2 hy.1 (by decide)⟩

/-! ### the table in the heap -/
def tf (m : Nat) (ra ha ga : Addr) : List (Str × V) := [("things", .int (m : Int)), ("rows", .ref ra), ("heads", .ref ha), ("goal", .ref ga)]
theorem tf_things (m : Nat) (ra ha ga : Addr) : (tf m ra ha ga).lookup ("things" : Str) = some (.int (m : Int)) := by rfl
theorem tf_rows (m : Nat) (ra ha ga : Addr) : (tf m ra ha ga).lookup ("rows" : Str) = some (.ref ra) := by rfl
theorem tf_heads (m : Nat) (ra ha ga : Addr) : (tf m ra ha ga).lookup ("heads" : Str) = some (.ref ha) := by rfl
theorem tf_goal (m : Nat) (ra ha ga : Addr) : (tf m ra ha ga).lookup ("goal" : Str) = some (.ref ga) := by rfl
theorem tf_putR (m : Nat) (ra ha ga x : Addr) : putF ("rows" : Str) (.ref x) (tf m ra ha ga) = tf m x ha ga := by rfl
theorem tf_putG (m : Nat) (ra ha ga x : Addr) : putF ("goal" : Str) (.ref x) (tf m ra ha ga) = tf m ra ha x := by rfl
theorem tf_no (m : Nat) (ra ha ga : Addr) : (tf m ra ha ga).lookup ("coming" : Str) = none ∧ (tf m ra ha ga).lookup ("going" : Str) = none ∧ (tf m ra ha ga).lookup ("turn" : Str) = none ∧ (tf m ra ha ga).lookup ("bearing" : Str) = none ∧ (tf m ra ha ga).lookup ("sharing" : Str) = none := by
  refine ⟨by rfl, by rfl, by rfl, by rfl, by rfl⟩

def Rw (K : PySem.W.Frag) (H : Hp) (v : V) (qs : List Rat) : Prop := ∃ a vs, v = .ref a ∧ H a = some (.lst vs) ∧ Rl (Fr K H) vs qs
structure TabAt (K : PySem.W.Frag) (C : Addr) (H : Hp) (p ha : Addr) (m : Nat) (L : LT) : Prop where
  ob : ∃ dx ra ga rvs gvs, H p = some (.ins C dx (tf m ra ha ga)) ∧ H ra = some (.lst rvs) ∧ Rl (Rw K H) rvs L.rows ∧ H ga = some (.lst gvs) ∧ Rl (Fr K H) gvs L.goal
  hd : H ha = some (.lst (iv L.heads))
theorem Rw.mono {K : PySem.W.Frag} {H H' : Hp} {v : V} {qs : List Rat} (h : Rw K H v qs) (e : Same H H') : Rw K H' v qs := let ⟨a, vs, h1, h2, h3⟩ := h; ⟨a, vs, h1, e _ _ h2, h3.imp fun _ _ r => r.mono e⟩
theorem TabAt.mono {K : PySem.W.Frag} {C : Addr} {H H' : Hp} {p ha : Addr} {m : Nat} {L : LT} (h : TabAt K C H p ha m L) (e : Same H H') : TabAt K C H' p ha m L := by
  obtain ⟨dx, ra, ga, rvs, gvs, h1, h2, h3, h4, h5⟩ := h.ob
  exact ⟨⟨dx, ra, ga, rvs, gvs, e _ _ h1, e _ _ h2, h3.imp fun _ _ r => r.mono e, e _ _ h4, h5.imp fun _ _ r => r.mono e⟩, e _ _ h.hd⟩
theorem iv_ne {R : V → Rat → Prop} (hR : ∀ v q, R v q → ∃ a, v = .ref a) {hs : List Nat} (hn : hs ≠ []) {vs : List V} {qs : List Rat} (r : Rl R vs qs) : HO.lst (iv hs) ≠ HO.lst vs := by
  intro e
  injection e with e
  cases hs with
  | nil => exact hn rfl
  | cons x xr =>
    cases qs with
    | nil =>
      have := r.1
      rw [← e] at this
      simp at this
    | cons q qr =>
      obtain ⟨v, hv, hr⟩ := r.get (i := 0) (x := q) rfl
      obtain ⟨a, rfl⟩ := hR v q hr
      rw [← e] at hv
      cases hv
theorem frEq {K : PySem.W.Frag} {H : Hp} {a b : Addr} {p q : Rat} {Q : VK} (ha : FrA K H a p) (hb : FrA K H b q) (k : Q (.bl (decide (p = q))) H) : rEqD K (.ref a) (.ref b) H Q := by
  refine ⟨_, _, .tup ha (.cons (.int _) (.cons (.int _) .nil)), .tup hb (.cons (.int _) (.cons (.int _) .nil)), rfl, rfl, ?_⟩
  have e : PyData.eqv (.tuple [.int p.num, .int (p.den : Int)]) (.tuple [.int q.num, .int (q.den : Int)]) = decide (p = q) := by
    show (p.num == q.num && ((p.den : Int) == (q.den : Int) && true)) = decide (p = q)
    by_cases h : p = q
    · subst h; simp
    · rw [decide_eq_false h]
      by_cases h1 : p.num = q.num
      · have h2 : (p.den : Int) ≠ (q.den : Int) := fun z => h (Rat.ext h1 (by omega))
        rw [beq_eq_false_iff_ne.mpr h2]; simp
      · rw [beq_eq_false_iff_ne.mpr h1]; rfl
  rw [e]
  exact k

section
variable {P : Program} {w : World} {K : PySem.W.Frag} {mg : Str → Option Value} {base : Heap}
/-! ### lessened_by -/
def spLessen (K : PySem.W.Frag) : Sp := fun vs H Q _ => ∃ (a b c : Addr) (xs hs : List Rat) (q : Rat), vs = [.ref a, .ref b, .ref c] ∧ FrL K H a xs ∧ FrL K H b hs ∧ FrA K H c q ∧ xs.length = hs.length ∧ xs.length ≤ 1000 ∧ (∀ x ∈ xs, Lim x) ∧ (∀ x ∈ hs, Lim x) ∧ Lim q ∧
  ∀ p H' ws, Same H H' → H p = none → H' p = some (.lst ws) → Rl (Fr K H') ws (lessL xs hs q) → Q (.ref p) H'
theorem c_lessened_by (D : Df K mg "lessened_by" "lessened_by" t_lessened_by ["row", "head", "by"]) (B : Bi mg) (C : Cal P w K mg base 4 "minus" ["one", "other"] (sp2 K Bd (· - ·))) (C2 : Cal P w K mg base 3 "times" ["one", "other"] (sp2 K Bd (· * ·))) :
    Cal P w K mg base 5 "lessened_by" ["row", "head", "by"] (spLessen K) := by
  obtain ⟨f, fd, F, g, b⟩ := D.ex
  obtain ⟨f1, d1, G1, g1, k1, b1⟩ := C.ex
  obtain ⟨f2, d2, G2, g2, k2, b2⟩ := C2.ex
  refine ⟨f, fd, F.ok s_lessened_by (fun vs H Q E h => ?_) (fun cdv A outer s H vs Q E hr h => ?_), g, F.kp, b⟩
  · obtain ⟨_, _, _, _, _, _, rfl, _⟩ := h
    rfl
  · obtain ⟨a, b, c, xs, hs, q, rfl, ⟨vs, ha, hv⟩, ⟨ws, hb, hw⟩, hc, hlen, hz, hx, hh, hq, k⟩ := h
    refine ⟨_, pss_one (ps_ret (pe_lc (own := [("one", 3), ("other", 4)]) (g := gTup K 2 (gCons (gName 3) (gCons (gName 4) gNil))) (tt := tYes)
      (te := tCall (sp2 K Bd (· - ·)) [] E0 (tCons (tVar 3) (tCons (tCall (sp2 K Bd (· * ·)) [] E0 (tCons (tVar 4) (tCons (tVar 2) tNil))) tNil))) rfl s_lessened_by.nd
      (pi_zip (by rfl) B.zip (pa_cons (pv 0) (pa_cons (pv 1) pa_nil))) (blkOk_by (N := n_lessened_by) (sc := defScope t_lessened_by) (by decide +kernel))
      (fun _ _ _ _ _ => pg_tup rfl (pgs_cons (pg_name (i := 3) s_lessened_by.nd rfl (.inl rfl)) (pgs_cons (pg_name (i := 4) s_lessened_by.nd rfl (.inl rfl)) pgs_nil))) (fun _ _ _ _ _ => pts_nil)
      (fun _ _ _ _ _ => pe_call G1 hr (by rfl) g1 k1 b1 .nil pass0 (pa_cons (pv 3) (pa_cons (pe_call G2 (hr.mono (by decide)) (by rfl) g2 k2 b2 .nil pass0 (pa_cons (pv 4) (pa_cons (pv 2) pa_nil))) pa_nil))))), ?_⟩
    have hmin : min vs.length ws.length = xs.length := by rw [hv.1, hw.1]; omega
    refine ⟨_, rfl, _, rfl, a, b, vs, ws, rfl, ha, hb, lc_all (walk_zip rfl) (by rw [hmin]; omega) (lessL xs hs q) (by rw [lessL_len, hmin]; omega)
        (fun D H v (x : Rat) => Fr K H v x) (fun D H H' v x ⟨l, hl⟩ hb' h => h.monoT (hb'.t hl)) (fun H' s' => ⟨s'.seq ha, s'.seq hb⟩) (fun D i v H2 H3 x hD hxi s2 hl hyy Kp kp => ?_) (fun D ys H2 hD s2 hl r => ?_)⟩
    · obtain ⟨T, x1, x2, rfl, hT, rfl, e1, e2⟩ := hyy
      obtain ⟨u, hu, c1, rfl, hc1⟩ := hv.getV (show vs[i]? = some x1 from e1)
      obtain ⟨o, ho, c2, rfl, hc2⟩ := hw.getV (show ws[i]? = some x2 from e2)
      have hxe : x = u - o * q := by
        unfold lessL at hxi
        rw [List.getElem?_zipWith, hu, ho] at hxi
        exact (Option.some.inj hxi).symm
      subst hxe
      have sT := same_upd (o := .tup [.ref c1, .ref c2]) hT
      have s3 := s2.trans sT
      have lu := hx u (List.mem_of_getElem? hu)
      have lo := hh o (List.mem_of_getElem? ho)
      refine ⟨T, _, rfl, .of upd_same, rfl, _, _, rfl, _, _, rfl, rfl, rfl, _, rfl, _, rfl, _, rfl, c2, c, o, q, rfl, hc2.mono s3, hc.mono s3, lo.sz, hq.sz, lo.bd hq, fun d H4 s4 hd => ?_⟩
      exact ⟨c1, d, u, o * q, rfl, hc1.mono (s3.trans s4), hd, lu.sz, lo.szmul hq, lo.bdmul hq lu, fun e H5 s5 he => kp _ _ ((sT.trans s4).trans s5) ⟨e, rfl, he⟩⟩
    · exact k D H2 ys s2 hD hl r

/-! ### the class -/
structure Tx (K : PySem.W.Frag) (C : Addr) : Prop where
  cl : Cls K C
  n1 : NoAttr K C "things"
  n2 : NoAttr K C "rows"
  n3 : NoAttr K C "heads"
  n4 : NoAttr K C "goal"
structure DfM (K : PySem.W.Frag) (C : Addr) (x qual : Str) (st : Stmt) (ps : List Str) : Prop where
  ex : ∃ f fd, Fun K x qual st f fd ∧ Meth K C x f ∧ Binds K fd ps []
structure CalM (P : Program) (w : World) (K : PySem.W.Frag) (mg : Str → Option Value) (base : Heap) (C : Addr) (k : Nat) (x : Str) (ps : List Str) (sp : Sp) : Prop where
  ex : ∃ f fd, FnOk P w K mg base CX0 k f fd ps sp ∧ Meth K C x f ∧ Binds K fd ps []
/-! ### coming -/
def spComing (K : PySem.W.Frag) (C : Addr) : Sp := fun vs H Q _ => ∃ (p ha : Addr) (m : Nat) (L : LT), vs = [.ref p] ∧ TabAt K C H p ha m L ∧ 1 ≤ L.goal.length ∧ L.goal.length ≤ 1000 ∧ (∀ x ∈ L.goal, Lim x) ∧
  (∀ (c : Nat) H', Same H H' → c < L.goal.length - 1 → 0 < L.goal.getD c 0 → (∀ j, j < c → L.goal.getD j 0 ≤ 0) → Q (.int (c : Int)) H') ∧ (∀ H', Same H H' → (∀ j, j < L.goal.length - 1 → L.goal.getD j 0 ≤ 0) → Q .non H')
theorem c_coming {C : Addr} (D : DfM K C "coming" "Table.coming" t_Tcoming ["self"]) (B : Bi mg) (U : Nums K mg) (T : Tx K C) (C1 : Cal P w K mg base 1 "less" ["one", "other"] (spLess K)) : CalM P w K mg base C 2 "coming" ["self"] (spComing K C) := by
  obtain ⟨f, fd, F, g, b⟩ := D.ex
  obtain ⟨f1, d1, G1, g1, k1, b1⟩ := C1.ex
  obtain ⟨z, gz, fz⟩ := U.z
  refine ⟨f, fd, F.ok s_Tcoming (fun vs H Q E h => ?_) (fun cdv A outer s H vs Q E hr h => ?_), g, b⟩
  · obtain ⟨_, _, _, _, rfl, _⟩ := h
    rfl
  · obtain ⟨p, ha, m, L, rfl, ht, hl1, hl2, hlim, k, kn⟩ := h
    obtain ⟨dx, ra, ga, rvs, gvs, h1, h2, h3, h4, h5⟩ := ht.ob
    refine ⟨_, pss_cons (ps_for PassesOwn.never rfl (pi_range1 (by rfl) B.range (pa_cons (pe_op op_sub (pe_callB call_len_seq (by rfl) B.len PySem.boot_len (pa_cons (pe_fld (pv 0) rfl) pa_nil)) pe_int) pa_nil)) (pg_name (i := 1) s_Tcoming.nd rfl (.inl rfl))
        (pss_one (ps_if (pt_val (pe_call G1 hr (by rfl) g1 k1 b1 .nil pass0 (pa_cons (pe_glob (v := .ref z) rfl gz rfl) (pa_cons (pe_ix ix_list (pe_fld (pv 0) rfl) (pv 1) (fun _ _ => rfl)) pa_nil)))) (pss_one (ps_ret (pv 1))) pss_nil)))
      (pss_one (ps_ret pe_non)), ?_⟩
    refine ⟨_, rfl, p, C, dx, _, _, rfl, h1, T.cl, T.n4, tf_goal _ _ _ _, ga, gvs, rfl, .inl (.of h4), _, 1, rfl, rfl, _, rfl, ?_, ?_, ?_⟩
    · rw [h5.1]; omega
    · rw [h5.1]; omega
    have en : ((gvs.length : Int) - 1).toNat = L.goal.length - 1 := by rw [h5.1]; omega
    show ∃ _, _
    rw [en]
    refine for_it walk_range0 (fun i σ H' => ∃ y, σ = [some (.ref p), y] ∧ H' = H ∧ ∀ j, j < i → L.goal.getD j 0 ≤ 0) ⟨none, rfl, rfl, fun j hj => absurd hj (Nat.not_lt_zero j)⟩ (fun i σ H' _ h => trivial) (fun i x σ H' H'' hi h hy => ?_) (fun σ H' h => ?_)
    · obtain ⟨y, rfl, rfl, hj⟩ := h
      obtain ⟨rfl, rfl⟩ := hy
      have hi2 : i < L.goal.length := by omega
      obtain ⟨v, hv, c, rfl, hc⟩ := h5.get (List.getElem?_eq_getElem hi2)
      refine ⟨_, rfl, p, C, dx, _, _, rfl, h1, T.cl, T.n4, tf_goal _ _ _ _, _, rfl, ga, _, _, _, rfl, rfl, .of h4, atI_nat hv, z, c, 0, L.goal[i], rfl, fz _, hc, sz_zero, (hlim _ (List.getElem_mem _)).sz, _, rfl, ite2 (fun e => ?_) (fun e => ?_)⟩
      · refine ⟨_, rfl, k i _ (Same.refl _) hi ?_ hj⟩
        rw [getD_lt hi2]
        exact of_decide_eq_true e
      · refine ⟨_, rfl, rfl, fun j hj2 => ?_⟩
        by_cases ej : j = i
        · subst ej
          rw [getD_lt hi2]
          exact Rat.not_lt.1 fun z => e (decide_eq_true z)
        · exact hj j (by omega)
    · obtain ⟨y, rfl, rfl, hj⟩ := h
      exact kn _ (Same.refl _) hj
end
end K34
set_option Elab.async false
set_option linter.all false
set_option maxRecDepth 100000
set_option exponentiation.threshold 200000
/-! the walk: balance, going -/
namespace K34
open PySem PySem.Spec PyProof.Rows L2
theorem atI_m1 {xs : List V} {v : V} (h : xs[xs.length - 1]? = some v) : atI xs (-1) = some v := by
  have hne : xs ≠ [] := fun e => by rw [e] at h; cases h
  have e := List.dropLast_concat_getLast hne
  rw [← e, atI_last]
  rw [List.getElem?_eq_getElem (by have := List.length_pos_iff.2 hne; omega)] at h
  rw [← Option.some.inj h, List.getLast_eq_getElem]
theorem Lim.szdiv {x y : Rat} (hx : Lim x) (hy : Lim y) : Sz (x / y) := by
  have e1 : (y⁻¹).den ≤ 2 ^ 1100 := by
    rw [Rat.den_inv]
    split
    · exact Nat.one_le_two_pow
    · exact Nat.le_of_lt hy.1
  have e2 : (y⁻¹).num.natAbs ≤ 2 ^ 1100 := by
    rw [Rat.num_inv, Int.natAbs_mul, Int.natAbs_natCast]
    have h1 : y.num.sign.natAbs ≤ 1 := by
      rcases Int.lt_trichotomy y.num 0 with h | h | h
      · rw [Int.sign_eq_neg_one_of_neg h]; decide
      · rw [h]; decide
      · rw [Int.sign_eq_one_of_pos h]; decide
    have h2 := hy.2
    have h3 := Nat.mul_le_mul_right y.den h1
    omega
  rw [Rat.div_def]
  have hb : (2 : Nat) ^ 1100 < 2 ^ 1101 := Nat.pow_lt_pow_right (by decide) (by decide)
  exact ⟨Nat.lt_of_le_of_lt (num_mul_le _ _) (mul_lt_pow (n := 1101) hx.1 (Nat.lt_of_le_of_lt e2 hb) (by decide)), Nat.lt_of_le_of_lt (den_mul_le _ _) (mul_lt_pow (n := 1101) hx.2 (Nat.lt_of_le_of_lt e1 hb) (by decide))⟩
section
variable {P : Program} {w : World} {K : PySem.W.Frag} {mg : Str → Option Value} {base : Heap}
/-- an entry, a ratio -/
def ent (L : LT) (l c : Nat) : Rat := (L.rows.getD l []).getD c 0
def rat (L : LT) (W l c : Nat) : Rat := ent L l (W - 1) / ent L l c
def Least (L : LT) (W c r i : Nat) : Prop := ∀ l, l < i → 0 < ent L l c → rat L W r c < rat L W l c ∨ (rat L W r c = rat L W l c ∧ L.heads.getD r 0 ≤ L.heads.getD l 0)
def spGoing (K : PySem.W.Frag) (C : Addr) : Sp := fun vs H Q _ => ∃ (p ha : Addr) (m n W c : Nat) (L : LT), vs = [.ref p, .int (c : Int)] ∧ TabAt K C H p ha m L ∧ Wf n W L ∧ n ≤ 1000 ∧ W ≤ 1000 ∧ c < W ∧ (∀ q ∈ L.rows, ∀ x ∈ q, Lim x) ∧ (∃ r, r < n ∧ 0 < ent L r c) ∧
  ∀ (r : Nat) H', Same H H' → r < n → 0 < ent L r c → Least L W c r n → Q (.int (r : Int)) H'
theorem c_going {C : Addr} (D : DfM K C "going" "Table.going" t_Tgoing ["self", "column"]) (B : Bi mg) (U : Nums K mg) (T : Tx K C) (C1 : Cal P w K mg base 1 "less" ["one", "other"] (spLess K)) (C2 : Cal P w K mg base 3 "over" ["one", "other"] (sp2 K Od (· / ·))) :
    CalM P w K mg base C 4 "going" ["self", "column"] (spGoing K C) := by
  obtain ⟨f, fd, F, g, b⟩ := D.ex
  obtain ⟨f1, d1, G1, g1, k1, b1⟩ := C1.ex
  obtain ⟨f2, d2, G2, g2, k2, b2⟩ := C2.ex
  obtain ⟨z, gz, fz⟩ := U.z
  refine ⟨f, fd, F.ok s_Tgoing (fun vs H Q E h => ?_) (fun cdv A outer s H vs Q E hr h => ?_), g, b⟩
  · obtain ⟨_, _, _, _, _, _, _, rfl, _⟩ := h
    rfl
  · obtain ⟨p, ha, m, n, W, c, L, rfl, ht, wf, hn, hW, hc, hlim, hex, k⟩ := h
    obtain ⟨dx, ra, ga, rvs, gvs, h1, h2, h3, h4, h5⟩ := ht.ob
    have hhd := ht.hd
    refine ⟨_, pss_cons (ps_set (i := 2) s_Tgoing.nd rfl (.inl rfl) pe_non)
      (pss_cons (ps_for PassesOwn.never rfl (pi_enum (by rfl) B.enum (pa_cons (pe_fld (pv 0) rfl) pa_nil)) (pg_tup rfl (pgs_cons (pg_name (i := 3) s_Tgoing.nd rfl (.inl rfl)) (pgs_cons (pg_name (i := 4) s_Tgoing.nd rfl (.inl rfl)) pgs_nil)))
        (pss_one (ps_if (pt_val (pe_call G1 (hr.mono (by decide)) (by rfl) g1 k1 b1 .nil pass0 (pa_cons (pe_glob (v := .ref z) rfl gz rfl) (pa_cons (pe_ix ix_list (pv 4) (pv 1) (fun _ _ => rfl)) pa_nil))))
          (pss_cons (ps_set (i := 5) s_Tgoing.nd rfl (.inl rfl) (pe_call G2 hr (by rfl) g2 k2 b2 .nil pass0 (pa_cons (pe_ix ix_list (pv 4) (pe_un un_neg pe_int) (fun _ _ => rfl)) (pa_cons (pe_ix ix_list (pv 4) (pv 1) (fun _ _ => rfl)) pa_nil))))
          (pss_one (ps_if (PW.pt (pw_or (pt_cmpR op_isN (pv 2) pe_non (nomark _)) (pw_or (pt_val (pe_call G1 (hr.mono (by decide)) (by rfl) g1 k1 b1 .nil pass0 (pa_cons (pv 5) (pa_cons (pvt 2) pa_nil))))
              (pw_or1 (PW.pt (pw_and (pt_cmpR (op_eqD hr.units) (pv 5) (pvt 2) (nomark _)) (pw_and1 (pt_cmpR op_lt (pe_ix ix_list (pe_fld (pv 0) rfl) (pv 3) (fun _ _ => rfl)) (pe_ix ix_list (pe_fld (pv 0) rfl) (pvt 2) (fun _ _ => rfl)) (nomark _)))))))))
            (pss_one (ps_set (i := 2) s_Tgoing.nd rfl (.inl rfl) (pe_tup (pa_cons (pv 5) (pa_cons (pv 3) pa_nil))))) pss_nil))) pss_nil)))
      (pss_one (ps_ret (pvt 2)))), ?_⟩
    refine ⟨_, rfl, p, C, dx, _, _, rfl, h1, T.cl, T.n2, tf_rows _ _ _ _, ra, rvs, rfl, .of h2, for_it (walk_enum (xs := rvs)) (fun i σ H' => ∃ bv y3 y4 y5, σ = [some (.ref p), some (.int (c : Int)), some bv, y3, y4, y5] ∧ Same H H' ∧
        ((bv = .non ∧ ∀ l, l < i → ent L l c ≤ 0) ∨ (∃ bt kt r, bv = .ref bt ∧ SqT K H' bt [.ref kt, .int ((r : Nat) : Int)] ∧ FrA K H' kt (rat L W r c) ∧ r < i ∧ 0 < ent L r c ∧ Least L W c r i)))
      ⟨.non, none, none, none, rfl, Same.refl _, .inl ⟨rfl, fun l hl => absurd hl (Nat.not_lt_zero l)⟩⟩ (fun i σ H' _ h => ?_) (fun i x σ H' H'' hi h hy => ?_) (fun σ H' h => ?_)⟩
    · obtain ⟨_, _, _, _, _, s, _⟩ := h
      exact s.seq (.of h2)
    · obtain ⟨bv, y3, y4, y5, rfl, s, hb⟩ := h
      obtain ⟨T0, x1, x2, rfl, hT, rfl, e1, e2⟩ := hy
      have e1' : V.int (i : Int) = x1 := Option.some.inj e1
      subst e1'
      obtain ⟨row, hrow, a, vs, rfl, hvs, hvr⟩ := h3.getV (show rvs[i]? = some x2 from e2)
      have hin : i < n := by rw [← wf.rl, ← h3.1]; exact hi
      have hrl : row.length = W := wf.rw row (List.mem_of_getElem? hrow)
      have hrg : L.rows.getD i [] = row := getD_of hrow
      have hce : row[c]? = some (ent L i c) := by
        rw [List.getElem?_eq_getElem (by omega)]
        unfold ent
        rw [hrg, getD_lt (by omega)]
      have hle : row[row.length - 1]? = some (ent L i (W - 1)) := by
        rw [List.getElem?_eq_getElem (by omega)]
        unfold ent
        rw [hrg, getD_lt (by omega)]
        simp only [hrl]
      obtain ⟨vc, hvc, cc, rfl, hcc⟩ := hvr.get hce
      obtain ⟨vl, hvl, cl, rfl, hcl⟩ := hvr.get hle
      rw [← hvr.1] at hvl
      have lc := hlim row (List.mem_of_getElem? hrow) _ (List.mem_of_getElem? hce)
      have ll := hlim row (List.mem_of_getElem? hrow) _ (List.mem_of_getElem? hle)
      have sT := same_upd (o := .tup [.int (i : Int), .ref a]) hT
      have s1 := s.trans sT
      have hvs1 := s1 _ _ hvs
      refine ⟨T0, _, rfl, .of upd_same, rfl, _, _, rfl, _, _, rfl, rfl, ?_⟩
      refine ⟨_, rfl, _, rfl, a, vs, _, _, rfl, rfl, .of hvs1, atI_nat hvc, z, cc, 0, _, rfl, fz _, hcc.mono s1, sz_zero, lc.sz, _, rfl, ite2 (fun ep => ?_) (fun ep => ?_)⟩
      · have hpos : 0 < ent L i c := of_decide_eq_true ep
        refine ⟨_, rfl, 1, rfl, a, vs, _, _, rfl, rfl, .of hvs1, atI_m1 hvl, _, rfl, _, rfl, a, vs, _, _, rfl, rfl, .of hvs1, atI_nat hvc, cl, cc, _, _, rfl, hcl.mono s1, hcc.mono s1, ll.sz, lc.sz, ll.od lc hpos, fun kc H2 s2 hk => ?_⟩
        have s12 := s1.trans s2
        have hk' : FrA K H2 kc (rat L W i c) := hk
        -- what the body stores
        have store : ∀ H3, Same H2 H3 → Least L W c i i → ∀ t, H3 t = none → ∃ bv y3 y4 y5, ([some (.ref p), some (.int (c : Int)), some (.ref t), some (.int (i : Int)), some (.ref a), some (.ref kc)] : L2.St) = [some (.ref p), some (.int (c : Int)), some bv, y3, y4, y5] ∧ Same H (upd H3 t (.tup [.ref kc, .int (i : Int)])) ∧
            ((bv = .non ∧ ∀ l, l < i + 1 → ent L l c ≤ 0) ∨ (∃ bt kt r, bv = .ref bt ∧ SqT K (upd H3 t (.tup [.ref kc, .int (i : Int)])) bt [.ref kt, .int ((r : Nat) : Int)] ∧ FrA K (upd H3 t (.tup [.ref kc, .int (i : Int)])) kt (rat L W r c) ∧ r < i + 1 ∧ 0 < ent L r c ∧ Least L W c r (i + 1))) := fun H3 s3 hle3 t ht => by
          have s4 := s3.trans (same_upd (o := .tup [.ref kc, .int (i : Int)]) ht)
          refine ⟨_, _, _, _, rfl, s12.trans s4, .inr ⟨t, kc, i, rfl, .of upd_same, hk'.mono s4, by omega, hpos, fun l hl hlp => ?_⟩⟩
          by_cases e : l = i
          · subst e; exact .inr ⟨rfl, Nat.le_refl _⟩
          · exact hle3 l (by omega) hlp
        rcases hb with ⟨rfl, hno⟩ | ⟨bt, kt, r, rfl, hbt, hkt, hri, hrp, hrl'⟩
        · refine ⟨_, rfl, rfl, true, rfl, iteT ?_⟩
          refine iteT ⟨_, rfl, _, rfl, two_line, fun t ht' => store H2 (Same.refl _) (fun l hl hlp => absurd hlp (Rat.not_lt.2 (hno l hl))) t ht'⟩
        · have hbt2 := s2.sqt (sT.sqt hbt)
          have hkt2 : FrA K H2 kt (rat L W r c) := (hkt.mono sT).mono s2
          have hrn : r < n := by omega
          have szi : Sz (rat L W i c) := ll.szdiv lc
          have szr : Sz (rat L W r c) := by
            have hr1 : r < L.rows.length := by rw [wf.rl]; exact hrn
            have hrm := List.getElem_mem hr1
            have hrW := wf.rw _ hrm
            have e3 : L.rows.getD r [] = L.rows[r] := getD_lt hr1
            have q1 : ent L r (W - 1) ∈ L.rows[r] := by unfold ent; rw [e3, getD_lt (by omega)]; exact List.getElem_mem _
            have q2 : ent L r c ∈ L.rows[r] := by unfold ent; rw [e3, getD_lt (by omega)]; exact List.getElem_mem _
            exact (hlim _ hrm _ q1).szdiv (hlim _ hrm _ q2)
          have keep : ¬ rat L W i c < rat L W r c → ¬ (rat L W i c = rat L W r c ∧ L.heads.getD i 0 < L.heads.getD r 0) → Least L W c r (i + 1) := fun n1 n2 l hl hlp => by
            by_cases e : l = i
            · subst e
              by_cases e2 : rat L W l c = rat L W r c
              · exact .inr ⟨e2.symm, Nat.le_of_not_lt fun z => n2 ⟨e2, z⟩⟩
              · exact .inl (Rat.lt_of_le_of_ne (Rat.not_lt.1 n1) fun z => e2 z.symm)
            · exact hrl' l (by omega) hlp
          have stay : ¬ rat L W i c < rat L W r c → ¬ (rat L W i c = rat L W r c ∧ L.heads.getD i 0 < L.heads.getD r 0) → ∃ bv y3 y4 y5, ([some (.ref p), some (.int (c : Int)), some (.ref bt), some (.int (i : Int)), some (.ref a), some (.ref kc)] : L2.St) = [some (.ref p), some (.int (c : Int)), some bv, y3, y4, y5] ∧ Same H H2 ∧
              ((bv = .non ∧ ∀ l, l < i + 1 → ent L l c ≤ 0) ∨ (∃ bt kt r, bv = .ref bt ∧ SqT K H2 bt [.ref kt, .int ((r : Nat) : Int)] ∧ FrA K H2 kt (rat L W r c) ∧ r < i + 1 ∧ 0 < ent L r c ∧ Least L W c r (i + 1))) := fun n1 n2 =>
            ⟨_, _, _, _, rfl, s12, .inr ⟨bt, kt, r, rfl, hbt2, hkt2, by omega, hrp, keep n1 n2⟩⟩
          refine ⟨_, rfl, rfl, false, rfl, iteF ?_⟩
          refine ⟨_, rfl, _, rfl, bt, _, 0, _, rfl, rfl, hbt2, at0, kc, kt, _, _, rfl, hk', hkt2, szi, szr, _, rfl, ite2 (fun el => ?_) (fun el => ?_)⟩
          · have hlt : rat L W i c < rat L W r c := of_decide_eq_true el
            refine iteT ⟨_, rfl, _, rfl, two_line, fun t ht' => store H2 (Same.refl _) (fun l hl hlp => ?_) t ht'⟩
            rcases hrl' l hl hlp with h | h
            · exact .inl (by grind)
            · exact .inl (by rw [← h.1]; exact hlt)
          · have hnl : ¬ rat L W i c < rat L W r c := fun z => el (decide_eq_true z)
            refine ⟨_, rfl, _, rfl, bt, _, 0, _, rfl, rfl, hbt2, at0, frEq hk' hkt2 ⟨_, rfl, ite2 (fun ee => ?_) (fun ee => ?_)⟩⟩
            · have heq : rat L W i c = rat L W r c := of_decide_eq_true ee
              have hi1 : i < L.heads.length := by rw [wf.hl]; exact hin
              have hr1 : r < L.heads.length := by rw [wf.hl]; exact hrn
              have g1 : (iv L.heads)[i]? = some (.int ((L.heads.getD i 0 : Nat) : Int)) := by rw [List.getElem?_map, List.getElem?_eq_getElem hi1, getD_lt hi1]; rfl
              have g2 : (iv L.heads)[r]? = some (.int ((L.heads.getD r 0 : Nat) : Int)) := by rw [List.getElem?_map, List.getElem?_eq_getElem hr1, getD_lt hr1]; rfl
              refine ⟨_, rfl, p, C, dx, _, _, rfl, s12 _ _ h1, T.cl, T.n3, tf_heads _ _ _ _, _, rfl, ha, _, _, _, rfl, rfl, .of (s12 _ _ hhd), atI_nat g1,
                _, rfl, p, C, dx, _, _, rfl, s12 _ _ h1, T.cl, T.n3, tf_heads _ _ _ _, _, rfl, bt, _, 1, _, rfl, rfl, hbt2, at1, ha, _, _, _, rfl, rfl, .of (s12 _ _ hhd), atI_nat g2, _, _, rfl, rfl, _, rfl, ite2 (fun eh => ?_) (fun eh => ?_)⟩
              · have hh : L.heads.getD i 0 < L.heads.getD r 0 := by have := of_decide_eq_true eh; omega
                refine ⟨_, rfl, _, rfl, two_line, fun t ht' => store H2 (Same.refl _) (fun l hl hlp => ?_) t ht'⟩
                rcases hrl' l hl hlp with h | h
                · exact .inl (by rw [heq]; exact h)
                · exact .inr ⟨by rw [heq]; exact h.1, by omega⟩
              · exact stay hnl fun z => eh (decide_eq_true (by omega))
            · exact stay hnl fun z => ee (decide_eq_true z.1)
      · refine ⟨bv, _, _, _, rfl, s1, ?_⟩
        have hnp : ent L i c ≤ 0 := Rat.not_lt.1 fun z => ep (decide_eq_true z)
        rcases hb with ⟨rfl, hno⟩ | ⟨bt, kt, r, rfl, hbt, hkt, hri, hrp, hrl'⟩
        · refine .inl ⟨rfl, fun l hl => ?_⟩
          by_cases e : l = i
          · subst e; exact hnp
          · exact hno l (by omega)
        · refine .inr ⟨bt, kt, r, rfl, sT.sqt hbt, hkt.mono sT, by omega, hrp, fun l hl hlp => ?_⟩
          by_cases e : l = i
          · subst e; exact absurd hlp (Rat.not_lt.2 hnp)
          · exact hrl' l (by omega) hlp
    · obtain ⟨bv, y3, y4, y5, rfl, s, hb⟩ := h
      have hlen : rvs.length = n := by rw [h3.1, wf.rl]
      rw [hlen] at hb
      rcases hb with ⟨rfl, hno⟩ | ⟨bt, kt, r, rfl, hbt, hkt, hri, hrp, hrl'⟩
      · obtain ⟨r, hr1, hr2⟩ := hex
        exact absurd hr2 (Rat.not_lt.2 (hno r hr1))
      · exact ⟨_, rfl, bt, _, 1, _, rfl, rfl, hbt, at1, k r H' s hri hrp hrl'⟩
end
end K34
set_option Elab.async false
set_option linter.all false
set_option maxRecDepth 100000
set_option exponentiation.threshold 200000
/-! the walk: balance, turn -/
namespace K34
open PySem PySem.Spec PyProof.Rows L2
theorem sameT_lst {H : Hp} {a : Addr} {xs : List V} {o : HO} (h : H a = some (.lst xs)) : SameT H (upd H a o) :=
  ⟨fun b ys hb => by rw [upd_ne (ne_of hb h (by intro z; cases z))]; exact hb, fun b u v hb => by rw [upd_ne (ne_of hb h (by intro z; cases z))]; exact hb⟩
theorem sameT_ins {H : Hp} {a C dx : Addr} {fs : List (Str × V)} {o : HO} (h : H a = some (.ins C dx fs)) : SameT H (upd H a o) :=
  ⟨fun b ys hb => by rw [upd_ne (ne_of hb h (by intro z; cases z))]; exact hb, fun b u v hb => by rw [upd_ne (ne_of hb h (by intro z; cases z))]; exact hb⟩
theorem ixN_nat {n j : Nat} (h : j < n) : ixN n (j : Int) = some j := by
  unfold ixN
  rw [if_pos (by omega), if_pos (by omega), Int.toNat_natCast]
section
variable {P : Program} {w : World} {K : PySem.W.Frag} {mg : Str → Option Value} {base : Heap}
def headL (L : LT) (c r : Nat) : List Rat := (L.rows.getD r []).map (· / ent L r c)
def spTurn (K : PySem.W.Frag) (C : Addr) : Sp := fun vs H Q _ => ∃ (p ha : Addr) (m n W c r : Nat) (L : LT), vs = [.ref p, .int (c : Int), .int (r : Int)] ∧ TabAt K C H p ha m L ∧ Wf n W L ∧ n ≤ 1000 ∧ W ≤ 1000 ∧ c < W ∧ r < n ∧ (∀ q ∈ L.rows, ∀ x ∈ q, Lim x) ∧ (∀ x ∈ L.goal, Lim x) ∧ 0 < ent L r c ∧ (∀ x ∈ headL L c r, Lim x) ∧
  ∀ H', TabAt K C H' p ha m (turnL L c r) → (∀ b o, b ≠ p → b ≠ ha → H b = some o → H' b = some o) → Q .non H'
theorem c_turn {C : Addr} (D : DfM K C "turn" "Table.turn" t_Tturn ["self", "column", "place"]) (T : Tx K C) (C1 : Cal P w K mg base 3 "over" ["one", "other"] (sp2 K Od (· / ·))) (C2 : Cal P w K mg base 5 "lessened_by" ["row", "head", "by"] (spLessen K)) :
    CalM P w K mg base C 6 "turn" ["self", "column", "place"] (spTurn K C) := by
  obtain ⟨f, fd, F, g, b⟩ := D.ex
  obtain ⟨f1, d1, G1, g1, k1, b1⟩ := C1.ex
  obtain ⟨f2, d2, G2, g2, k2, b2⟩ := C2.ex
  refine ⟨f, fd, F.ok s_Tturn (fun vs H Q E h => ?_) (fun cdv A outer s H vs Q E hr h => ?_), g, b⟩
  · obtain ⟨_, _, _, _, _, _, _, _, rfl, _⟩ := h
    rfl
  · obtain ⟨p, ha, m, n, W, c, r, L, rfl, ht, wf, hn, hW, hc, hrn, hlim, hlg, hpos, hlh, k⟩ := h
    obtain ⟨dx, ra, ga, rvs, gvs, h1, h2, h3, h4, h5⟩ := ht.ob
    have hhd := ht.hd
    refine ⟨_, pss_cons (ps_set (i := 3) s_Tturn.nd rfl (.inr rfl) (pe_ix ix_list (pe_ix ix_list (pe_fld (pv 0) rfl) (pv 2) (fun _ _ => rfl)) (pv 1) (fun _ _ => rfl)))
      (pss_cons (ps_set (i := 4) s_Tturn.nd rfl (.inr rfl) (pe_lc (own := [("one", 5)]) (g := gName 5) (tt := tYes) (te := tCall (sp2 K Od (· / ·)) [] E0 (tCons (tVar 5) (tCons (tVar 3) tNil))) rfl s_Tturn.nd
          (pi_list (pe_ix ix_list (pe_fld (pv 0) rfl) (pv 2) (fun _ _ => rfl))) (blkOk_by (N := n_Tturn) (sc := defScope t_Tturn) (by decide +kernel)) (fun _ _ _ _ _ => pg_name (i := 5) s_Tturn.nd rfl (Or.inl rfl)) (fun _ _ _ _ _ => pts_nil)
          (fun _ _ _ _ _ => pe_call G1 (hr.mono (by decide)) (by rfl) g1 k1 b1 .nil pass0 (pa_cons (pv 5) (pa_cons (pv 3) pa_nil)))))
      (pss_cons (ps_fld (pv 0) (pe_lc (own := [("row", 6)]) (g := gName 6) (tt := tYes) (te := tCall (spLessen K) [] E0 (tCons (tVar 6) (tCons (tVar 4) (tCons (tOp (rIxL K) (tVar 6) (tVar 1)) tNil)))) rfl s_Tturn.nd
          (pi_list (pe_fld (pv 0) rfl)) (blkOk_by (N := n_Tturn) (sc := defScope t_Tturn) (by decide +kernel)) (fun _ _ _ _ _ => pg_name (i := 6) s_Tturn.nd rfl (Or.inl rfl)) (fun _ _ _ _ _ => pts_nil)
          (fun _ _ _ _ _ => pe_call G2 hr (by rfl) g2 k2 b2 .nil pass0 (pa_cons (pv 6) (pa_cons (pv 4) (pa_cons (pe_ix ix_list (pv 6) (pv 1) (fun _ _ => rfl)) pa_nil))))) rfl)
      (pss_cons (ps_asg (pv 4) (pg_sub (pe_fld (pv 0) rfl) (pv 2) set_list))
      (pss_cons (ps_fld (pv 0) (pe_call G2 hr (by rfl) g2 k2 b2 .nil pass0 (pa_cons (pe_fld (pv 0) rfl) (pa_cons (pv 4) (pa_cons (pe_ix ix_list (pe_fld (pv 0) rfl) (pv 1) (fun _ _ => rfl)) pa_nil)))) rfl)
      (pss_one (ps_asg (pv 1) (pg_sub (pe_fld (pv 0) rfl) (pv 2) set_list))))))), ?_⟩
    -- the row that is turned, its entry
    have hr1 : r < L.rows.length := by rw [wf.rl]; exact hrn
    have hrow := List.getElem?_eq_getElem hr1
    have hrg : L.rows.getD r [] = L.rows[r] := getD_lt hr1
    have hrW := wf.rw _ (List.getElem_mem hr1)
    obtain ⟨rv, hrv, ar, vr, rfl, hvr, hRr⟩ := h3.get hrow
    have hce : L.rows[r][c]? = some (ent L r c) := by
      rw [List.getElem?_eq_getElem (by omega)]
      unfold ent
      rw [hrg, getD_lt (by omega)]
    obtain ⟨vc, hvc, cb, rfl, hcb⟩ := hRr.get hce
    have lby := hlim _ (List.getElem_mem hr1) _ (List.mem_of_getElem? hce)
    refine ⟨_, rfl, p, C, dx, _, _, rfl, h1, T.cl, T.n2, tf_rows _ _ _ _, _, rfl, ra, _, _, _, rfl, rfl, .of h2, atI_nat hrv, _, rfl, ar, _, _, _, rfl, rfl, .of hvr, atI_nat hvc, ?_⟩
    refine ⟨_, rfl, p, C, dx, _, _, rfl, h1, T.cl, T.n2, tf_rows _ _ _ _, _, rfl, ra, _, _, _, rfl, rfl, .of h2, atI_nat hrv, ar, rfl, ⟨_, .of hvr⟩, lc_all (walk_list (xs := vr)) (by rw [hRr.1, hrW]; omega) (headL L c r) (by unfold headL; rw [List.length_map, hrg, hRr.1])
      (fun D H v x => Fr K H v x) (fun D H H' v x ⟨l, hl⟩ hb' h => h.monoT (hb'.t hl)) (fun H' s' => s'.seq (.of hvr)) (fun D1 i v H2 H3 x hD hx s2 hl hyy Kp kp => ?_) (fun D1 ys1 H1 hD1 s1 hl1 r1 => ?_)⟩
    · obtain ⟨rfl, hv⟩ := hyy
      obtain ⟨q, hq, cq, rfl, hcq⟩ := hRr.getV hv
      have hxe : x = q / ent L r c := by
        unfold headL at hx
        rw [List.getElem?_map, hrg, hq] at hx
        exact (Option.some.inj hx).symm
      subst hxe
      have lq := hlim _ (List.getElem_mem hr1) _ (List.mem_of_getElem? hq)
      exact ⟨rfl, _, rfl, _, rfl, cq, cb, q, _, rfl, hcq.mono s2, hcb.mono s2, lq.sz, lby.sz, lq.od lby hpos, fun e H5 s5 he => kp _ _ s5 ⟨e, rfl, he⟩⟩
    · -- the rows
      have hmap : ∃ nr : List (List Rat), nr = L.rows.map fun q => lessL q (headL L c r) (q.getD c 0) := ⟨_, rfl⟩
      obtain ⟨nr, hnr⟩ := hmap
      have hnl : nr.length = L.rows.length := by rw [hnr, List.length_map]
      have hhl : (headL L c r).length = W := by unfold headL; rw [List.length_map, hrg, hrW]
      refine ⟨_, rfl, p, C, dx, _, _, rfl, s1 _ _ h1, T.cl, T.n2, tf_rows _ _ _ _, ra, rfl, ⟨_, .of (s1 _ _ h2)⟩, lc_all (walk_list (xs := rvs)) (by rw [h3.1, wf.rl]; omega) nr (by rw [hnl, h3.1])
        (fun D H v (x : List Rat) => ∃ a ws, v = .ref a ∧ a ≠ D ∧ a ≠ ha ∧ a ≠ p ∧ H a = some (.lst ws) ∧ Rl (Fr K H) ws x)
        (fun D H H' v x ⟨l, hl⟩ hb' ⟨a, ws, e1, e2, e3, e4, e5, e6⟩ => ⟨a, ws, e1, e2, e3, e4, hb' a _ e2 e5, e6.imp fun _ _ h => h.monoT (hb'.t hl)⟩)
        (fun H' s' => s'.seq (.of (s1 _ _ h2))) (fun D3 i v H2 H3 x hD hx s2 hl hyy Kp kp => ?_) (fun D3 ys3 H3 hD3 s3 hl3 r3 => ?_)⟩
      · obtain ⟨rfl, hv⟩ := hyy
        obtain ⟨q, hq, aq, vq, rfl, hvq, hRq⟩ := h3.getV hv
        have hxe : x = lessL q (headL L c r) (q.getD c 0) := by
          rw [hnr, List.getElem?_map, hq] at hx
          exact (Option.some.inj hx).symm
        subst hxe
        have s12 := s1.trans s2
        have hqW := wf.rw q (List.mem_of_getElem? hq)
        have hqc : q[c]? = some (q.getD c 0) := by rw [List.getElem?_eq_getElem (by omega), getD_lt (by omega)]
        obtain ⟨vqc, hvqc, cq, rfl, hcq⟩ := hRq.get hqc
        have lq := hlim q (List.mem_of_getElem? hq)
        refine ⟨rfl, _, rfl, _, rfl, _, rfl, _, rfl, aq, _, _, _, rfl, rfl, .of (s12 _ _ hvq), atI_nat hvqc, aq, D1, cq, q, headL L c r, q.getD c 0, rfl, ⟨vq, .of (s12 _ _ hvq), hRq.imp fun _ _ h => h.mono s12⟩,
          ⟨ys1, .of (s2 _ _ hl1), r1.imp fun _ _ h => h.mono s2⟩, hcq.mono s12, by rw [hqW, hhl], by omega, lq, hlh, lq _ (List.mem_of_getElem? hqc), fun p' H5 ws s5 hp' hw hRw => kp _ _ s5 ⟨p', ws, rfl, ?_, ?_, ?_, hw, hRw⟩⟩
        · obtain ⟨l, hl'⟩ := hl
          exact (ne_of_none hl' hp').symm
        · exact (ne_of_none (s12 _ _ hhd) hp').symm
        · exact (ne_of_none (s12 _ _ h1) hp').symm
      · have s13 := s1.trans s3
        have hp3 := s13 _ _ h1
        have npD3 : p ≠ D3 := ne_of_none (s1 _ _ h1) hD3
        have nhD3 : ha ≠ D3 := ne_of_none (s1 _ _ hhd) hD3
        have nD13 : D1 ≠ D3 := ne_of_none hl1 hD3
        have npD1 : p ≠ D1 := ne_of_none h1 hD1
        have nhp : ha ≠ p := ne_of hhd h1 (by intro z; cases z)
        have nhD1 : ha ≠ D1 := ne_of_none hhd hD1
        refine ⟨_, rfl, p, C, dx, _, rfl, hp3, T.cl, T.n2, (by show 4 < 1000; decide), ?_⟩
        have e4 : upd H3 p (.ins C dx (putF "rows" (.ref D3) (tf m ra ha ga))) p = some (.ins C dx (tf m D3 ha ga)) := upd_same
        generalize hH4 : upd H3 p (.ins C dx (putF "rows" (.ref D3) (tf m ra ha ga))) = H4 at e4
        have o4 : ∀ b, b ≠ p → H4 b = H3 b := fun b hb => by rw [← hH4, upd_ne hb]
        have t4 : SameT H3 H4 := by rw [← hH4]; exact sameT_ins hp3
        have eD3 : H4 D3 = some (.lst ys3) := by rw [o4 _ npD3.symm]; exact hl3
        refine ⟨_, rfl, _, rfl, p, C, dx, _, _, rfl, e4, T.cl, T.n2, tf_rows _ _ _ _, _, rfl, D3, ys3, _, r, rfl, rfl, eD3, ixN_nat (by rw [r3.1, hnl]; exact hr1), ?_⟩
        have e5D : upd H4 D3 (.lst (ys3.set r (.ref D1))) D3 = some (.lst (ys3.set r (.ref D1))) := upd_same
        generalize hH5 : upd H4 D3 (.lst (ys3.set r (.ref D1))) = H5 at e5D
        have o5 : ∀ b, b ≠ D3 → H5 b = H4 b := fun b hb => by rw [← hH5, upd_ne hb]
        have t5 : SameT H4 H5 := by rw [← hH5]; exact sameT_lst eD3
        have e5p : H5 p = some (.ins C dx (tf m D3 ha ga)) := by rw [o5 _ npD3]; exact e4
        have old : ∀ b o, b ≠ p → H b = some o → H5 b = some o := fun b o hb h => by
          rw [o5 _ (ne_of_none (s1 _ _ h) hD3), o4 _ hb]
          exact s13 _ _ h
        have t35 : SameT H H5 := (s13.t.trans t4).trans t5
        have ngp : ga ≠ p := ne_of h4 h1 (by intro z; cases z)
        have h4' := old _ _ ngp h4
        have hgc : L.goal[c]? = some (L.goal.getD c 0) := by rw [List.getElem?_eq_getElem (by rw [wf.gl]; exact hc), getD_lt (by rw [wf.gl]; exact hc)]
        obtain ⟨vg, hvg, cg, rfl, hcg⟩ := h5.get hgc
        have hD1' : H5 D1 = some (.lst ys1) := by rw [o5 _ nD13, o4 _ npD1.symm]; exact s3 _ _ hl1
        refine ⟨_, rfl, p, C, dx, _, _, rfl, e5p, T.cl, T.n4, tf_goal _ _ _ _, _, rfl, _, rfl, p, C, dx, _, _, rfl, e5p, T.cl, T.n4, tf_goal _ _ _ _, _, rfl, ga, _, _, _, rfl, rfl, .of h4', atI_nat hvg,
          ga, D1, cg, L.goal, headL L c r, L.goal.getD c 0, rfl, ⟨gvs, .of h4', h5.imp fun _ _ h => h.monoT t35⟩, ⟨ys1, .of hD1', r1.imp fun _ _ h => ((h.mono s3).monoT t4).monoT t5⟩, hcg.monoT t35, by rw [wf.gl, hhl], by rw [wf.gl]; exact hW, hlg, hlh, hlg _ (List.mem_of_getElem? hgc),
          fun g2 H6 ws s6 hg2 hw hRw => ?_⟩
        have e6p := s6 _ _ e5p
        have npg : p ≠ g2 := ne_of_none e5p hg2
        refine ⟨_, rfl, p, C, dx, _, rfl, e6p, T.cl, T.n4, (by show 4 < 1000; decide), ?_⟩
        have e7 : upd H6 p (.ins C dx (putF "goal" (.ref g2) (tf m D3 ha ga))) p = some (.ins C dx (tf m D3 ha g2)) := upd_same
        generalize hH7 : upd H6 p (.ins C dx (putF "goal" (.ref g2) (tf m D3 ha ga))) = H7 at e7
        have o7 : ∀ b, b ≠ p → H7 b = H6 b := fun b hb => by rw [← hH7, upd_ne hb]
        have t7 : SameT H6 H7 := by rw [← hH7]; exact sameT_ins e6p
        have e7h : H7 ha = some (.lst (iv L.heads)) := by rw [o7 _ nhp]; exact s6 _ _ (old _ _ nhp hhd)
        refine ⟨_, rfl, _, rfl, p, C, dx, _, _, rfl, e7, T.cl, T.n3, tf_heads _ _ _ _, _, rfl, ha, iv L.heads, _, r, rfl, rfl, e7h, ixN_nat (by rw [iv_len, wf.hl]; exact hrn), ?_⟩
        have e8h : upd H7 ha (.lst ((iv L.heads).set r (.int (c : Int)))) ha = some (.lst ((iv L.heads).set r (.int (c : Int)))) := upd_same
        generalize hH8 : upd H7 ha (.lst ((iv L.heads).set r (.int (c : Int)))) = H8 at e8h
        have o8 : ∀ b, b ≠ ha → H8 b = H7 b := fun b hb => by rw [← hH8, upd_ne hb]
        have t8 : SameT H7 H8 := by rw [← hH8]; exact sameT_lst e7h
        have t68 : SameT H6 H8 := t7.trans t8
        have t38 : SameT H3 H8 := ((t4.trans t5).trans s6.t).trans t68
        refine k H8 ⟨⟨dx, D3, g2, ys3.set r (.ref D1), ws, ?_, ?_, ?_, ?_, ?_⟩, ?_⟩ (fun b o hbp hbh hb => ?_)
        · rw [o8 _ nhp.symm]; exact e7
        · rw [o8 _ nhD3.symm, o7 _ npD3.symm]; exact s6 _ _ e5D
        · show Rl (Rw K H8) (ys3.set r (.ref D1)) ((L.rows.map fun q => lessL q (headL L c r) (q.getD c 0)).set r (headL L c r))
          rw [← hnr]
          have hA : Rl (Rw K H8) ys3 nr := r3.imp fun v x hv => by
            obtain ⟨a, ws', e1, e2, e3, e3', e4', e6⟩ := hv
            refine ⟨a, ws', e1, ?_, e6.imp fun _ _ h => h.monoT t38⟩
            rw [o8 _ e3, o7 _ e3']
            refine s6 _ _ ?_
            rw [o5 _ e2, o4 _ e3']
            exact e4'
          have hB : Rw K H8 (.ref D1) (headL L c r) := by
            refine ⟨D1, ys1, rfl, ?_, r1.imp fun _ _ h => (h.mono s3).monoT t38⟩
            rw [o8 _ nhD1.symm, o7 _ npD1.symm]
            exact s6 _ _ hD1'
          exact hA.set hB r
        · rw [o8 _ (ne_of_none (old _ _ nhp hhd) hg2).symm, o7 _ npg.symm]; exact hw
        · exact hRw.imp fun _ _ h => h.monoT t68
        · rw [e8h]
          show _ = some (HO.lst (iv (L.heads.set r c)))
          unfold iv
          rw [List.map_set]
        · rw [o8 _ hbh, o7 _ hbp]
          exact s6 _ _ (old _ _ hbp hb)
end
end K34
set_option Elab.async false
set_option linter.all false
set_option maxRecDepth 100000
set_option exponentiation.threshold 200000
/-! the walk: balance, bearing and sharing -/
namespace K34
open PySem PySem.Spec PyProof.Rows L2
def bearS (m W : Nat) (f : List Rat) (hr : Nat × List Rat) : List Rat := if hr.1 < m then f.set hr.1 (hr.2.getD (W - 1) 0) else f
def bearL (m W : Nat) (L : LT) : List Rat := (L.heads.zip L.rows).foldl (bearS m W) (List.replicate m 0)
def shareL (m : Nat) (L : LT) : List Rat := ((L.goal.drop m).take (L.goal.length - 1 - m)).map fun x => 0 - x
theorem bearS_len (m W : Nat) (f : List Rat) (hr : Nat × List Rat) : (bearS m W f hr).length = f.length := by
  unfold bearS; split
  · rw [List.length_set]
  · rfl
theorem rep_flat {α : Type} (n : Nat) (x : α) : (List.replicate n [x]).flatten = List.replicate n x := by
  induction n with
  | zero => rfl
  | succ n ih => rw [List.replicate_succ, List.flatten_cons, ih]; rfl
theorem Rl.rep {α : Type} {R : V → α → Prop} {v : V} {x : α} (h : R v x) (n : Nat) : Rl R (List.replicate n v) (List.replicate n x) := by
  refine ⟨by simp, fun i v' x' h1 h2 => ?_⟩
  rw [List.getElem?_replicate] at h1 h2
  split at h1
  · rw [if_pos ‹_›] at h2
    cases h1; cases h2; exact h
  · cases h1
theorem Rl.map {α β : Type} {R : V → α → Prop} {vs : List V} {xs : List α} (r : Rl R vs xs) {S : V → β → Prop} {f : α → β} (h : ∀ v x, R v x → S v (f x)) : Rl S vs (xs.map f) := by
  refine ⟨by rw [r.1, List.length_map], fun i v x h1 h2 => ?_⟩
  rw [List.getElem?_map] at h2
  cases e : xs[i]? with
  | none => rw [e] at h2; cases h2
  | some y => rw [e] at h2; cases h2; exact h v y (r.2 i v y h1 e)
theorem Rl.take {α : Type} {R : V → α → Prop} {vs : List V} {xs : List α} (r : Rl R vs xs) (n : Nat) : Rl R (vs.take n) (xs.take n) := by
  refine ⟨by rw [List.length_take, List.length_take, r.1], fun i v x h1 h2 => ?_⟩
  rw [List.getElem?_take] at h1 h2
  split at h1
  · rw [if_pos ‹_›] at h2; exact r.2 i v x h1 h2
  · cases h1
theorem Rl.drop {α : Type} {R : V → α → Prop} {vs : List V} {xs : List α} (r : Rl R vs xs) (n : Nat) : Rl R (vs.drop n) (xs.drop n) := by
  refine ⟨by rw [List.length_drop, List.length_drop, r.1], fun i v x h1 h2 => ?_⟩
  rw [List.getElem?_drop] at h1 h2
  exact r.2 _ v x h1 h2
theorem cut_mid (xs : List V) (m : Nat) : cutV xs (some (m : Int)) (some (-1)) = (xs.drop m).take (xs.length - 1 - m) := by
  unfold cutV
  rw [HT.sIx_nat]
  show (xs.drop (min m xs.length)).take (((-1 : Int) + (xs.length : Int)).toNat - min m xs.length) = _
  by_cases h : m ≤ xs.length
  · rw [Nat.min_eq_left h, show ((-1 : Int) + (xs.length : Int)).toNat - m = xs.length - 1 - m by omega]
  · rw [List.drop_of_length_le (i := m) (by omega), Nat.min_eq_right (by omega), List.drop_of_length_le (Nat.le_refl _)]
    simp
section
variable {P : Program} {w : World} {K : PySem.W.Frag} {mg : Str → Option Value} {base : Heap}
def spTB (K : PySem.W.Frag) (C : Addr) : Sp := fun vs H Q _ => ∃ (p ha : Addr) (m n W : Nat) (L : LT), vs = [.ref p] ∧ TabAt K C H p ha m L ∧ Wf n W L ∧ n ≤ 1000 ∧ W ≤ 1000 ∧ 1 ≤ W ∧ m ≤ 1000 ∧ ∀ a H', Same H H' → FrT K H' a (bearL m W L) → Q (.ref a) H'
theorem c_bearing {C : Addr} (D : DfM K C "bearing" "Table.bearing" t_Tbearing ["self"]) (B : Bi mg) (U : Nums K mg) (T : Tx K C) : CalM P w K mg base C 1 "bearing" ["self"] (spTB K C) := by
  obtain ⟨f, fd, F, g, b⟩ := D.ex
  obtain ⟨z, gz, fz⟩ := U.z
  refine ⟨f, fd, F.ok s_Tbearing (fun vs H Q E h => ?_) (fun cdv A outer s H vs Q E hr h => ?_), g, b⟩
  · obtain ⟨_, _, _, _, _, _, rfl, _⟩ := h
    rfl
  · obtain ⟨p, ha, m, n, W, L, rfl, ht, wf, hn, hW, hW1, hm, k⟩ := h
    obtain ⟨dx, ra, ga, rvs, gvs, h1, h2, h3, h4, h5⟩ := ht.ob
    have hhd := ht.hd
    refine ⟨_, pss_cons (ps_set (i := 1) s_Tbearing.nd rfl (.inl rfl) (pe_op op_rep (pe_lst (pa_cons (pe_glob (v := .ref z) rfl gz rfl) pa_nil)) (pe_fld (pv 0) rfl)))
      (pss_cons (ps_for PassesOwn.never rfl (pi_zip (by rfl) B.zip (pa_cons (pe_fld (pv 0) rfl) (pa_cons (pe_fld (pv 0) rfl) pa_nil))) (pg_tup rfl (pgs_cons (pg_name (i := 2) s_Tbearing.nd rfl (.inl rfl)) (pgs_cons (pg_name (i := 3) s_Tbearing.nd rfl (.inl rfl)) pgs_nil)))
        (pss_one (ps_if (pt_cmpR op_lt (pv 2) (pe_fld (pv 0) rfl) (nomark _)) (pss_one (ps_asg (pe_ix ix_list (pv 3) (pe_un un_neg pe_int) (fun _ _ => rfl)) (pg_sub (pv 1) (pv 2) set_list))) pss_nil)))
      (pss_one (ps_ret (pe_callTy call_tuple_of (by rfl) B.tuple (by decide +kernel) (pa_cons (pv 1) pa_nil))))), ?_⟩
    refine ⟨by show 1 ≤ sizeLine; decide, fun l hl => ?_⟩
    have s0 := same_upd (o := .lst [.ref z]) hl
    refine ⟨_, rfl, p, C, dx, _, _, rfl, s0 _ _ h1, T.cl, T.n1, tf_things _ _ _ _, l, _, _, rfl, rfl, upd_same, by omega, by omega, by rw [Int.toNat_natCast]; show 1 * m ≤ _; exact ld_of (by omega), fun D hD => ?_⟩
    have s1 := s0.trans (same_upd (o := .lst (List.replicate ((m : Nat) : Int).toNat [V.ref z]).flatten) hD)
    have hD0 : H D = none := s0.free hD
    refine ⟨_, rfl, p, C, dx, _, _, rfl, s1 _ _ h1, T.cl, T.n3, tf_heads _ _ _ _, _, rfl, p, C, dx, _, _, rfl, s1 _ _ h1, T.cl, T.n2, tf_rows _ _ _ _, ha, ra, iv L.heads, rvs, rfl, .of (s1 _ _ hhd), .of (s1 _ _ h2), ?_⟩
    have hmin : min (iv L.heads).length rvs.length = n := by rw [iv_len, h3.1, wf.hl, wf.rl]; omega
    refine for_it (walk_zip hmin.symm) (fun i σ H' => ∃ y2 y3 fvs, σ = [some (.ref p), some (.ref D), y2, y3] ∧ Same H H' ∧ H' D = some (.lst fvs) ∧ Rl (Fr K H') fvs (((L.heads.zip L.rows).take i).foldl (bearS m W) (List.replicate m 0)) ∧ fvs.length = m)
      ⟨none, none, _, rfl, s1, upd_same, ?_, ?_⟩ (fun i σ H' _ h => ?_) (fun i x σ H' H'' hi h hy => ?_) (fun σ H' h => ?_)
    · rw [Int.toNat_natCast, rep_flat]
      exact Rl.rep ⟨z, rfl, fz _⟩ m
    · rw [Int.toNat_natCast, rep_flat, List.length_replicate]
    · obtain ⟨_, _, _, _, s, _⟩ := h
      exact ⟨.of (s _ _ hhd), .of (s _ _ h2)⟩
    · obtain ⟨y2, y3, fvs, rfl, s, hf, hfr, hfl⟩ := h
      obtain ⟨T0, x1, x2, rfl, hT, rfl, e1, e2⟩ := hy
      have hi1 : i < L.heads.length := by rw [wf.hl]; exact hi
      have hi2 : i < L.rows.length := by rw [wf.rl]; exact hi
      have e1' := iv_get (show (iv L.heads)[i]? = some x1 from e1) (List.getElem?_eq_getElem hi1)
      subst e1'
      obtain ⟨row, hrow, a, vs, rfl, hvs, hvr⟩ := h3.getV (show rvs[i]? = some x2 from e2)
      have hrW : row.length = W := wf.rw row (List.mem_of_getElem? hrow)
      have hle : row[row.length - 1]? = some (row.getD (W - 1) 0) := by
        rw [List.getElem?_eq_getElem (by omega), getD_lt (by omega)]
        simp only [hrW]
      obtain ⟨vl, hvl, cl, rfl, hcl⟩ := hvr.get hle
      rw [← hvr.1] at hvl
      have sT := same_upd (o := .tup [.int ((L.heads[i] : Nat) : Int), .ref a]) hT
      have s2 := s.trans sT
      have estep : ((L.heads.zip L.rows).take (i + 1)).foldl (bearS m W) (List.replicate m 0) = bearS m W (((L.heads.zip L.rows).take i).foldl (bearS m W) (List.replicate m 0)) (L.heads[i], row) := by
        rw [List.take_add_one]
        have : (L.heads.zip L.rows)[i]? = some (L.heads[i], row) := by rw [List.getElem?_zip_eq_some]; exact ⟨List.getElem?_eq_getElem hi1, hrow⟩
        rw [this]
        simp [List.foldl_append]
      refine ⟨T0, _, rfl, .of upd_same, rfl, _, _, rfl, _, _, rfl, rfl, ?_⟩
      refine ⟨_, rfl, _, rfl, p, C, dx, _, _, rfl, s2 _ _ h1, T.cl, T.n1, tf_things _ _ _ _, _, _, rfl, rfl, _, rfl, ite2 (fun el => ?_) (fun el => ?_)⟩
      · have hlt : L.heads[i] < m := by have := of_decide_eq_true el; omega
        refine ⟨_, rfl, 1, rfl, a, vs, _, _, rfl, rfl, .of (s2 _ _ hvs), atI_m1 hvl, _, rfl, _, rfl, D, fvs, _, L.heads[i], rfl, rfl, sT _ _ hf, ixN_nat (by omega), ?_⟩
        refine ⟨_, _, _, rfl, same_mut s2 hD0, upd_same, ?_, by rw [List.length_set]; exact hfl⟩
        rw [estep]
        unfold bearS
        rw [if_pos hlt]
        have t : SameT H' (upd (upd H' T0 (.tup [.int ((L.heads[i] : Nat) : Int), .ref a])) D (.lst (fvs.set L.heads[i] (.ref cl)))) := sT.t.trans (sameT_lst (sT _ _ hf))
        exact (hfr.imp fun _ _ h => h.monoT t).set ((hcl.mono s).monoT t |> fun h => (⟨cl, rfl, h⟩ : Fr K _ _ _)) _
      · refine ⟨_, _, fvs, rfl, s2, sT _ _ hf, ?_, hfl⟩
        rw [estep]
        unfold bearS
        rw [if_neg (fun z => el (decide_eq_true (by omega)))]
        exact hfr.imp fun _ _ h => h.mono sT
    · obtain ⟨y2, y3, fvs, rfl, s, hf, hfr, hfl⟩ := h
      refine ⟨_, rfl, D, fvs, rfl, .inl ⟨.of hf, fun q hq => ?_⟩⟩
      have sq := same_upd (o := .tup fvs) hq
      refine k q _ (s.trans sq) ⟨fvs, .of upd_same, ?_⟩
      have e : (L.heads.zip L.rows).take n = L.heads.zip L.rows := List.take_of_length_le (by rw [List.length_zip, wf.hl, wf.rl]; omega)
      rw [e] at hfr
      exact hfr.imp fun _ _ h => h.mono sq
def spTS (K : PySem.W.Frag) (C : Addr) : Sp := fun vs H Q _ => ∃ (p ha : Addr) (m : Nat) (L : LT), vs = [.ref p] ∧ TabAt K C H p ha m L ∧ L.goal.length ≤ 1000 ∧ (∀ x ∈ L.goal, Lim x) ∧ ∀ a H', Same H H' → FrT K H' a (shareL m L) → Q (.ref a) H'
theorem lim_zero : Lim 0 := ⟨by decide, by decide⟩
theorem c_sharing {C : Addr} (D : DfM K C "sharing" "Table.sharing" t_Tsharing ["self"]) (B : Bi mg) (U : Nums K mg) (T : Tx K C) (C1 : Cal P w K mg base 4 "minus" ["one", "other"] (sp2 K Bd (· - ·))) : CalM P w K mg base C 5 "sharing" ["self"] (spTS K C) := by
  obtain ⟨f, fd, F, g, b⟩ := D.ex
  obtain ⟨f1, d1, G1, g1, k1, b1⟩ := C1.ex
  obtain ⟨z, gz, fz⟩ := U.z
  refine ⟨f, fd, F.ok s_Tsharing (fun vs H Q E h => ?_) (fun cdv A outer s H vs Q E hr h => ?_), g, b⟩
  · obtain ⟨_, _, _, _, rfl, _⟩ := h
    rfl
  · obtain ⟨p, ha, m, L, rfl, ht, hlen, hlim, k⟩ := h
    obtain ⟨dx, ra, ga, rvs, gvs, h1, h2, h3, h4, h5⟩ := ht.ob
    refine ⟨_, pss_one (ps_ret (pe_callTy call_tuple_of (by rfl) B.tuple (by decide +kernel) (pa_cons (pe_lc (own := [("one", 1)]) (g := gName 1) (tt := tYes) (te := tCall (sp2 K Bd (· - ·)) [] E0 (tCons (tC (.ref z)) (tCons (tVar 1) tNil))) rfl s_Tsharing.nd
      (pi_list (pe_slice sl_list (pe_fld (pv 0) rfl) (po_some (pe_fld (pv 0) rfl)) (po_some (pe_un un_neg pe_int)))) (blkOk_by (N := n_Tsharing) (sc := defScope t_Tsharing) (by decide +kernel)) (fun _ _ _ _ _ => pg_name (i := 1) s_Tsharing.nd rfl (Or.inl rfl)) (fun _ _ _ _ _ => pts_nil)
      (fun _ _ _ _ _ => pe_call G1 hr (by rfl) g1 k1 b1 .nil pass0 (pa_cons (pe_glob (v := .ref z) rfl gz rfl) (pa_cons (pv 1) pa_nil)))) pa_nil))), ?_⟩
    refine ⟨_, rfl, p, C, dx, _, _, rfl, h1, T.cl, T.n4, tf_goal _ _ _ _, ?_⟩
    refine ⟨_, rfl, p, C, dx, _, _, rfl, h1, T.cl, T.n1, tf_things _ _ _ _, _, rfl, 1, rfl, _, rfl, ga, gvs, rfl, .of h4, fun q hq => ?_⟩
    have hcut := cut_mid gvs m
    rw [hcut]
    have s1 := same_upd (o := .lst ((gvs.drop m).take (gvs.length - 1 - m))) hq
    have hR : Rl (Fr K H) ((gvs.drop m).take (gvs.length - 1 - m)) ((L.goal.drop m).take (L.goal.length - 1 - m)) := by rw [h5.1]; exact (h5.drop m).take _
    refine ⟨q, rfl, ⟨_, .of upd_same⟩, lc_all (walk_list (xs := (gvs.drop m).take (gvs.length - 1 - m))) ?_ (shareL m L) ?_ (fun D H v x => Fr K H v x) (fun D H H' v x ⟨l, hl⟩ hb' h => h.monoT (hb'.t hl)) (fun H' s' => s'.seq (.of upd_same))
      (fun D1 i v H2 H3 x hD hx s2 hl hyy Kp kp => ?_) (fun D1 ys1 H1 hD1 s2 hl1 r1 => ?_)⟩
    · rw [List.length_take, List.length_drop]
      have := h5.1
      omega
    · unfold shareL; rw [List.length_map, hR.1]
    · obtain ⟨rfl, hv⟩ := hyy
      obtain ⟨y, hy, cq, rfl, hcq⟩ := hR.getV hv
      have hxe : x = 0 - y := by
        unfold shareL at hx
        rw [List.getElem?_map, hy] at hx
        exact (Option.some.inj hx).symm
      subst hxe
      have ly := hlim y (List.mem_of_mem_drop (List.mem_of_mem_take (List.mem_of_getElem? hy)))
      exact ⟨rfl, _, rfl, z, cq, 0, y, rfl, fz _, hcq.mono (s1.trans s2), sz_zero, ly.sz, lim_zero.bd ly, fun e H5 s5 he => kp _ _ s5 ⟨e, rfl, he⟩⟩
    · refine ⟨D1, ys1, rfl, .inl ⟨.of hl1, fun t ht' => ?_⟩⟩
      have st := same_upd (o := .tup ys1) ht'
      exact k t _ ((s1.trans s2).trans st) ⟨ys1, .of upd_same, r1.imp fun _ _ h => h.mono st⟩
end
end K34
set_option Elab.async false
set_option linter.all false
set_option maxRecDepth 100000
set_option exponentiation.threshold 200000
/-! the walk: balance, the table's making -/
namespace K34
open PySem PySem.Spec PyProof.Rows L2
theorem fr_int {K : PySem.W.Frag} {H : Hp} {a : Addr} {b : Bool} (h : SqT K H a [.int (if b = true then 1 else 0), .int 1]) : FrA K H a (if b = true then 1 else 0) := by
  cases b
  · exact h
  · exact h
theorem fr_dec {K : PySem.W.Frag} {H : Hp} {a : Addr} {c : Prop} [Decidable c] (h : SqT K H a [.int (if decide c = true then 1 else 0), .int 1]) : FrA K H a (if c then 1 else 0) := by
  by_cases hc : c
  · rw [if_pos hc]
    rw [decide_eq_true hc] at h
    exact h
  · rw [if_neg hc]
    rw [decide_eq_false hc] at h
    exact h
section
variable {P : Program} {w : World} {K : PySem.W.Frag} {mg : Str → Option Value} {base : Heap}
def spInit (K : PySem.W.Frag) (C : Addr) : Sp := fun vs H Q _ => ∃ (p dx a m : Nat) (os : List Of), vs = [.ref p, .ref a] ∧ H p = some (.ins C dx []) ∧ StA K H a m os ∧ Good m os ∧
  ∀ ha H', TabAt K C H' p ha m (lt0 m os) → (∀ b o, b ≠ p → H b = some o → H' b = some o) → H ha = none → Q .non H'
theorem c_init {C : Addr} (D : DfM K C "__init__" "Table.__init__" t_Tinit ["self", "stock"]) (B : Bi mg) (U : Nums K mg) (T : Tx K C) : CalM P w K mg base C 1 "__init__" ["self", "stock"] (spInit K C) := by
  obtain ⟨f, fd, F, g, b⟩ := D.ex
  obtain ⟨z, gz, fz⟩ := U.z
  obtain ⟨z1, gz1, fz1⟩ := U.o
  refine ⟨f, fd, F.ok s_Tinit (fun vs H Q E h => ?_) (fun cdv A outer s H vs Q E hr h => ?_), g, b⟩
  · obtain ⟨_, _, _, _, _, rfl, _⟩ := h
    rfl
  · obtain ⟨p, dx, a, m, os, rfl, hp, hst, G, k⟩ := h
    have ⟨ob, ha, vs, hb, ho⟩ := hst
    refine ⟨_, pss_cons (ps_fld (pv 0) (pvt 1) rfl)
      (pss_cons (ps_fld (pv 0) (pe_lst pa_nil) rfl)
      (pss_cons (ps_for PassesOwn.never rfl (KR.pi_enumT (by rfl) B.enum (pa_cons (pvt 1) pa_nil)) (pg_tup rfl (pgs_cons (pg_name (i := 2) s_Tinit.nd rfl (.inr rfl)) (pgs_cons (pg_name (i := 3) s_Tinit.nd rfl (.inr rfl)) pgs_nil)))
        (pss_cons (ps_setLc (i := 4) (own := [("thing", 5)]) (g := gName 5) (tt := tYes) (te := tTup (tCons (tCB (fun xs H Q => (∃ i, xs = [.int i] ∧ Q (.int i) H) ∨ ∃ k, xs = [.bl k] ∧ Q (.int (if k then 1 else 0)) H) (tCons (tOp (rIn K false) (tVar 5) (tOp (rIxT K) (tVar 3) (tC (.int 0)))) tNil)) (tCons (tC (.int 1)) tNil)))
            rfl s_Tinit.nd rfl rfl (sw_true rfl rfl rfl (by decide +kernel)) (pi_range1 (by rfl) B.range (pa_cons (pvt 1) pa_nil)) (blkOk_by (N := n_Tinit) (sc := defScope t_Tinit) (by decide +kernel)) (fun _ _ _ _ _ => pg_name (i := 5) s_Tinit.nd rfl (Or.inl rfl)) (fun _ _ _ _ _ => pts_nil)
            (fun _ _ _ _ _ => pe_tup (pa_cons (pe_callTy call_int1 (by rfl) B.int (by decide +kernel) (pa_cons (pe_cmpR op_in_seq (pv 5) (pvt 3) rfl) pa_nil)) (pa_cons pe_int pa_nil))))
        (pss_cons (ps_set (i := 4) s_Tinit.nd rfl (.inl rfl) (pe_op op_cat (pv 4) (pe_lc (own := [("other", 6)]) (g := gName 6) (tt := tYes) (te := tTup (tCons (tCB (fun xs H Q => (∃ i, xs = [.int i] ∧ Q (.int i) H) ∨ ∃ k, xs = [.bl k] ∧ Q (.int (if k then 1 else 0)) H) (tCons (tOp rEq (tVar 2) (tVar 6)) tNil)) (tCons (tC (.int 1)) tNil)))
            rfl s_Tinit.nd (pi_range1 (by rfl) B.range (pa_cons (pe_callB call_len_seq (by rfl) B.len PySem.boot_len (pa_cons (pvt 1) pa_nil)) pa_nil)) (blkOk_by (N := n_Tinit) (sc := defScope t_Tinit) (by decide +kernel)) (fun _ _ _ _ _ => pg_name (i := 6) s_Tinit.nd rfl (Or.inl rfl)) (fun _ _ _ _ _ => pts_nil)
            (fun _ _ _ _ _ => pe_tup (pa_cons (pe_callTy call_int1 (by rfl) B.int (by decide +kernel) (pa_cons (pe_cmpR op_eq (pv 2) (pv 6) (nomark _)) pa_nil)) (pa_cons pe_int pa_nil))))))
        (pss_one (ps_expr (pe_bm PySem.F.plainAttrs_list PySem.F.slot_list_append PySem.F.type_list_append mt_append (pe_fld (pv 0) rfl) (pa_cons (pe_op op_cat (pv 4) (pe_lst (pa_cons (pe_tup (pa_cons (pvt 3) (pa_cons pe_int pa_nil))) pa_nil))) pa_nil)))))))
      (pss_cons (ps_fld (pv 0) (pe_lc (own := [("number", 2)]) (g := gName 2) (tt := tYes) (te := tOp (rI0 fun i j => .int (i + j)) (tOp (rIxT K) (tVar 1) (tC (.int 0))) (tVar 2)) rfl s_Tinit.nd
          (pi_range1 (by rfl) B.range (pa_cons (pe_callB call_len_seq (by rfl) B.len PySem.boot_len (pa_cons (pvt 1) pa_nil)) pa_nil)) (blkOk_by (N := n_Tinit) (sc := defScope t_Tinit) (by decide +kernel)) (fun _ _ _ _ _ => pg_name (i := 2) s_Tinit.nd rfl (Or.inl rfl)) (fun _ _ _ _ _ => pts_nil)
          (fun _ _ _ _ _ => pe_op op_add (pvt 1) (pv 2))) rfl)
      (pss_one (ps_fld (pv 0) (pe_op op_cat (pe_op op_rep (pe_lst (pa_cons (pe_glob (v := .ref z1) rfl gz1 rfl) pa_nil)) (pvt 1)) (pe_op op_rep (pe_lst (pa_cons (pe_glob (v := .ref z) rfl gz rfl) pa_nil)) (pe_op op_add (pe_callB call_len_seq (by rfl) B.len PySem.boot_len (pa_cons (pvt 1) pa_nil)) pe_int))) rfl))))), ?_⟩
    have hm10 := G.m10
    have hn10 := G.n10
    have hvl : vs.length = os.length := ho.1
    -- self.things, self.rows
    refine ⟨_, rfl, a, _, 0, _, rfl, rfl, ha, at0, _, rfl, p, C, dx, _, rfl, hp, T.cl, T.n1, (by show 0 < 1000; decide), ?_⟩
    have e1 : upd H p (.ins C dx (putF "things" (.int (m : Int)) [])) p = some (.ins C dx [("things", .int (m : Int))]) := upd_same
    generalize hH1 : upd H p (.ins C dx (putF "things" (.int (m : Int)) [])) = H1 at e1
    have o1 : ∀ b, b ≠ p → H1 b = H b := fun b hb => by rw [← hH1, upd_ne hb]
    have t1 : SameT H H1 := by rw [← hH1]; exact sameT_ins hp
    refine ⟨Nat.zero_le _, fun rl hrl => ?_⟩
    have npr : p ≠ rl := ne_of_none e1 hrl
    refine ⟨_, rfl, p, C, dx, _, rfl, (by rw [upd_ne npr]; exact e1), T.cl, T.n2, (by show 1 < 1000; decide), ?_⟩
    have e2 : upd (upd H1 rl (.lst [])) p (.ins C dx (putF "rows" (.ref rl) [("things", .int (m : Int))])) p = some (.ins C dx [("things", .int (m : Int)), ("rows", .ref rl)]) := upd_same
    generalize hH2 : upd (upd H1 rl (.lst [])) p (.ins C dx (putF "rows" (.ref rl) [("things", .int (m : Int))])) = H2 at e2
    have e2r : H2 rl = some (.lst []) := by rw [← hH2, upd_ne npr.symm, upd_same]
    have hrl0 : H rl = none := by rw [← o1 _ npr.symm]; exact hrl
    have o2 : ∀ b o, b ≠ p → H b = some o → H2 b = some o := fun b o hb h => by
      rw [← hH2, upd_ne hb, upd_ne (ne_of_none h hrl0), o1 _ hb]
      exact h
    have t2 : SameT H H2 := ⟨fun b xs h => o2 b _ (ne_of h hp (by intro z; cases z)) h, fun b o u h => o2 b _ (ne_of h hp (by intro z; cases z)) h⟩
    have hst2 := hst.monoT t2
    refine ⟨_, rfl, a, _, 1, _, rfl, rfl, t2.sqt ha, at1, ob, vs, rfl, t2.sqt hb, ?_⟩
    refine for_it (KR.walk_enumT (xs := vs)) (fun i σ H' => ∃ y2 y3 y4 y5 y6 rvs, σ = [some (.ref p), some (.ref a), y2, y3, y4, y5, y6] ∧ H' p = some (.ins C dx [("things", .int (m : Int)), ("rows", .ref rl)]) ∧ (∀ b o, b ≠ p → H b = some o → H' b = some o) ∧ H' rl = some (.lst rvs) ∧
        Rl (fun v x => ∃ a' vs', v = .ref a' ∧ a' ≠ rl ∧ a' ≠ p ∧ H' a' = some (.lst vs') ∧ Rl (Fr K H') vs' x) rvs ((List.range i).map (row0 m os)))
      ⟨none, none, none, none, none, [], rfl, e2, o2, e2r, Rl.nil⟩ (fun i σ H' _ h => ?_) (fun i x σ H' H'' hi h hy => ?_) (fun σ H' h => ?_)
    · obtain ⟨_, _, _, _, _, _, _, _, o3, _⟩ := h
      have t3 : SameT H H' := ⟨fun b xs h => o3 b _ (ne_of h hp (by intro z; cases z)) h, fun b o u h => o3 b _ (ne_of h hp (by intro z; cases z)) h⟩
      exact t3.sqt hb
    · obtain ⟨y2, y3, y4, y5, y6, rvs, rfl, ep, o3, er, hr3⟩ := h
      have t3 : SameT H H' := ⟨fun b xs h => o3 b _ (ne_of h hp (by intro z; cases z)) h, fun b o u h => o3 b _ (ne_of h hp (by intro z; cases z)) h⟩
      obtain ⟨T0, x1, x2, rfl, hT, rfl, q1, q2⟩ := hy
      have q1' : V.int (i : Int) = x1 := Option.some.inj q1
      obtain ⟨o, hoo, c, rfl, tt, hc, htt⟩ := ho.getV (show vs[i]? = some x2 from q2)
      subst q1'
      have hon : os.getD i default = o := getD_of hoo
      have homem := List.mem_of_getElem? hoo
      have sT := same_upd (o := .tup [.int (i : Int), .ref c]) hT
      have t4 := t3.trans sT.t
      refine ⟨T0, _, rfl, .of upd_same, rfl, _, _, rfl, _, _, rfl, rfl, ?_⟩
      -- the things' part
      refine ⟨_, rfl, a, _, 0, _, rfl, rfl, t4.sqt ha, at0, (m : Int), rfl, by omega, by omega, lc_all walk_range0 (by omega) ((List.range m).map fun t => if t ∈ o.1 then (1 : Rat) else 0) (by rw [List.length_map, List.length_range]; omega) (fun D H v x => Fr K H v x) (fun D H H' v x ⟨l, hl⟩ hb' h => h.monoT (hb'.t hl)) (fun H' s' => trivial)
        (fun D i' v H3 H4 x hD hx s3 hl hyy Kp kp => ?_) (fun D1 ys1 H3 hD1 s3 hl1 r1 => ?_)⟩
      · obtain ⟨rfl, rfl⟩ := hyy
        have hxe : x = if i' ∈ o.1 then (1 : Rat) else 0 := by
          rw [List.getElem?_map] at hx
          cases e : (List.range m)[i']? with
          | none => rw [e] at hx; cases hx
          | some y =>
            rw [e] at hx
            obtain ⟨_, e'⟩ := List.getElem?_eq_some_iff.1 e
            rw [List.getElem_range] at e'
            subst e'
            exact (Option.some.inj hx).symm
        have t5 := t4.trans s3.t
        refine ⟨rfl, _, rfl, _, rfl, c, _, 0, _, rfl, rfl, t5.sqt hc, at0, tt, _, rfl, .inr (t5.sqt htt), rfl, by simp [flatV], .inr ⟨_, rfl, two_line, fun q hq => kp _ _ (same_upd hq) ⟨q, rfl, ?_⟩⟩⟩
        rw [hxe]
        refine fr_dec (.of ?_)
        show upd H4 q (.tup [.int (if inV (.int (i' : Int)) (iv o.1) = true then 1 else 0), .int 1]) q = _
        rw [in_iv]
        exact upd_same
      · -- the offers' part
        have s4 := sT.trans s3
        have t5 := t4.trans s3.t
        refine ⟨_, rfl, _, rfl, a, _, 1, _, rfl, rfl, t5.sqt ha, at1, ob, _, rfl, .inr (t5.sqt hb), (vs.length : Int), rfl, by omega, by omega, lc_all walk_range0 (by omega) ((List.range os.length).map fun l => if i = l then (1 : Rat) else 0) (by rw [List.length_map, List.length_range]; omega) (fun D H v x => Fr K H v x) (fun D H H' v x ⟨l, hl⟩ hb' h => h.monoT (hb'.t hl)) (fun H' s' => trivial)
          (fun D i' v H4 H5 x hD hx s5 hl hyy Kp kp => ?_) (fun D2 ys2 H4 hD2 s5 hl2 r2 => ?_)⟩
        · obtain ⟨rfl, rfl⟩ := hyy
          have hxe : x = if i = i' then (1 : Rat) else 0 := by
            rw [List.getElem?_map] at hx
            cases e : (List.range os.length)[i']? with
            | none => rw [e] at hx; cases hx
            | some y =>
              rw [e] at hx
              obtain ⟨_, e'⟩ := List.getElem?_eq_some_iff.1 e
              rw [List.getElem_range] at e'
              subst e'
              exact (Option.some.inj hx).symm
          refine ⟨rfl, _, rfl, _, rfl, rfl, .inr ⟨_, rfl, two_line, fun q hq => kp _ _ (same_upd hq) ⟨q, rfl, ?_⟩⟩⟩
          rw [hxe]
          refine fr_dec (.of ?_)
          rw [show decide (V.int (i : Int) = V.int (i' : Int)) = decide (i = i') from decide_eq_decide.2 ⟨fun h => by injection h; omega, fun h => by rw [h]⟩]
          exact upd_same
        · have hl1' := s5 _ _ hl1
          have len1 : ys1.length = m := by rw [r1.1, List.length_map, List.length_range]
          have len2 : ys2.length = os.length := by rw [r2.1, List.length_map, List.length_range]
          refine ⟨D1, D2, ys1, ys2, rfl, rfl, hl1', hl2, ld_of (by omega), fun q3 hq3 => ?_⟩
          have s6 := (s4.trans s5).trans (same_upd (o := .lst (ys1 ++ ys2)) hq3)
          have t6 := t3.trans s6.t
          have epn := s6 _ _ ep
          have ern := s6 _ _ er
          refine ⟨_, rfl, p, C, dx, _, _, rfl, epn, T.cl, T.n2, rfl, .inl ⟨rfl, _, .of ern⟩, _, rfl, _, rfl, c, _, 1, _, rfl, rfl, t6.sqt hc, at1, two_line, fun q4 hq4 => ⟨by show 1 ≤ sizeLine; decide, fun q5 hq5 => ?_⟩⟩
          have s7 := same_upd (o := .tup [.int (o.2 : Int), .int 1]) hq4
          have s8 := same_upd (o := .lst [.ref q4]) hq5
          have s78 := s7.trans s8
          refine ⟨q3, q5, ys1 ++ ys2, [.ref q4], rfl, rfl, s78 _ _ upd_same, upd_same, ld_of (by rw [List.length_append]; show _ + 1 ≤ _; omega), fun q6 hq6 => ?_⟩
          have s9 := s78.trans (same_upd (o := .lst (ys1 ++ ys2 ++ [.ref q4])) hq6)
          have s69 := s6.trans s9
          have nrl : rl ≠ q6 := ne_of_none (s78 _ _ ern) hq6
          refine ⟨rl, rvs, _, rfl, rfl, s9 _ _ ern, ?_, ?_⟩
          · have := hr3.1
            rw [List.length_map, List.length_range] at this
            exact ld_lt (by omega)
          · have epf := s9 _ _ epn
            have npq6 : p ≠ q6 := ne_of_none (s78 _ _ epn) hq6
            have tfin : ∀ {a' : Addr}, a' ≠ rl → ∀ {o'}, H' a' = some o' → upd (upd (upd (upd (upd H4 q3 (.lst (ys1 ++ ys2))) q4 (.tup [.int (o.2 : Int), .int 1])) q5 (.lst [.ref q4])) q6 (.lst (ys1 ++ ys2 ++ [.ref q4]))) rl (.lst (rvs ++ [.ref q6])) a' = some o' := fun hne o' h => by
              rw [upd_ne hne]; exact s69 _ _ h
            have tall : SameT H' (upd (upd (upd (upd (upd H4 q3 (.lst (ys1 ++ ys2))) q4 (.tup [.int (o.2 : Int), .int 1])) q5 (.lst [.ref q4])) q6 (.lst (ys1 ++ ys2 ++ [.ref q4]))) rl (.lst (rvs ++ [.ref q6]))) := s69.t.trans (sameT_lst (s9 _ _ ern))
            refine ⟨_, _, _, _, _, rvs ++ [.ref q6], rfl, ?_, fun b o' hb h => ?_, upd_same, ?_⟩
            · rw [upd_ne (ne_of epf (s9 _ _ ern) (by intro z; cases z))]; exact epf
            · rw [upd_ne (ne_of_none h hrl0)]
              exact s69 _ _ (o3 _ _ hb h)
            · rw [List.range_succ, List.map_append]
              refine (hr3.imp fun v x hv => ?_).snoc ?_
              · obtain ⟨a', vs', v1, v2, v3, v4, v5⟩ := hv
                exact ⟨a', vs', v1, v2, v3, tfin v2 v4, v5.imp fun _ _ h => h.monoT tall⟩
              · refine ⟨q6, ys1 ++ ys2 ++ [.ref q4], rfl, nrl.symm, npq6.symm, ?_, ?_⟩
                · rw [upd_ne nrl.symm, upd_same]
                · have tl : ∀ {v : V} {x : Rat}, Fr K H4 v x → Fr K _ v x := fun h => ((h.mono (same_upd hq3)).mono s9).monoT (sameT_lst (o := .lst (rvs ++ [.ref q6])) (s9 _ _ ern))
                  unfold row0
                  rw [hon]
                  refine (((r1.imp fun _ _ h => tl (h.mono s5)).append (r2.imp fun _ _ h => tl h))).snoc ?_
                  refine ⟨q4, rfl, fr_nat (.of ?_)⟩
                  rw [upd_ne (ne_of (a := q4) (o := .tup [.int (o.2 : Int), .int 1]) (H := upd (upd (upd (upd H4 q3 (.lst (ys1 ++ ys2))) q4 (.tup [.int (o.2 : Int), .int 1])) q5 (.lst [.ref q4])) q6 (.lst (ys1 ++ ys2 ++ [.ref q4]))) (same_upd hq6 _ _ (s8 _ _ upd_same)) (s9 _ _ ern) (by intro z; cases z))]
                  exact same_upd hq6 _ _ (s8 _ _ upd_same)
    · obtain ⟨y2, y3, y4, y5, y6, rvs, rfl, ep, o3, er, hr3⟩ := h
      have t3 : SameT H H' := ⟨fun b xs h => o3 b _ (ne_of h hp (by intro z; cases z)) h, fun b o u h => o3 b _ (ne_of h hp (by intro z; cases z)) h⟩
      rw [hvl] at hr3
      -- self.heads
      refine ⟨_, rfl, a, _, 1, _, rfl, rfl, t3.sqt ha, at1, ob, _, rfl, .inr (t3.sqt hb), (vs.length : Int), rfl, by omega, by omega, lc_all walk_range0 (by omega) ((List.range os.length).map (m + ·)) (by rw [List.length_map, List.length_range]; omega) (fun D H v (x : Nat) => v = .int (x : Int)) (fun _ _ _ _ _ _ _ h => h) (fun H' s' => trivial)
        (fun D i' v H4 H5 x hD hx s5 hl hyy Kp kp => ?_) (fun D2 ys2 H4 hD2 s5 hl2 r2 => ?_)⟩
      · obtain ⟨rfl, rfl⟩ := hyy
        have hxe : x = m + i' := by
          rw [List.getElem?_map] at hx
          cases e : (List.range os.length)[i']? with
          | none => rw [e] at hx; cases hx
          | some y =>
            rw [e] at hx
            obtain ⟨_, e'⟩ := List.getElem?_eq_some_iff.1 e
            rw [List.getElem_range] at e'
            subst e'
            exact (Option.some.inj hx).symm
        refine ⟨rfl, _, rfl, a, _, 0, _, rfl, rfl, (t3.trans s5.t).sqt ha, at0, _, rfl, _, _, rfl, rfl, kp _ _ (Same.refl _) ?_⟩
        rw [hxe]
        exact congrArg V.int (by omega)
      · have ep4 := s5 _ _ ep
        have npD : p ≠ D2 := ne_of_none ep hD2
        have t4 := t3.trans s5.t
        refine ⟨_, rfl, p, C, dx, _, rfl, ep4, T.cl, T.n3, (by show 2 < 1000; decide), ?_⟩
        have e6 : upd H4 p (.ins C dx (putF "heads" (.ref D2) [("things", .int (m : Int)), ("rows", .ref rl)])) p = some (.ins C dx [("things", .int (m : Int)), ("rows", .ref rl), ("heads", .ref D2)]) := upd_same
        generalize hH6 : upd H4 p (.ins C dx (putF "heads" (.ref D2) [("things", .int (m : Int)), ("rows", .ref rl)])) = H6 at e6
        have o6 : ∀ b, b ≠ p → H6 b = H4 b := fun b hb => by rw [← hH6, upd_ne hb]
        have t6 : SameT H4 H6 := by rw [← hH6]; exact sameT_ins ep4
        have t46 := t4.trans t6
        -- self.goal
        refine ⟨by show 1 ≤ sizeLine; decide, fun g1 hg1 => ?_⟩
        have s1 := same_upd (o := .lst [.ref z1]) hg1
        refine ⟨_, rfl, a, _, 0, _, rfl, rfl, (t46.trans s1.t).sqt ha, at0, g1, (m : Int), _, rfl, rfl, upd_same, by omega, by omega, ld_of (by rw [Int.toNat_natCast]; show 1 * m ≤ _; omega), fun g2 hg2 => ?_⟩
        have s2 := s1.trans (same_upd (o := .lst (List.replicate ((m : Nat) : Int).toNat [V.ref z1]).flatten) hg2)
        refine ⟨by show 1 ≤ sizeLine; decide, fun g3 hg3 => ?_⟩
        have s3 := s2.trans (same_upd (o := .lst [.ref z]) hg3)
        refine ⟨_, rfl, a, _, 1, _, rfl, rfl, (t46.trans s3.t).sqt ha, at1, ob, _, rfl, .inr ((t46.trans s3.t).sqt hb), _, _, rfl, rfl, g3, (vs.length : Int) + 1, _, rfl, rfl, upd_same, by omega, by omega, ld_of (by show 1 * _ ≤ _; omega), fun g4 hg4 => ?_⟩
        have s34 := same_upd (o := .lst (List.replicate ((vs.length : Int) + 1).toNat [V.ref z]).flatten) hg4
        have s4 := s3.trans s34
        have eg2 : upd (upd (upd (upd H6 g1 (.lst [.ref z1])) g2 (.lst (List.replicate ((m : Nat) : Int).toNat [V.ref z1]).flatten)) g3 (.lst [.ref z])) g4 (.lst (List.replicate ((vs.length : Int) + 1).toNat [V.ref z]).flatten) g2 = some (.lst (List.replicate ((m : Nat) : Int).toNat [V.ref z1]).flatten) := s34 _ _ (same_upd hg3 _ _ upd_same)
        refine ⟨g2, g4, _, _, rfl, rfl, eg2, upd_same, ld_of (by rw [rep_flat, rep_flat, List.length_replicate, List.length_replicate]; omega), fun g5 hg5 => ?_⟩
        have s45 := same_upd (o := .lst ((List.replicate ((m : Nat) : Int).toNat [V.ref z1]).flatten ++ (List.replicate ((vs.length : Int) + 1).toNat [V.ref z]).flatten)) hg5
        have s5' := s4.trans s45
        have e7 := s5' _ _ e6
        generalize hH7 : upd (upd (upd (upd (upd H6 g1 (.lst [.ref z1])) g2 (.lst (List.replicate ((m : Nat) : Int).toNat [V.ref z1]).flatten)) g3 (.lst [.ref z])) g4 (.lst (List.replicate ((vs.length : Int) + 1).toNat [V.ref z]).flatten)) g5 (.lst ((List.replicate ((m : Nat) : Int).toNat [V.ref z1]).flatten ++ (List.replicate ((vs.length : Int) + 1).toNat [V.ref z]).flatten)) = H7 at s5' e7 s45
        have eg5 : H7 g5 = some (.lst ((List.replicate ((m : Nat) : Int).toNat [V.ref z1]).flatten ++ (List.replicate ((vs.length : Int) + 1).toNat [V.ref z]).flatten)) := by rw [← hH7]; exact upd_same
        have npg : p ≠ g5 := ne_of_none (s4 _ _ e6) hg5
        refine ⟨_, rfl, p, C, dx, _, rfl, e7, T.cl, T.n4, (by show 3 < 1000; decide), ?_⟩
        have o8 : ∀ b, b ≠ p → upd H7 p (.ins C dx (putF "goal" (.ref g5) [("things", .int (m : Int)), ("rows", .ref rl), ("heads", .ref D2)])) b = H7 b := fun b hb => upd_ne hb
        have e8 : upd H7 p (.ins C dx (putF "goal" (.ref g5) [("things", .int (m : Int)), ("rows", .ref rl), ("heads", .ref D2)])) p = some (.ins C dx (tf m rl D2 g5)) := upd_same
        have t8 : SameT H7 (upd H7 p (.ins C dx (putF "goal" (.ref g5) [("things", .int (m : Int)), ("rows", .ref rl), ("heads", .ref D2)]))) := sameT_ins e7
        generalize hH8 : upd H7 p (.ins C dx (putF "goal" (.ref g5) [("things", .int (m : Int)), ("rows", .ref rl), ("heads", .ref D2)])) = H8 at o8 e8 t8
        have mv : ∀ b o, b ≠ p → H4 b = some o → H8 b = some o := fun b o hb h => by
          rw [o8 _ hb]
          refine s5' _ _ ?_
          rw [o6 _ hb]
          exact h
        have tm : SameT H' H8 := ((s5.t.trans t6).trans s5'.t).trans t8
        refine k D2 H8 ⟨⟨dx, rl, g5, rvs, _, e8, mv _ _ npr.symm (s5 _ _ er), ?_, by rw [o8 _ npg.symm]; exact eg5, ?_⟩, ?_⟩ (fun b o hb h => mv _ _ hb (s5 _ _ (o3 _ _ hb h))) ?_
        · refine hr3.imp fun v x hv => ?_
          obtain ⟨a', vs', v1, v2, v3, v4, v5⟩ := hv
          exact ⟨a', vs', v1, mv _ _ v3 (s5 _ _ v4), v5.imp fun _ _ h => h.monoT tm⟩
        · rw [rep_flat, rep_flat, Int.toNat_natCast, show ((vs.length : Int) + 1).toNat = os.length + 1 by omega]
          exact (Rl.rep ⟨z1, rfl, fz1 _⟩ m).append (Rl.rep ⟨z, rfl, fz _⟩ _)
        · refine (mv _ _ npD.symm hl2).trans ?_
          exact congrArg (fun l => some (HO.lst l)) r2.eq_map
        · cases e : H D2 with
          | none => rfl
          | some o => rw [o3 _ _ npD.symm e] at hD2; cases hD2
end
end K34
set_option Elab.async false
set_option linter.all false
set_option maxRecDepth 100000
set_option exponentiation.threshold 200000
/-! the tables that are met: sizes, and what the program picks -/
namespace K34
open PySem PySem.Spec PyProof.Rows L2

theorem nat_int (n : Nat) : ((n : Rat)) = (((n : Rat).num : Int) : Rat) := by rw [Rat.num_natCast, Rat.intCast_natCast]
/-- what stands in a row at the beginning -/
theorem row0_val (m : Nat) (os : List Of) (k j : Nat) : (row0 m os k).getD j 0 = 0 ∨ (row0 m os k).getD j 0 = 1 ∨ (j = m + os.length ∧ (row0 m os k).getD j 0 = ((os.getD k default).2 : Rat)) := by
  by_cases h1 : j < m
  · rw [row0_thing h1]
    split
    · exact .inr (.inl rfl)
    · exact .inl rfl
  · by_cases h2 : j - m < os.length
    · have e : j = m + (j - m) := by omega
      rw [e, row0_slack h2]
      split
      · exact .inr (.inl rfl)
      · exact .inl rfl
    · by_cases h3 : j = m + os.length
      · subst h3
        exact .inr (.inr ⟨rfl, row0_price⟩)
      · rw [getD_ge (by rw [row0_len]; omega)]
        exact .inl rfl
theorem goal0_val (m n j : Nat) : (goal0 m n).getD j 0 = 0 ∨ (goal0 m n).getD j 0 = 1 := by
  by_cases h1 : j < m
  · exact .inr (goal0_thing h1)
  · have e : j = m + (j - m) := by omega
    rw [e, goal0_rest]
    exact .inl rfl
theorem price_le {m : Nat} {os : List Of} (G : Good m os) (k : Nat) : (os.getD k default).2 ≤ 2 ^ 44 := by
  by_cases h : k < os.length
  · rw [getD_lt h]
    exact G.p2 _ (List.getElem_mem h)
  · rw [getD_ge (by omega)]
    exact Nat.zero_le _
theorem sized {m : Nat} {os : List Of} (G : Good m os) : Sized (shp m os) (2 ^ 44) := by
  refine ⟨⟨fun k j => ((row0 m os k).getD j 0).num, fun j => ((goal0 m os.length).getD j 0).num, fun k j => ?_, fun j => ?_, fun k j hk hj => ?_, fun j => ?_, fun k j hk => ?_⟩, Nat.one_le_two_pow, G.n10⟩
  · show (row0 m os k).getD j 0 = ((((row0 m os k).getD j 0).num : Int) : Rat)
    rcases row0_val m os k j with e | e | ⟨_, e⟩ <;> rw [e]
    · rfl
    · rfl
    · exact nat_int _
  · show (goal0 m os.length).getD j 0 = ((((goal0 m os.length).getD j 0).num : Int) : Rat)
    rcases goal0_val m os.length j with e | e <;> rw [e] <;> rfl
  · show (((row0 m os k).getD j 0).num).natAbs ≤ 1
    rcases row0_val m os k j with e | e | ⟨e0, e⟩
    · rw [e]; decide
    · rw [e]; decide
    · have : j < m + os.length := hj
      omega
  · show (((goal0 m os.length).getD j 0).num).natAbs ≤ 1
    rcases goal0_val m os.length j with e | e <;> rw [e] <;> decide
  · show (((row0 m os k).getD j 0).num).natAbs ≤ 2 ^ 44
    rcases row0_val m os k j with e | e | ⟨_, e⟩ <;> rw [e]
    · decide
    · decide
    · rw [Rat.num_natCast, Int.natAbs_natCast]
      exact price_le G k
theorem fulls {m : Nat} {os : List Of} (G : Good m os) : Full (shp m os) := by
  refine ⟨fun k hk j hj => ?_, fun j hj => ?_, fun j hj => goal0_thing hj⟩
  · show (row0 m os k).getD j 0 = 0 ∨ (row0 m os k).getD j 0 = 1
    have hj' : j < m := hj
    rw [row0_thing hj']
    split
    · exact .inr rfl
    · exact .inl rfl
  · have hj' : j < m := hj
    obtain ⟨o, ho, ht⟩ := G.full j hj'
    obtain ⟨k, hk, e⟩ := List.mem_iff_getElem.1 ho
    refine ⟨k, hk, ?_⟩
    show (row0 m os k).getD j 0 = 1
    rw [row0_thing hj', getD_lt hk, e, if_pos ht]
theorem row_mem {n W : Nat} {L : LT} (wf : Wf n W L) {q : List Rat} (hq : q ∈ L.rows) {x : Rat} (hx : x ∈ q) : ∃ i j, i < n ∧ j < W ∧ x = ent L i j := by
  obtain ⟨i, hi, e⟩ := List.mem_iff_getElem.1 hq
  obtain ⟨j, hj, e2⟩ := List.mem_iff_getElem.1 hx
  have hqW := wf.rw q hq
  refine ⟨i, j, by rw [← wf.rl]; exact hi, by omega, ?_⟩
  unfold ent
  rw [getD_lt hi, e, getD_lt hj, e2]
/-- the figures of an entry, finely -/
theorem ent_size {m : Nat} {os : List Of} {L : LT} (G : Good m os) (M : Met m os L) {i j : Nat} (hi : i < os.length) (hj : j ≤ m + os.length) : (ent L i j).den ≤ 2 ^ 511 ∧ (ent L i j).num.natAbs ≤ 2 ^ 555 := by
  have h := size_T (sized G) M.inv (i := i) (j := j) hi hj
  rw [Mb9, Rb9] at h
  exact h
theorem goal_size {m : Nat} {os : List Of} {L : LT} (G : Good m os) (M : Met m os L) {j : Nat} (hj : j ≤ m + os.length) : (L.goal.getD j 0).den ≤ 2 ^ 1023 ∧ (L.goal.getD j 0).num.natAbs ≤ 2 ^ 1067 := by
  have h := size_g (sized G) M.inv (j := j) hj
  rw [Mb10, Rb10] at h
  exact h
theorem share_size {m : Nat} {os : List Of} {L : LT} (G : Good m os) (M : Met m os L) {k : Nat} (hk : k < os.length) : (- L.goal.getD (m + k) 0).den ≤ 2 ^ 511 ∧ (- L.goal.getD (m + k) 0).num.natAbs ≤ 2 ^ 511 := by
  have h := size_u (sized G) M.inv (k := k) hk
  rw [Mb9, Rb91] at h
  exact h
theorem lim_of {x : Rat} {a b : Nat} (h : x.den ≤ 2 ^ a ∧ x.num.natAbs ≤ 2 ^ b) (ha : a < 1100) (hb : b < 1100) : Lim x :=
  ⟨Nat.lt_of_le_of_lt h.2 (Nat.pow_lt_pow_right (by decide) hb), Nat.lt_of_le_of_lt h.1 (Nat.pow_lt_pow_right (by decide) ha)⟩
theorem lim_rows {m : Nat} {os : List Of} {L : LT} (G : Good m os) (M : Met m os L) : ∀ q ∈ L.rows, ∀ x ∈ q, Lim x := fun q hq x hx => by
  obtain ⟨i, j, hi, hj, rfl⟩ := row_mem M.wf hq hx
  exact lim_of (ent_size G M hi (by omega)) (by decide) (by decide)
theorem lim_goal {m : Nat} {os : List Of} {L : LT} (G : Good m os) (M : Met m os L) : ∀ x ∈ L.goal, Lim x := fun x hx => by
  obtain ⟨j, hj, rfl⟩ := List.mem_iff_getElem.1 hx
  have := M.wf.gl
  rw [← getD_lt (d := 0) hj]
  exact lim_of (goal_size G M (by omega)) (by decide) (by decide)
/-- what the program takes is the rule's -/
theorem pick_of {m : Nat} {os : List Of} {L : LT} {c r : Nat} (hc : c < m + os.length) (hp : 0 < L.goal.getD c 0) (hj : ∀ j, j < c → L.goal.getD j 0 ≤ 0) (hr : r < os.length) (he : 0 < ent L r c) (hl : Least L (m + os.length + 1) c r os.length) : Pick m os L c r :=
  ⟨hc, hp, hj, hr, he, fun i hi h => hl i hi h⟩
theorem some_row {m : Nat} {os : List Of} {L : LT} (G : Good m os) (M : Met m os L) {c : Nat} (hc : c < m + os.length) : ∃ r, r < os.length ∧ 0 < ent L r c := has_row (fulls G) M.inv hc
theorem lim_head {m : Nat} {os : List Of} {L : LT} (G : Good m os) (M : Met m os L) {c r : Nat} (Pk : Pick m os L c r) : ∀ x ∈ headL L c r, Lim x := by
  have M' := met_turn M Pk
  have hr : r < (turnL L c r).rows.length := by rw [M'.wf.rl]; exact Pk.rn
  have e : (turnL L c r).rows[r] = headL L c r := by
    show ((L.rows.map fun q => lessL q (headL L c r) (q.getD c 0)).set r (headL L c r))[r]'_ = headL L c r
    exact List.getElem_set_self _
  intro x hx
  exact lim_rows G M' (headL L c r) (by rw [← e]; exact List.getElem_mem hr) x hx

section
variable {P : Program} {w : World} {K : PySem.W.Frag} {mg : Str → Option Value} {base : Heap}
structure CalC (P : Program) (w : World) (K : PySem.W.Frag) (mg : Str → Option Value) (base : Heap) (C : Addr) (k : Nat) (ps : List Str) (sp : Sp) : Prop where
  ex : ∃ f fd, FnOk P w K mg base CX0 k f fd ps sp ∧ Mk K C f ∧ mg "Table" = some (.ref C) ∧ Binds K fd ps []
/-- a table at its end -/
structure Ended (m : Nat) (os : List Of) (L : LT) : Prop where
  met : Met m os L
  le : ∀ j, j < m + os.length → L.goal.getD j 0 ≤ 0
/-- what coming tells -/
def Came (m : Nat) (os : List Of) (L : LT) (v : V) : Prop := (∃ c : Nat, v = .int (c : Int) ∧ c < m + os.length ∧ 0 < L.goal.getD c 0 ∧ ∀ j, j < c → L.goal.getD j 0 ≤ 0) ∨ (v = .non ∧ ∀ j, j < m + os.length → L.goal.getD j 0 ≤ 0)
def spBest (K : PySem.W.Frag) : Sp := fun vs H Q _ => ∃ (a m : Nat) (os : List Of), vs = [.ref a] ∧ StA K H a m os ∧ Good m os ∧
  ∀ (L : LT) (t x y : Addr) H', Ended m os L → Same H H' → SqT K H' t [.ref x, .ref y] → FrT K H' x (bearL m (m + os.length + 1) L) → FrT K H' y (shareL m L) → Q (.ref t) H'
theorem c_best_of {C : Addr} (D : Df K mg "best_of" "best_of" t_best_of ["stock"]) (T : Tx K C) (C0 : CalC P w K mg base C 1 ["self", "stock"] (spInit K C)) (C1 : CalM P w K mg base C 2 "coming" ["self"] (spComing K C)) (C2 : CalM P w K mg base C 4 "going" ["self", "column"] (spGoing K C))
    (C3 : CalM P w K mg base C 6 "turn" ["self", "column", "place"] (spTurn K C)) (C4 : CalM P w K mg base C 1 "bearing" ["self"] (spTB K C)) (C5 : CalM P w K mg base C 5 "sharing" ["self"] (spTS K C)) : Cal P w K mg base 7 "best_of" ["stock"] (spBest K) := by
  obtain ⟨f, fd, F, g, b⟩ := D.ex
  obtain ⟨f0, d0, G0, mk0, g0, b0⟩ := C0.ex
  obtain ⟨f1, d1, G1, m1, b1⟩ := C1.ex
  obtain ⟨f2, d2, G2, m2, b2⟩ := C2.ex
  obtain ⟨f3, d3, G3, m3, b3⟩ := C3.ex
  obtain ⟨f4, d4, G4, m4, b4⟩ := C4.ex
  obtain ⟨f5, d5, G5, m5, b5⟩ := C5.ex
  refine ⟨f, fd, F.ok s_best_of (fun vs H Q E h => ?_) (fun cdv A outer s H vs Q E hr h => ?_), g, F.kp, b⟩
  · obtain ⟨_, _, _, rfl, _⟩ := h
    rfl
  · obtain ⟨a, m, os, rfl, hst, G, k⟩ := h
    refine ⟨_, pss_cons (ps_set (i := 1) s_best_of.nd rfl (.inl rfl) (pe_make mk0 G0 (hr.mono (by decide)) rfl g0 b0 .nil pass0 (pa_cons (pv 0) pa_nil)))
      (Evl.pss_cut (ps_set (i := 2) s_best_of.nd rfl (.inl rfl) (pe_meth0 (pv 1) T.cl m1 G1 (hr.mono (by decide)) b1 .nil pass0))
      (pss_cons (ps_while PassesOwn.never (pt_cmpR op_notN (pv 2) pe_non (nomark _))
        (pss_cons (ps_expr (pe_meth (pv 1) T.cl m3 G3 hr b3 .nil pass0 (pa_cons (pv 2) (pa_cons (pe_meth (pv 1) T.cl m2 G2 (hr.mono (by decide)) b2 .nil pass0 (pa_cons (pv 2) pa_nil)) pa_nil))))
        (pss_one (ps_set (i := 2) s_best_of.nd rfl (.inl rfl) (pe_meth0 (pv 1) T.cl m1 G1 (hr.mono (by decide)) b1 .nil pass0)))))
      (pss_one (ps_ret (pe_tup (pa_cons (pe_meth0 (pv 1) T.cl m4 G4 (hr.mono (by decide)) b4 .nil pass0) (pa_cons (pe_meth0 (pv 1) T.cl m5 G5 (hr.mono (by decide)) b5 .nil pass0) pa_nil))))))), ?_⟩
    refine ⟨_, rfl, fun p dx np ndx nepx => ?_⟩
    have s0 : Same H (upd (upd H dx (.own p)) p (.ins C dx [])) := (same_upd ndx).trans (same_upd (by rw [upd_ne nepx.symm]; exact np))
    refine ⟨p, dx, a, m, os, rfl, upd_same, hst.monoT s0.t, G, fun ha H1 hT o1 hha => ⟨rfl, ?_⟩⟩
    have hha0 : H ha = none := s0.free hha
    have s1 : Same H H1 := fun b o h => o1 b o (ne_of_none h np) (s0 _ _ h)
    -- what a coming column means
    have hm10 := G.m10
    have hn10 := G.n10
    obtain ⟨nb, hnb⟩ := bnd m os (lt0 m os) (met0 m os)
    have M0 := met0 m os
    have look : ∀ (L : LT) (H' : Hp) (v1 : Option V) (Qk : V → Hp → Prop), Met m os L → TabAt K C H' p ha m L →
        (∀ v H2, Same H' H2 → Came m os L v → Qk v H2) → tMeth C "coming" (spComing K C) [] E0 (tVar 1) tNil [some (.ref a), some (.ref p), v1] H' Qk := fun L H' v1 Qk M hT' kq => by
      obtain ⟨dx2, ra2, ga2, rvs2, gvs2, hob2, _⟩ := hT'.ob
      have hgl : L.goal.length = m + os.length + 1 := M.wf.gl
      exact ⟨_, rfl, p, dx2, _, rfl, hob2, (tf_no _ _ _ _).1, p, ha, m, L, rfl, hT', by omega, by omega, lim_goal G M, fun c H2 s2 hc h1 h2 => kq _ H2 s2 (.inl ⟨c, rfl, by omega, h1, h2⟩), fun H2 s2 h1 => kq _ H2 s2 (.inr ⟨rfl, fun j hj => h1 j (by omega)⟩)⟩
    refine ⟨fun σ' H' => ∃ v L, σ' = [some (.ref a), some (.ref p), some v] ∧ Met m os L ∧ Came m os L v ∧ TabAt K C H' p ha m L ∧ Same H H', look (lt0 m os) H1 _ _ M0 hT (fun v H2 s2 hv => ⟨v, lt0 m os, rfl, M0, hv, hT.mono s2, s1.trans s2⟩), fun σ' H' hmid => ?_⟩
    obtain ⟨v, L, rfl, M, hv, hT', s'⟩ := hmid
    obtain ⟨nb, hnb⟩ := bnd m os L M
    refine ⟨fun nb σ H' => ∃ v L, σ = [some (.ref a), some (.ref p), some v] ∧ Met m os L ∧ Bnd m os nb L ∧ Came m os L v ∧ TabAt K C H' p ha m L ∧ Same H H', ⟨nb, v, L, rfl, M, hnb, hv, hT', s'⟩, fun nb σ H' hW => ?_⟩
    obtain ⟨v, L, rfl, M, hnb, hv, hT', s'⟩ := hW
    obtain ⟨dx2, ra2, ga2, rvs2, gvs2, hob2, _⟩ := hT'.ob
    have hgl : L.goal.length = m + os.length + 1 := M.wf.gl
    rcases hv with ⟨c, rfl, hc, hpos, hfirst⟩ | ⟨rfl, hle⟩
    · refine ⟨_, rfl, rfl, true, rfl, iteT ?_⟩
      refine ⟨fun σ2 H2 => ∃ v L2 nb2, nb2 < nb ∧ σ2 = [some (.ref a), some (.ref p), some v] ∧ Met m os L2 ∧ Bnd m os nb2 L2 ∧ Came m os L2 v ∧ TabAt K C H2 p ha m L2 ∧ Same H H2, fun σ2 H2 hN => ?_, ?_⟩
      · obtain ⟨v, L2, nb2, hlt, e, r⟩ := hN
        exact ⟨nb2, hlt, v, L2, e, r⟩
      · refine ⟨_, rfl, p, dx2, _, rfl, hob2, (tf_no _ _ _ _).2.2.1, _, rfl, _, rfl, p, dx2, _, rfl, hob2, (tf_no _ _ _ _).2.1, _, rfl, p, ha, m, os.length, m + os.length + 1, c, L, rfl, hT', M.wf, by omega, by omega, by omega, lim_rows G M, some_row G M hc, fun r H2 s2 hr hent hleast => ?_⟩
        have Pk := pick_of hc hpos hfirst hr hent hleast
        refine ⟨p, ha, m, os.length, m + os.length + 1, c, r, L, rfl, hT'.mono s2, M.wf, by omega, by omega, by omega, hr, lim_rows G M, lim_goal G M, hent, lim_head G M Pk, fun H3 hT3 o3 => ?_⟩
        have M3 := met_turn M Pk
        obtain ⟨nb2, hlt, hnb2⟩ := bnd_turn hnb Pk
        have s3 : Same H H3 := fun b o h => o3 b o (ne_of_none h np) (ne_of_none h hha0) (s2 _ _ (s' _ _ h))
        refine look (turnL L c r) H3 _ _ M3 hT3 fun v H4 s4 hv => ⟨v, _, nb2, hlt, rfl, M3, hnb2, hv, hT3.mono s4, s3.trans s4⟩
    · refine ⟨_, rfl, rfl, false, rfl, iteF ?_⟩
      refine ⟨_, rfl, p, dx2, _, rfl, hob2, (tf_no _ _ _ _).2.2.2.1, p, ha, m, os.length, m + os.length + 1, L, rfl, hT', M.wf, by omega, by omega, by omega, by omega, fun x H2 s2 hx => ?_⟩
      refine ⟨_, rfl, p, dx2, _, rfl, s2 _ _ hob2, (tf_no _ _ _ _).2.2.2.2, p, ha, m, L, rfl, hT'.mono s2, by omega, lim_goal G M, fun y H3 s3 hy => ⟨two_line, fun t ht => ?_⟩⟩
      have st := same_upd (o := .tup [.ref x, .ref y]) ht
      exact k L t x y _ ⟨M, hle⟩ (((s'.trans s2).trans s3).trans st) (.of upd_same) (hx.mono (s3.trans st)) (hy.mono st)
theorem c_balanced (D : Df K mg "balanced" "balanced" t_balanced ["stock"]) (C1 : Cal P w K mg base 4 "look_at_full" ["stock"] (spFull K .non)) (C2 : Cal P w K mg base 7 "best_of" ["stock"] (spBest K)) : Cal P w K mg base 8 "balanced" ["stock"] (spBest K) := by
  obtain ⟨f, fd, F, g, b⟩ := D.ex
  obtain ⟨f1, d1, G1, g1, k1, b1⟩ := C1.ex
  obtain ⟨f2, d2, G2, g2, k2, b2⟩ := C2.ex
  refine ⟨f, fd, F.ok s_balanced (fun vs H Q E h => ?_) (fun cdv A outer s H vs Q E hr h => ?_), g, F.kp, b⟩
  · obtain ⟨_, _, _, rfl, _⟩ := h
    rfl
  · obtain ⟨a, m, os, rfl, hst, G, k⟩ := h
    refine ⟨_, pss_cons (ps_expr (pe_call G1 (hr.mono (by decide)) (by rfl) g1 k1 b1 .nil pass0 (pa_cons (pv 0) pa_nil))) (pss_one (ps_ret (pe_call G2 hr (by rfl) g2 k2 b2 .nil pass0 (pa_cons (pv 0) pa_nil)))), ?_⟩
    refine ⟨_, rfl, a, m, os, rfl, hst, G, fun H1 s1 => ?_⟩
    exact ⟨_, rfl, a, m, os, rfl, hst.monoT s1.t, G, fun L t x y H' hE s2 => k L t x y H' hE (s1.trans s2)⟩
end
end K34
set_option Elab.async false
set_option linter.all false
set_option maxRecDepth 100000
set_option exponentiation.threshold 200000
/-! what the end of a table says, in plain sums -/
namespace K34
open PySem PySem.Spec PyProof.Rows L2

/-! ### sums of lists -/
theorem tot_nil : tot [] = 0 := rfl
theorem tot_snoc (qs : List Rat) (q : Rat) : tot (qs ++ [q]) = tot qs + q := by unfold tot; simp [List.foldl_append]
theorem foldl_add (qs : List Rat) (a : Rat) : qs.foldl (· + ·) a = a + tot qs := by
  induction qs generalizing a with
  | nil => unfold tot; simp only [List.foldl_nil]; grind
  | cons q r ih =>
    unfold tot
    simp only [List.foldl_cons]
    rw [ih, ih]
    grind
theorem tot_cons (q : Rat) (qs : List Rat) : tot (q :: qs) = q + tot qs := by
  have h := foldl_add qs (0 + q)
  unfold tot at *
  simp only [List.foldl_cons]
  rw [h]
  grind
theorem tot_S (qs : List Rat) : tot qs = S qs.length (fun i => qs.getD i 0) := by
  have h : ∀ i, i ≤ qs.length → tot (qs.take i) = S i (fun i => qs.getD i 0) := by
    intro i
    induction i with
    | zero => intro _; rw [List.take_zero]; rfl
    | succ i ih =>
      intro hi
      rw [tot_take (List.getElem?_eq_getElem (by omega)), ih (by omega)]
      show _ = S i _ + qs.getD i 0
      rw [getD_lt (by omega)]
  have := h qs.length (Nat.le_refl _)
  rwa [List.take_length] at this
/-- the values at unlike places -/
theorem tot_sel {m : Nat} {ts : List Nat} (nd : ts.Nodup) (hl : ∀ t ∈ ts, t < m) (ys : List Rat) : tot (sel ys ts) = S m (fun t => (if t ∈ ts then 1 else 0) * ys.getD t 0) := by
  induction ts with
  | nil =>
    show tot [] = _
    rw [tot_nil, S_zero' fun i _ => by simp]
  | cons a r ih =>
    have ha : a ∉ r := (List.nodup_cons.1 nd).1
    have e := ih (List.nodup_cons.1 nd).2 fun t ht => hl t (List.mem_cons_of_mem _ ht)
    have ham := hl a List.mem_cons_self
    show tot (ys.getD a 0 :: sel ys r) = _
    rw [tot_cons, e]
    have e2 := S_pick ham (fun t => ys.getD t 0)
    rw [← e2, ← S_add]
    refine S_congr fun t _ => ?_
    by_cases h : t = a
    · subst h
      rw [if_pos rfl, if_neg ha, if_pos List.mem_cons_self]
      grind
    · rw [if_neg h]
      by_cases h2 : t ∈ r
      · rw [if_pos h2, if_pos (List.mem_cons_of_mem _ h2)]; grind
      · rw [if_neg h2, if_neg (by simp [h, h2])]; grind
theorem tot_pick (n : Nat) (p : Nat → Bool) (us : List Rat) : tot (sel us (pick n p id)) = S n (fun k => us.getD k 0 * (if p k = true then 1 else 0)) := by
  induction n with
  | zero => rfl
  | succ n ih =>
    show _ = S n (fun k => us.getD k 0 * (if p k = true then 1 else 0)) + us.getD n 0 * (if p n = true then 1 else 0)
    rw [← ih]
    cases h : p n with
    | true =>
      rw [pick_yes h]
      unfold sel
      rw [List.map_append, List.map_singleton, tot_snoc, if_pos rfl]
      show _ + us.getD n 0 = _ + us.getD n 0 * 1
      grind
    | false =>
      rw [pick_no h, if_neg (by decide)]
      grind
/-- the shares of the offers with a thing -/
theorem tot_with {m : Nat} {os : List Of} {t : Nat} (ht : t < m) (us : List Rat) : tot (sel us (withT os t)) = S os.length (fun k => us.getD k 0 * (row0 m os k).getD t 0) := by
  unfold withT
  rw [tot_pick]
  refine S_congr fun k _ => ?_
  rw [row0_thing ht]
  by_cases h : t ∈ (os.getD k default).1
  · rw [if_pos (decide_eq_true h), if_pos h]
  · rw [if_neg (fun z => h (of_decide_eq_true z)), if_neg h]
theorem tot_priced {os : List Of} {us : List Rat} (h : us.length = os.length) : tot (priced us os) = S os.length (fun k => us.getD k 0 * ((os.getD k default).2 : Rat)) := by
  have hl : (priced us os).length = os.length := by unfold priced; rw [List.length_zipWith, h]; omega
  rw [tot_S, hl]
  refine S_congr fun k hk => ?_
  rw [getD_lt (by omega), getD_lt (l := us) (by omega), getD_lt hk]
  unfold priced
  rw [List.getElem_zipWith]

/-! ### plain bearings and sharings -/
structure BearP (m : Nat) (os : List Of) (ys : List Rat) : Prop where
  len : ys.length = m
  nn : ∀ y ∈ ys, 0 ≤ y
  ok : ∀ o ∈ os, tot (sel ys o.1) ≤ (o.2 : Rat)
structure ShareP (m : Nat) (os : List Of) (us : List Rat) : Prop where
  len : us.length = os.length
  nn : ∀ u ∈ us, 0 ≤ u
  ok : ∀ t, t < m → 1 ≤ tot (sel us (withT os t))
theorem getD_nn {ys : List Rat} (h : ∀ y ∈ ys, 0 ≤ y) (t : Nat) : 0 ≤ ys.getD t 0 := by
  by_cases ht : t < ys.length
  · rw [getD_lt ht]; exact h _ (List.getElem_mem ht)
  · rw [getD_ge (by omega)]; exact Rat.le_refl
/-- a row by a bearing -/
theorem row_sum {m : Nat} {os : List Of} (G : Good m os) {k : Nat} (hk : k < os.length) (ys : List Rat) : tot (sel ys (os.getD k default).1) = S m (fun t => (row0 m os k).getD t 0 * ys.getD t 0) := by
  have hmem : os.getD k default ∈ os := by rw [getD_lt hk]; exact List.getElem_mem hk
  rw [tot_sel (up_nd (G.up _ hmem)) (G.lt _ hmem)]
  exact S_congr fun t ht => by rw [row0_thing ht]
/-- no bearing is worth more than a sharing costs -/
theorem weakP {m : Nat} {os : List Of} {ys us : List Rat} (G : Good m os) (B : BearP m os ys) (U : ShareP m os us) : tot ys ≤ tot (priced us os) := by
  rw [tot_S, B.len, tot_priced U.len]
  refine weak (A := fun k t => (row0 m os k).getD t 0) (fun t _ => getD_nn B.nn t) (fun k _ => getD_nn U.nn k) (fun k hk => ?_) (fun t ht => ?_)
  · rw [← row_sum G hk]
    exact B.ok _ (by rw [getD_lt hk]; exact List.getElem_mem hk)
  · rw [← tot_with ht]
    exact U.ok t ht

/-! ### the end of a table -/
theorem bear_get {m : Nat} {os : List Of} {L : LT} (M : Met m os L) {t : Nat} (ht : t < m) : (bearL m (m + os.length + 1) L).getD t 0 = val (shp m os) (tabOf L) t := by
  have hz : (L.heads.zip L.rows).length = os.length := by rw [List.length_zip, M.wf.hl, M.wf.rl]; omega
  have h : ∀ i, i ≤ os.length → ((((L.heads.zip L.rows).take i).foldl (bearS m (m + os.length + 1)) (List.replicate m 0)).length = m ∧
      (((L.heads.zip L.rows).take i).foldl (bearS m (m + os.length + 1)) (List.replicate m 0)).getD t 0 = S i (fun l => if (tabOf L).h l = t then (tabOf L).T l (m + os.length) else 0)) := by
    intro i
    induction i with
    | zero =>
      intro _
      refine ⟨by simp, ?_⟩
      rw [List.take_zero, List.foldl_nil, getD_lt (by simpa using ht), List.getElem_replicate]
      rfl
    | succ i ih =>
      intro hi
      obtain ⟨h1, h2⟩ := ih (by omega)
      have hi1 : i < L.heads.length := by rw [M.wf.hl]; omega
      have hi2 : i < L.rows.length := by rw [M.wf.rl]; omega
      have hq : (L.heads.zip L.rows)[i]? = some (L.heads[i], L.rows[i]) := by rw [List.getElem?_zip_eq_some]; exact ⟨List.getElem?_eq_getElem hi1, List.getElem?_eq_getElem hi2⟩
      have estep : ((L.heads.zip L.rows).take (i + 1)).foldl (bearS m (m + os.length + 1)) (List.replicate m 0) = bearS m (m + os.length + 1) (((L.heads.zip L.rows).take i).foldl (bearS m (m + os.length + 1)) (List.replicate m 0)) (L.heads[i], L.rows[i]) := by
        rw [List.take_add_one, hq]
        simp [List.foldl_append]
      rw [estep, bearS_len]
      refine ⟨h1, ?_⟩
      show _ = S i (fun l => if (tabOf L).h l = t then (tabOf L).T l (m + os.length) else 0) + (if (tabOf L).h i = t then (tabOf L).T i (m + os.length) else 0)
      rw [← h2]
      have eh : (tabOf L).h i = L.heads[i] := getD_lt hi1
      have eT : (tabOf L).T i (m + os.length) = L.rows[i].getD (m + os.length + 1 - 1) 0 := by
        show (L.rows.getD i []).getD (m + os.length) 0 = _
        rw [getD_lt hi2]
        rfl
      rw [eh, eT]
      clear estep ih
      generalize ((L.heads.zip L.rows).take i).foldl (bearS m (m + os.length + 1)) (List.replicate m 0) = fl at h1 h2 ⊢
      unfold bearS
      by_cases hm : L.heads[i] < m
      · rw [if_pos hm]
        by_cases he : L.heads[i] = t
        · rw [if_pos he]
          have hzero : fl.getD t 0 = 0 := by
            rw [h2]
            refine S_zero' fun l hl => if_neg fun z => ?_
            have := h_inj M.inv (i := l) (l := i) (by show l < os.length; omega) (by show i < os.length; omega) (by rw [z, eh, he])
            omega
          rw [hzero, getD_lt (l := fl.set _ _) (by rw [List.length_set, h1]; exact ht), List.getElem_set, if_pos he]
          grind
        · rw [if_neg he, getD_lt (l := fl.set _ _) (by rw [List.length_set, h1]; exact ht), List.getElem_set, if_neg he, getD_lt (l := fl) (by rw [h1]; exact ht)]
          grind
      · rw [if_neg hm, if_neg (by omega)]
        grind
  have := (h os.length (Nat.le_refl _)).2
  have e : (L.heads.zip L.rows).take os.length = L.heads.zip L.rows := List.take_of_length_le (by omega)
  rw [e] at this
  exact this
theorem bear_len {m W : Nat} {L : LT} : (bearL m W L).length = m := by
  unfold bearL
  have : ∀ (zs : List (Nat × List Rat)) (f : List Rat), (zs.foldl (bearS m W) f).length = f.length := by
    intro zs
    induction zs with
    | nil => intro f; rfl
    | cons z r ih => intro f; rw [List.foldl_cons, ih, bearS_len]
  rw [this, List.length_replicate]
theorem share_len {m : Nat} {os : List Of} {L : LT} (M : Met m os L) : (shareL m L).length = os.length := by
  unfold shareL
  rw [List.length_map, List.length_take, List.length_drop, M.wf.gl]
  omega
theorem share_get {m : Nat} {os : List Of} {L : LT} (M : Met m os L) {k : Nat} (hk : k < os.length) : (shareL m L).getD k 0 = - (tabOf L).g (m + k) := by
  rw [getD_lt (by rw [share_len M]; exact hk)]
  unfold shareL
  rw [List.getElem_map, List.getElem_take, List.getElem_drop]
  show _ = - L.goal.getD (m + k) 0
  rw [getD_lt (by rw [M.wf.gl]; omega)]
  grind
structure TightP (m : Nat) (os : List Of) (ys us : List Rat) : Prop where
  offer : ∀ k, k < os.length → 0 < us.getD k 0 → tot (sel ys (os.getD k default).1) = ((os.getD k default).2 : Rat)
  thing : ∀ t, t < m → 0 < ys.getD t 0 → tot (sel us (withT os t)) = 1
structure EndP (m : Nat) (os : List Of) (ys us : List Rat) : Prop where
  bear : BearP m os ys
  share : ShareP m os us
  same : tot ys = tot (priced us os)
  tight : TightP m os ys us
theorem end_plain {m : Nat} {os : List Of} {L : LT} (G : Good m os) (E : Ended m os L) : EndP m os (bearL m (m + os.length + 1) L) (shareL m L) := by
  have M := E.met
  have F := fulls G
  have hy : ∀ t, t < m → (bearL m (m + os.length + 1) L).getD t 0 = val (shp m os) (tabOf L) t := fun t ht => bear_get M ht
  have hu : ∀ k, k < os.length → (shareL m L).getD k 0 = - (tabOf L).g (m + k) := fun k hk => share_get M hk
  have hrow : ∀ k, k < os.length → tot (sel (bearL m (m + os.length + 1) L) (os.getD k default).1) = S m (fun t => (shp m os).A k t * val (shp m os) (tabOf L) t) := fun k hk => by
    rw [row_sum G hk]
    exact S_congr fun t ht => by rw [hy t ht]; rfl
  have hcol : ∀ t, t < m → tot (sel (shareL m L) (withT os t)) = S os.length (fun k => (- (tabOf L).g (m + k)) * (shp m os).A k t) := fun t ht => by
    rw [tot_with ht]
    exact S_congr fun k hk => by rw [hu k hk]; rfl
  have hprice : ∀ k, (shp m os).A k (shp m os).N = ((os.getD k default).2 : Rat) := fun k => row0_price
  refine ⟨⟨bear_len, fun y hmem => ?_, fun o ho => ?_⟩, ⟨share_len M, fun u hmem => ?_, fun t ht => ?_⟩, ?_, ⟨fun k hk hpos => ?_, fun t ht hpos => ?_⟩⟩
  · obtain ⟨t, ht, rfl⟩ := List.mem_iff_getElem.1 hmem
    have htm : t < m := by rw [bear_len] at ht; exact ht
    rw [← getD_lt (d := 0) ht, hy t htm]
    exact val_nn M.inv t
  · obtain ⟨k, hk, e⟩ := List.mem_iff_getElem.1 ho
    have e2 : os.getD k default = o := by rw [getD_lt hk, e]
    have h1 := hrow k hk
    have h2 := val_row M.inv (k := k) hk
    rw [hprice] at h2
    rw [e2] at h1 h2
    have h3 := val_nn M.inv ((shp m os).m + k)
    rw [h1, h2]
    show S m _ ≤ S m _ + _
    grind
  · obtain ⟨k, hk, rfl⟩ := List.mem_iff_getElem.1 hmem
    have hkn : k < os.length := by rw [share_len M] at hk; exact hk
    rw [← getD_lt (d := 0) hk, hu k hkn]
    have := E.le (m + k) (by omega)
    have h2 : (tabOf L).g (m + k) ≤ 0 := this
    grind
  · rw [hcol t ht]
    have h1 := share_thing F M.inv (t := t) ht
    have h2 : (tabOf L).g t ≤ 0 := E.le t (by omega)
    show 1 ≤ S os.length _
    have h3 : S os.length (fun k => (- (tabOf L).g (m + k)) * (shp m os).A k t) = 1 - (tabOf L).g t := h1
    rw [h3]
    grind
  · rw [tot_priced (share_len M), tot_S, bear_len, S_congr (g := val (shp m os) (tabOf L)) (fun t ht => hy t ht)]
    have h1 : S m (val (shp m os) (tabOf L)) = - (tabOf L).g (m + os.length) := val_worth F M.inv
    have h2 : S os.length (fun k => (- (tabOf L).g (m + k)) * (shp m os).A k (shp m os).N) = - (tabOf L).g (m + os.length) := share_price M.inv
    rw [h1, ← h2]
    exact S_congr fun k hk => by rw [hu k hk, hprice]
  · rw [hrow k hk]
    rw [hu k hk] at hpos
    have h := tight_offer M.inv (k := k) hk hpos
    rw [hprice] at h
    exact h
  · rw [hcol t ht]
    rw [hy t ht] at hpos
    exact tight_thing F M.inv (t := t) ht hpos

/-! ### sizes of sums -/
def Fine (q : Rat) : Prop := q.den ≤ 2 ^ 511 ∧ q.num.natAbs ≤ 2 ^ 1000
theorem num_add_le (p q : Rat) : (p + q).num.natAbs ≤ p.num.natAbs * q.den + q.num.natAbs * p.den := by
  rw [Rat.num_add]
  refine Nat.le_trans (Int.natAbs_ediv_le_natAbs _ _) ?_
  refine Nat.le_trans (Int.natAbs_add_le _ _) ?_
  rw [Int.natAbs_mul, Int.natAbs_mul, Int.natAbs_natCast, Int.natAbs_natCast]
  exact Nat.le_refl _
theorem den_add_le (p q : Rat) : (p + q).den ≤ p.den * q.den := by
  rw [Rat.den_add]
  exact Nat.div_le_self _ _
theorem part_size {qs : List Rat} (h : ∀ q ∈ qs, Fine q) : ∀ i, i ≤ qs.length → (tot (qs.take i)).den ≤ 2 ^ (511 * i) ∧ (tot (qs.take i)).num.natAbs ≤ 2 ^ (1600 * i) := by
  intro i
  induction i with
  | zero => intro _; rw [List.take_zero, tot_nil]; exact ⟨Nat.le_refl _, Nat.zero_le _⟩
  | succ i ih =>
    intro hi
    obtain ⟨h1, h2⟩ := ih (by omega)
    have hq := List.getElem?_eq_getElem (show i < qs.length by omega)
    rw [tot_take hq]
    obtain ⟨f1, f2⟩ := h _ (List.getElem_mem (show i < qs.length by omega))
    generalize tot (qs.take i) = p at h1 h2
    generalize qs[i] = q at f1 f2
    constructor
    · refine Nat.le_trans (den_add_le p q) (Nat.le_trans (Nat.mul_le_mul h1 f1) ?_)
      rw [← Nat.pow_add]
      exact Nat.pow_le_pow_right (by decide) (by omega)
    · refine Nat.le_trans (num_add_le p q) ?_
      have a1 : p.num.natAbs * q.den ≤ 2 ^ (1600 * i + 1599) := Nat.le_trans (Nat.mul_le_mul h2 f1) (by rw [← Nat.pow_add]; exact Nat.pow_le_pow_right (by decide) (by omega))
      have a2 : q.num.natAbs * p.den ≤ 2 ^ (1600 * i + 1599) := Nat.le_trans (Nat.mul_le_mul f2 h1) (by rw [← Nat.pow_add]; exact Nat.pow_le_pow_right (by decide) (by omega))
      have e : 2 ^ (1600 * (i + 1)) = 2 ^ (1600 * i + 1599) + 2 ^ (1600 * i + 1599) := by
        rw [show 1600 * (i + 1) = 1600 * i + 1599 + 1 by omega, Nat.pow_succ]; omega
      omega
theorem Fine.sz {q : Rat} (h : Fine q) : Sz q := ⟨Nat.lt_of_le_of_lt h.2 (Nat.pow_lt_pow_right (by decide) (by decide)), Nat.lt_of_le_of_lt h.1 (Nat.pow_lt_pow_right (by decide) (by decide))⟩
theorem tots_of {qs : List Rat} (h : ∀ q ∈ qs, Fine q) (hl : qs.length ≤ 10) : Tots qs ∧ Sz (tot qs) := by
  have szp : ∀ i, i ≤ qs.length → Sz (tot (qs.take i)) := fun i hi => by
    obtain ⟨h1, h2⟩ := part_size h i hi
    exact ⟨Nat.lt_of_le_of_lt h2 (Nat.pow_lt_pow_right (by decide) (by omega)), Nat.lt_of_le_of_lt h1 (Nat.pow_lt_pow_right (by decide) (by omega))⟩
  refine ⟨fun i q hq => ?_, ?_⟩
  · have hi : i < qs.length := (List.getElem?_eq_some_iff.1 hq).1
    have hf := h q (List.mem_of_getElem? hq)
    refine ⟨szp i (by omega), hf.sz, ?_⟩
    refine Nat.lt_of_le_of_lt (Nat.mul_le_mul (part_size h i (by omega)).1 hf.1) ?_
    rw [← Nat.pow_add]
    exact Nat.pow_lt_pow_right (by decide) (by omega)
  · have := szp qs.length (Nat.le_refl _)
    rwa [List.take_length] at this
theorem fine_zero : Fine 0 := ⟨Nat.one_le_two_pow, Nat.zero_le _⟩
theorem fine_getD {ys : List Rat} (h : ∀ y ∈ ys, Fine y) (t : Nat) : Fine (ys.getD t 0) := by
  by_cases ht : t < ys.length
  · rw [getD_lt ht]; exact h _ (List.getElem_mem ht)
  · rw [getD_ge (by omega)]; exact fine_zero
theorem fine_sel {ys : List Rat} (h : ∀ y ∈ ys, Fine y) (ts : List Nat) : ∀ q ∈ sel ys ts, Fine q := fun q hq => by
  obtain ⟨t, _, rfl⟩ := List.mem_map.1 hq
  exact fine_getD h t
theorem sel_len (ys : List Rat) (ts : List Nat) : (sel ys ts).length = ts.length := List.length_map _
theorem bear_of {m : Nat} {os : List Of} {ys : List Rat} (G : Good m os) (B : BearP m os ys) (h : ∀ y ∈ ys, Fine y) : Bear m os ys :=
  ⟨B.len, B.nn, B.ok, fun o ho => tots_of (fine_sel h _) (by rw [sel_len]; exact (good_ten G o ho).1), (tots_of h (by rw [B.len]; exact G.m10)).1⟩
theorem bear_sz {m : Nat} {os : List Of} {ys : List Rat} (G : Good m os) (B : BearP m os ys) (h : ∀ y ∈ ys, Fine y) : Sz (tot ys) := (tots_of h (by rw [B.len]; exact G.m10)).2
/-- a share: a little less than fine -/
def Fair (q : Rat) : Prop := q.den ≤ 2 ^ 511 ∧ q.num.natAbs ≤ 2 ^ 900
theorem Fair.fine {q : Rat} (h : Fair q) : Fine q := ⟨h.1, Nat.le_trans h.2 (Nat.pow_le_pow_right (by decide) (by decide))⟩
theorem fine_priced {m : Nat} {os : List Of} {us : List Rat} (G : Good m os) (h : ∀ u ∈ us, Fair u) : ∀ q ∈ priced us os, Fine q := fun q hq => by
  obtain ⟨i, hi, e⟩ := List.mem_iff_getElem.1 hq
  unfold priced at e hi
  rw [List.length_zipWith] at hi
  rw [List.getElem_zipWith] at e
  subst e
  have hu := h _ (List.getElem_mem (show i < us.length by omega))
  have hp := G.p2 _ (List.getElem_mem (show i < os.length by omega))
  generalize us[i] = u at hu
  generalize os[i] = o at hp
  refine ⟨Nat.le_trans (den_mul_le _ _) ?_, Nat.le_trans (num_mul_le _ _) ?_⟩
  · rw [Rat.den_natCast, Nat.mul_one]; exact hu.1
  · rw [Rat.num_natCast, Int.natAbs_natCast]
    refine Nat.le_trans (Nat.mul_le_mul hu.2 hp) ?_
    rw [← Nat.pow_add]
    exact Nat.pow_le_pow_right (by decide) (by decide)
theorem share_of {m : Nat} {os : List Of} {us : List Rat} (G : Good m os) (U : ShareP m os us) (h : ∀ u ∈ us, Fair u) : Share m os us :=
  ⟨U.len, U.nn, U.ok, fun t ht => tots_of (fine_sel (fun u hu => (h u hu).fine) _) (by rw [sel_len]; exact Nat.le_trans (withT_len os t) G.n10),
    fun u hu => ⟨(h u hu).fine.sz, Nat.lt_of_le_of_lt (h u hu).1 (Nat.pow_lt_pow_right (by decide) (by decide))⟩,
    (tots_of (fine_priced G h) (by unfold priced; rw [List.length_zipWith, U.len]; have := G.n10; omega)).1⟩
theorem share_sz {m : Nat} {os : List Of} {us : List Rat} (G : Good m os) (U : ShareP m os us) (h : ∀ u ∈ us, Fair u) : Sz (tot (priced us os)) :=
  (tots_of (fine_priced G h) (by unfold priced; rw [List.length_zipWith, U.len]; have := G.n10; omega)).2
theorem end_fine {m : Nat} {os : List Of} {L : LT} (G : Good m os) (E : Ended m os L) : (∀ y ∈ bearL m (m + os.length + 1) L, Fine y) ∧ ∀ u ∈ shareL m L, Fair u := by
  have M := E.met
  constructor
  · intro y hmem
    obtain ⟨t, ht, rfl⟩ := List.mem_iff_getElem.1 hmem
    have htm : t < m := by rw [bear_len] at ht; exact ht
    rw [← getD_lt (d := 0) ht, bear_get M htm]
    by_cases h : Heads (shp m os) (tabOf L) t
    · obtain ⟨i, hi, e⟩ := h
      rw [← e, val_head M.inv hi]
      have := ent_size G M (i := i) (j := m + os.length) hi (Nat.le_refl _)
      exact ⟨this.1, Nat.le_trans this.2 (Nat.pow_le_pow_right (by decide) (by decide))⟩
    · rw [val_none h]; exact fine_zero
  · intro u hmem
    obtain ⟨k, hk, rfl⟩ := List.mem_iff_getElem.1 hmem
    have hkn : k < os.length := by rw [share_len M] at hk; exact hk
    rw [← getD_lt (d := 0) hk, share_get M hkn]
    have := share_size G M hkn
    exact ⟨this.1, Nat.le_trans this.2 (Nat.pow_le_pow_right (by decide) (by decide))⟩
end K34
set_option Elab.async false
set_option linter.all false
set_option maxRecDepth 100000
/-! == of a list and an empty one; != of a list of ints and an empty one -/
namespace KR
open PySem PySem.Spec PyProof.Rows L2 RZ
section
variable {X : Cx}
def rEqNil : R2 := fun x y H Q => ∃ (a b : Addr) (xs : List V), x = .ref a ∧ y = .ref b ∧ H a = some (.lst xs) ∧ H b = some (.lst []) ∧ Q (.bl xs.isEmpty) H
theorem op_eqNil (hu : X.A.units + 1 < cLine) : OpR X (compareOp .Eq) rEqNil := by
  intro pins s σ H x y v u Q I rx ry h
  obtain ⟨a, b, xs, rfl, rfl, ha, hb, q⟩ := h
  cases rx
  cases ry
  obtain ⟨z, its, n, r, hl, e⟩ := I.lstM ha
  obtain ⟨z2, its2, n2, r2, hl2, e2⟩ := I.lstM hb
  have h2 : its2 = [] := by
    cases its2 with
    | nil => rfl
    | cons x r => simp at hl2
  subst h2
  have hlen : xs.length = its.length := r.length
  cases xs with
  | nil =>
    have h1 : its = [] := by
      cases its with
      | nil => rfl
      | cons x r => simp at hlen
    subst h1
    exact PySem.P.eq_list (e := fun _ => true) e e2 rfl (fun j h1 _ => absurd h1 (Nat.not_lt_zero j)) (by omega) ⟨.bl true, H, I, rfl, q⟩
  | cons x0 xr =>
    refine PySem.P.eq_list_lengths e e2 ?_ (by omega) ⟨.bl false, H, I, rfl, q⟩
    have : its.length ≠ 0 := by rw [← hlen]; simp
    simp
    intro z
    rw [z] at this
    exact this rfl
theorem canLay_ints : ∀ ns : List Int, PyData.canLayAll0 (ns.map PyData.int) = true
  | [] => rfl
  | n :: r => by
    show (PyData.canLay0 (.int n) && PyData.canLayAll0 (r.map PyData.int)) = true
    rw [canLay_ints r]
    rfl
theorem depth_ints : ∀ ns : List Int, PyData.depthAll (ns.map PyData.int) = 0
  | [] => rfl
  | n :: r => by
    show max (PyData.depth (.int n)) (PyData.depthAll (r.map PyData.int)) = 0
    rw [depth_ints r]
    rfl
theorem dp_ints {K : PySem.W.Frag} {H : Hp} : ∀ ns : List Int, DpAll K H (ns.map V.int) (ns.map PyData.int)
  | [] => .nil
  | n :: r => .cons (.int n) (dp_ints r)
theorem neNil {K : PySem.W.Frag} {H : Hp} {a b : Addr} {ns : List Int} {Q : VK} (ha : SqL K H a (ns.map V.int)) (hb : SqL K H b []) (k : Q (.bl (!ns.isEmpty)) H) : rNeD K (.ref a) (.ref b) H Q := by
  refine ⟨_, _, .lst ha (dp_ints ns), .lst hb .nil, ?_, rfl, ?_⟩
  · unfold SeqAt.shaped
    show (PyData.canLayAll0 (ns.map PyData.int) && decide (PyData.depthAll (ns.map PyData.int) + 1 ≤ 64)) = true
    rw [canLay_ints, depth_ints]
    rfl
  · have e : PyData.eqv (.list (ns.map PyData.int)) (.list []) = ns.isEmpty := by
      cases ns <;> rfl
    rw [e]
    exact k
end
end KR
set_option Elab.async false
set_option linter.all false
set_option maxRecDepth 100000
set_option exponentiation.threshold 200000
/-! the walk: the law's boxes -/
namespace K34
open PySem PySem.Spec PyProof.Rows L2
section
variable {P : Program} {w : World} {K : PySem.W.Frag} {mg : Str → Option Value} {base : Heap}
def spCell (K : PySem.W.Frag) : Sp := fun vs H Q _ => ∃ (a : Addr) (ns : List Int) (k : Nat), vs = [.ref a, .int (k : Int)] ∧ SqL K H a (ns.map V.int) ∧ ∀ i : Int, Q (.int i) H
theorem c_law_cell (D : Df K mg "_law_cell" "_law_cell" t_law_cell ["script", "k"]) (B : Bi mg) : Cal P w K mg base 1 "_law_cell" ["script", "k"] (spCell K) := by
  obtain ⟨f, fd, F, g, b⟩ := D.ex
  refine ⟨f, fd, F.ok s_law_cell (fun vs H Q E h => ?_) (fun cdv A outer s H vs Q E hr h => ?_), g, F.kp, b⟩
  · obtain ⟨_, _, _, rfl, _⟩ := h
    rfl
  · obtain ⟨a, ns, k, rfl, ha, q⟩ := h
    refine ⟨_, pss_cons (ps_if (pt_cmpR op_lt (pv 1) (pe_callB call_len_seq (by rfl) B.len PySem.boot_len (pa_cons (pv 0) pa_nil)) (nomark _)) (pss_one (ps_ret (pe_ix ix_list (pv 0) (pv 1) (fun _ _ => rfl)))) pss_nil)
      (pss_one (ps_ret (pe_op op_add (pe_op op_mul pe_int (pv 1)) pe_int))), ?_⟩
    refine ⟨_, rfl, _, rfl, a, _, rfl, .inl ha, _, _, rfl, rfl, _, rfl, ite2 (fun e => ?_) (fun e => ?_)⟩
    · have hk : k < ns.length := by have := of_decide_eq_true e; rw [List.length_map] at this; omega
      refine ⟨_, rfl, _, rfl, a, _, _, _, rfl, rfl, ha, atI_nat (v := .int ns[k]) (by rw [List.getElem?_map, List.getElem?_eq_getElem hk]; rfl), q _⟩
    · exact ⟨_, rfl, _, _, rfl, rfl, .inl ⟨by decide, by decide⟩, _, _, rfl, rfl, q _⟩
/-- a new box with some number -/
def spBox (K : PySem.W.Frag) : Sp := fun vs H Q _ => ∃ (a : Addr) (ns : List Int) (k : Nat), vs = [.ref a, .int (k : Int)] ∧ k < 1000 ∧ SqL K H a (ns.map V.int) ∧ ∀ p H' (n : Int), Same H H' → H p = none → H' p = some (.lst [.int n]) → Q (.ref p) H'
theorem c_law_box (D : Df K mg "_law_box" "_law_box" t_law_box ["script", "k"]) (B : Bi mg) (C : Cal P w K mg base 1 "_law_cell" ["script", "k"] (spCell K)) : Cal P w K mg base 2 "_law_box" ["script", "k"] (spBox K) := by
  obtain ⟨f, fd, F, g, b⟩ := D.ex
  obtain ⟨f1, d1, G1, g1, k1, b1⟩ := C.ex
  refine ⟨f, fd, F.ok s_law_box (fun vs H Q E h => ?_) (fun cdv A outer s H vs Q E hr h => ?_), g, F.kp, b⟩
  · obtain ⟨_, _, _, rfl, _⟩ := h
    rfl
  · obtain ⟨a, ns, k, rfl, hk, ha, q⟩ := h
    refine ⟨_, pss_cons (ps_set (i := 2) s_law_box.nd rfl (.inl rfl) (pe_call G1 hr (by rfl) g1 k1 b1 .nil pass0 (pa_cons (pv 0) (pa_cons (pv 1) pa_nil))))
      (pss_cons (ps_if (pt_cmpR op_eq (pe_op op_modN (pv 2) pe_int) pe_int (nomark _)) (pss_one (ps_ret (pe_lst (pa_cons (pe_op op_fdivW (pv 2) pe_int) pa_nil)))) pss_nil)
      (pss_cons (ps_set (i := 3) s_law_box.nd rfl (.inl rfl) pe_int)
      (pss_cons (ps_set (i := 4) s_law_box.nd rfl (.inl rfl) (pe_op op_modN (pv 2) pe_int))
      (pss_cons (ps_for PassesOwn.never rfl (pi_range1 (by rfl) B.range (pa_cons pe_int pa_nil)) (pg_name (i := 5) s_law_box.nd rfl (.inl rfl))
        (pss_cons (ps_set (i := 4) s_law_box.nd rfl (.inl rfl) (pe_op op_modN (pe_op op_add (pe_op op_add (pe_op op_add (pe_op op_mul (pv 4) pe_int) (pe_op op_mul (pe_op op_mul pe_int (pv 5)) (pv 5))) (pe_op op_mul pe_int (pv 1))) pe_int) pe_int))
        (pss_one (ps_set (i := 3) s_law_box.nd rfl (.inl rfl) (pe_op op_add (pe_op op_mul (pv 3) pe_int) (pv 4))))))
      (pss_one (ps_ret (pe_lst (pa_cons (pv 3) pa_nil)))))))), ?_⟩
    refine ⟨_, rfl, _, rfl, a, ns, k, rfl, ha, fun cell => ?_⟩
    refine ⟨_, rfl, cell, 2, rfl, rfl, (show (2 : Int) ≠ 0 by decide), rfl, _, rfl, ite2 (fun e => ?_) (fun e => ?_)⟩
    · exact ⟨_, rfl, cell, 2, rfl, rfl, wide_div (b := 2) (by decide) (by decide) (by decide) (by decide), by show 1 ≤ sizeLine; decide, fun p hp => q p _ _ (same_upd hp) hp upd_same⟩
    · refine ⟨_, rfl, cell, 2147483647, rfl, rfl, (show (2147483647 : Int) ≠ 0 by decide), ?_⟩
      refine ⟨24, rfl, by decide, by decide, for_it walk_range0 (fun i σ H' => ∃ (num mix : Int) (y : Option V), σ = [some (.ref a), some (.int (k : Int)), some (.int cell), some (.int num), some (.int mix), y] ∧ H' = H) ⟨_, _, none, rfl, rfl⟩ (fun _ _ _ _ _ => trivial) (fun i x σ H' H'' hi h hy => ?_) (fun σ H' h => ?_)⟩
      · obtain ⟨num, mix, y, rfl, rfl⟩ := h
        obtain ⟨rfl, rfl⟩ := hy
        have hi24 : i < 24 := hi
        refine ⟨_, rfl, mix, 48271, rfl, rfl, .inr ⟨by decide, by decide⟩, _, rfl, 7, _, rfl, rfl, .inl ⟨by decide, by decide⟩, _, rfl, _, _, rfl, rfl, .inl ⟨by omega, by omega⟩, _, _, rfl, rfl, _, rfl, 11, _, rfl, rfl, .inl ⟨by decide, by decide⟩, _, _, rfl, rfl, _, _, rfl, rfl, _, _, rfl, rfl, (show (2147483647 : Int) ≠ 0 by decide), ?_⟩
        exact ⟨_, rfl, num, 2147483647, rfl, rfl, .inr ⟨by decide, by decide⟩, _, rfl, _, _, rfl, rfl, _, _, _, rfl, rfl⟩
      · obtain ⟨num, mix, y, rfl, rfl⟩ := h
        exact ⟨_, rfl, by show 1 ≤ sizeLine; decide, fun p hp => q p _ _ (same_upd hp) hp upd_same⟩
/-- a box at b -/
def BoxA (H : Hp) (b : Addr) : Prop := ∃ n : Int, H b = some (.lst [.int n])
def spTake : Sp := fun vs H Q _ => ∃ (b : Addr) (k : Int), vs = [.ref b, .int k] ∧ BoxA H b ∧ 0 < k ∧ k < 2 ^ 64 ∧ ∀ (d : Int) H', 0 ≤ d → d < k → But b H H' → BoxA H' b → Q (.int d) H'
theorem c_law_take (D : Df K mg "_law_take" "_law_take" t_law_take ["box", "many"]) : Cal P w K mg base 1 "_law_take" ["box", "many"] spTake := by
  obtain ⟨f, fd, F, g, b⟩ := D.ex
  refine ⟨f, fd, F.ok s_law_take (fun vs H Q E h => ?_) (fun cdv A outer s H vs Q E hr h => ?_), g, F.kp, b⟩
  · obtain ⟨_, _, rfl, _⟩ := h
    rfl
  · obtain ⟨b, k, rfl, ⟨n, hb⟩, hk, hk2, q⟩ := h
    refine ⟨_, pss_cons (ps_set (i := 2) s_law_take.nd rfl (.inl rfl) (pe_op op_modN (pvl 0) (pv 1)))
      (pss_cons (ps_asg (pe_op op_fdivW (pvl 0) (pv 1)) (pg_sub (pv 0) pe_int set_list))
      (pss_one (ps_ret (pv 2)))), ?_⟩
    have hd : CDivW n k := wide_div (b := 64) hk (by omega) (by decide) (by decide)
    refine ⟨_, rfl, b, _, 0, _, rfl, rfl, .of hb, at0, _, rfl, n, k, rfl, rfl, by omega, ?_⟩
    refine ⟨_, rfl, b, _, 0, _, rfl, rfl, .of hb, at0, _, rfl, n, k, rfl, rfl, hd, _, rfl, b, _, 0, 0, rfl, rfl, hb, rfl, ?_⟩
    exact ⟨_, rfl, q _ _ (Int.fmod_nonneg_of_pos n hk) (Int.fmod_lt_of_pos n hk) but_upd ⟨_, upd_same⟩⟩

/-! ### things -/
/-- some things below m: rising, one at least -/
structure Ths (m : Nat) (ts : List Nat) : Prop where
  up : ts.Pairwise (· < ·)
  lt : ∀ t ∈ ts, t < m
  ne : ts ≠ []
theorem bit_and (x : Nat) : Builtin.bitAnd (x : Int) 1 = ((x % 2 : Nat) : Int) := by
  unfold Builtin.bitAnd
  rw [decide_eq_true (by omega), decide_eq_true (by decide)]
  show (((x : Int).toNat &&& (1 : Int).toNat : Nat) : Int) = _
  rw [Int.toNat_natCast, show (1 : Int).toNat = 1 from rfl, Nat.and_one_is_mod]
theorem shr_nat (x t : Nat) : (x : Int) / 2 ^ ((t : Int).toNat) = ((x / 2 ^ t : Nat) : Int) := by
  rw [Int.toNat_natCast, Int.natCast_ediv, Int.natCast_pow]
  rfl
theorem some_bit : ∀ (m x : Nat), 0 < x → x < 2 ^ m → ∃ t, t < m ∧ x / 2 ^ t % 2 = 1
  | 0, x, h, hx => by simp at hx; omega
  | m + 1, x, h, hx => by
    by_cases e : x % 2 = 1
    · exact ⟨0, by omega, by simpa using e⟩
    · obtain ⟨t, ht, hb⟩ := some_bit m (x / 2) (by omega) (by rw [Nat.pow_succ] at hx; omega)
      refine ⟨t + 1, by omega, ?_⟩
      rw [Nat.pow_succ, Nat.mul_comm, ← Nat.div_div_eq_div_mul]
      exact hb
/-- the bits of a number below 2 ^ m as things -/
def bitsT (m x : Nat) : List Nat := pick m (fun t => decide (x / 2 ^ t % 2 = 1)) id
theorem ths_bits {m x : Nat} (h : 0 < x) (hx : x < 2 ^ m) : Ths m (bitsT m x) := by
  unfold bitsT pick
  rw [List.map_id]
  refine ⟨List.Pairwise.filter _ List.pairwise_lt_range, fun t ht => List.mem_range.1 (List.mem_filter.1 ht).1, fun e => ?_⟩
  obtain ⟨t, ht, hb⟩ := some_bit m x h hx
  have : t ∈ (List.range m).filter (fun t => decide (x / 2 ^ t % 2 = 1)) := List.mem_filter.2 ⟨List.mem_range.2 ht, decide_eq_true hb⟩
  rw [e] at this
  cases this
/-- tuple(sorted(set(l))) -/
theorem tss {K : PySem.W.Frag} {w : World} {H : Hp} {l : Addr} {fs : List Nat} {Q : VK} (hf : H l = some (.lst (iv fs))) (hz : fs.length ≤ 1000) (h63 : ∀ t ∈ fs, t < 63) (k : ∀ r H' ts, Same H H' → ThA K H' r ts → ts.Pairwise (· < ·) → (∀ t, t ∈ ts ↔ t ∈ fs) → Q (.ref r) H') :
    KR.rSetL K w [.ref l] H fun v H1 => rSortedSet w [v] H1 fun v2 H2 => ∃ p ys, [v2] = [V.ref p] ∧ ((SqL K H2 p ys ∧ ∀ l, H2 l = none → Q (.ref l) (upd H2 l (.tup ys))) ∨ (SqT K H2 p ys ∧ Q (.ref p) H2)) := by
  rw [iv_ints] at hf
  refine ⟨l, _, rfl, .of hf, by rw [List.length_map]; exact hz, fun q S n hq hS hn => ?_⟩
  refine ⟨q, S, n, rfl, upd_same, ?_, fun ns p hu hmem hl2 hp => ?_⟩
  · have := hn 63 fun k hk => by
      obtain ⟨t, ht, rfl⟩ := List.mem_map.1 hk
      have := h63 t ht
      omega
    omega
  · have h0 : ∀ k ∈ ns, 0 ≤ k := fun k hk => by
      obtain ⟨t, ht, rfl⟩ := List.mem_map.1 ((hS k).1 ((hmem k).1 hk))
      omega
    have s1 : Same H (upd (upd H q (SetO w q S n)) p (.lst (ns.map V.int))) := (same_upd hq).trans (same_upd hp)
    refine ⟨p, _, rfl, .inl ⟨.of upd_same, fun r hr => ?_⟩⟩
    refine k r _ (ns.map Int.toNat) (s1.trans (same_upd hr)) ?_ ?_ fun t => ?_
    · show SqT _ _ _ (iv (ns.map Int.toNat))
      rw [iv_toNat h0]
      exact .of upd_same
    · refine List.pairwise_map.2 (hu.imp_of_mem fun {x y} hx hy hxy => ?_)
      have := h0 x hx
      have := h0 y hy
      omega
    · rw [List.mem_map]
      constructor
      · rintro ⟨k', hk', rfl⟩
        obtain ⟨t, ht, rfl⟩ := List.mem_map.1 ((hS k').1 ((hmem k').1 hk'))
        exact ht
      · intro ht
        exact ⟨(t : Int), (hmem _).2 ((hS _).2 (List.mem_map.2 ⟨t, ht, rfl⟩)), rfl⟩
def spThs (K : PySem.W.Frag) : Sp := fun vs H Q _ => ∃ (b : Addr) (m : Nat), vs = [.ref b, .int (m : Int)] ∧ BoxA H b ∧ 1 ≤ m ∧ m ≤ 10 ∧ ∀ a H' ts, But b H H' → BoxA H' b → ThA K H' a ts → Ths m ts → Q (.ref a) H'
theorem BoxA.of_same {H H' : Hp} {b : Addr} (h : BoxA H b) (s : Same H H') : BoxA H' b := let ⟨n, h⟩ := h; ⟨n, s _ _ h⟩
theorem c_law_things (D : Df K mg "_law_things" "_law_things" t_law_things ["box", "many"]) (B : Bi mg) (C : Cal P w K mg base 1 "_law_take" ["box", "many"] spTake) : Cal P w K mg base 2 "_law_things" ["box", "many"] (spThs K) := by
  obtain ⟨f, fd, F, g, b⟩ := D.ex
  obtain ⟨f1, d1, G1, g1, k1, b1⟩ := C.ex
  refine ⟨f, fd, F.ok s_law_things (fun vs H Q E h => ?_) (fun cdv A outer s H vs Q E hr h => ?_), g, F.kp, b⟩
  · obtain ⟨_, _, rfl, _⟩ := h
    rfl
  · obtain ⟨b, m, rfl, hb, hm1, hm10, q⟩ := h
    refine ⟨_, pss_cons (ps_set (i := 2) s_law_things.nd rfl (.inl rfl) (pe_call G1 hr (by rfl) g1 k1 b1 .nil pass0 (pa_cons (pv 0) (pa_cons pe_int pa_nil))))
      (pss_cons (ps_if (pt_cmpR op_eq (pv 2) pe_int (nomark _))
        (pss_cons (ps_set (i := 3) s_law_things.nd rfl (.inr rfl) (pe_op op_add pe_int (pe_call G1 hr (by rfl) g1 k1 b1 .nil pass0 (pa_cons (pv 0) (pa_cons (pe_op op_sub (pe_op op_shl pe_int (pv 1)) pe_int) pa_nil)))))
        (pss_one (ps_ret (pe_callTy call_tuple_of (by rfl) B.tuple (by decide +kernel) (pa_cons (pe_lc (own := [("thing", 6)]) (g := gName 6)
          (tt := tTest (tOp rEq (tOp (rI0 fun i j => .int (Builtin.bitAnd i j)) (tOp (rI (fun _ j => 0 ≤ j) fun i j => .int (i / 2 ^ j.toNat)) (tVar 3) (tVar 6)) (tC (.int 1))) (tC (.int 1)))) (te := tVar 6) rfl s_law_things.nd
          (pi_range1 (by rfl) B.range (pa_cons (pv 1) pa_nil)) (blkOk_by (N := n_law_things) (sc := defScope t_law_things) (by decide +kernel)) (fun _ _ _ _ _ => pg_name (i := 6) s_law_things.nd rfl (Or.inl rfl))
          (fun _ _ _ _ _ => pts_one (pt_cmpR op_eq (pe_op op_and (pe_op op_shr (pv 3) (pv 6)) pe_int) pe_int (nomark _))) (fun _ _ _ _ _ => pv 6)) pa_nil))))) pss_nil)
      (pss_cons (ps_asg (pe_tup (pa_cons (pe_call G1 hr (by rfl) g1 k1 b1 .nil pass0 (pa_cons (pv 0) (pa_cons (pv 1) pa_nil))) (pa_cons (pe_ix ix_list (pe_lst (pa_cons pe_int (pa_cons (pe_op op_add pe_int (pe_call G1 hr (by rfl) g1 k1 b1 .nil pass0 (pa_cons (pv 0) (pa_cons pe_int pa_nil)))) pa_nil))) (pe_op op_sub (pv 2) pe_int) (fun _ _ => rfl)) pa_nil)))
          (pg_tup rfl (pgs_cons (pg_name (i := 4) s_law_things.nd rfl (.inr rfl)) (pgs_cons (pg_name (i := 5) s_law_things.nd rfl (.inr rfl)) pgs_nil))))
      (pss_one (ps_ret (pe_callTy call_tuple_of (by rfl) B.tuple (by decide +kernel) (pa_cons (pe_callB (cr_sortedSet rfl) (by rfl) B.sorted (by decide +kernel) (pa_cons (pe_callTy (KR.cr_setL rfl) (by rfl) B.set (by decide +kernel) (pa_cons
        (pe_lc (own := [("k", 7)]) (g := gName 7) (tt := tYes) (te := tOp (rI (fun _ j => j ≠ 0) fun i j => .int (i.fmod j)) (tOp (rI0 fun i j => .int (i + j)) (tVar 4) (tOp (rI CMul fun i j => .int (i * j)) (tVar 5) (tVar 7))) (tVar 1)) rfl s_law_things.nd
          (pi_range1 (by rfl) B.range (pa_cons (pe_op op_add pe_int (pe_call G1 hr (by rfl) g1 k1 b1 .nil pass0 (pa_cons (pv 0) (pa_cons pe_int pa_nil)))) pa_nil)) (blkOk_by (N := n_law_things) (sc := defScope t_law_things) (by decide +kernel)) (fun _ _ _ _ _ => pg_name (i := 7) s_law_things.nd rfl (Or.inl rfl)) (fun _ _ _ _ _ => pts_nil)
          (fun _ _ _ _ _ => pe_op op_modN (pe_op op_add (pv 4) (pe_op op_mul (pv 5) (pv 7))) (pv 1))) pa_nil)) pa_nil)) pa_nil)))))), ?_⟩
    refine ⟨_, rfl, b, 3, rfl, hb, by decide, by decide, fun way H1 w0 w3 u1 hb1 => ?_⟩
    refine ⟨_, rfl, rfl, _, rfl, ite2 (fun e => ?_) (fun e => ?_)⟩
    · -- bits
      have hp1 : (1 : Nat) ≤ 2 ^ m := Nat.one_le_two_pow
      have hp2 : 2 ^ m ≤ 2 ^ 10 := Nat.pow_le_pow_right (by decide) hm10
      have hp3 : 2 ^ 1 ≤ 2 ^ m := Nat.pow_le_pow_right (by decide) hm1
      have e2 : (1 : Int) * 2 ^ ((m : Int)).toNat - 1 = ((2 ^ m - 1 : Nat) : Int) := by
        rw [Int.toNat_natCast, Int.one_mul, Int.natCast_sub hp1, Int.natCast_pow]; rfl
      refine ⟨_, rfl, _, rfl, 1, m, rfl, rfl, ⟨by omega, by omega, by decide⟩, _, 1, rfl, rfl, b, _, rfl, hb1, ?_, ?_, fun d H2 d0 d1 u2 hb2 => ?_⟩
      · rw [e2]; omega
      · rw [e2]; omega
      rw [e2] at d1
      obtain ⟨x, hx⟩ := Int.eq_ofNat_of_zero_le (show 0 ≤ 1 + d by omega)
      refine ⟨1, d, rfl, rfl, ?_⟩
      have hT := ths_bits (m := m) (x := x) (by omega) (by omega)
      refine ⟨_, rfl, (m : Int), rfl, by omega, by omega, lc_filt walk_range0 (by omega) (fun t => decide (x / 2 ^ t % 2 = 1)) id (fun _ _ v (x : Nat) => v = .int (x : Int)) (fun _ _ _ _ _ _ _ h => h) (fun H' s' => trivial)
        (fun D i v H' H'' hD hi s' hl hy Kp Kn kp kn => ?_) (fun D ys H' hD s' hl r => ?_)⟩
      · obtain ⟨rfl, rfl⟩ := hy
        refine ⟨rfl, _, rfl, _, rfl, 1 + d, i, rfl, rfl, by omega, _, 1, rfl, rfl, rfl, _, rfl, ?_⟩
        show if decide (V.int (Builtin.bitAnd ((1 + d) / 2 ^ ((i : Int)).toNat) 1) = V.int 1) = true then _ else _
        rw [hx]
        have e5 := shr_nat x i
        rw [show ((x : Nat) : Int) / 2 ^ ((i : Int)).toNat = ((x / 2 ^ i : Nat) : Int) from e5, bit_and]
        by_cases hbit : x / 2 ^ i % 2 = 1
        · rw [hbit]
          exact iteT ⟨_, rfl, kp _ _ (decide_eq_true hbit) (Same.refl _) rfl⟩
        · rw [decide_eq_false (fun z => hbit (by injection z; omega))]
          exact iteF (kn _ (decide_eq_false hbit) (Same.refl _))
      · have eys : ys = iv (bitsT m x) := r.eq_map
        refine ⟨D, ys, rfl, .inl ⟨.of hl, fun a ha => ?_⟩⟩
        have sa := s'.trans (same_upd (o := .tup ys) ha)
        refine q a _ (bitsT m x) ((u1.trans u2).trans sa.but) (hb2.of_same sa) ?_ hT
        rw [eys]
        exact .of upd_same
    · have hw : way ≠ 0 := fun z => e (by rw [z]; rfl)
      refine ⟨_, rfl, _, rfl, b, (m : Int), rfl, hb1, by omega, by omega, fun d1 H2 a0 a1 u2 hb2 => ?_⟩
      refine ⟨_, rfl, b, 3, rfl, hb2, by decide, by decide, fun d2 H3 c0 c1 u3 hb3 => ?_⟩
      refine ⟨1, d2, rfl, rfl, two_line, fun l hl => ?_⟩
      obtain ⟨z, hz, z0, z4⟩ : ∃ z : Int, atI [V.int 1, V.int (1 + d2)] (way - 1) = some (.int z) ∧ 0 ≤ z ∧ z ≤ 4 := by
        rcases (show way = 1 ∨ way = 2 by omega) with rfl | rfl
        · exact ⟨1, rfl, by decide, by decide⟩
        · exact ⟨1 + d2, rfl, by omega, by omega⟩
      have s4 := same_upd (o := .lst [.int 1, .int (1 + d2)]) hl
      refine ⟨_, rfl, way, 1, rfl, rfl, l, _, _, _, rfl, rfl, .of upd_same, hz, two_line, fun p hp => ?_⟩
      have s5 := s4.trans (same_upd (o := .tup [.int d1, .int z]) hp)
      refine ⟨p, _, rfl, .of upd_same, rfl, _, _, rfl, _, _, rfl, rfl, ?_⟩
      have hb5 := hb3.of_same s5
      refine ⟨_, rfl, b, 4, rfl, hb5, by decide, by decide, fun d3 H6 g0 g1 u6 hb6 => ?_⟩
      refine ⟨1, d3, rfl, rfl, _, rfl, by omega, by omega, lc_all walk_range0 (by omega) ((List.range (1 + d3).toNat).map fun (k : Nat) => ((d1 + z * (k : Int)).fmod (m : Int)).toNat) (by simp) (fun _ _ v (x : Nat) => v = .int (x : Int)) (fun _ _ _ _ _ _ _ h => h) (fun H' s' => trivial)
        (fun D i v H' H'' x hD hx s' hl hy Kp kp => ?_) (fun D ys H' hD s' hl r => ?_)⟩
      · obtain ⟨rfl, rfl⟩ := hy
        have hi : i < (1 + d3).toNat := by
          have := (List.getElem?_eq_some_iff.1 hx).1
          simpa using this
        have hxe : x = ((d1 + z * (i : Int)).fmod (m : Int)).toNat := by
          rw [List.getElem?_map, List.getElem?_range hi] at hx
          exact (Option.some.inj hx).symm
        have hnn := Int.fmod_nonneg_of_pos (d1 + z * (i : Int)) (show (0 : Int) < (m : Int) by omega)
        refine ⟨rfl, _, rfl, _, rfl, _, rfl, z, i, rfl, rfl, .inl ⟨by omega, by omega⟩, d1, _, rfl, rfl, _, rfl, _, (m : Int), rfl, rfl, by omega, kp _ _ (Same.refl _) ?_⟩
        rw [hxe, Int.toNat_of_nonneg hnn]
      · have eys : ys = iv ((List.range (1 + d3).toNat).map fun (k : Nat) => ((d1 + z * (k : Int)).fmod (m : Int)).toNat) := r.eq_map
        rw [eys] at hl
        have hlt : ∀ t ∈ ((List.range (1 + d3).toNat).map fun (k : Nat) => ((d1 + z * (k : Int)).fmod (m : Int)).toNat), t < m := fun t ht => by
          obtain ⟨k, _, rfl⟩ := List.mem_map.1 ht
          have h1 := Int.fmod_nonneg_of_pos (d1 + z * (k : Int)) (show (0 : Int) < (m : Int) by omega)
          have h2 := Int.fmod_lt_of_pos (d1 + z * (k : Int)) (show (0 : Int) < (m : Int) by omega)
          omega
        refine tss hl (by simp; omega) (fun t ht => by have := hlt t ht; omega) fun a H7 ts s7 hts hup hmem => ?_
        refine q a H7 ts (((((u1.trans u2).trans u3).trans s5.but).trans u6).trans (s'.trans s7).but) (hb6.of_same (s'.trans s7)) hts ⟨hup, fun t ht => hlt t ((hmem t).1 ht), fun ee => ?_⟩
        have h0 := (hmem _).2 (List.mem_map.2 ⟨0, List.mem_range.2 (show 0 < (1 + d3).toNat by omega), rfl⟩)
        rw [ee] at h0
        cases h0
end
end K34
set_option Elab.async false
set_option linter.all false
set_option maxRecDepth 100000
set_option exponentiation.threshold 200000
/-! the walk: the law's stocks -/
namespace K34
open PySem PySem.Spec PyProof.Rows L2
/-- a row that is being made: a list of things and a price -/
def Row2 (K : PySem.W.Frag) (H : Hp) (v : V) (o : Of) : Prop := ∃ a t, v = .ref a ∧ H a = some (.lst [.ref t, .int (o.2 : Int)]) ∧ ThA K H t o.1
structure RowsB (K : PySem.W.Frag) (H : Hp) (b D : Addr) (rvs : List V) (os : List Of) : Prop where
  at_ : H D = some (.lst rvs)
  nd : rvs.Nodup
  ap : ∀ v ∈ rvs, v ≠ .ref b ∧ v ≠ .ref D
  rl : Rl (Row2 K H) rvs os
  bD : b ≠ D
theorem but_mut {b D : Addr} {H H' : Hp} {o : HO} (u : But b H H') (h : H D = none) : But b H (upd H' D o) := fun x ox hx hH => by
  rw [upd_ne (ne_of_none hH h)]
  exact u x ox hx hH
theorem But.free {b x : Addr} {H H' : Hp} (u : But b H H') (h : H' x = none) (hx : x ≠ b) : H x = none := by
  cases e : H x with
  | none => rfl
  | some o => rw [u x o hx e] at h; cases h
theorem Row2.keep {K : PySem.W.Frag} {b : Addr} {H H' : Hp} {v : V} {o : Of} (h : Row2 K H v o) (hv : v ≠ .ref b) (u : But b H H') (t : SameT H H') : Row2 K H' v o := by
  obtain ⟨a, t', rfl, h1, h2⟩ := h
  exact ⟨a, t', rfl, u _ _ (fun e => hv (by rw [e])) h1, h2.monoT t⟩
theorem RowsB.keep {K : PySem.W.Frag} {b D : Addr} {H H' : Hp} {rvs : List V} {os : List Of} (h : RowsB K H b D rvs os) (u : But b H H') (t : SameT H H') : RowsB K H' b D rvs os :=
  ⟨u _ _ h.bD.symm h.at_, h.nd, h.ap, ⟨h.rl.1, fun i v x h1 h2 => (h.rl.2 i v x h1 h2).keep (h.ap v (List.mem_of_getElem? h1)).1 u t⟩, h.bD⟩
theorem But.tb {b : Addr} {H H' : Hp} (u : But b H H') (h : BoxA H b) : SameT H H' := let ⟨n, hn⟩ := h; u.t hn
/-- rows as drawn -/
structure Dr (m : Nat) (os : List Of) : Prop where
  th : ∀ o ∈ os, Ths m o.1
  p1 : ∀ o ∈ os, 1 ≤ o.2
  p2 : ∀ o ∈ os, o.2 ≤ 10 ^ 12
theorem Dr.nil (m : Nat) : Dr m [] := ⟨fun o ho => absurd ho List.not_mem_nil, fun o ho => absurd ho List.not_mem_nil, fun o ho => absurd ho List.not_mem_nil⟩
theorem RowsB.nil {K : PySem.W.Frag} {H : Hp} {b D : Addr} (h : H D = some (.lst [])) (n : b ≠ D) : RowsB K H b D [] [] := ⟨h, List.nodup_nil, fun v hv => absurd hv List.not_mem_nil, Rl.nil, n⟩
theorem Dr.snoc {m : Nat} {os : List Of} {o : Of} (d : Dr m os) (h1 : Ths m o.1) (h2 : 1 ≤ o.2) (h3 : o.2 ≤ 10 ^ 12) : Dr m (os ++ [o]) := by
  refine ⟨fun x hx => ?_, fun x hx => ?_, fun x hx => ?_⟩ <;> rcases List.mem_append.1 hx with h | h
  · exact d.th x h
  · rw [List.mem_singleton.1 h]; exact h1
  · exact d.p1 x h
  · rw [List.mem_singleton.1 h]; exact h2
  · exact d.p2 x h
  · rw [List.mem_singleton.1 h]; exact h3
theorem good_of {m : Nat} {os : List Of} (d : Dr m os) (m1 : 1 ≤ m) (m10 : m ≤ 10) (n1 : 1 ≤ os.length) (n10 : os.length ≤ 10) (hf : ∀ t, t < m → ∃ o ∈ os, t ∈ o.1) : Good m os :=
  ⟨m1, m10, n1, n10, fun o ho => (d.th o ho).up, fun o ho => (d.th o ho).lt, fun o ho => (d.th o ho).ne, d.p1, fun o ho => Nat.le_trans (d.p2 o ho) (by decide), hf⟩
section
variable {P : Program} {w : World} {K : PySem.W.Frag} {mg : Str → Option Value} {base : Heap}
def spFullL (K : PySem.W.Frag) : Sp := fun vs H Q _ => ∃ (b : Addr), vs = [.ref b, .int 10, .int 10] ∧ BoxA H b ∧ ∀ a H' m os, But b H H' → BoxA H' b → StA K H' a m os → Good m os → (∀ o ∈ os, o.2 ≤ 10 ^ 12) → Q (.ref a) H'
theorem c_law_full (D : Df K mg "_law_full" "_law_full" t_law_full ["box", "most", "lots"]) (B : Bi mg) (C : Cal P w K mg base 1 "_law_take" ["box", "many"] spTake) (C2 : Cal P w K mg base 2 "_law_things" ["box", "many"] (spThs K)) : Cal P w K mg base 3 "_law_full" ["box", "most", "lots"] (spFullL K) := by
  obtain ⟨f, fd, F, g, b⟩ := D.ex
  obtain ⟨f1, d1, G1, g1, k1, b1⟩ := C.ex
  obtain ⟨f2, d2, G2, g2, k2, b2⟩ := C2.ex
  refine ⟨f, fd, F.ok s_law_full (fun vs H Q E h => ?_) (fun cdv A outer s H vs Q E hr h => ?_), g, F.kp, b⟩
  · obtain ⟨_, rfl, _⟩ := h
    rfl
  · obtain ⟨b, rfl, hb, q⟩ := h
    refine ⟨_, pss_cons (ps_set (i := 3) s_law_full.nd rfl (.inr rfl) (pe_op op_add pe_int (pe_call G1 (hr.mono (by decide)) (by rfl) g1 k1 b1 .nil pass0 (pa_cons (pv 0) (pa_cons (pv 1) pa_nil)))))
      (pss_cons (ps_set (i := 4) s_law_full.nd rfl (.inr rfl) (pe_ix ix_list (pe_lst (pa_cons pe_int (pa_cons pe_int (pa_cons pe_int (pa_cons (pe_op op_pow pe_int pe_int) pa_nil))))) (pe_call G1 (hr.mono (by decide)) (by rfl) g1 k1 b1 .nil pass0 (pa_cons (pv 0) (pa_cons pe_int pa_nil))) (fun _ _ => rfl)))
      (pss_cons (ps_setLc (i := 5) (own := [("k", 8)]) (g := gName 8) (tt := tYes) (te := tLst (tCons (tCall (spThs K) [] E0 (tCons (tVar 0) (tCons (tVar 3) tNil))) (tCons (tOp (rI0 fun i j => .int (i + j)) (tC (.int 1)) (tCall spTake [] E0 (tCons (tVar 0) (tCons (tVar 4) tNil)))) tNil)))
          rfl s_law_full.nd rfl rfl (sw_true rfl rfl rfl (by decide +kernel)) (pi_range1 (by rfl) B.range (pa_cons (pe_op op_add pe_int (pe_call G1 (hr.mono (by decide)) (by rfl) g1 k1 b1 .nil pass0 (pa_cons (pv 0) (pa_cons (pv 2) pa_nil)))) pa_nil)) (blkOk_by (N := n_law_full) (sc := defScope t_law_full) (by decide +kernel))
          (fun _ _ _ _ _ => pg_name (i := 8) s_law_full.nd rfl (Or.inl rfl)) (fun _ _ _ _ _ => pts_nil)
          (fun _ _ _ _ _ => pe_lst (pa_cons (pe_call G2 hr (by rfl) g2 k2 b2 .nil pass0 (pa_cons (pv 0) (pa_cons (pv 3) pa_nil))) (pa_cons (pe_op op_add pe_int (pe_call G1 (hr.mono (by decide)) (by rfl) g1 k1 b1 .nil pass0 (pa_cons (pv 0) (pa_cons (pv 4) pa_nil)))) pa_nil))))
      (pss_cons (ps_for PassesOwn.never rfl (pi_range1 (by rfl) B.range (pa_cons (pv 3) pa_nil)) (pg_name (i := 6) s_law_full.nd rfl (.inr rfl))
        (pss_one (ps_if (pt_cmpR (KR.op_eqNil (hu_of hr)) (pe_lc (own := [("row", 7)]) (g := gName 7) (tt := tTest (tOp (rIn K false) (tVar 6) (tOp (rIxL K) (tVar 7) (tC (.int 0))))) (te := tVar 7) rfl s_law_full.nd (pi_list (pv 5)) (blkOk_by (N := n_law_full) (sc := defScope t_law_full) (by decide +kernel))
              (fun _ _ _ _ _ => pg_name (i := 7) s_law_full.nd rfl (Or.inl rfl)) (fun _ _ _ _ _ => pts_one (pt_cmpR op_in_seq (pv 6) (pvl 7) rfl)) (fun _ _ _ _ _ => pv 7)) (pe_lst pa_nil) (nomark _))
          (pss_cons (ps_set (i := 7) s_law_full.nd rfl (.inl rfl) (pe_ix ix_list (pv 5) (pe_call G1 (hr.mono (by decide)) (by rfl) g1 k1 b1 .nil pass0 (pa_cons (pv 0) (pa_cons (pe_callB call_len_seq (by rfl) B.len PySem.boot_len (pa_cons (pv 5) pa_nil)) pa_nil))) (fun _ _ => rfl)))
          (pss_one (ps_asg (pe_callTy call_tuple_of (by rfl) B.tuple (by decide +kernel) (pa_cons (pe_callB KR.cr_sortedTp (by rfl) B.sorted (by decide +kernel) (pa_cons (pe_op op_catA (pvl 7) (pe_tup (pa_cons (pv 6) pa_nil))) pa_nil)) pa_nil)) (pg_sub (pv 7) pe_int set_list)))) pss_nil)))
      (pss_one (ps_ret (pe_tup (pa_cons (pv 3) (pa_cons (pe_callTy call_tuple_of (by rfl) B.tuple (by decide +kernel) (pa_cons (pe_lc (own := [("row", 7)]) (g := gName 7) (tt := tYes) (te := tTup (tCons (tOp (rIxL K) (tVar 7) (tC (.int 0))) (tCons (tOp (rIxL K) (tVar 7) (tC (.int 1))) tNil))) rfl s_law_full.nd
          (pi_list (pv 5)) (blkOk_by (N := n_law_full) (sc := defScope t_law_full) (by decide +kernel)) (fun _ _ _ _ _ => pg_name (i := 7) s_law_full.nd rfl (Or.inl rfl)) (fun _ _ _ _ _ => pts_nil) (fun _ _ _ _ _ => pe_tup (pa_cons (pvl 7) (pa_cons (pvl 7) pa_nil)))) pa_nil)) pa_nil)))))))), ?_⟩
    -- many, far
    refine ⟨_, rfl, _, rfl, b, 10, rfl, hb, by decide, by decide, fun d1 H1 a0 a1 u1 hb1 => ?_⟩
    obtain ⟨m, hm⟩ := Int.eq_ofNat_of_zero_le (show 0 ≤ 1 + d1 by omega)
    refine ⟨1, d1, rfl, rfl, ?_⟩
    have hmv : V.int (1 + d1) = V.int (m : Int) := by rw [hm]
    refine ⟨10, 12, rfl, rfl, ⟨by decide, by decide, by decide⟩, by show 4 ≤ sizeLine; decide, fun l hl => ?_⟩
    have sl := same_upd (o := .lst [.int 3, .int 9, .int 50, .int (10 ^ (12 : Int).toNat)]) hl
    have hb1' := hb1.of_same sl
    refine ⟨_, rfl, b, 4, rfl, hb1', by decide, by decide, fun d2 H2 c0 c1 u2 hb2 => ?_⟩
    obtain ⟨far, hfar, f0, f1'⟩ : ∃ far : Int, atI [V.int 3, V.int 9, V.int 50, V.int (10 ^ (12 : Int).toNat)] d2 = some (.int far) ∧ 1 ≤ far ∧ far ≤ 10 ^ 12 := by
      rcases (show d2 = 0 ∨ d2 = 1 ∨ d2 = 2 ∨ d2 = 3 by omega) with rfl | rfl | rfl | rfl
      · exact ⟨3, rfl, by decide, by decide⟩
      · exact ⟨9, rfl, by decide, by decide⟩
      · exact ⟨50, rfl, by decide, by decide⟩
      · exact ⟨10 ^ (12 : Int).toNat, rfl, by decide, by decide⟩
    obtain ⟨nb0, hnb0⟩ := hb1'
    have hbl : l ≠ b := by
      obtain ⟨n1, h1⟩ := hb1
      exact (ne_of_none h1 hl).symm
    have hl2 := u2 l _ hbl upd_same
    refine ⟨l, _, d2, _, rfl, rfl, .of hl2, hfar, ?_⟩
    -- rows
    refine ⟨_, rfl, _, rfl, b, 10, rfl, hb2, by decide, by decide, fun d3 H3 g0 g1 u3 hb3 => ?_⟩
    have u03 : But b H H3 := ((u1.trans sl.but).trans u2).trans u3
    refine ⟨1, d3, rfl, rfl, _, rfl, by omega, by omega, fun D hD => ?_⟩
    have hbD : b ≠ D := let ⟨n3, h3⟩ := hb3; ne_of_none h3 hD
    have nn : (1 + d3).toNat = (1 + d3).toNat := rfl
    refine lc_it (walk_range0 (n := (1 + d3).toNat)) (fun i H' => But b H3 H' ∧ BoxA H' b ∧ ∃ rvs os, RowsB K H' b D rvs os ∧ os.length = i ∧ Dr m os ∧ ∀ a, V.ref a ∈ rvs → H a = none)
      ⟨but_mut (But.refl _ _) hD, (let ⟨n3, h3⟩ := hb3; ⟨n3, by rw [upd_ne hbD]; exact h3⟩), [], [], .nil upd_same hbD, rfl, .nil m, fun a ha => absurd ha List.not_mem_nil⟩
      (fun _ _ _ _ => trivial) (fun i v H4 H4' hi h hy => ?_) (fun H4 h => ?_)
    · obtain ⟨u4, hb4, rvs, os, hr, hlen, hd, hfr⟩ := h
      obtain ⟨rfl, rfl⟩ := hy
      refine ⟨rfl, _, rfl, _, rfl, b, m, by show [V.ref b, V.int (1 + d1)] = _; rw [hmv], hb4, by omega, by omega, fun a H5 ts u5 hb5 hts hT => ?_⟩
      refine ⟨_, rfl, _, rfl, b, far, rfl, hb5, by omega, by omega, fun d4 H6 p0 p1 u6 hb6 => ?_⟩
      obtain ⟨pr, hpr⟩ := Int.eq_ofNat_of_zero_le (show 0 ≤ 1 + d4 by omega)
      refine ⟨1, d4, rfl, rfl, two_line, fun q5 hq5 => ?_⟩
      have u46 := u5.trans u6
      have t46 : SameT H4' H6 := u46.tb hb4
      have hr6 := hr.keep u46 t46
      have sq := same_upd (o := .lst [.ref a, .int (1 + d4)]) hq5
      have hr7 := hr6.keep sq.but sq.t
      have hDq : D ≠ q5 := ne_of_none hr6.at_ hq5
      have hbq : b ≠ q5 := let ⟨n6, h6⟩ := hb6; ne_of_none h6 hq5
      have hrlen : rvs.length = os.length := hr.rl.1
      refine ⟨rvs, hr7.at_, ld_lt (by omega), but_mut ((u4.trans u46).trans sq.but) hD, ?_, rvs ++ [.ref q5], os ++ [(ts, pr)], ⟨upd_same, ?_, fun v hv => ?_, ?_, hbD⟩, by simp [hlen], hd.snoc hT (by show 1 ≤ pr; omega) (by show pr ≤ 10 ^ 12; omega), fun a' ha' => ?_⟩
      · obtain ⟨n6, h6⟩ := hb6
        exact ⟨n6, by rw [upd_ne hbD]; exact sq _ _ h6⟩
      · refine List.nodup_append.2 ⟨hr.nd, List.nodup_cons.2 ⟨by simp, List.nodup_nil⟩, fun v hv w hw e => ?_⟩
        rw [List.mem_singleton.1 hw] at e
        subst e
        obtain ⟨j, hj, e2⟩ := List.mem_iff_getElem.1 hv
        obtain ⟨o, _, a', t', e3, h3, _⟩ := hr6.rl.getV (List.getElem?_eq_getElem hj)
        rw [e2] at e3
        injection e3 with e3
        subst e3
        rw [hq5] at h3
        cases h3
      · rcases List.mem_append.1 hv with h | h
        · exact hr.ap v h
        · rw [List.mem_singleton.1 h]
          exact ⟨fun e => hbq (by injection e with e; exact e.symm), fun e => hDq (by injection e with e; exact e.symm)⟩
      · have tD : SameT (upd H6 q5 (.lst [.ref a, .int (1 + d4)])) (upd (upd H6 q5 (.lst [.ref a, .int (1 + d4)])) D (.lst (rvs ++ [.ref q5]))) := sameT_lst hr7.at_
        refine Rl.snoc ⟨hr7.rl.1, fun j v x h1 h2 => ?_⟩ ?_
        · obtain ⟨a', t', e3, h3, h4⟩ := hr7.rl.2 j v x h1 h2
          subst e3
          refine ⟨a', t', rfl, ?_, h4.monoT tD⟩
          rw [upd_ne (fun e => (hr.ap _ (List.mem_of_getElem? h1)).2 (by rw [e]))]
          exact h3
        · refine ⟨q5, a, rfl, ?_, ((hts.monoT (u6.tb hb5)).monoT sq.t).monoT tD⟩
          rw [upd_ne hDq.symm, upd_same]
          show some (HO.lst [V.ref a, V.int (1 + d4)]) = _
          rw [hpr]
      · rcases List.mem_append.1 ha' with h | h
        · exact hfr a' h
        · have := List.mem_singleton.1 h
          injection this with this
          subst this
          exact (u03.trans (u4.trans u46)).free hq5 hbq.symm
    · obtain ⟨u4, hb4, rvs, os, hr, hlen, hd, hfr⟩ := h
      have u04 := u03.trans u4
      have hn1 : 1 ≤ os.length := by omega
      have hn10 : os.length ≤ 10 := by omega
      refine ⟨_, rfl, _, rfl, by omega, by omega, for_it (walk_range0 (n := (1 + d1).toNat)) (fun i σ H' => ∃ y6 y7 y8 os, σ = [some (.ref b), some (.int 10), some (.int 10), some (.int (1 + d1)), some (.int far), some (.ref D), y6, y7, y8] ∧ But b H H' ∧ BoxA H' b ∧ RowsB K H' b D rvs os ∧ os.length = (1 + d3).toNat ∧ Dr m os ∧ ∀ t, t < i → ∃ o ∈ os, t ∈ o.1)
        ⟨none, none, none, os, rfl, u04, hb4, hr, hlen, hd, fun t ht => absurd ht (Nat.not_lt_zero t)⟩ (fun _ _ _ _ _ => trivial) (fun i v σ H5 H5' hi h hy => ?_) (fun σ H5 h => ?_)⟩
      · obtain ⟨y6, y7, y8, os, rfl, u5, hb5, hr, hlen, hd, hcov⟩ := h
        obtain ⟨rfl, rfl⟩ := hy
        have him : i < m := by omega
        have hrl : rvs.length = os.length := hr.rl.1
        have hDH : H D = none := by
          cases e : H D with
          | none => rfl
          | some o => rw [u03 _ _ hbD.symm e] at hD; cases hD
        refine ⟨_, rfl, D, rfl, ⟨_, .of hr.at_⟩, lc_filt (walk_list (xs := rvs)) (by omega) (fun j => decide (i ∈ (os.getD j default).1)) (fun j => rvs.getD j .non) (fun _ _ v x => v = x) (fun _ _ _ _ _ _ _ h => h) (fun H' s' => s'.seq (.of hr.at_))
          (fun D2 j v H6 H6' hD2 hj s6 hl6 hy6 Kp Kn kp kn => ?_) (fun D2 ys H6 hD2 s6 hl6 r6 => ?_)⟩
        · obtain ⟨rfl, hv⟩ := hy6
          have hoj := List.getElem?_eq_getElem (show j < os.length by omega)
          obtain ⟨a, t, rfl, h1, h2⟩ := hr.rl.2 j v _ hv hoj
          have e3 : (os.getD j default).1 = os[j].1 := by rw [getD_of hoj]
          refine ⟨rfl, _, rfl, _, rfl, a, _, 0, _, rfl, rfl, .of (s6 _ _ h1), at0, t, _, rfl, .inr ((h2.monoT s6.t)), rfl, by simp [flatV], _, rfl, ?_⟩
          show if inV (.int (i : Int)) (iv os[j].1) = true then _ else _
          rw [in_iv]
          by_cases hin : i ∈ os[j].1
          · rw [decide_eq_true hin]
            exact iteT ⟨_, rfl, kp _ _ (by rw [e3]; exact decide_eq_true hin) (Same.refl _) (getD_of hv).symm⟩
          · rw [decide_eq_false hin]
            exact iteF (kn _ (by rw [e3]; exact decide_eq_false hin) (Same.refl _))
        · have hD2b : b ≠ D2 := let ⟨n5, h5⟩ := hb5; ne_of_none h5 hD2
          have hb6 := hb5.of_same s6
          have hr6 := hr.keep s6.but s6.t
          refine ⟨Nat.zero_le _, fun l2 hl2 => ?_⟩
          have s7 := same_upd (o := .lst []) hl2
          have s67 := s6.trans s7
          have hb7 := hb6.of_same s7
          have hr7 := hr6.keep s7.but s7.t
          have u7 := u5.trans s67.but
          refine ⟨D2, l2, ys, rfl, rfl, s7 _ _ hl6, upd_same, _, rfl, ite2 (fun e => ?_) (fun e => ?_)⟩
          · have hno : ∀ o ∈ os, i ∉ o.1 := fun o ho hin => by
              obtain ⟨j, hj, e2⟩ := List.mem_iff_getElem.1 ho
              have hys : ys.length = 0 := by
                cases ys with
                | nil => rfl
                | cons x r => cases e
              rw [r6.1] at hys
              have hmem : rvs.getD j .non ∈ pick rvs.length (fun j => decide (i ∈ (os.getD j default).1)) (fun j => rvs.getD j .non) := by
                unfold pick
                refine List.mem_map.2 ⟨j, List.mem_filter.2 ⟨List.mem_range.2 (by omega), ?_⟩, rfl⟩
                rw [getD_lt hj, e2]
                exact decide_eq_true hin
              rw [List.length_eq_zero_iff.1 hys] at hmem
              cases hmem
            refine ⟨_, rfl, _, rfl, _, rfl, D, rvs, rfl, .inl (.of hr7.at_), b, (rvs.length : Int), rfl, hb7, by omega, by omega, fun d H8 e0 e1 u8 hb8 => ?_⟩
            obtain ⟨j, rfl⟩ := Int.eq_ofNat_of_zero_le e0
            have hjr : j < rvs.length := by omega
            have hjo : j < os.length := by omega
            have hr8 := hr7.keep u8 (u8.tb hb7)
            have hoj := List.getElem?_eq_getElem hjo
            obtain ⟨v, hv, a, t, rfl, h1, h2⟩ := hr8.rl.get hoj
            have homem := List.getElem_mem hjo
            have hab : a ≠ b := fun e => (hr.ap _ (List.mem_of_getElem? hv)).1 (by rw [e])
            have haD : a ≠ D := fun e => (hr.ap _ (List.mem_of_getElem? hv)).2 (by rw [e])
            refine ⟨D, rvs, _, _, rfl, rfl, .of hr8.at_, atI_nat hv, ?_⟩
            refine ⟨_, rfl, a, _, 0, _, rfl, rfl, .of h1, at0, _, rfl, by show 1 ≤ sizeLine; decide, fun p hp => ?_⟩
            have s9 := same_upd (o := .tup [.int (i : Int)]) hp
            have hlen1 : os[j].1.length ≤ 10 := Nat.le_trans (up_len (hd.th _ homem).up (hd.th _ homem).lt) (by omega)
            refine ⟨t, p, iv os[j].1, [.int (i : Int)], rfl, rfl, h2.monoT s9.t, .of upd_same, ld_of (by rw [iv_len]; show _ + 1 ≤ _; omega), fun z => absurd z ?_, (fun _ z => by cases z), fun _ _ p2 hp2 => ?_⟩
            · intro z
              have := (hd.th _ homem).ne
              exact this (List.map_eq_nil_iff.1 z)
            have s10 := same_upd (o := .tup (iv os[j].1 ++ [.int (i : Int)])) hp2
            have eiv : iv os[j].1 ++ [.int (i : Int)] = ((os[j].1 ++ [i]).map fun (t : Nat) => (t : Int)).map V.int := by rw [List.map_append, List.map_append, iv_ints]; rfl
            refine ⟨p2, _, rfl, .of (by rw [← eiv]; exact upd_same), by rw [List.length_map, List.length_append]; show _ + 1 < 64; omega, fun ns' p3 hperm hle hp3 => ?_⟩
            have s11 := same_upd (o := .lst (ns'.map V.int)) hp3
            refine ⟨p3, _, rfl, .inl ⟨.of upd_same, fun r hrn => ?_⟩⟩
            have s12 := same_upd (o := .tup (ns'.map V.int)) hrn
            have s912 := ((s9.trans s10).trans s11).trans s12
            have h1' := s912 _ _ h1
            refine ⟨_, rfl, a, _, 0, 0, rfl, rfl, h1', rfl, ?_⟩
            -- the new things
            have hmemI : ∀ k : Int, k ∈ ns' ↔ ∃ t : Nat, (t ∈ os[j].1 ∨ t = i) ∧ k = (t : Int) := fun k => by
              rw [hperm.mem_iff, List.mem_map]
              constructor
              · rintro ⟨t, ht, rfl⟩
                exact ⟨t, by simpa using ht, rfl⟩
              · rintro ⟨t, ht, rfl⟩
                exact ⟨t, by simpa using ht, rfl⟩
            have h0 : ∀ k ∈ ns', 0 ≤ k := fun k hk => by
              obtain ⟨t, _, rfl⟩ := (hmemI k).1 hk
              omega
            have hnd : ns'.Nodup := by
              refine hperm.symm.nodup ?_
              refine List.pairwise_map.2 ?_
              have : (os[j].1 ++ [i]).Nodup := List.nodup_append.2 ⟨up_nd (hd.th _ homem).up, List.nodup_cons.2 ⟨by simp, List.nodup_nil⟩, fun x hx y hy e => by
                rw [List.mem_singleton.1 hy] at e
                subst e
                exact hno _ homem hx⟩
              exact this.imp fun h z => h (by omega)
            have hts : Ths m (ns'.map Int.toNat) := by
              refine ⟨List.pairwise_map.2 ?_, fun t ht => ?_, fun z => ?_⟩
              · refine (hle.and hnd).imp_of_mem fun {x y} hx hy hxy => ?_
                have := h0 x hx
                have := h0 y hy
                have := hxy.1
                have := hxy.2
                omega
              · obtain ⟨k, hk, rfl⟩ := List.mem_map.1 ht
                obtain ⟨t2, ht2, rfl⟩ := (hmemI k).1 hk
                rcases ht2 with h | h
                · have := (hd.th _ homem).lt t2 h; omega
                · omega
              · have : (i : Int) ∈ ns' := (hmemI _).2 ⟨i, .inr rfl, rfl⟩
                rw [List.map_eq_nil_iff.1 z] at this
                cases this
            have htA : ThA K (upd (upd (upd (upd H8 p (.tup [.int (i : Int)])) p2 (.tup (iv os[j].1 ++ [.int (i : Int)]))) p3 (.lst (ns'.map V.int))) r (.tup (ns'.map V.int))) r (ns'.map Int.toNat) := by
              show SqT _ _ _ (iv (ns'.map Int.toNat))
              rw [iv_toNat h0]
              exact .of upd_same
            have hr12 := hr8.keep s912.but s912.t
            have hb12 := hb8.of_same s912
            generalize hH12 : upd (upd (upd (upd H8 p (.tup [.int (i : Int)])) p2 (.tup (iv os[j].1 ++ [.int (i : Int)]))) p3 (.lst (ns'.map V.int))) r (.tup (ns'.map V.int)) = H12 at *
            have t13 : SameT H12 (upd H12 a (.lst ([V.ref t, V.int (os[j].2 : Int)].set 0 (V.ref r)))) := sameT_lst h1'
            have hset : ∀ o ∈ os.set j (ns'.map Int.toNat, os[j].2), o ∈ os ∨ o = (ns'.map Int.toNat, os[j].2) := fun o ho => List.mem_or_eq_of_mem_set ho
            have hDa : H a = none := hfr a (List.mem_of_getElem? hv)
            refine ⟨_, _, _, os.set j (ns'.map Int.toNat, os[j].2), rfl, but_mut ((u7.trans u8).trans s912.but) hDa, ?_, ⟨by rw [upd_ne haD.symm]; exact hr12.at_, hr.nd, hr.ap, ⟨by rw [List.length_set]; exact hrl, fun k v x k1 k2 => ?_⟩, hbD⟩, by rw [List.length_set]; exact hlen, ⟨fun o ho => ?_, fun o ho => ?_, fun o ho => ?_⟩, fun tt htt => ?_⟩
            · obtain ⟨n12, h12⟩ := hb12
              exact ⟨n12, by rw [upd_ne hab.symm]; exact h12⟩
            · rw [List.getElem?_set] at k2
              by_cases ek : j = k
              · rw [if_pos ek] at k2
                rw [if_pos (by omega)] at k2
                subst ek
                rw [hv] at k1
                cases k1
                cases k2
                exact ⟨a, r, rfl, upd_same, htA.monoT t13⟩
              · rw [if_neg ek] at k2
                obtain ⟨a', t', rfl, g1, g2⟩ := hr12.rl.2 k v x k1 k2
                refine ⟨a', t', rfl, ?_, g2.monoT t13⟩
                rw [upd_ne (fun z => ek ?_)]
                · exact g1
                · exact (nd_ix hr.nd (by rw [hv, z]) k1)
            · rcases hset o ho with h | h
              · exact hd.th o h
              · rw [h]; exact hts
            · rcases hset o ho with h | h
              · exact hd.p1 o h
              · rw [h]; show 1 ≤ os[j].2; exact hd.p1 _ homem
            · rcases hset o ho with h | h
              · exact hd.p2 o h
              · rw [h]; show os[j].2 ≤ 10 ^ 12; exact hd.p2 _ homem
            · have hnew : (ns'.map Int.toNat, os[j].2) ∈ os.set j (ns'.map Int.toNat, os[j].2) := List.mem_set hjo _
              have hin' : ∀ t : Nat, (t ∈ os[j].1 ∨ t = i) → t ∈ ns'.map Int.toNat := fun t ht => List.mem_map.2 ⟨(t : Int), (hmemI _).2 ⟨t, ht, rfl⟩, by omega⟩
              by_cases et : tt = i
              · exact ⟨_, hnew, hin' tt (.inr et)⟩
              · obtain ⟨o, ho, hto⟩ := hcov tt (by omega)
                obtain ⟨k, hk, e2⟩ := List.mem_iff_getElem.1 ho
                by_cases ek : j = k
                · subst ek
                  exact ⟨_, hnew, hin' tt (.inl (by rw [e2]; exact hto))⟩
                · refine ⟨o, List.mem_iff_getElem.2 ⟨k, by rw [List.length_set]; exact hk, ?_⟩, hto⟩
                  rw [List.getElem_set, if_neg ek, e2]
          · have hsome : ∃ o ∈ os, i ∈ o.1 := by
              refine Classical.byContradiction fun hn => e ?_
              have hys : ys = [] := by
                refine List.length_eq_zero_iff.1 ?_
                rw [r6.1]
                unfold pick
                rw [List.length_map, List.filter_eq_nil_iff.2 (fun j hj => ?_)]
                · rfl
                · intro hd2
                  have hj' := List.mem_range.1 hj
                  have hj2 : j < os.length := by omega
                  have := of_decide_eq_true hd2
                  rw [getD_lt hj2] at this
                  exact hn ⟨_, List.getElem_mem hj2, this⟩
              rw [hys]; rfl
            refine ⟨_, _, _, os, rfl, u7, hb7, hr7, hlen, hd, fun t ht => ?_⟩
            by_cases et : t = i
            · rw [et]; exact hsome
            · exact hcov t (by omega)
      · obtain ⟨y6, y7, y8, os, rfl, u5, hb5, hr, hlen, hd, hcov⟩ := h
        have G : Good m os := good_of hd (by omega) (by omega) (by omega) (by omega) fun t ht => hcov t (by omega)
        have hrl : rvs.length = os.length := hr.rl.1
        refine ⟨_, rfl, _, rfl, D, rfl, ⟨_, .of hr.at_⟩, lc_all (walk_list (xs := rvs)) (by omega) os hrl.symm (fun D H v o => Ofr K H v o) (fun D H H' v x ⟨l, hl⟩ hb' h => h.monoT (hb'.t hl)) (fun H' s' => s'.seq (.of hr.at_))
          (fun D2 j v H6 H6' x hD2 hx s6 hl6 hy6 Kp kp => ?_) (fun D2 ys H6 hD2 s6 hl6 r6 => ?_)⟩
        · obtain ⟨rfl, hv⟩ := hy6
          obtain ⟨a, t, rfl, h1, h2⟩ := hr.rl.2 j v x hv hx
          refine ⟨rfl, _, rfl, a, _, 0, _, rfl, rfl, .of (s6 _ _ h1), at0, _, rfl, a, _, 1, _, rfl, rfl, .of (s6 _ _ h1), at1, two_line, fun p hp => kp _ _ (same_upd hp) ⟨p, rfl, t, .of upd_same, (h2.monoT s6.t).monoT (same_upd hp).t⟩⟩
        · refine ⟨D2, ys, rfl, .inl ⟨.of hl6, fun p hp => ?_⟩⟩
          refine ⟨two_line, fun r hrn => ?_⟩
          have s7 := (same_upd (o := .tup ys) hp).trans (same_upd (o := .tup [.int (1 + d1), .ref p]) hrn)
          refine q r _ m os (u5.trans (s6.trans s7).but) (hb5.of_same (s6.trans s7)) ⟨p, ?_, ys, .of (same_upd hrn _ _ upd_same), r6.imp fun _ _ h => h.monoT s7.t⟩ G hd.p2
          rw [← hmv]
          exact .of upd_same
end
end K34
set_option Elab.async false
set_option linter.all false
set_option maxRecDepth 100000
set_option exponentiation.threshold 200000
/-! the walk: the law's fractions, and what is tight -/
namespace K34
open PySem PySem.Spec PyProof.Rows L2
theorem frNe {K : PySem.W.Frag} {H : Hp} {a b : Addr} {p q : Rat} {Q : VK} (ha : FrA K H a p) (hb : FrA K H b q) (k : Q (.bl (!decide (p = q))) H) : rNeD K (.ref a) (.ref b) H Q := by
  obtain ⟨d, e, h1, h2, h3, h4, h5⟩ := frEq (Q := fun v H' => ∃ k, v = .bl k ∧ Q (.bl (!k)) H') ha hb ⟨_, rfl, k⟩
  obtain ⟨k', e', h6⟩ := h5
  refine ⟨d, e, h1, h2, h3, h4, ?_⟩
  injection e' with e'
  rw [e']
  exact h6
theorem sel_with (us : List Rat) (os : List Of) (t : Nat) : sel us (withT os t) = pick os.length (fun i => decide (t ∈ (os.getD i default).1)) (fun k => us.getD k 0) := by
  unfold sel withT pick
  rw [List.map_map]
  rfl
section
variable {P : Program} {w : World} {K : PySem.W.Frag} {mg : Str → Option Value} {base : Heap}
theorem c_law_less (D : Df K mg "_law_less" "_law_less" t_law_less ["one", "other"]) : Cal P w K mg base 1 "_law_less" ["one", "other"] (spLess K) := by
  obtain ⟨f, fd, F, g, b⟩ := D.ex
  refine ⟨f, fd, F.ok s_law_less (fun vs H Q E h => ?_) (fun cdv A outer s H vs Q E hr h => ?_), g, F.kp, b⟩
  · obtain ⟨_, _, _, _, rfl, _⟩ := h
    rfl
  · obtain ⟨a, b, p, q, rfl, ha, hb, sp, sq, k⟩ := h
    refine ⟨_, pss_one (ps_ret (pe_cmpR op_lt (pe_op op_mulW (pvt 0) (pvt 1)) (pe_op op_mulW (pvt 1) (pvt 0)) (nomark _))), ?_⟩
    refine ⟨_, rfl, a, _, 0, _, rfl, rfl, ha, at0, _, rfl, b, _, 1, _, rfl, rfl, hb, at1, _, _, rfl, rfl, sz_mul sp.n sq.d,
      _, rfl, b, _, 0, _, rfl, rfl, hb, at0, _, rfl, a, _, 1, _, rfl, rfl, ha, at1, _, _, rfl, rfl, sz_mul sq.n sp.d, _, _, rfl, rfl, ?_⟩
    have e : decide (p < q) = decide (p.num * (q.den : Int) < q.num * (p.den : Int)) := decide_eq_decide.2 (Rat.lt_iff p q)
    rw [e] at k
    exact k
theorem c_law_frac (D : Df K mg "_law_frac" "_law_frac" t_law_frac ["top", "bottom"]) (B : Bi mg) : Cal P w K mg base 1 "_law_frac" ["top", "bottom"] (spMade K) := by
  obtain ⟨f, fd, F, g, b⟩ := D.ex
  refine ⟨f, fd, F.ok s_law_frac (fun vs H Q E h => ?_) (fun cdv A outer s H vs Q E hr h => ?_), g, F.kp, b⟩
  · obtain ⟨i, j, rfl, _⟩ := h
    rfl
  · obtain ⟨i, j, rfl, hj, hs, q⟩ := h
    refine ⟨_, pss_cons (ps_par (i := 2) (j := 3) (by rfl) s_law_frac.nd rfl rfl (by decide) rfl rfl (pa_cons (pe_callB call_abs (by rfl) B.abs boot_abs (pa_cons (pv 0) pa_nil)) (pa_cons (pe_callB call_abs (by rfl) B.abs boot_abs (pa_cons (pv 1) pa_nil)) pa_nil)) (by rfl))
      (pss_cons (ps_while PassesOwn.never (pt_cmpR op_gt (pv 3) pe_int (nomark _))
        (pss_one (ps_par (i := 2) (j := 3) (by rfl) s_law_frac.nd rfl rfl (by decide) rfl rfl (pa_cons (pv 3) (pa_cons (pe_op op_modN (pv 2) (pv 3)) pa_nil)) (by rfl))))
      (pss_one (ps_ret (pe_tup (pa_cons (pe_op op_fdivW (pv 0) (pv 2)) (pa_cons (pe_op op_fdivW (pv 1) (pv 2)) pa_nil)))))), ?_⟩
    refine ⟨_, rfl, i, rfl, _, rfl, j, rfl, _, _, rfl, ?_⟩
    refine ⟨fun m σ H' => ∃ a c : Int, σ = [some (.int i), some (.int j), some (.int a), some (.int c)] ∧ H' = H ∧ 0 ≤ a ∧ 0 ≤ c ∧ m = c.natAbs ∧ Int.gcd a c = Int.gcd i j,
      ⟨_, _, _, rfl, rfl, ?_, ?_, rfl, ?_⟩, fun m σ H' hW => ?_⟩
    · split <;> omega
    · split <;> omega
    · rw [if_neg (show ¬ j < 0 by omega)]
      split
      · rw [Int.neg_gcd]
      · rfl
    obtain ⟨a, c, rfl, rfl, ha, hc, rfl, hg⟩ := hW
    refine ⟨_, rfl, c, 0, rfl, rfl, _, rfl, ite2 (fun e => ?_) (fun e => ?_)⟩
    · have hc0 : 0 < c := of_decide_eq_true e
      obtain ⟨m1, m2⟩ := fmod_lt a (b := c) hc0
      refine ⟨fun σ' H'' => ∃ a' c' : Int, σ' = [some (.int i), some (.int j), some (.int a'), some (.int c')] ∧ H'' = H' ∧ 0 ≤ a' ∧ 0 ≤ c' ∧ c' < c ∧ Int.gcd a' c' = Int.gcd i j, fun σ' H'' hN => ?_, ?_⟩
      · obtain ⟨a', c', e1, e2, e3, e4, e5, e6⟩ := hN
        exact ⟨c'.natAbs, by omega, a', c', e1, e2, e3, e4, rfl, e6⟩
      · exact ⟨_, rfl, _, rfl, _, rfl, a, c, rfl, rfl, Int.ne_of_gt hc0, _, _, rfl, c, a.fmod c, rfl, rfl, Int.le_of_lt hc0, m1, m2, by rw [gcd_fmod]; exact hg⟩
    · have hc0 : c = 0 := by
        have : ¬ 0 < c := fun z => e (decide_eq_true z)
        omega
      subst hc0
      obtain ⟨p1, p2⟩ := gcd_le (i := i) hj
      have ea : a = ((Int.gcd i j : Nat) : Int) := by
        rw [← hg, Int.gcd_zero_right]
        omega
      have hd : ∀ x : Int, CDivW x a := fun x => wide_div (by omega) (b := 9000) (by omega) (by decide) (by decide)
      refine ⟨_, rfl, _, rfl, i, a, rfl, rfl, hd _, _, rfl, _, rfl, j, a, rfl, rfl, hd _, two_line, fun p hp => ?_⟩
      refine q p _ (same_upd hp) (.inl (.inl ?_))
      rw [divInt_num hj, divInt_den hj, ← ea]
      exact upd_same
theorem c_law_sum (D : Df K mg "_law_sum" "_law_sum" t_law_sum ["some"]) (C : Cal P w K mg base 1 "_law_frac" ["top", "bottom"] (spMade K)) : Cal P w K mg base 2 "_law_sum" ["some"] (spTot (FrL K) K) := by
  obtain ⟨f, fd, F, g, b⟩ := D.ex
  obtain ⟨f1, d1, G1, g1, k1, b1⟩ := C.ex
  refine ⟨f, fd, F.ok s_law_sum (fun vs H Q E h => ?_) (fun cdv A outer s H vs Q E hr h => ?_), g, F.kp, b⟩
  · obtain ⟨_, _, rfl, _⟩ := h
    rfl
  · obtain ⟨a, qs, rfl, ⟨vs, ha, hl⟩, ht, k⟩ := h
    refine ⟨_, pss_cons (ps_asg (pe_tup (pa_cons pe_int (pa_cons pe_int pa_nil))) (pg_tup rfl (pgs_cons (pg_name (i := 1) s_law_sum.nd rfl (.inl rfl)) (pgs_cons (pg_name (i := 2) s_law_sum.nd rfl (.inl rfl)) pgs_nil))))
      (pss_cons (ps_for PassesOwn.never rfl (pi_list (pv 0)) (pg_name (i := 3) s_law_sum.nd rfl (.inl rfl))
        (pss_one (ps_asg (pe_call G1 hr (by rfl) g1 k1 b1 .nil pass0 (pa_cons (pe_op op_add (pe_op op_mulW (pv 1) (pvt 3)) (pe_op op_mulW (pvt 3) (pv 2))) (pa_cons (pe_op op_mulW (pv 2) (pvt 3)) pa_nil)))
          (pg_tup rfl (pgs_cons (pg_name (i := 1) s_law_sum.nd rfl (.inl rfl)) (pgs_cons (pg_name (i := 2) s_law_sum.nd rfl (.inl rfl)) pgs_nil))))))
      (pss_one (ps_ret (pe_tup (pa_cons (pv 1) (pa_cons (pv 2) pa_nil)))))), ?_⟩
    refine ⟨two_line, fun p hp => ⟨p, _, rfl, .of upd_same, rfl, _, _, rfl, _, _, rfl, rfl, ?_⟩⟩
    have s0 := same_upd (o := .tup [.int 0, .int 1]) hp
    refine ⟨_, rfl, a, rfl, ⟨_, s0.seq ha⟩, for_it (walk_list (xs := vs)) (fun i σ H' => ∃ y, σ = [some (.ref a), some (.int (tot (qs.take i)).num), some (.int ((tot (qs.take i)).den : Int)), y] ∧ Same H H')
      ⟨none, rfl, s0⟩ (fun i σ H' _ h => ?_) (fun i x σ H' H'' hi h hy => ?_) (fun σ H' h => ?_)⟩
    · obtain ⟨y, rfl, s⟩ := h
      exact s.seq ha
    · obtain ⟨y, rfl, s⟩ := h
      obtain ⟨rfl, hx⟩ := hy
      obtain ⟨q, hq, ⟨d, rfl, hd⟩⟩ := hl.getV hx
      obtain ⟨t1, t2, t3⟩ := ht i q hq
      have hd' := hd.mono s
      refine ⟨_, rfl, _, rfl, d, _, 1, _, rfl, rfl, hd', at1, _, _, rfl, rfl, sz_mul t1.n t2.d, _, rfl, d, _, 0, _, rfl, rfl, hd', at0, _, rfl, _, _, rfl, rfl, sz_mul t2.n t1.d, _, _, rfl, rfl,
        _, rfl, _, rfl, d, _, 1, _, rfl, rfl, hd', at1, _, _, rfl, rfl, sz_mul t1.d t2.d, _, _, rfl, dd_pos _ _, bd_nat t3, fun c H3 s3 hc => ?_⟩
      rw [plus_eq, ← tot_take hq] at hc
      exact ⟨c, _, rfl, hc, rfl, _, _, rfl, _, _, rfl, rfl, some (.ref d), rfl, s.trans s3⟩
    · obtain ⟨y, rfl, s⟩ := h
      have e : qs.take vs.length = qs := by rw [hl.1, List.take_length]
      rw [e]
      exact ⟨_, rfl, _, rfl, two_line, fun r hrn => k r _ (s.trans (same_upd hrn)) (.of upd_same)⟩
end
end K34
set_option Elab.async false
set_option linter.all false
set_option maxRecDepth 100000
set_option exponentiation.threshold 200000
/-! the walk: what is tight -/
namespace K34
open PySem PySem.Spec PyProof.Rows L2
theorem frNeS {K : PySem.W.Frag} {H : Hp} {a b : Addr} {p : Rat} {Q : VK} (ha : FrA K H a p) (hb : FrA K H b p) (k : Q (.bl false) H) : rNeD K (.ref a) (.ref b) H Q := frNe ha hb (by rw [decide_eq_true rfl]; exact k)
theorem pos_num {q : Rat} (h : 0 < q.num) : 0 < q := by
  rw [Rat.lt_iff]
  show 0 * (q.den : Int) < q.num * 1
  omega
section
variable {P : Program} {w : World} {K : PySem.W.Frag} {mg : Str → Option Value} {base : Heap}
def spTight (K : PySem.W.Frag) : Sp := fun vs H Q _ => ∃ (a b c : Addr) (m : Nat) (os : List Of) (ys us : List Rat), vs = [.ref a, .ref b, .ref c] ∧ StA K H a m os ∧ Good m os ∧ FrT K H b ys ∧ FrT K H c us ∧ ys.length = m ∧ us.length = os.length ∧
  TightP m os ys us ∧ (∀ y ∈ ys, Fine y) ∧ (∀ u ∈ us, Fine u) ∧ ∀ H', Same H H' → Q (.bl true) H'
theorem c_law_tight (D : Df K mg "_law_tight" "_law_tight" t_law_tight ["stock", "bears", "shares"]) (B : Bi mg) (C : Cal P w K mg base 2 "_law_sum" ["some"] (spTot (FrL K) K)) : Cal P w K mg base 3 "_law_tight" ["stock", "bears", "shares"] (spTight K) := by
  obtain ⟨f, fd, F, g, b⟩ := D.ex
  obtain ⟨f1, d1, G1, g1, k1, b1⟩ := C.ex
  refine ⟨f, fd, F.ok s_law_tight (fun vs H Q E h => ?_) (fun cdv A outer s H vs Q E hr h => ?_), g, F.kp, b⟩
  · obtain ⟨_, _, _, _, _, _, _, rfl, _⟩ := h
    rfl
  · obtain ⟨a, b, c, m, os, ys, us, rfl, hst, G, hb, hc, hyl, hul, T, fy, fu, k⟩ := h
    have ⟨ob, ha, vs, hob, ho⟩ := hst
    have ⟨yv, hyv, hy⟩ := hb
    have ⟨uv, huv, hu⟩ := hc
    have hm10 := G.m10
    have hn10 := G.n10
    refine ⟨_, pss_cons (ps_for PassesOwn.never rfl (RZ.pi_zipA (by rfl) B.zip (pa_cons (pv 2) (pa_cons (pvt 0) pa_nil))) (pg_tup rfl (pgs_cons (pg_name (i := 3) s_law_tight.nd rfl (.inl rfl)) (pgs_cons (pg_name (i := 4) s_law_tight.nd rfl (.inl rfl)) pgs_nil)))
        (pss_one (ps_if (PW.pt (pw_and (pt_cmpR op_gt (pvt 3) pe_int (nomark _)) (pw_and1 (pt_cmpR (op_neD hr.units) (pe_call G1 hr (by rfl) g1 k1 b1 .nil pass0 (pa_cons
           (pe_lc (own := [("thing", 5)]) (g := gName 5) (tt := tYes) (te := tOp (rIxT K) (tVar 1) (tVar 5)) rfl s_law_tight.nd (pi_tup (pvt 4)) (blkOk_by (N := n_law_tight) (sc := defScope t_law_tight) (by decide +kernel))
            (fun _ _ _ _ _ => pg_name (i := 5) s_law_tight.nd rfl (Or.inl rfl)) (fun _ _ _ _ _ => pts_nil) (fun _ _ _ _ _ => pe_ix ix_tup (pv 1) (pv 5) (fun _ _ => rfl))) pa_nil))
           (pe_tup (pa_cons (pvt 4) (pa_cons pe_int pa_nil))) (nomark _))))) (pss_one (ps_ret pe_bl)) pss_nil)))
      (pss_cons (ps_for PassesOwn.never rfl (pi_range1 (by rfl) B.range (pa_cons (pvt 0) pa_nil)) (pg_name (i := 5) s_law_tight.nd rfl (.inr rfl))
        (pss_cons (ps_setLc (i := 6) (own := [("share", 3), ("offer", 4)]) (g := gTup K 2 (gCons (gName 3) (gCons (gName 4) gNil))) (tt := tTest (tOp (rIn K false) (tVar 5) (tOp (rIxT K) (tVar 4) (tC (.int 0))))) (te := tVar 3) rfl s_law_tight.nd rfl rfl (sw_true rfl rfl rfl (by decide +kernel))
            (RZ.pi_zipA (by rfl) B.zip (pa_cons (pv 2) (pa_cons (pvt 0) pa_nil))) (blkOk_by (N := n_law_tight) (sc := defScope t_law_tight) (by decide +kernel))
            (fun _ _ _ _ _ => pg_tup rfl (pgs_cons (pg_name (i := 3) s_law_tight.nd rfl (.inl rfl)) (pgs_cons (pg_name (i := 4) s_law_tight.nd rfl (.inl rfl)) pgs_nil))) (fun _ _ _ _ _ => pts_one (pt_cmpR op_in_seq (pv 5) (pvt 4) rfl)) (fun _ _ _ _ _ => pv 3))
        (pss_one (ps_if (PW.pt (pw_and (pt_cmpR op_gt (pe_ix ix_tup (pe_ix ix_tup (pv 1) (pv 5) (fun _ _ => rfl)) pe_int (fun _ _ => rfl)) pe_int (nomark _)) (pw_and1 (pt_cmpR (op_neD hr.units) (pe_call G1 hr (by rfl) g1 k1 b1 .nil pass0 (pa_cons (pv 6) pa_nil))
           (pe_tup (pa_cons pe_int (pa_cons pe_int pa_nil))) (nomark _))))) (pss_one (ps_ret pe_bl)) pss_nil))))
      (pss_one (ps_ret pe_bl))), ?_⟩
    have hn : os.length = min uv.length vs.length := by rw [hu.1, ho.1, hul]; omega
    refine ⟨_, rfl, _, rfl, a, _, 1, _, rfl, rfl, ha, at1, c, ob, uv, vs, rfl, .inr ⟨huv, hob, for_it (KR.walk_zipT hn) (fun i σ H' => ∃ y3 y4 y5 y6, σ = [some (.ref a), some (.ref b), some (.ref c), y3, y4, y5, y6] ∧ Same H H')
      ⟨none, none, none, none, rfl, Same.refl _⟩ (fun i σ H' _ h => ?_) (fun i x σ H' H'' hi h hyy => ?_) (fun σ H' h => ?_)⟩⟩
    · obtain ⟨_, _, _, _, _, s⟩ := h
      exact ⟨s.sqt huv, s.sqt hob⟩
    · obtain ⟨y3, y4, y5, y6, rfl, s⟩ := h
      obtain ⟨T', x1, x2, rfl, hT, rfl, e1, e2⟩ := hyy
      obtain ⟨u, hu1, cu, rfl, hcu⟩ := hu.getV (show uv[i]? = some x1 from e1)
      obtain ⟨o, hoo, d, rfl, t, hd, ht⟩ := ho.getV (show vs[i]? = some x2 from e2)
      have hmem := List.mem_of_getElem? hoo
      have sT := same_upd (o := .tup [.ref cu, .ref d]) hT
      have s2 := s.trans sT
      have ht2 := s2.sqt ht
      refine ⟨T', _, rfl, .of upd_same, rfl, _, _, rfl, _, _, rfl, rfl, ?_⟩
      refine ⟨_, rfl, cu, _, 0, _, rfl, rfl, hcu.mono s2, at0, _, 0, rfl, rfl, _, rfl, ite2 (fun e => ?_) (fun e => iteF ⟨_, _, _, _, rfl, s2⟩)⟩
      have hup : 0 < us.getD i 0 := by
        rw [getD_of hu1]
        exact pos_num (of_decide_eq_true e)
      have e0 := T.offer i (hi) hup
      rw [getD_of hoo] at e0
      refine ⟨_, rfl, d, _, 0, _, rfl, rfl, s2.sqt hd, at0, t, rfl, ⟨_, ht2⟩, lc_all (walk_tup (xs := iv o.1)) (by rw [iv_len]; have := (good_ten G o hmem).1; omega) o.1 iv_len.symm (fun D H v (x : Nat) => Fr K H v (ys.getD x 0)) (fun D H H' v x ⟨l, hl⟩ hb' h => h.monoT (hb'.t hl)) (fun H' s' => s'.sqt ht2)
        (fun D i v H3 H4 x hD hx s' hl hy' Kp kp => ?_) (fun D zs H3 hD s' hl r => ?_)⟩
      · obtain ⟨rfl, hv⟩ := hy'
        have hv' := iv_get hv hx
        subst hv'
        have hlt : x < ys.length := by rw [hyl]; exact G.lt o hmem x (List.mem_of_getElem? hx)
        have hq := List.getElem?_eq_getElem hlt
        obtain ⟨u, hu, hfr⟩ := hy.get hq
        refine ⟨rfl, _, rfl, _, rfl, b, _, _, _, rfl, rfl, (s2.trans s').sqt hyv, atI_nat hu, kp _ _ (Same.refl _) ?_⟩
        rw [getD_of hq]
        exact hfr.mono (s2.trans s')
      · obtain ⟨z1, z2⟩ := tots_of (fine_sel fy o.1) (by rw [sel_len]; exact (good_ten G o hmem).1)
        refine ⟨D, sel ys o.1, rfl, ⟨zs, .of hl, sel_rl r⟩, z1, fun e H4 s4 he => ?_⟩
        rw [e0] at he
        have s5 := (s2.trans s').trans s4
        refine ⟨_, rfl, d, _, 1, _, rfl, rfl, s5.sqt hd, at1, two_line, fun p hp => ?_⟩
        have sp := same_upd (o := .tup [.int (o.2 : Int), .int 1]) hp
        exact frNeS (he.mono sp) (fr_nat (.of upd_same)) ⟨_, rfl, iteF ⟨_, _, _, _, rfl, s5.trans sp⟩⟩
    · obtain ⟨y3, y4, y5, y6, rfl, s0⟩ := h
      refine ⟨_, rfl, a, _, 0, _, rfl, rfl, s0.sqt ha, at0, (m : Int), rfl, by omega, by omega, for_it walk_range0 (fun i σ H' => ∃ y3 y4 y5 y6, σ = [some (.ref a), some (.ref b), some (.ref c), y3, y4, y5, y6] ∧ Same H H')
        ⟨_, _, _, _, rfl, s0⟩ (fun i σ H' _ h => trivial) (fun t x σ H' H'' hi h hyy => ?_) (fun σ H' h => ?_)⟩
      · obtain ⟨y3, y4, y5, y6, rfl, s⟩ := h
        obtain ⟨rfl, rfl⟩ := hyy
        refine ⟨_, rfl, _, rfl, a, _, 1, _, rfl, rfl, s.sqt ha, at1, c, ob, uv, vs, rfl, .inr ⟨s.sqt huv, s.sqt hob, lc_filt (KR.walk_zipT hn) (by omega) (fun i => decide (t ∈ (os.getD i default).1)) (fun k => us.getD k 0) (fun D H v (x : Rat) => Fr K H v x) (fun D H H' v x ⟨l, hl⟩ hb' h => h.monoT (hb'.t hl))
          (fun H' s' => ⟨s'.sqt (s.sqt huv), s'.sqt (s.sqt hob)⟩) (fun D i v H3 H4 hD hi2 s' hl hyy Kp Kn kp kn => ?_) (fun D zs H3 hD s' hl r => ?_)⟩⟩
        · obtain ⟨T', x1, x2, rfl, hT, rfl, e1, e2⟩ := hyy
          obtain ⟨u, hu1, cu, rfl, hcu⟩ := hu.getV (show uv[i]? = some x1 from e1)
          obtain ⟨o, hoo, d, rfl, tt, hd, ht⟩ := ho.getV (show vs[i]? = some x2 from e2)
          have sT := same_upd (o := .tup [.ref cu, .ref d]) hT
          have s2 := (s.trans s').trans sT
          have e3 : (os.getD i default).1 = o.1 := by rw [getD_of hoo]
          refine ⟨T', _, rfl, .of upd_same, rfl, _, _, rfl, _, _, rfl, rfl, rfl, ?_⟩
          refine ⟨_, rfl, _, rfl, d, _, 0, _, rfl, rfl, s2.sqt hd, at0, tt, _, rfl, .inr (s2.sqt ht), rfl, ?_, _, rfl, ?_⟩
          · simp [flatV]
          · show if inV (.int (t : Int)) (iv o.1) = true then _ else _
            rw [in_iv]
            by_cases hin : t ∈ o.1
            · rw [decide_eq_true hin]
              refine iteT ⟨_, rfl, kp _ _ (by rw [e3]; exact decide_eq_true hin) sT ?_⟩
              rw [getD_of hu1]
              exact ⟨cu, rfl, hcu.mono s2⟩
            · rw [decide_eq_false hin]
              exact iteF (kn _ (by rw [e3]; exact decide_eq_false hin) sT)
        · have s3 := s.trans s'
          have hlt : t < ys.length := by rw [hyl]; exact hi
          have hq := List.getElem?_eq_getElem hlt
          obtain ⟨yy, hyy2, yc, rfl, hfr⟩ := hy.get hq
          refine ⟨_, rfl, _, rfl, b, _, _, _, rfl, rfl, s3.sqt hyv, atI_nat hyy2, yc, _, 0, _, rfl, rfl, hfr.mono s3, at0, _, 0, rfl, rfl, _, rfl, ite2 (fun e => ?_) (fun e => iteF ⟨_, _, _, _, rfl, s3⟩)⟩
          have hyp : 0 < ys.getD t 0 := by
            rw [getD_of hq]
            exact pos_num (of_decide_eq_true e)
          have e0 := T.thing t hi hyp
          obtain ⟨z1, z2⟩ := tots_of (fine_sel fu (withT os t)) (by rw [sel_len]; have := withT_len os t; omega)
          refine ⟨_, rfl, D, sel us (withT os t), rfl, ⟨zs, .of hl, by rw [sel_with]; exact r⟩, z1, fun e H4 s4 he => ?_⟩
          rw [e0] at he
          refine ⟨two_line, fun p hp => ?_⟩
          have sp := same_upd (o := .tup [.int 1, .int 1]) hp
          exact frNeS (he.mono sp) (fr_nat (n := 1) (.of upd_same)) ⟨_, rfl, iteF ⟨_, _, _, _, rfl, (s3.trans s4).trans sp⟩⟩
      · obtain ⟨y3, y4, y5, y6, rfl, s⟩ := h
        exact k H' s
end
end K34
set_option Elab.async false
set_option linter.all false
set_option maxRecDepth 100000
set_option exponentiation.threshold 200000
/-! the walk: covers drawn at random -/
namespace K34
open PySem PySem.Spec PyProof.Rows L2
theorem er_map {α β : Type} (f : α → β) : ∀ (l : List α) (k : Nat), (l.map f).eraseIdx k = (l.eraseIdx k).map f
  | [], k => rfl
  | x :: r, 0 => rfl
  | x :: r, k + 1 => by
    show f x :: (r.map f).eraseIdx k = f x :: (r.eraseIdx k).map f
    rw [er_map f r k]
theorem er_perm {α : Type} : ∀ (l : List α) (k : Nat) (x : α), l[k]? = some x → (x :: l.eraseIdx k).Perm l
  | [], k, x, h => by cases h
  | y :: r, 0, x, h => by
    cases h
    exact List.Perm.refl _
  | y :: r, k + 1, x, h => by
    show (x :: y :: r.eraseIdx k).Perm (y :: r)
    exact (List.Perm.swap y x _).trans ((er_perm r k x h).cons y)
theorem srt {fs : List Nat} {ns' : List Int} (hp : ns'.Perm (fs.map fun (t : Nat) => (t : Int))) (hle : ns'.Pairwise (· ≤ ·)) (nd : fs.Nodup) : ∃ ts : List Nat, ns'.map V.int = iv ts ∧ ts.Pairwise (· < ·) ∧ ts.Perm fs := by
  have h0 : ∀ k ∈ ns', 0 ≤ k := fun k hk => by
    obtain ⟨t, _, rfl⟩ := List.mem_map.1 (hp.mem_iff.1 hk)
    omega
  have hpm : (ns'.map Int.toNat).Perm fs := by
    have := hp.map Int.toNat
    rw [List.map_map] at this
    have e : fs.map (Int.toNat ∘ fun (t : Nat) => (t : Int)) = fs := by
      conv => rhs; rw [← List.map_id fs]
      exact List.map_congr_left fun t _ => rfl
    rwa [e] at this
  refine ⟨ns'.map Int.toNat, (iv_toNat h0).symm, ?_, hpm⟩
  have h1 : (ns'.map Int.toNat).Pairwise (· ≤ ·) := List.pairwise_map.2 (hle.imp fun h => by omega)
  have h2 : (ns'.map Int.toNat).Nodup := hpm.nodup_iff.2 nd
  exact (h1.and h2).imp fun h => Nat.lt_of_le_of_ne h.1 h.2
theorem pick_filter {α : Type} {d : α} (xs : List α) (f : α → Bool) : pick xs.length (fun j => f (xs.getD j d)) (fun j => xs.getD j d) = xs.filter f := by
  unfold pick
  have e : (List.range xs.length).map (fun j => xs.getD j d) = xs := by
    refine List.ext_getElem (by simp) fun i h1 h2 => ?_
    rw [List.getElem_map, List.getElem_range, getD_lt h2]
  conv => rhs; rw [← e]
  rw [List.filter_map]
  rfl
theorem iv_inv {ns : List Nat} {i : Nat} {v : V} (h : (iv ns)[i]? = some v) : ∃ x, ns[i]? = some x ∧ v = .int (x : Int) := by
  rw [List.getElem?_map] at h
  cases e : ns[i]? with
  | none => rw [e] at h; cases h
  | some x => rw [e] at h; exact ⟨x, rfl, (Option.some.inj h).symm⟩
theorem full_of {m : Nat} {ts : List Nat} (nd : ts.Nodup) (hl : ∀ t ∈ ts, t < m) (h : m ≤ ts.length) : ∀ t, t < m → t ∈ ts := fun t ht => by
  refine Decidable.byContradiction fun hn => ?_
  have h2 := (List.nodup_cons.2 ⟨hn, nd⟩).length_le_of_subset (l₂ := List.range m) fun x hx => by
    rcases List.mem_cons.1 hx with rfl | hx
    · exact List.mem_range.2 ht
    · exact List.mem_range.2 (hl x hx)
  rw [List.length_range, List.length_cons] at h2
  omega
theorem had_lt {m : Nat} {os : List Of} {ls : List Nat} (G : Good m os) (h : ∀ l ∈ ls, l < os.length) {t : Nat} (ht : t ∈ had os ls) : t < m := by
  obtain ⟨l, _, o, ho, hto⟩ := (had_mem h t).1 ht
  exact G.lt o (List.mem_of_getElem? ho) t hto
section
variable {P : Program} {w : World} {K : PySem.W.Frag} {mg : Str → Option Value} {base : Heap}
def spHas (K : PySem.W.Frag) : Sp := fun vs H Q _ => ∃ (a b : Addr) (m : Nat) (os : List Of) (ls : List Nat), vs = [.ref a, .ref b] ∧ StA K H a m os ∧ Good m os ∧ SqT K H b (iv ls) ∧ (∀ l ∈ ls, l < os.length) ∧ ls.length ≤ 10 ∧
  ∀ p H' ts, Same H H' → ThA K H' p ts → ts.Nodup → (∀ t, t ∈ ts ↔ t ∈ had os ls) → Q (.ref p) H'
theorem c_law_has (D : Df K mg "_law_has" "_law_has" t_law_has ["stock", "lot"]) (B : Bi mg) : Cal P w K mg base 1 "_law_has" ["stock", "lot"] (spHas K) := by
  obtain ⟨f, fd, F, g, b⟩ := D.ex
  refine ⟨f, fd, F.ok s_law_has (fun vs H Q E h => ?_) (fun cdv A outer s H vs Q E hr h => ?_), g, F.kp, b⟩
  · obtain ⟨_, _, _, _, _, rfl, _⟩ := h
    rfl
  · obtain ⟨a, b, m, os, ls, rfl, ⟨ob, ha, vs, hb, ho⟩, G, hls, hin, h10, k⟩ := h
    have hm10 := G.m10
    refine ⟨_, pss_cons (ps_set (i := 2) s_law_has.nd rfl (.inr rfl) (pe_lst pa_nil))
      (pss_cons (ps_for PassesOwn.never rfl (pi_tup (pv 1)) (pg_name (i := 3) s_law_has.nd rfl (.inl rfl))
        (pss_one (ps_set (i := 2) s_law_has.nd rfl (.inr rfl) (pe_op op_cat (pv 2) (pe_lc (own := [("thing", 4)]) (g := gName 4) (tt := tTest (tOp (rIn K true) (tVar 4) (tVar 2))) (te := tVar 4) rfl s_law_has.nd
          (pi_tup (pe_ix ix_tup (pe_ix ix_tup (pvt 0) (pv 3) (fun _ _ => rfl)) pe_int (fun _ _ => rfl))) (blkOk_by (N := n_law_has) (sc := defScope t_law_has) (by decide +kernel)) (fun _ _ _ _ _ => pg_name (i := 4) s_law_has.nd rfl (Or.inl rfl))
          (fun _ _ _ _ _ => pts_one (pt_cmpR op_notIn_seq (pv 4) (pv 2) rfl)) (fun _ _ _ _ _ => pv 4))))))
      (pss_one (ps_ret (pe_callTy call_tuple_of (by rfl) B.tuple (by decide +kernel) (pa_cons (pe_callB cr_sorted (by rfl) B.sorted (by decide +kernel) (pa_cons (pv 2) pa_nil)) pa_nil))))), ?_⟩
    refine ⟨Nat.zero_le _, fun l hl => ?_⟩
    have s0 : Same H (upd H l (.lst [])) := same_upd hl
    refine ⟨_, rfl, b, rfl, ⟨_, s0.sqt hls⟩, for_it (walk_tup (xs := iv ls)) (fun i σ H' => ∃ l y3 y4 fs, σ = [some (.ref a), some (.ref b), some (.ref l), y3, y4] ∧ Same H H' ∧ H' l = some (.lst (iv fs)) ∧ fs.Nodup ∧ ∀ t, t ∈ fs ↔ t ∈ had os (ls.take i))
      ⟨l, none, none, [], rfl, s0, upd_same, List.nodup_nil, fun t => Iff.rfl⟩ (fun i σ H' _ h => ?_) (fun i x σ H' H'' hi h hyy => ?_) (fun σ H' h => ?_)⟩
    · obtain ⟨_, _, _, _, _, s, _⟩ := h
      exact s.sqt hls
    · obtain ⟨l, y3, y4, fs, rfl, s, hfs, nd, hmem⟩ := h
      obtain ⟨rfl, hx⟩ := hyy
      obtain ⟨l0, hl0, rfl⟩ := iv_inv hx
      have hlt := hin l0 (List.mem_of_getElem? hl0)
      have hoo := List.getElem?_eq_getElem hlt
      obtain ⟨v, hv, d, rfl, t, hd, ht⟩ := ho.get hoo
      have homem := List.getElem_mem hlt
      have htl : ∀ l' ∈ ls.take i, l' < os.length := fun l' h' => hin l' (List.mem_of_mem_take h')
      have hfl : ∀ t ∈ fs, t < m := fun t ht => had_lt G htl ((hmem t).1 ht)
      have hlen : fs.length ≤ m := by
        have := nd.length_le_of_subset (l₂ := List.range m) fun t ht => List.mem_range.2 (hfl t ht)
        rwa [List.length_range] at this
      have holen := (good_ten G _ homem).1
      refine ⟨_, rfl, _, rfl, a, _, 1, _, rfl, rfl, s.sqt ha, at1, _, rfl, ob, _, _, _, rfl, rfl, s.sqt hb, atI_nat hv, d, _, 0, _, rfl, rfl, s.sqt hd, at0, t, rfl, ⟨_, s.sqt ht⟩,
        lc_filt (walk_tup (xs := iv os[l0].1)) (by rw [iv_len]; omega) (fun j => !decide (os[l0].1.getD j 0 ∈ fs)) (fun j => os[l0].1.getD j 0) (fun _ _ v (x : Nat) => v = .int (x : Int)) (fun _ _ _ _ _ _ _ h => h) (fun H' s' => s'.sqt (s.sqt ht))
          (fun D j v H3 H4 hD hj s' hl hy' Kp Kn kp kn => ?_) (fun D ys H3 hD s' hl r => ?_)⟩
      · obtain ⟨rfl, hv'⟩ := hy'
        obtain ⟨t0, ht0, rfl⟩ := iv_inv hv'
        have e3 : os[l0].1.getD j 0 = t0 := getD_of ht0
        refine ⟨rfl, _, rfl, _, rfl, l, _, rfl, .inl (.of (s' _ _ hfs)), rfl, ?_, _, rfl, ?_⟩
        · simp [flatV]
        · show if (!inV (.int (t0 : Int)) (iv fs)) = true then _ else _
          rw [in_iv]
          by_cases hin : t0 ∈ fs
          · rw [decide_eq_true hin]
            exact iteF (kn _ (by rw [e3, decide_eq_true hin]; rfl) (Same.refl _))
          · rw [decide_eq_false hin]
            exact iteT ⟨_, rfl, kp _ _ (by rw [e3, decide_eq_false hin]; rfl) (Same.refl _) (by rw [e3])⟩
      · have eys : ys = iv (os[l0].1.filter fun t => !decide (t ∈ fs)) := by
          have := r.eq_map
          rw [iv_len, pick_filter os[l0].1 (fun t => !decide (t ∈ fs))] at this
          exact this
        have hfl2 : (os[l0].1.filter fun t => !decide (t ∈ fs)).length ≤ os[l0].1.length := List.length_filter_le _ _
        refine ⟨l, D, iv fs, ys, rfl, rfl, s' _ _ hfs, hl, ld_of (by rw [eys, iv_len, iv_len]; omega), fun p hp => ?_⟩
        have sp := same_upd (o := .lst (iv fs ++ ys)) hp
        refine ⟨p, _, _, fs ++ os[l0].1.filter fun t => !decide (t ∈ fs), rfl, (s.trans s').trans sp, ?_, ?_, fun t => ?_⟩
        · rw [eys, ← List.map_append]
          exact upd_same
        · refine List.nodup_append.2 ⟨nd, (up_nd (G.up _ homem)).sublist List.filter_sublist, fun x hx y hy e => ?_⟩
          subst e
          have := (List.mem_filter.1 hy).2
          rw [decide_eq_true hx] at this
          cases this
        · rw [had_take hl0 hoo, List.mem_append, List.mem_append, hmem t, List.mem_filter]
          constructor
          · rintro (h | h)
            · exact .inl h
            · exact .inr h.1
          · rintro (h | h)
            · exact .inl h
            · by_cases hin : t ∈ fs
              · exact .inl ((hmem t).1 hin)
              · exact .inr ⟨h, by rw [decide_eq_false hin]; rfl⟩
    · obtain ⟨l, y3, y4, fs, rfl, s, hfs, nd, hmem⟩ := h
      rw [iv_len, List.take_length] at hmem
      have hlen : fs.length ≤ m := by
        have := nd.length_le_of_subset (l₂ := List.range m) fun t ht => List.mem_range.2 (had_lt G hin ((hmem t).1 ht))
        rwa [List.length_range] at this
      rw [iv_ints] at hfs
      refine ⟨_, rfl, l, _, rfl, .of hfs, by rw [List.length_map]; omega, fun ns' p hperm hle hp => ?_⟩
      have s1 := same_upd (o := .lst (ns'.map V.int)) hp
      refine ⟨p, _, rfl, .inl ⟨.of upd_same, fun r hr => ?_⟩⟩
      have s2 := same_upd (o := .tup (ns'.map V.int)) hr
      obtain ⟨ts, ets, hts, hpt⟩ := srt hperm hle nd
      refine k r _ ts ((s.trans s1).trans s2) ?_ (up_nd hts) fun t => by rw [hpt.mem_iff, hmem]
      show SqT _ _ _ (iv ts)
      rw [← ets]
      exact .of upd_same
def spCover (K : PySem.W.Frag) : Sp := fun vs H Q _ => ∃ (b a : Addr) (m : Nat) (os : List Of), vs = [.ref b, .ref a] ∧ BoxA H b ∧ StA K H a m os ∧ Good m os ∧
  ∀ p H' cs, But b H H' → BoxA H' b → ThA K H' p cs → cs.Pairwise (· < ·) → (∀ c ∈ cs, c < os.length) → (∀ t, t < m → ∃ c ∈ cs, t ∈ (os.getD c default).1) → Q (.ref p) H'
theorem c_law_cover (D : Df K mg "_law_cover" "_law_cover" t_law_cover ["box", "stock"]) (B : Bi mg) (C : Cal P w K mg base 1 "_law_take" ["box", "many"] spTake) (C2 : Cal P w K mg base 1 "_law_has" ["stock", "lot"] (spHas K)) : Cal P w K mg base 2 "_law_cover" ["box", "stock"] (spCover K) := by
  obtain ⟨f, fd, F, g, b⟩ := D.ex
  obtain ⟨f1, d1, G1, g1, k1, b1⟩ := C.ex
  obtain ⟨f2, d2, G2, g2, k2, b2⟩ := C2.ex
  refine ⟨f, fd, F.ok s_law_cover (fun vs H Q E h => ?_) (fun cdv A outer s H vs Q E hr h => ?_), g, F.kp, b⟩
  · obtain ⟨_, _, _, _, rfl, _⟩ := h
    rfl
  · obtain ⟨b, a, m, os, rfl, hb, hst, G, k⟩ := h
    have ⟨ob, ha, vs, hob, ho⟩ := hst
    have hn10 := G.n10
    refine ⟨_, pss_cons (ps_set (i := 2) s_law_cover.nd rfl (.inl rfl) (pe_listRg rfl (by rfl) B.list (prg_1 (by rfl) B.range (pe_callB call_len_seq (by rfl) B.len PySem.boot_len (pa_cons (pvt 1) pa_nil)))))
      (pss_cons (ps_set (i := 3) s_law_cover.nd rfl (.inl rfl) (pe_tup pa_nil))
      (pss_cons (ps_while PassesOwn.never (pt_cmpR op_lt (pe_callB call_len_seq (by rfl) B.len PySem.boot_len (pa_cons (pe_call G2 hr (by rfl) g2 k2 b2 .nil pass0 (pa_cons (pv 1) (pa_cons (pv 3) pa_nil))) pa_nil)) (pvt 1) (nomark _))
        (pss_one (ps_set (i := 3) s_law_cover.nd rfl (.inl rfl) (pe_op op_catA (pv 3) (pe_tup (pa_cons (pe_bm PySem.F.plainAttrs_list PySem.F.slot_list_pop PySem.F.type_list_pop mt_popAt (pv 2) (pa_cons (pe_call G1 hr (by rfl) g1 k1 b1 .nil pass0 (pa_cons (pv 0) (pa_cons (pe_callB call_len_seq (by rfl) B.len PySem.boot_len (pa_cons (pv 2) pa_nil)) pa_nil))) pa_nil)) pa_nil))))))
      (pss_one (ps_ret (pe_callTy call_tuple_of (by rfl) B.tuple (by decide +kernel) (pa_cons (pe_callB KR.cr_sortedTp (by rfl) B.sorted (by decide +kernel) (pa_cons (pv 3) pa_nil)) pa_nil)))))), ?_⟩
    have hvl : vs.length = os.length := ho.1
    refine ⟨_, rfl, a, _, 1, _, rfl, rfl, ha, at1, ob, vs, rfl, .inr hob, _, rfl, RgOk.of_le (by omega) (by omega) (by omega) (by omega), fun l hl => ?_⟩
    have s0 := same_upd (o := .lst (rgV 0 (vs.length : Int))) hl
    refine ⟨Nat.zero_le _, fun f0 hf0 => ?_⟩
    have s1 := same_upd (o := .tup []) hf0
    have hlb : l ≠ b := by
      obtain ⟨n, hb⟩ := hb
      exact (ne_of_none hb hl).symm
    refine ⟨fun i σ H' => ∃ f fs rest, σ = [some (.ref b), some (.ref a), some (.ref l), some (.ref f)] ∧ But b H H' ∧ BoxA H' b ∧ H' l = some (.lst (iv rest)) ∧ SqT K H' f (iv fs) ∧ (rest ++ fs).Perm (List.range os.length) ∧ i = rest.length,
      ⟨_, f0, [], List.range os.length, rfl, (s0.trans s1).but, (hb.of_same s0).of_same s1, ?_, .of upd_same, ?_, rfl⟩, fun i σ H' hW => ?_⟩
    · rw [← rgV_iv, ← hvl]
      exact s1 _ _ upd_same
    · rw [List.append_nil]
    obtain ⟨f, fs, rest, rfl, u, hb', hl', hf', hperm, rfl⟩ := hW
    have hplen := hperm.length_eq
    rw [List.length_append, List.length_range] at hplen
    have hfl : ∀ x ∈ fs, x < os.length := fun x hx => List.mem_range.1 (hperm.mem_iff.1 (List.mem_append.2 (.inr hx)))
    have hst' := hst.monoT (u.tb hb)
    refine ⟨_, rfl, _, rfl, a, f, m, os, fs, rfl, hst', G, hf', hfl, by omega, fun p H1 ts s1 hp nd hmem => ?_⟩
    have htl : ∀ t ∈ ts, t < m := fun t ht => had_lt G hfl ((hmem t).1 ht)
    refine ⟨p, _, rfl, .inr hp, _, rfl, a, _, 0, _, rfl, rfl, s1.sqt ((u.tb hb).sqt ha), at0, _, _, rfl, rfl, _, rfl, ite2 (fun e => ?_) (fun e => ?_)⟩
    · have hlt : (iv ts).length < m := by
        have : ((iv ts).length : Int) < (m : Int) := of_decide_eq_true e
        omega
      rw [iv_len] at hlt
      have hrest : 0 < rest.length := by
        cases rest with
        | cons x r => exact Nat.succ_pos _
        | nil =>
          have h2 := (List.nodup_range (n := m)).length_le_of_subset (l₂ := ts) fun t ht => by
            rw [hmem, had_mem hfl]
            obtain ⟨l2, hl2, r2⟩ := (had_mem (os := os) (ls := List.range os.length) (fun l hl => List.mem_range.1 hl) t).1 ((had_all G t).2 (List.mem_range.1 ht))
            exact ⟨l2, hperm.mem_iff.2 hl2, r2⟩
          rw [List.length_range] at h2
          omega
      have hl1 := s1 _ _ hl'
      have hb1 := hb'.of_same s1
      refine ⟨fun σ' H2 => ∃ f fs rest', σ' = [some (.ref b), some (.ref a), some (.ref l), some (.ref f)] ∧ But b H H2 ∧ BoxA H2 b ∧ H2 l = some (.lst (iv rest')) ∧ SqT K H2 f (iv fs) ∧ (rest' ++ fs).Perm (List.range os.length) ∧ rest'.length < rest.length,
        fun σ' H2 ⟨f, fs, rest', e1, e2, e3, e4, e5, e6, e7⟩ => ⟨rest'.length, e7, f, fs, rest', e1, e2, e3, e4, e5, e6, rfl⟩, ?_⟩
      refine ⟨_, rfl, _, rfl, .inl ⟨rfl, _, .of hl1⟩, _, rfl, _, rfl, l, _, rfl, .inl (.of hl1), b, _, rfl, hb1, by rw [iv_len]; omega, by rw [iv_len]; omega, fun d H3 e0 e1 u3 hb3 => ?_⟩
      rw [iv_len] at e1
      obtain ⟨j, rfl⟩ := Int.eq_ofNat_of_zero_le e0
      have hj : j < rest.length := by omega
      have hx := List.getElem?_eq_getElem hj
      have hxv : (iv rest)[j]? = some (.int (rest[j] : Int)) := by rw [List.getElem?_map, hx]; rfl
      have hl3 := u3 _ _ hlb hl1
      refine ⟨l, iv rest, _, j, _, rfl, rfl, hl3, by omega, by omega, (ixN_seq (ixN_nat (by rw [iv_len]; exact hj))).1, hxv, ?_⟩
      have t4 : SameT H3 (upd H3 l (.lst ((iv rest).eraseIdx j))) := (but_upd (o := .lst ((iv rest).eraseIdx j))).t hl3
      have hf4 : SqT K (upd H3 l (.lst ((iv rest).eraseIdx j))) f (iv fs) := t4.sqt ((u3.tb hb1).sqt (s1.sqt hf'))
      have u4 : But b H (upd H3 l (.lst ((iv rest).eraseIdx j))) := but_mut ((u.trans s1.but).trans u3) hl
      have hb4 : BoxA (upd H3 l (.lst ((iv rest).eraseIdx j))) b := let ⟨n, h⟩ := hb3; ⟨n, by rw [upd_ne hlb.symm]; exact h⟩
      have hl4 : upd H3 l (.lst ((iv rest).eraseIdx j)) l = some (.lst (iv (rest.eraseIdx j))) := by rw [upd_same, er_map]
      have hpm : (rest.eraseIdx j ++ (fs ++ [rest[j]])).Perm (List.range os.length) := by
        refine List.Perm.trans ?_ hperm
        rw [← List.append_assoc]
        refine (List.perm_append_comm).trans ?_
        show (rest[j] :: (rest.eraseIdx j ++ fs)).Perm _
        exact (er_perm rest j _ hx).append_right fs
      have hel : (rest.eraseIdx j).length < rest.length := by rw [List.length_eraseIdx_of_lt hj]; omega
      refine ⟨by show 1 ≤ sizeLine; decide, fun p2 hp2 => ?_⟩
      have s5 := same_upd (o := .tup [.int (rest[j] : Int)]) hp2
      refine ⟨f, p2, iv fs, _, rfl, rfl, s5.sqt hf4, .of upd_same, ld_of (by rw [iv_len]; show _ + 1 ≤ _; omega), fun z => ?_, (fun _ z => by cases z), fun _ _ p3 hp3 => ?_⟩
      · have hfs : fs = [] := List.map_eq_nil_iff.1 z
        subst hfs
        exact ⟨p2, [rest[j]], _, rfl, u4.trans s5.but, hb4.of_same s5, s5 _ _ hl4, .of upd_same, hpm, hel⟩
      · have s6 := same_upd (o := .tup (iv fs ++ [.int (rest[j] : Int)])) hp3
        refine ⟨p3, fs ++ [rest[j]], _, rfl, (u4.trans s5.but).trans s6.but, (hb4.of_same s5).of_same s6, s6 _ _ (s5 _ _ hl4), ?_, hpm, hel⟩
        have e9 : iv (fs ++ [rest[j]]) = iv fs ++ [.int (rest[j] : Int)] := List.map_append
        rw [e9]
        exact .of upd_same
    · have hge : m ≤ ts.length := by
        have : ¬ ((iv ts).length : Int) < (m : Int) := fun z => e (decide_eq_true z)
        rw [iv_len] at this
        omega
      have hf1 := s1.sqt hf'
      rw [iv_ints] at hf1
      refine ⟨_, rfl, f, _, rfl, hf1, by rw [List.length_map]; omega, fun ns' p2 hpm hle hp2 => ?_⟩
      have s2 := same_upd (o := .lst (ns'.map V.int)) hp2
      refine ⟨p2, _, rfl, .inl ⟨.of upd_same, fun r hr => ?_⟩⟩
      have s3 := same_upd (o := .tup (ns'.map V.int)) hr
      have ndf : fs.Nodup := by
        have := hperm.nodup_iff.2 List.nodup_range
        exact (List.nodup_append.1 this).2.1
      obtain ⟨cs, ecs, hcs, hpc⟩ := srt hpm hle ndf
      have s13 := (s1.trans s2).trans s3
      refine k r _ cs (u.trans s13.but) (hb'.of_same s13) ?_ hcs (fun c hc => hfl c (hpc.mem_iff.1 hc)) fun t ht => ?_
      · show SqT _ _ _ (iv cs)
        rw [← ecs]
        exact .of upd_same
      · obtain ⟨l2, hl2, o, ho2, hto⟩ := (had_mem hfl t).1 ((hmem t).1 (full_of nd htl hge t ht))
        exact ⟨l2, hpc.mem_iff.2 hl2, by rw [getD_of ho2]; exact hto⟩
end
end K34
set_option Elab.async false
set_option linter.all false
set_option maxRecDepth 100000
set_option exponentiation.threshold 200000
/-! the maths of a bearing drawn at random -/
namespace K34
def E6 (k : Nat) (q : Rat) : Prop := ∃ a : Int, q * ((6 ^ k : Nat) : Rat) = (a : Rat)
theorem pow6_ne (k : Nat) : ((6 ^ k : Nat) : Rat) ≠ 0 := by
  have h : 0 < 6 ^ k := Nat.pow_pos (by decide)
  intro z
  have := Rat.natCast_inj.1 (show ((6 ^ k : Nat) : Rat) = ((0 : Nat) : Rat) from z)
  omega
theorem E6.zero (k : Nat) : E6 k 0 := ⟨0, by rw [Rat.zero_mul]; rfl⟩
theorem E6.add {k : Nat} {p q : Rat} (h : E6 k p) (g : E6 k q) : E6 k (p + q) := by
  obtain ⟨a, h⟩ := h
  obtain ⟨c, g⟩ := g
  exact ⟨a + c, by rw [Rat.add_mul, h, g, Rat.intCast_add]⟩
theorem E6.sub {k : Nat} {p q : Rat} (h : E6 k p) (g : E6 k q) : E6 k (p - q) := by
  obtain ⟨a, h⟩ := h
  obtain ⟨c, g⟩ := g
  exact ⟨a - c, by rw [Rat.intCast_sub, ← h, ← g]; grind⟩
theorem E6.nat (k n : Nat) : E6 k (n : Rat) := ⟨((n * 6 ^ k : Nat) : Int), by rw [← Rat.natCast_mul, Rat.intCast_natCast]⟩
theorem E6.mul {k j : Nat} {p q : Rat} (h : E6 k p) (g : E6 j q) : E6 (k + j) (p * q) := by
  obtain ⟨a, h⟩ := h
  obtain ⟨c, g⟩ := g
  refine ⟨a * c, ?_⟩
  rw [Nat.pow_add, Rat.natCast_mul, Rat.intCast_mul, ← h, ← g]
  grind
theorem E6.mono {k : Nat} {q : Rat} (h : E6 k q) : E6 (k + 1) q := by
  have := h.mul (j := 1) (q := 1) ⟨6, by rw [Rat.one_mul]; rfl⟩
  rwa [Rat.mul_one] at this
theorem E6.tot {k : Nat} : ∀ {qs : List Rat}, (∀ q ∈ qs, E6 k q) → E6 k (tot qs)
  | [], _ => E6.zero k
  | q :: r, h => by
    rw [tot_cons]
    exact (h q List.mem_cons_self).add (E6.tot fun x hx => h x (List.mem_cons_of_mem _ hx))
theorem E6.size {k : Nat} {q : Rat} (h : E6 k q) (hk : k ≤ 10) (h0 : 0 ≤ q) (h1 : q ≤ ((2 ^ 44 : Nat) : Rat)) : q.den ≤ 2 ^ 30 ∧ q.num.natAbs ≤ 2 ^ 80 := by
  obtain ⟨a, h⟩ := h
  have hd : q.den ≤ 2 ^ 30 := by
    have e : q = Rat.divInt a ((6 ^ k : Nat) : Int) := by
      rw [Rat.divInt_eq_div, Rat.intCast_natCast]
      have := pow6_ne k
      grind
    have hp : 0 < 6 ^ k := Nat.pow_pos (by decide)
    have h2 := divInt_den (i := a) (j := ((6 ^ k : Nat) : Int)) (by omega)
    rw [← e] at h2
    have h3 : ((6 ^ k : Nat) : Int) / ((Int.gcd a ((6 ^ k : Nat) : Int) : Nat) : Int) ≤ ((6 ^ k : Nat) : Int) := Int.ediv_le_self _ (by omega)
    have h4 : 6 ^ k ≤ 6 ^ 10 := Nat.pow_le_pow_right (by decide) hk
    have h5 : 6 ^ 10 ≤ 2 ^ 30 := by decide
    omega
  refine ⟨hd, ?_⟩
  have hn := Rat.num_nonneg.2 h0
  have h2 := (Rat.le_iff q ((2 ^ 44 : Nat) : Rat)).1 h1
  rw [Rat.num_natCast, Rat.den_natCast] at h2
  have h3 : q.num ≤ ((2 ^ 44 * q.den : Nat) : Int) := by
    rw [Int.natCast_mul]
    omega
  have h4 : 2 ^ 44 * q.den ≤ 2 ^ 44 * 2 ^ 30 := Nat.mul_le_mul_left _ hd
  have h5 : 2 ^ 44 * 2 ^ 30 ≤ 2 ^ 80 := by decide
  omega
theorem E6.fine {k : Nat} {q : Rat} (h : E6 k q) (hk : k ≤ 10) (h0 : 0 ≤ q) (h1 : q ≤ ((2 ^ 44 : Nat) : Rat)) : Fine q := by
  obtain ⟨a, c⟩ := h.size hk h0 h1
  exact ⟨Nat.le_trans a (Nat.pow_le_pow_right (by decide) (by decide)), Nat.le_trans c (Nat.pow_le_pow_right (by decide) (by decide))⟩
theorem getD_set (ys : List Rat) (t x : Nat) (r : Rat) (ht : t < ys.length) : (ys.set t r).getD x 0 = if x = t then r else ys.getD x 0 := by
  rw [List.getD_eq_getElem?_getD, List.getElem?_set, List.getD_eq_getElem?_getD]
  by_cases h : t = x
  · subst h
    rw [if_pos rfl, if_pos ht, if_pos rfl]
    rfl
  · rw [if_neg h, if_neg (fun z => h z.symm)]
theorem sel_set {ys : List Rat} {t : Nat} {r : Rat} (ht : t < ys.length) (h0 : ys.getD t 0 = 0) : ∀ {ts : List Nat}, ts.Nodup → tot (sel (ys.set t r) ts) = tot (sel ys ts) + if t ∈ ts then r else 0
  | [], _ => by
    show tot [] = tot [] + if t ∈ [] then r else 0
    rw [if_neg List.not_mem_nil, Rat.add_zero]
  | x :: rs, nd => by
    obtain ⟨n1, n2⟩ := List.nodup_cons.1 nd
    have ih := sel_set (r := r) ht h0 n2
    show tot ((ys.set t r).getD x 0 :: sel (ys.set t r) rs) = tot (ys.getD x 0 :: sel ys rs) + _
    rw [tot_cons, tot_cons, ih, getD_set ys t x r ht]
    by_cases h : x = t
    · subst h
      rw [if_pos rfl, if_neg n1, if_pos List.mem_cons_self, h0]
      grind
    · rw [if_neg h]
      by_cases h2 : t ∈ rs
      · rw [if_pos h2, if_pos (List.mem_cons_of_mem _ h2)]
        grind
      · rw [if_neg h2, if_neg (fun z => (List.mem_cons.1 z).elim (fun e => h e.symm) h2)]
        grind
theorem bear_set {m : Nat} {os : List Of} {ys : List Rat} {t : Nat} {r : Rat} (G : Good m os) (B : BearP m os ys) (ht : t < m) (h0 : ys.getD t 0 = 0) (hr : 0 ≤ r) (hle : ∀ o ∈ os, t ∈ o.1 → r ≤ (o.2 : Rat) - tot (sel ys o.1)) : BearP m os (ys.set t r) := by
  refine ⟨by rw [List.length_set]; exact B.len, fun y hy => ?_, fun o ho => ?_⟩
  · rcases List.mem_or_eq_of_mem_set hy with h | h
    · exact B.nn y h
    · rw [h]; exact hr
  · rw [sel_set (by rw [B.len]; exact ht) h0 (up_nd (G.up o ho))]
    have h1 := B.ok o ho
    by_cases h : t ∈ o.1
    · rw [if_pos h]
      have := hle o ho h
      grind
    · rw [if_neg h]
      grind
theorem tot_nn {qs : List Rat} (h : ∀ q ∈ qs, 0 ≤ q) : 0 ≤ tot qs := by
  induction qs with
  | nil => exact Rat.le_refl
  | cons q r ih =>
    rw [tot_cons]
    have h1 := h q List.mem_cons_self
    have h2 := ih fun x hx => h x (List.mem_cons_of_mem _ hx)
    grind
theorem sel_nn {ys : List Rat} (h : ∀ y ∈ ys, 0 ≤ y) (ts : List Nat) : ∀ q ∈ sel ys ts, 0 ≤ q := fun q hq => by
  obtain ⟨t, _, rfl⟩ := List.mem_map.1 hq
  exact getD_nn h t
theorem sel_e6 {k : Nat} {ys : List Rat} (h : ∀ y ∈ ys, E6 k y) (ts : List Nat) : ∀ q ∈ sel ys ts, E6 k q := fun q hq => by
  obtain ⟨t, _, rfl⟩ := List.mem_map.1 hq
  by_cases ht : t < ys.length
  · rw [getD_lt ht]
    exact h _ (List.getElem_mem ht)
  · rw [List.getD_eq_getElem?_getD, List.getElem?_eq_none (by omega)]
    exact E6.zero k
/-- what is left of a price -/
theorem room_eq (n : Nat) (q : Rat) : Rat.divInt ((n : Int) * (q.den : Int) - q.num) (q.den : Int) = (n : Rat) - q := by
  have hd : ((q.den : Int) : Rat) ≠ 0 := by
    intro z
    have := q.den_pos
    have h2 : ((q.den : Int)) = 0 := Rat.intCast_inj.1 z
    omega
  have h := rat_nd q
  rw [Rat.divInt_eq_div, Rat.intCast_sub, Rat.intCast_mul, Rat.intCast_natCast n]
  grind
theorem tot_den {qs : List Rat} (h : ∀ q ∈ qs, Fine q) (hl : qs.length ≤ 10) : (tot qs).den < 2 ^ 9000 := by
  have := (part_size h qs.length (Nat.le_refl _)).1
  rw [List.take_length] at this
  exact Nat.lt_of_le_of_lt this (Nat.pow_lt_pow_right (by decide) (by omega))
theorem part_ok {r p : Rat} (h0 : 0 ≤ r) (p0 : 0 ≤ p) (p1 : p ≤ 1) : 0 ≤ r * p ∧ r * p ≤ r := by
  have h1 := Rat.mul_nonneg h0 p0
  have h2 : r * p ≤ r * 1 := Rat.mul_le_mul_of_nonneg_left p1 h0
  rw [Rat.mul_one] at h2
  exact ⟨h1, h2⟩
end K34
set_option Elab.async false
set_option linter.all false
set_option maxRecDepth 100000
set_option exponentiation.threshold 200000
/-! the walk: a bearing drawn at random -/
namespace K34
open PySem PySem.Spec PyProof.Rows L2
structure BrS (m : Nat) (os : List Of) (ys : List Rat) (rest : List Nat) : Prop where
  B : BearP m os ys
  nd : rest.Nodup
  z : ∀ t ∈ rest, t < m ∧ ys.getD t 0 = 0
  rl : rest.length ≤ m
  e6 : ∀ y ∈ ys, E6 (m - rest.length) y
  le : ∀ y ∈ ys, y ≤ ((2 ^ 44 : Nat) : Rat)
theorem BrS.init {m : Nat} {os : List Of} (G : Good m os) : BrS m os (List.replicate m 0) (List.range m) := by
  have h0 : ∀ y ∈ List.replicate m (0 : Rat), y = 0 := fun y hy => List.eq_of_mem_replicate hy
  have hg : ∀ t, (List.replicate m (0 : Rat)).getD t 0 = 0 := fun t => by
    by_cases h : t < (List.replicate m (0 : Rat)).length
    · rw [getD_lt h]; exact h0 _ (List.getElem_mem h)
    · rw [List.getD_eq_getElem?_getD, List.getElem?_eq_none (by omega)]; rfl
  refine ⟨⟨List.length_replicate, fun y hy => by rw [h0 y hy]; exact Rat.le_refl, fun o ho => ?_⟩, List.nodup_range, fun t ht => ⟨List.mem_range.1 ht, hg t⟩, by rw [List.length_range]; omega, fun y hy => by rw [h0 y hy]; exact E6.zero _, fun y hy => by rw [h0 y hy]; exact Rat.natCast_nonneg⟩
  have : tot (sel (List.replicate m 0) o.1) = 0 := by
    generalize o.1 = ts
    induction ts with
    | nil => rfl
    | cons t r ih =>
      show tot ((List.replicate m (0 : Rat)).getD t 0 :: sel (List.replicate m (0 : Rat)) r) = 0
      rw [tot_cons, ih, hg t, Rat.add_zero]
  rw [this]
  exact Rat.natCast_nonneg
theorem BrS.fine {m : Nat} {os : List Of} {ys : List Rat} {rest : List Nat} (G : Good m os) (S : BrS m os ys rest) : ∀ y ∈ ys, Fine y := fun y hy => (S.e6 y hy).fine (by have := G.m10; omega) (S.B.nn y hy) (S.le y hy)
theorem BrS.skip {m : Nat} {os : List Of} {ys : List Rat} {rest : List Nat} {j : Nat} (S : BrS m os ys rest) (hj : j < rest.length) : BrS m os ys (rest.eraseIdx j) := by
  have hl := List.length_eraseIdx_of_lt hj
  have hs : (rest.eraseIdx j).Sublist rest := List.eraseIdx_sublist _ _
  refine ⟨S.B, S.nd.sublist hs, fun t ht => S.z t (hs.subset ht), by have := S.rl; omega, fun y hy => ?_, S.le⟩
  have h := (S.e6 y hy).mono
  have := S.rl
  rwa [show m - rest.length + 1 = m - (rest.eraseIdx j).length by omega] at h
theorem BrS.put {m : Nat} {os : List Of} {ys : List Rat} {rest : List Nat} {j t : Nat} {r p : Rat} (G : Good m os) (S : BrS m os ys rest) (hj : rest[j]? = some t) (r0 : 0 ≤ r) (re : E6 (m - rest.length) r) (r2 : r ≤ ((2 ^ 44 : Nat) : Rat))
    (hle : ∀ o ∈ os, t ∈ o.1 → r ≤ (o.2 : Rat) - tot (sel ys o.1)) (p0 : 0 ≤ p) (p1 : p ≤ 1) (pe : E6 1 p) : BrS m os (ys.set t (r * p)) (rest.eraseIdx j) := by
  have hjl : j < rest.length := (List.getElem?_eq_some_iff.1 hj).1
  have hm := List.mem_of_getElem? hj
  obtain ⟨z1, z2⟩ := S.z t hm
  obtain ⟨q0, q1⟩ := part_ok r0 p0 p1
  have S' := S.skip hjl
  have hl := List.length_eraseIdx_of_lt hjl
  have := S.rl
  have nt : t ∉ rest.eraseIdx j := by
    have h1 := er_perm rest j t hj
    have h2 := h1.nodup_iff.2 S.nd
    exact (List.nodup_cons.1 h2).1
  refine ⟨bear_set G S.B z1 z2 q0 fun o ho hto => Rat.le_trans q1 (hle o ho hto), S'.nd, fun x hx => ?_, S'.rl, fun y hy => ?_, fun y hy => ?_⟩
  · obtain ⟨x1, x2⟩ := S'.z x hx
    refine ⟨x1, ?_⟩
    rw [getD_set _ _ _ _ (by rw [S.B.len]; exact z1), if_neg fun e => nt (by rw [← e]; exact hx)]
    exact x2
  · rcases List.mem_or_eq_of_mem_set hy with h | h
    · exact S'.e6 y h
    · rw [h]
      have h3 := re.mul pe
      rwa [show m - rest.length + 1 = m - (rest.eraseIdx j).length by omega] at h3
  · rcases List.mem_or_eq_of_mem_set hy with h | h
    · exact S'.le y h
    · rw [h]
      exact Rat.le_trans q1 r2
section
variable {P : Program} {w : World} {K : PySem.W.Frag} {mg : Str → Option Value} {base : Heap}
def RoomI (K : PySem.W.Frag) (H : Hp) (os : List Of) (ys : List Rat) (k t i : Nat) (v : V) : Prop :=
  (v = .non ∧ ∀ j o, j < i → os[j]? = some o → t ∉ o.1) ∨ ∃ c r, v = .ref c ∧ FrA K H c r ∧ 0 ≤ r ∧ E6 k r ∧ r ≤ ((2 ^ 44 : Nat) : Rat) ∧ ∀ j o, j < i → os[j]? = some o → t ∈ o.1 → r ≤ (o.2 : Rat) - tot (sel ys o.1)
theorem RoomI.mono {H H' : Hp} {os : List Of} {ys : List Rat} {k t i : Nat} {v : V} (h : RoomI K H os ys k t i v) (s : Same H H') : RoomI K H' os ys k t i v := by
  rcases h with h | ⟨c, r, h1, h2, h3⟩
  · exact .inl h
  · exact .inr ⟨c, r, h1, h2.mono s, h3⟩
theorem RoomI.skip {H : Hp} {os : List Of} {ys : List Rat} {k t i : Nat} {v : V} {o : Of} (h : RoomI K H os ys k t i v) (ho : os[i]? = some o) (hn : t ∉ o.1) : RoomI K H os ys k t (i + 1) v := by
  rcases h with ⟨h1, h2⟩ | ⟨c, r, h1, h2, h3, h4, h5, h6⟩
  · refine .inl ⟨h1, fun j o' hj ho' => ?_⟩
    by_cases e : j = i
    · subst e
      rw [ho] at ho'
      cases ho'
      exact hn
    · exact h2 j o' (by omega) ho'
  · refine .inr ⟨c, r, h1, h2, h3, h4, h5, fun j o' hj ho' ht => ?_⟩
    by_cases e : j = i
    · subst e
      rw [ho] at ho'
      cases ho'
      exact absurd ht hn
    · exact h6 j o' (by omega) ho' ht
def spBearing (K : PySem.W.Frag) : Sp := fun vs H Q _ => ∃ (b a : Addr) (m : Nat) (os : List Of), vs = [.ref b, .ref a] ∧ BoxA H b ∧ StA K H a m os ∧ Good m os ∧
  ∀ p H' ys, But b H H' → BoxA H' b → FrT K H' p ys → BearP m os ys → (∀ y ∈ ys, Fine y) → Q (.ref p) H'
theorem fr_half {H : Hp} {a : Addr} (h : SqT K H a [.int 1, .int 2]) : FrA K H a (mkRat 1 2) := h
theorem fr_twothird {H : Hp} {a : Addr} (h : SqT K H a [.int 2, .int 3]) : FrA K H a (mkRat 2 3) := h
theorem c_law_bearing (D : Df K mg "_law_bearing" "_law_bearing" t_law_bearing ["box", "stock"]) (B : Bi mg) (C : Cal P w K mg base 1 "_law_take" ["box", "many"] spTake) (C2 : Cal P w K mg base 2 "_law_sum" ["some"] (spTot (FrL K) K)) (C3 : Cal P w K mg base 1 "_law_frac" ["top", "bottom"] (spMade K)) :
    Cal P w K mg base 3 "_law_bearing" ["box", "stock"] (spBearing K) := by
  obtain ⟨f, fd, F, g, b⟩ := D.ex
  obtain ⟨f1, d1, G1, g1, k1, b1⟩ := C.ex
  obtain ⟨f2, d2, G2, g2, k2, b2⟩ := C2.ex
  obtain ⟨f3, d3, G3, g3, k3, b3⟩ := C3.ex
  refine ⟨f, fd, F.ok s_law_bearing (fun vs H Q E h => ?_) (fun cdv A outer s H vs Q E hr h => ?_), g, F.kp, b⟩
  · obtain ⟨_, _, _, _, rfl, _⟩ := h
    rfl
  · obtain ⟨b, a, m, os, rfl, hb, hst, G, k⟩ := h
    have ⟨ob, ha, vs, hob, ho⟩ := hst
    have hm10 := G.m10
    have nd := s_law_bearing.nd
    refine ⟨_, pss_cons (ps_set (i := 3) nd rfl (.inr rfl) (pe_lc (own := [("thing", 2)]) (g := gName 2) (tt := tYes) (te := tTup (tCons (tC (.int 0)) (tCons (tC (.int 1)) tNil))) rfl nd (pi_range1 (by rfl) B.range (pa_cons (pvt 1) pa_nil)) (blkOk_by (N := n_law_bearing) (sc := defScope t_law_bearing) (by decide +kernel))
          (fun _ _ _ _ _ => pg_name (i := 2) nd rfl (Or.inl rfl)) (fun _ _ _ _ _ => pts_nil) (fun _ _ _ _ _ => pe_tup (pa_cons pe_int (pa_cons pe_int pa_nil)))))
      (pss_cons (ps_set (i := 4) nd rfl (.inl rfl) (pe_listRg rfl (by rfl) B.list (prg_1 (by rfl) B.range (pvt 1))))
      (pss_cons (ps_while PassesOwn.never (pt_cmpR (op_neD hr.units) (pv 4) (pe_lst pa_nil) (nomark _))
        (pss_cons (ps_set (i := 2) nd rfl (.inl rfl) (pe_bm PySem.F.plainAttrs_list PySem.F.slot_list_pop PySem.F.type_list_pop mt_popAt (pv 4) (pa_cons (pe_call G1 (hr.mono (by decide)) (by rfl) g1 k1 b1 .nil pass0 (pa_cons (pv 0) (pa_cons (pe_callB call_len_seq (by rfl) B.len PySem.boot_len (pa_cons (pv 4) pa_nil)) pa_nil))) pa_nil)))
        (pss_cons (ps_set (i := 5) nd rfl (.inl rfl) pe_non)
        (pss_cons (ps_for PassesOwn.never rfl (pi_tup (pvt 1)) (pg_tup rfl (pgs_cons (pg_name (i := 6) nd rfl (.inl rfl)) (pgs_cons (pg_name (i := 7) nd rfl (.inl rfl)) pgs_nil)))
          (pss_one (ps_if (pt_cmpR op_in_seq (pv 2) (pv 6) rfl)
            (pss_cons (ps_asg (pe_call G2 hr (by rfl) g2 k2 b2 .nil pass0 (pa_cons (pe_lc (own := [("one", 12)]) (g := gName 12) (tt := tYes) (te := tOp (rIxL K) (tVar 3) (tVar 12)) rfl nd (pi_tup (pv 6)) (blkOk_by (N := n_law_bearing) (sc := defScope t_law_bearing) (by decide +kernel))
                (fun _ _ _ _ _ => pg_name (i := 12) nd rfl (Or.inl rfl)) (fun _ _ _ _ _ => pts_nil) (fun _ _ _ _ _ => pe_ix ix_list (pv 3) (pv 12) (fun _ _ => rfl))) pa_nil))
                (pg_tup rfl (pgs_cons (pg_name (i := 8) nd rfl (.inl rfl)) (pgs_cons (pg_name (i := 9) nd rfl (.inl rfl)) pgs_nil))))
            (pss_cons (ps_set (i := 10) nd rfl (.inl rfl) (pe_call G3 (hr.mono (by decide)) (by rfl) g3 k3 b3 .nil pass0 (pa_cons (pe_op op_sub (pe_op op_mulW (pv 7) (pv 9)) (pv 8)) (pa_cons (pv 9) pa_nil))))
            (pss_one (ps_if (PW.pt (pw_or (pt_cmpR op_isN (pv 5) pe_non (nomark _)) (pw_or1 (pt_cmpR op_lt (pe_op op_mulW (pvt 10) (pvt 5)) (pe_op op_mulW (pvt 5) (pvt 10)) (nomark _)))))
              (pss_one (ps_set (i := 5) nd rfl (.inl rfl) (pv 10))) pss_nil)))) pss_nil)))
        (pss_cons (ps_set (i := 11) nd rfl (.inl rfl) (pe_ix ix_list (pe_lst (pa_cons (pe_tup (pa_cons pe_int (pa_cons pe_int pa_nil))) (pa_cons (pe_tup (pa_cons pe_int (pa_cons pe_int pa_nil))) (pa_cons (pe_tup (pa_cons pe_int (pa_cons pe_int pa_nil))) (pa_cons (pe_tup (pa_cons pe_int (pa_cons pe_int pa_nil))) (pa_cons (pe_tup (pa_cons pe_int (pa_cons pe_int pa_nil))) pa_nil))))))
            (pe_call G1 (hr.mono (by decide)) (by rfl) g1 k1 b1 .nil pass0 (pa_cons (pv 0) (pa_cons pe_int pa_nil))) (fun _ _ => rfl)))
        (pss_one (ps_if (pt_cmpR op_notN (pv 5) pe_non (nomark _)) (pss_one (ps_asg (pe_call G3 (hr.mono (by decide)) (by rfl) g3 k3 b3 .nil pass0 (pa_cons (pe_op op_mulW (pvt 5) (pvt 11)) (pa_cons (pe_op op_mulW (pvt 5) (pvt 11)) pa_nil))) (pg_sub (pv 3) (pv 2) set_list))) pss_nil)))))))
      (pss_one (ps_ret (pe_callTy call_tuple_of (by rfl) B.tuple (by decide +kernel) (pa_cons (pv 3) pa_nil)))))), ?_⟩
    refine ⟨_, rfl, a, _, 0, _, rfl, rfl, ha, at0, (m : Int), rfl, by omega, by omega, lc_all walk_range0 (by omega) (List.replicate m (0 : Rat)) List.length_replicate (fun D H v (x : Rat) => Fr K H v x) (fun D H H' v x ⟨l, hl⟩ hb' h => h.monoT (hb'.t hl)) (fun H' s' => trivial)
        (fun D i v H3 H4 x hD hx s' hl hy' Kp kp => ?_) (fun l ws H1 hl s1 hlw r1 => ?_)⟩
    · obtain ⟨rfl, rfl⟩ := hy'
      have hx0 : x = 0 := List.eq_of_mem_replicate (List.mem_of_getElem? hx)
      subst hx0
      exact ⟨rfl, two_line, fun p hp => kp _ _ (same_upd hp) ⟨p, rfl, fr_nat (n := 0) (.of upd_same)⟩⟩
    refine ⟨_, rfl, a, _, 0, _, rfl, rfl, s1.sqt ha, at0, _, rfl, RgOk.of_le (by omega) (by omega) (by omega) (by omega), fun d hd => ?_⟩
    have sd := same_upd (o := .lst (rgV 0 (m : Int))) hd
    have hlb : l ≠ b := by
      obtain ⟨n, hb⟩ := hb
      exact (ne_of_none hb hl).symm
    have hdH : H d = none := s1.free hd
    have hdb : d ≠ b := by
      obtain ⟨n, hb⟩ := hb
      exact (ne_of_none hb hdH).symm
    have hld : l ≠ d := ne_of_none hlw hd
    refine ⟨fun i σ H' => ∃ y2 y5 y6 y7 y8 y9 y10 y11 y12 ws ys rest, σ = [some (.ref b), some (.ref a), y2, some (.ref l), some (.ref d), y5, y6, y7, y8, y9, y10, y11, y12] ∧ But b H H' ∧ BoxA H' b ∧ H' l = some (.lst ws) ∧ Rl (Fr K H') ws ys ∧ H' d = some (.lst (iv rest)) ∧ BrS m os ys rest ∧ i = rest.length,
      ⟨_, none, none, none, none, none, none, none, none, none, ws, _, List.range m, rfl, (s1.trans sd).but, (hb.of_same s1).of_same sd, sd _ _ hlw, r1.imp fun _ _ h => h.mono sd, ?_, .init G, rfl⟩, fun i σ H' hW => ?_⟩
    · rw [← rgV_iv]
      exact upd_same
    obtain ⟨y2, y5, y6, y7, y8, y9, y10, y11, y12, ws, ys, rest, rfl, u, hb', hlw', hr', hdr, S, rfl⟩ := hW
    have hSrl := S.rl
    refine ⟨_, rfl, Nat.zero_le _, fun q hq => ?_⟩
    have sq := same_upd (o := .lst []) hq
    refine KR.neNil (ns := rest.map fun (t : Nat) => (t : Int)) (by rw [← iv_ints]; exact .of (sq _ _ hdr)) (.of upd_same) ⟨_, rfl, ite2 (fun e => ?_) (fun e => ?_)⟩
    · have hrest : 0 < rest.length := by
        cases rest with
        | nil => cases e
        | cons x r => exact Nat.succ_pos _
      refine ⟨fun σ' H2 => ∃ y2 y5 y6 y7 y8 y9 y10 y11 y12 ws ys rest', σ' = [some (.ref b), some (.ref a), y2, some (.ref l), some (.ref d), y5, y6, y7, y8, y9, y10, y11, y12] ∧ But b H H2 ∧ BoxA H2 b ∧ H2 l = some (.lst ws) ∧ Rl (Fr K H2) ws ys ∧ H2 d = some (.lst (iv rest')) ∧ BrS m os ys rest' ∧ rest'.length < rest.length,
        fun σ' H2 ⟨y2, y5, y6, y7, y8, y9, y10, y11, y12, ws, ys, rest', e1, e2, e3, e4, e5, e6, e7, e8⟩ => ⟨rest'.length, e8, y2, y5, y6, y7, y8, y9, y10, y11, y12, ws, ys, rest', e1, e2, e3, e4, e5, e6, e7, rfl⟩, ?_⟩
      have hd1 := sq _ _ hdr
      have hb1 := hb'.of_same sq
      refine ⟨_, rfl, .inl ⟨rfl, _, .of hd1⟩, _, rfl, _, rfl, d, _, rfl, .inl (.of hd1), b, _, rfl, hb1, by rw [iv_len]; omega, by rw [iv_len]; omega, fun d0 H3 e0 e1 u3 hb3 => ?_⟩
      rw [iv_len] at e1
      obtain ⟨j, rfl⟩ := Int.eq_ofNat_of_zero_le e0
      have hj : j < rest.length := by omega
      have hx := List.getElem?_eq_getElem hj
      generalize ht : rest[j] = t at hx
      have hxv : (iv rest)[j]? = some (.int (t : Int)) := by rw [List.getElem?_map, hx]; rfl
      have hd3 := u3 _ _ hdb hd1
      refine ⟨d, iv rest, _, j, _, rfl, rfl, hd3, by omega, by omega, (ixN_seq (ixN_nat (by rw [iv_len]; exact hj))).1, hxv, ?_⟩
      have hel : (rest.eraseIdx j).length < rest.length := by rw [List.length_eraseIdx_of_lt hj]; omega
      have t4 : SameT H3 (upd H3 d (.lst ((iv rest).eraseIdx j))) := (but_upd (o := .lst ((iv rest).eraseIdx j))).t hd3
      have u4 : But b H (upd H3 d (.lst ((iv rest).eraseIdx j))) := but_mut ((u.trans sq.but).trans u3) hdH
      have hb4 : BoxA (upd H3 d (.lst ((iv rest).eraseIdx j))) b := let ⟨n, h⟩ := hb3; ⟨n, by rw [upd_ne hdb.symm]; exact h⟩
      have hd4 : upd H3 d (.lst ((iv rest).eraseIdx j)) d = some (.lst (iv (rest.eraseIdx j))) := by rw [upd_same, er_map]
      have hl4 : upd H3 d (.lst ((iv rest).eraseIdx j)) l = some (.lst ws) := by rw [upd_ne hld]; exact u3 _ _ hlb (sq _ _ hlw')
      have hr4 : Rl (Fr K (upd H3 d (.lst ((iv rest).eraseIdx j)))) ws ys := hr'.imp fun _ _ h => ((h.mono sq).monoT (u3.tb hb1)).monoT t4
      generalize upd H3 d (.lst ((iv rest).eraseIdx j)) = H4 at t4 u4 hb4 hd4 hl4 hr4
      have t04 : SameT H H4 := u4.tb hb
      have htm := (S.z t (List.mem_of_getElem? hx)).1
      refine ⟨_, rfl, a, _, 1, _, rfl, rfl, t04.sqt ha, at1, ob, rfl, ⟨_, t04.sqt hob⟩, for_it (walk_tup (xs := vs)) (fun i σ H' => ∃ v5 y6 y7 y8 y9 y10, σ = [some (.ref b), some (.ref a), some (.int (t : Int)), some (.ref l), some (.ref d), some v5, y6, y7, y8, y9, y10, y11, y12] ∧ Same H4 H' ∧ RoomI K H' os ys (m - rest.length) t i v5)
        ⟨_, _, _, _, _, _, rfl, Same.refl _, .inl ⟨rfl, fun j o hj => absurd hj (Nat.not_lt_zero j)⟩⟩ (fun i σ H' _ h => ?_) (fun i x σ H' H'' hi h hyy => ?_) (fun σ H5 h => ?_)⟩
      · obtain ⟨_, _, _, _, _, _, _, s, _⟩ := h
        exact s.sqt (t04.sqt hob)
      · obtain ⟨v5, y6, y7, y8, y9, y10, rfl, s, hR⟩ := h
        obtain ⟨rfl, hx2⟩ := hyy
        obtain ⟨o, hoo, dd, rfl, tt, hdd0, htt0⟩ := ho.getV hx2
        have homem := List.mem_of_getElem? hoo
        have hdd := s.sqt (t04.sqt hdd0)
        have htt := s.sqt (t04.sqt htt0)
        refine ⟨dd, _, rfl, hdd, rfl, _, _, rfl, _, _, rfl, rfl, ?_⟩
        refine ⟨_, rfl, _, rfl, tt, _, rfl, .inr htt, rfl, by simp [flatV], _, rfl, ?_⟩
        show if inV (.int (t : Int)) (iv o.1) = true then _ else _
        rw [in_iv]
        by_cases hin : t ∈ o.1
        · rw [decide_eq_true hin]
          have hl5 := s _ _ hl4
          refine iteT ⟨_, rfl, tt, rfl, ⟨_, htt⟩, lc_all (walk_tup (xs := iv o.1)) (by rw [iv_len]; have := (good_ten G o homem).1; omega) o.1 iv_len.symm (fun D H v (x : Nat) => Fr K H v (ys.getD x 0)) (fun D H H' v x ⟨l, hl⟩ hb' h => h.monoT (hb'.t hl)) (fun H' s' => s'.sqt htt)
            (fun D i v H6 H7 x hD hx s' hl hy' Kp kp => ?_) (fun D zs H6 hD s6 hl6 r6 => ?_)⟩
          · obtain ⟨rfl, hv⟩ := hy'
            have hv' := iv_get hv hx
            subst hv'
            have hlt : x < ys.length := by rw [S.B.len]; exact G.lt o homem x (List.mem_of_getElem? hx)
            have hq := List.getElem?_eq_getElem hlt
            obtain ⟨u, hu, hfr⟩ := hr4.get hq
            refine ⟨rfl, _, rfl, _, rfl, l, _, _, _, rfl, rfl, .of (s' _ _ hl5), atI_nat hu, kp _ _ (Same.refl _) ?_⟩
            rw [getD_of hq]
            exact hfr.mono (s.trans s')
          · have fy := S.fine G
            have hol := (good_ten G o homem).1
            have fs := fine_sel fy o.1
            obtain ⟨z1, z2⟩ := tots_of fs (by rw [sel_len]; exact hol)
            have zd := tot_den fs (by rw [sel_len]; exact hol)
            refine ⟨D, sel ys o.1, rfl, ⟨zs, .of hl6, sel_rl r6⟩, z1, fun c7 H7 s7 h7 => ?_⟩
            have e6t : E6 (m - rest.length) (tot (sel ys o.1)) := E6.tot (sel_e6 S.e6 o.1)
            have tn := tot_nn (sel_nn S.B.nn o.1)
            have tle := S.B.ok o homem
            generalize hTT : tot (sel ys o.1) = T at h7 z2 zd e6t tn tle
            have hp2 := G.p2 o homem
            have hdp : (0 : Int) < (T.den : Int) := by have := T.den_pos; omega
            refine ⟨c7, _, rfl, h7, rfl, _, _, rfl, _, _, rfl, rfl, ?_⟩
            refine ⟨_, rfl, _, rfl, _, _, rfl, rfl, sz_mul (Nat.lt_of_le_of_lt (by show (((o.2 : Nat) : Int)).natAbs ≤ 2 ^ 44; omega) (Nat.pow_lt_pow_right (by decide) (by decide))) (z2.d), _, rfl, _, _, rfl, rfl, _, rfl, _, _, rfl, hdp, by rw [Int.natAbs_natCast]; exact zd, fun c8 H8 s8 h8 => ?_⟩
            rw [room_eq] at h8
            have s48 : Same H4 H8 := ((s.trans s6).trans s7).trans s8
            have hT0 : 0 ≤ (o.2 : Rat) - T := by grind
            have hTe : E6 (m - rest.length) ((o.2 : Rat) - T) := (E6.nat _ _).sub e6t
            have hT2 : (o.2 : Rat) - T ≤ ((2 ^ 44 : Nat) : Rat) := by
              have : (o.2 : Rat) ≤ ((2 ^ 44 : Nat) : Rat) := Rat.natCast_le_natCast.2 hp2
              grind
            rcases hR with ⟨rfl, hno⟩ | ⟨c, r, rfl, hc, r0, re, r2, hle⟩
            · refine ⟨_, rfl, rfl, true, rfl, iteT ?_⟩
              refine iteT ⟨_, rfl, _, _, _, _, _, _, rfl, s48, .inr ⟨c8, _, rfl, h8, hT0, hTe, hT2, fun j' o' hj' ho' hto' => ?_⟩⟩
              by_cases e : j' = i
              · subst e
                rw [hoo] at ho'
                cases ho'
                rw [hTT]
                exact Rat.le_refl
              · exact absurd hto' (hno j' o' (by omega) ho')
            · refine ⟨_, rfl, rfl, false, rfl, iteF ?_⟩
              have hc8 : FrA K H8 c r := ((hc.mono s6).mono s7).mono s8
              have f1 := (hTe.fine (by omega) hT0 hT2).sz
              have f2 := (re.fine (by omega) r0 r2).sz
              refine ⟨_, rfl, c8, _, 0, _, rfl, rfl, h8, at0, _, rfl, c, _, 1, _, rfl, rfl, hc8, at1, _, _, rfl, rfl, sz_mul f1.n f2.d, _, rfl, c, _, 0, _, rfl, rfl, hc8, at0, _, rfl, c8, _, 1, _, rfl, rfl, h8, at1, _, _, rfl, rfl, sz_mul f2.n f1.d, _, _, rfl, rfl, _, rfl, ?_⟩
              have er : decide (((o.2 : Rat) - T).num * (r.den : Int) < r.num * (((o.2 : Rat) - T).den : Int)) = decide ((o.2 : Rat) - T < r) := decide_eq_decide.2 (Rat.lt_iff _ _).symm
              rw [er]
              refine ite2 (fun el => ?_) (fun el => ?_)
              · have hlt : (o.2 : Rat) - T < r := of_decide_eq_true el
                refine ⟨_, rfl, _, _, _, _, _, _, rfl, s48, .inr ⟨c8, _, rfl, h8, hT0, hTe, hT2, fun j' o' hj' ho' hto' => ?_⟩⟩
                by_cases e : j' = i
                · subst e
                  rw [hoo] at ho'
                  cases ho'
                  rw [hTT]
                  exact Rat.le_refl
                · have := hle j' o' (by omega) ho' hto'
                  grind
              · have hge : r ≤ (o.2 : Rat) - T := Rat.not_lt.1 fun z => el (decide_eq_true z)
                refine ⟨_, _, _, _, _, _, rfl, s48, .inr ⟨c, r, rfl, hc8, r0, re, r2, fun j' o' hj' ho' hto' => ?_⟩⟩
                by_cases e : j' = i
                · subst e
                  rw [hoo] at ho'
                  cases ho'
                  rw [hTT]
                  exact hge
                · exact hle j' o' (by omega) ho' hto'
        · rw [decide_eq_false hin]
          exact iteF ⟨_, _, _, _, _, _, rfl, s, hR.skip hoo hin⟩
      · obtain ⟨v5, y6, y7, y8, y9, y10, rfl, s, hR⟩ := h
        rw [ho.1] at hR
        refine ⟨two_line, fun q1 hq1 => ⟨two_line, fun q2 hq2 => ⟨two_line, fun q3 hq3 => ⟨two_line, fun q4 hq4 => ⟨two_line, fun q5 hq5 => ⟨by show 5 ≤ sizeLine; decide, fun q6 hq6 => ?_⟩⟩⟩⟩⟩⟩
        have w1 := same_upd (o := .tup [.int 1, .int 1]) hq1
        have w2 := same_upd (o := .tup [.int 1, .int 1]) hq2
        have w3 := same_upd (o := .tup [.int 1, .int 2]) hq3
        have w4 := same_upd (o := .tup [.int 2, .int 3]) hq4
        have w5 := same_upd (o := .tup [.int 0, .int 1]) hq5
        have w6 := same_upd (o := .lst [.ref q1, .ref q2, .ref q3, .ref q4, .ref q5]) hq6
        have w26 := (((w2.trans w3).trans w4).trans w5).trans w6
        have p1 := w26 _ _ (upd_same (H := H5) (a := q1) (o := .tup [.int 1, .int 1]))
        have p2 := (((w3.trans w4).trans w5).trans w6) _ _ (upd_same (a := q2) (o := .tup [.int 1, .int 1]))
        have p3 := ((w4.trans w5).trans w6) _ _ (upd_same (a := q3) (o := .tup [.int 1, .int 2]))
        have p4 := (w5.trans w6) _ _ (upd_same (a := q4) (o := .tup [.int 2, .int 3]))
        have p5 := w6 _ _ (upd_same (a := q5) (o := .tup [.int 0, .int 1]))
        have p6 := upd_same (H := upd (upd (upd (upd (upd H5 q1 (.tup [.int 1, .int 1])) q2 (.tup [.int 1, .int 1])) q3 (.tup [.int 1, .int 2])) q4 (.tup [.int 2, .int 3])) q5 (.tup [.int 0, .int 1])) (a := q6) (o := .lst [.ref q1, .ref q2, .ref q3, .ref q4, .ref q5])
        have w16 := w1.trans w26
        generalize upd (upd (upd (upd (upd (upd H5 q1 (.tup [.int 1, .int 1])) q2 (.tup [.int 1, .int 1])) q3 (.tup [.int 1, .int 2])) q4 (.tup [.int 2, .int 3])) q5 (.tup [.int 0, .int 1])) q6 (.lst [.ref q1, .ref q2, .ref q3, .ref q4, .ref q5]) = H6 at w16 p1 p2 p3 p4 p5 p6
        have s46 := s.trans w16
        have hb6 := hb4.of_same s46
        refine ⟨_, rfl, b, 5, rfl, hb6, by decide, by decide, fun dz H7 z0 z1 u7 hb7 => ?_⟩
        have hqb : q6 ≠ b := by
          obtain ⟨n6, h6⟩ := hb4.of_same s
          intro z
          subst z
          have := w16 _ _ h6
          rw [p6] at this
          cases this
        have t7 := u7.tb hb6
        have hp6 := u7 _ _ hqb p6
        obtain ⟨pc, p, hat, hpc, pp0, pp1, ppe⟩ : ∃ pc p, atI [V.ref q1, V.ref q2, V.ref q3, V.ref q4, V.ref q5] dz = some (.ref pc) ∧ FrA K H7 pc p ∧ 0 ≤ p ∧ p ≤ 1 ∧ E6 1 p := by
          have e1 : E6 1 1 := ⟨6, by rw [Rat.one_mul]; rfl⟩
          rcases (show dz = 0 ∨ dz = 1 ∨ dz = 2 ∨ dz = 3 ∨ dz = 4 by omega) with rfl | rfl | rfl | rfl | rfl
          · exact ⟨q1, 1, rfl, fr_nat (n := 1) (.of (t7.1 _ _ p1)), by decide +kernel, by decide +kernel, e1⟩
          · exact ⟨q2, 1, rfl, fr_nat (n := 1) (.of (t7.1 _ _ p2)), by decide +kernel, by decide +kernel, e1⟩
          · exact ⟨q3, mkRat 1 2, rfl, fr_half (.of (t7.1 _ _ p3)), by decide +kernel, by decide +kernel, ⟨3, by decide +kernel⟩⟩
          · exact ⟨q4, mkRat 2 3, rfl, fr_twothird (.of (t7.1 _ _ p4)), by decide +kernel, by decide +kernel, ⟨4, by decide +kernel⟩⟩
          · exact ⟨q5, 0, rfl, fr_nat (n := 0) (.of (t7.1 _ _ p5)), by decide +kernel, by decide +kernel, E6.zero 1⟩
        refine ⟨q6, _, dz, _, rfl, rfl, .of hp6, hat, ?_⟩
        have t47 : SameT H4 H7 := s46.t.trans t7
        have hl7 : H7 l = some (.lst ws) := u7 _ _ hlb (s46 _ _ hl4)
        have hd7 : H7 d = some (.lst (iv (rest.eraseIdx j))) := u7 _ _ hdb (s46 _ _ hd4)
        have u47 : But b H H7 := (u4.trans s46.but).trans u7
        rcases hR with ⟨rfl, hno⟩ | ⟨c, r, rfl, hc, r0, re, r2, hle⟩
        · refine ⟨_, rfl, rfl, false, rfl, iteF ?_⟩
          exact ⟨_, _, _, _, _, _, _, _, _, ws, ys, _, rfl, u47, hb7, hl7, hr4.imp fun _ _ h => h.monoT t47, hd7, S.skip hj, hel⟩
        · refine ⟨_, rfl, rfl, true, rfl, iteT ?_⟩
          have hc7 : FrA K H7 c r := (hc.mono w16).monoT t7
          have f2 := re.size (by omega) r0 r2
          have fs := (re.fine (by omega) r0 r2).sz
          have ps := ppe.size (by decide) pp0 (Rat.le_trans pp1 (by decide +kernel))
          have fp := (ppe.fine (by decide) pp0 (Rat.le_trans pp1 (by decide +kernel))).sz
          refine ⟨_, rfl, c, _, 0, _, rfl, rfl, hc7, at0, _, rfl, pc, _, 0, _, rfl, rfl, hpc, at0, _, _, rfl, rfl, sz_mul fs.n fp.n, _, rfl, c, _, 1, _, rfl, rfl, hc7, at1, _, rfl, pc, _, 1, _, rfl, rfl, hpc, at1, _, _, rfl, rfl, sz_mul fs.d fp.d, _, _, rfl, dd_pos _ _, bd_nat ?_, fun c8 H8 s8 h8 => ?_⟩
          · exact Nat.lt_of_le_of_lt (Nat.mul_le_mul f2.1 ps.1) (by rw [← Nat.pow_add]; exact Nat.pow_lt_pow_right (by decide) (by decide))
          rw [times_eq] at h8
          have hl8 := s8 _ _ hl7
          have hlt : t < ws.length := by rw [hr'.1, S.B.len]; exact htm
          refine ⟨_, rfl, _, rfl, l, ws, _, t, rfl, rfl, hl8, ixN_nat hlt, ?_⟩
          have t9 : SameT H8 (upd H8 l (.lst (ws.set t (.ref c8)))) := (but_upd (o := .lst (ws.set t (.ref c8)))).t hl8
          refine ⟨_, _, _, _, _, _, _, _, _, _, _, _, rfl, but_mut (u47.trans s8.but) hl, ?_, upd_same, ?_, ?_, S.put G hx r0 re r2 (fun o ho2 hto => ?_) pp0 pp1 ppe, hel⟩
          · obtain ⟨n, h⟩ := hb7
            exact ⟨n, by rw [upd_ne hlb.symm]; exact s8 _ _ h⟩
          · exact (hr4.imp fun _ _ h => ((h.monoT t47).mono s8).monoT t9).set (⟨c8, rfl, h8.monoT t9⟩) t
          · rw [upd_ne hld.symm]
            exact s8 _ _ hd7
          · obtain ⟨j2, hj2, e2⟩ := List.mem_iff_getElem.1 ho2
            exact hle j2 o hj2 (by rw [List.getElem?_eq_getElem hj2, e2]) hto
    · have t5 := u.tb hb
      refine ⟨_, rfl, l, ws, rfl, .inl ⟨.of (sq _ _ hlw'), fun p hp => ?_⟩⟩
      have sp := same_upd (o := .tup ws) hp
      exact k p _ ys (u.trans (sq.trans sp).but) (hb'.of_same (sq.trans sp)) ⟨ws, .of upd_same, hr'.imp fun _ _ h => h.mono (sq.trans sp)⟩ S.B (S.fine G)
end
end K34
set_option Elab.async false
set_option linter.all false
set_option maxRecDepth 100000
set_option exponentiation.threshold 200000
/-! the maths of a sharing drawn at random, and of dearer stocks -/
namespace K34
structure CoverP (m : Nat) (os : List Of) (cs : List Nat) : Prop where
  up : cs.Pairwise (· < ·)
  lt : ∀ c ∈ cs, c < os.length
  ok : ∀ t, t < m → ∃ c ∈ cs, t ∈ (os.getD c default).1
def cnt (css : List (List Nat)) (k : Nat) : Nat := (css.filter fun cs => decide (k ∈ cs)).length
theorem cnt_cons (cs : List Nat) (r : List (List Nat)) (k : Nat) : cnt (cs :: r) k = (if k ∈ cs then 1 else 0) + cnt r k := by
  unfold cnt
  by_cases h : k ∈ cs
  · rw [List.filter_cons_of_pos (by exact decide_eq_true h), List.length_cons, if_pos h]; omega
  · rw [List.filter_cons_of_neg (by simp [h]), if_neg h]; omega
theorem cnt_le (css : List (List Nat)) (k : Nat) : cnt css k ≤ css.length := List.length_filter_le _ _
theorem tot_map_add {ts : List Nat} (f g : Nat → Rat) : tot (ts.map fun k => f k + g k) = tot (ts.map f) + tot (ts.map g) := by
  induction ts with
  | nil => rw [List.map_nil, List.map_nil, List.map_nil, tot_nil, Rat.add_zero]
  | cons x r ih =>
    rw [List.map_cons, List.map_cons, List.map_cons, tot_cons, tot_cons, tot_cons, ih]
    grind
theorem tot_ge_one {ts : List Nat} {f : Nat → Rat} (h0 : ∀ k, 0 ≤ f k) {k : Nat} (hk : k ∈ ts) (h1 : 1 ≤ f k) : 1 ≤ tot (ts.map f) := by
  induction ts with
  | nil => cases hk
  | cons x r ih =>
    rw [List.map_cons, tot_cons]
    have hr : 0 ≤ tot (r.map f) := tot_nn fun q hq => by
      obtain ⟨y, _, rfl⟩ := List.mem_map.1 hq
      exact h0 y
    rcases List.mem_cons.1 hk with rfl | hk
    · grind
    · have := ih hk
      have := h0 x
      grind
theorem cnt_tot {ts : List Nat} : ∀ {css : List (List Nat)}, (∀ cs ∈ css, ∃ k ∈ ts, k ∈ cs) → (css.length : Rat) ≤ tot (ts.map fun k => (cnt css k : Rat))
  | [], _ => by
    show ((0 : Nat) : Rat) ≤ _
    refine Rat.le_trans (b := 0) Rat.le_refl (tot_nn fun q hq => ?_)
    obtain ⟨y, _, rfl⟩ := List.mem_map.1 hq
    exact Rat.natCast_nonneg
  | cs :: r, h => by
    have ih := cnt_tot (ts := ts) (css := r) fun c hc => h c (List.mem_cons_of_mem _ hc)
    have e : (fun k => (cnt (cs :: r) k : Rat)) = fun k => (((if k ∈ cs then 1 else 0 : Nat)) : Rat) + (cnt r k : Rat) := by
      funext k
      rw [cnt_cons, Rat.natCast_add]
    rw [e, tot_map_add, List.length_cons, Rat.natCast_add]
    obtain ⟨k, h1, h2⟩ := h cs List.mem_cons_self
    have h3 := tot_ge_one (ts := ts) (f := fun k => (((if k ∈ cs then 1 else 0 : Nat)) : Rat)) (fun k => Rat.natCast_nonneg) h1 (by show 1 ≤ (((if k ∈ cs then 1 else 0 : Nat)) : Rat); rw [if_pos h2]; exact Rat.le_refl)
    have e1 : ((1 : Nat) : Rat) = 1 := rfl
    rw [e1]
    grind
theorem share_frac (i n : Nat) (hn : 0 < n) : Rat.divInt (i : Int) (n : Int) * (n : Rat) = (i : Rat) := by
  have hd : (n : Rat) ≠ 0 := fun z => by
    have := Rat.natCast_inj.1 (show (n : Rat) = ((0 : Nat) : Rat) from z)
    omega
  rw [Rat.divInt_eq_div, Rat.intCast_natCast, Rat.intCast_natCast]
  grind
theorem tot_map_mul {ts : List Nat} (f : Nat → Rat) (c : Rat) : tot (ts.map f) * c = tot (ts.map fun k => f k * c) := by
  induction ts with
  | nil => rw [List.map_nil, List.map_nil, tot_nil, Rat.zero_mul]
  | cons x r ih =>
    rw [List.map_cons, List.map_cons, tot_cons, tot_cons, ← ih]
    grind
def shr (css : List (List Nat)) (k : Nat) : Rat := Rat.divInt (cnt css k : Int) (css.length : Int)
theorem shr_get {n : Nat} (css : List (List Nat)) {k : Nat} (hk : k < n) : ((List.range n).map (shr css)).getD k 0 = shr css k := by
  rw [getD_lt (by simpa using hk), List.getElem_map, List.getElem_range]
theorem shr_ok {m : Nat} {os : List Of} {css : List (List Nat)} (h : ∀ cs ∈ css, CoverP m os cs) (hn : 0 < css.length) : ShareP m os ((List.range os.length).map (shr css)) := by
  have hp : (0 : Rat) < (css.length : Rat) := Rat.natCast_pos.2 hn
  refine ⟨by simp, fun u hu => ?_, fun t ht => ?_⟩
  · obtain ⟨k, _, rfl⟩ := List.mem_map.1 hu
    exact Rat.divInt_nonneg (by omega) (by omega)
  · have e : tot (sel ((List.range os.length).map (shr css)) (withT os t)) * (css.length : Rat) = tot ((withT os t).map fun k => (cnt css k : Rat)) := by
      unfold sel
      rw [tot_map_mul]
      refine congrArg tot (List.map_congr_left fun k hk => ?_)
      rw [shr_get css (withT_lt hk).1]
      exact share_frac _ _ hn
    have h2 := cnt_tot (ts := withT os t) (css := css) fun cs hcs => by
      obtain ⟨c, hc, hto⟩ := (h cs hcs).ok t ht
      refine ⟨c, ?_, hc⟩
      unfold withT pick
      rw [List.map_id]
      exact List.mem_filter.2 ⟨List.mem_range.2 ((h cs hcs).lt c hc), decide_eq_true hto⟩
    rw [← e] at h2
    refine Rat.not_lt.1 fun z => ?_
    have h3 := Rat.mul_lt_mul_of_pos_right z hp
    rw [Rat.one_mul] at h3
    exact absurd h2 (Rat.not_le.2 h3)
theorem shr_fair {css : List (List Nat)} (k : Nat) (hn : 0 < css.length) (h3 : css.length ≤ 3) : Fair (shr css k) := by
  have hj : (0 : Int) < (css.length : Int) := by omega
  have hd := divInt_den (i := (cnt css k : Int)) hj
  have hm := divInt_num (i := (cnt css k : Int)) hj
  have hc := cnt_le css k
  have h4 : (css.length : Int) / ((Int.gcd (cnt css k : Int) (css.length : Int) : Nat) : Int) ≤ (css.length : Int) := Int.ediv_le_self _ (by omega)
  have h5 : (cnt css k : Int) / ((Int.gcd (cnt css k : Int) (css.length : Int) : Nat) : Int) ≤ (cnt css k : Int) := Int.ediv_le_self _ (by omega)
  have h6 : 0 ≤ (cnt css k : Int) / ((Int.gcd (cnt css k : Int) (css.length : Int) : Nat) : Int) := Int.ediv_nonneg (by omega) (by omega)
  have h7 : (3 : Nat) ≤ 2 ^ 511 := by decide
  have h8 : (3 : Nat) ≤ 2 ^ 900 := by decide
  unfold shr
  generalize Rat.divInt (cnt css k : Int) (css.length : Int) = q at hd hm
  generalize (2 : Nat) ^ 511 = A at h7
  generalize hB : (2 : Nat) ^ 900 = B at h8
  constructor
  · have : q.den ≤ 3 := by omega
    refine Nat.le_trans this (by decide)
  · have : q.num.natAbs ≤ 3 := by omega
    refine Nat.le_trans this (by decide)
/-! one cover, as a sharing of noughts and ones -/
def ones (os : List Of) (cs : List Nat) : List Rat := (List.range os.length).map fun k => if k ∈ cs then 1 else 0
theorem ones_get {os : List Of} {cs : List Nat} {k : Nat} (hk : k < os.length) : (ones os cs).getD k 0 = if k ∈ cs then 1 else 0 := by
  unfold ones
  rw [getD_lt (by simpa using hk), List.getElem_map, List.getElem_range]
theorem ones_ok {m : Nat} {os : List Of} {cs : List Nat} (h : CoverP m os cs) : ShareP m os (ones os cs) ∧ ∀ u ∈ ones os cs, Fair u := by
  have h01 : ∀ u ∈ ones os cs, u = 0 ∨ u = 1 := fun u hu => by
    obtain ⟨k, _, rfl⟩ := List.mem_map.1 hu
    by_cases hk : k ∈ cs
    · rw [if_pos hk]; exact .inr rfl
    · rw [if_neg hk]; exact .inl rfl
  refine ⟨⟨by unfold ones; simp, fun u hu => ?_, fun t ht => ?_⟩, fun u hu => ?_⟩
  · rcases h01 u hu with rfl | rfl
    · exact Rat.le_refl
    · decide
  · obtain ⟨c, hc, hto⟩ := h.ok t ht
    refine tot_ge_one (ts := withT os t) (f := fun k => (ones os cs).getD k 0) (fun k => getD_nn (fun y hy => by rcases h01 y hy with rfl | rfl; exact Rat.le_refl; decide) k) (k := c) ?_ ?_
    · unfold withT pick
      rw [List.map_id]
      exact List.mem_filter.2 ⟨List.mem_range.2 (h.lt c hc), decide_eq_true hto⟩
    · show 1 ≤ (ones os cs).getD c 0
      rw [ones_get (h.lt c hc), if_pos hc]
      exact Rat.le_refl
  · rcases h01 u hu with rfl | rfl
    · exact ⟨by decide, by decide⟩
    · exact ⟨by decide, by decide⟩
theorem ones_price {os : List Of} : ∀ {cs : List Nat}, cs.Nodup → (∀ c ∈ cs, c < os.length) → S os.length (fun k => (if k ∈ cs then 1 else 0) * ((os.getD k default).2 : Rat)) = (((prices os cs).sum : Nat) : Rat)
  | [], _, _ => by
    rw [S_congr (g := fun _ => 0) (fun k _ => by rw [if_neg List.not_mem_nil, Rat.zero_mul]), S_zero]
    rfl
  | c :: r, nd, h => by
    obtain ⟨n1, n2⟩ := List.nodup_cons.1 nd
    have ih := ones_price n2 fun x hx => h x (List.mem_cons_of_mem _ hx)
    have e : (((prices os (c :: r)).sum : Nat) : Rat) = ((os.getD c default).2 : Rat) + (((prices os r).sum : Nat) : Rat) := by
      rw [← Rat.natCast_add]
      rfl
    rw [e, ← ih, ← S_pick (h c List.mem_cons_self) (fun k => ((os.getD k default).2 : Rat)), ← S_add]
    refine S_congr fun k hk => ?_
    by_cases h1 : k = c
    · subst h1
      rw [if_pos List.mem_cons_self, if_pos rfl, if_neg n1]
      grind
    · by_cases h2 : k ∈ r
      · rw [if_pos (List.mem_cons_of_mem _ h2), if_neg h1, if_pos h2]
        grind
      · rw [if_neg (fun z => (List.mem_cons.1 z).elim h1 h2), if_neg h1, if_neg h2]
        grind
theorem ones_tot {m : Nat} {os : List Of} {cs : List Nat} (h : CoverP m os cs) : tot (priced (ones os cs) os) = (((prices os cs).sum : Nat) : Rat) := by
  rw [tot_priced (by unfold ones; simp), ← ones_price (up_nd h.up) h.lt]
  exact S_congr fun k hk => by rw [ones_get hk]
/-! dearer stocks -/
def dearer (os : List Of) (f : Nat) : List Of := os.map fun o => (o.1, o.2 * f)
theorem dear_get (os : List Of) (f k : Nat) : (dearer os f).getD k default = ((os.getD k default).1, (os.getD k default).2 * f) := by
  unfold dearer
  rw [List.getD_eq_getElem?_getD, List.getElem?_map, List.getD_eq_getElem?_getD]
  cases os[k]? with
  | none =>
    show (([], 0) : Of) = ([], 0 * f)
    rw [Nat.zero_mul]
  | some o => rfl
theorem dear_with (os : List Of) (f t : Nat) : withT (dearer os f) t = withT os t := by
  unfold withT
  have e : (dearer os f).length = os.length := List.length_map _
  rw [e]
  congr 1
  funext i
  rw [dear_get]
theorem dear_good {m : Nat} {os : List Of} {f : Nat} (G : Good m os) (hp : ∀ o ∈ os, o.2 ≤ 10 ^ 12) (f1 : 1 ≤ f) (f2 : f ≤ 10) : Good m (dearer os f) := by
  have e : (dearer os f).length = os.length := List.length_map _
  have hm : ∀ o ∈ dearer os f, ∃ o' ∈ os, o = (o'.1, o'.2 * f) := fun o ho => by
    obtain ⟨o', h1, h2⟩ := List.mem_map.1 ho
    exact ⟨o', h1, h2.symm⟩
  refine ⟨G.m1, G.m10, by rw [e]; exact G.n1, by rw [e]; exact G.n10, fun o ho => ?_, fun o ho => ?_, fun o ho => ?_, fun o ho => ?_, fun o ho => ?_, fun t ht => ?_⟩
  · obtain ⟨o', h1, rfl⟩ := hm o ho; exact G.up o' h1
  · obtain ⟨o', h1, rfl⟩ := hm o ho; exact G.lt o' h1
  · obtain ⟨o', h1, rfl⟩ := hm o ho; exact G.ne o' h1
  · obtain ⟨o', h1, rfl⟩ := hm o ho
    exact Nat.mul_pos (G.p1 o' h1) f1
  · obtain ⟨o', h1, rfl⟩ := hm o ho
    have := Nat.mul_le_mul (hp o' h1) f2
    exact Nat.le_trans this (by decide)
  · obtain ⟨o, h1, h2⟩ := G.full t ht
    exact ⟨(o.1, o.2 * f), List.mem_map.2 ⟨o, h1, rfl⟩, h2⟩
theorem tot_scale (qs : List Rat) (c : Rat) : tot (qs.map fun q => q * c) = tot qs * c := by
  induction qs with
  | nil => rw [List.map_nil, tot_nil, Rat.zero_mul]
  | cons x r ih =>
    rw [List.map_cons, tot_cons, tot_cons, ih]
    grind
theorem sel_scale (ys : List Rat) (c : Rat) (ts : List Nat) : sel (ys.map fun q => q * c) ts = (sel ys ts).map fun q => q * c := by
  unfold sel
  rw [List.map_map]
  refine List.map_congr_left fun t _ => ?_
  show (ys.map fun q => q * c).getD t 0 = ys.getD t 0 * c
  rw [List.getD_eq_getElem?_getD, List.getElem?_map, List.getD_eq_getElem?_getD]
  cases ys[t]? with
  | none => show (0 : Rat) = 0 * c; rw [Rat.zero_mul]
  | some y => rfl
theorem dear_worth {m f : Nat} {os : List Of} {ys us ys' us' : List Rat} (G : Good m os) (G' : Good m (dearer os f)) (E : EndP m os ys us) (E' : EndP m (dearer os f) ys' us') : tot ys' = tot ys * (f : Rat) := by
  have e : (dearer os f).length = os.length := List.length_map _
  have hf : (0 : Rat) ≤ (f : Rat) := Rat.natCast_nonneg
  have B : BearP m (dearer os f) (ys.map fun q => q * (f : Rat)) := by
    refine ⟨by rw [List.length_map]; exact E.bear.len, fun y hy => ?_, fun o ho => ?_⟩
    · obtain ⟨x, hx, rfl⟩ := List.mem_map.1 hy
      exact Rat.mul_nonneg (E.bear.nn x hx) hf
    · obtain ⟨o', h1, rfl⟩ := List.mem_map.1 ho
      show tot (sel _ o'.1) ≤ ((o'.2 * f : Nat) : Rat)
      rw [sel_scale, tot_scale, Rat.natCast_mul]
      exact Rat.mul_le_mul_of_nonneg_right (E.bear.ok o' h1) hf
  have U : ShareP m (dearer os f) us := ⟨by rw [e]; exact E.share.len, E.share.nn, fun t ht => by rw [dear_with]; exact E.share.ok t ht⟩
  have h1 := weakP G' B E'.share
  have h2 := weakP G' E'.bear U
  rw [← E'.same, tot_scale] at h1
  have h3 : tot (priced us (dearer os f)) = tot (priced us os) * (f : Rat) := by
    rw [tot_priced (by rw [e]; exact E.share.len), tot_priced E.share.len, e, ← S_mulr]
    exact S_congr fun k hk => by rw [dear_get, Rat.natCast_mul]; grind
  rw [h3, ← E.same] at h2
  exact Rat.le_antisymm h2 h1
end K34
set_option Elab.async false
set_option linter.all false
set_option maxRecDepth 100000
set_option exponentiation.threshold 200000
/-! the walk: a sharing drawn at random -/
namespace K34
open PySem PySem.Spec PyProof.Rows L2
theorem pick_length {α β : Type} (n : Nat) (f : Nat → Bool) (v : Nat → α) (u : Nat → β) : (pick n f v).length = (pick n f u).length := by
  unfold pick
  rw [List.length_map, List.length_map]
section
variable {P : Program} {w : World} {K : PySem.W.Frag} {mg : Str → Option Value} {base : Heap}
def Cov (K : PySem.W.Frag) (H : Hp) (v : V) (cs : List Nat) : Prop := ∃ a, v = .ref a ∧ ThA K H a cs
def spSharing (K : PySem.W.Frag) : Sp := fun vs H Q _ => ∃ (b a : Addr) (m : Nat) (os : List Of), vs = [.ref b, .ref a] ∧ BoxA H b ∧ StA K H a m os ∧ Good m os ∧
  ∀ p H' us, But b H H' → BoxA H' b → FrT K H' p us → ShareP m os us → (∀ u ∈ us, Fair u) → Q (.ref p) H'
theorem c_law_sharing (D : Df K mg "_law_sharing" "_law_sharing" t_law_sharing ["box", "stock"]) (B : Bi mg) (C : Cal P w K mg base 1 "_law_take" ["box", "many"] spTake) (C2 : Cal P w K mg base 2 "_law_cover" ["box", "stock"] (spCover K)) (C3 : Cal P w K mg base 1 "_law_frac" ["top", "bottom"] (spMade K)) :
    Cal P w K mg base 3 "_law_sharing" ["box", "stock"] (spSharing K) := by
  obtain ⟨f, fd, F, g, b⟩ := D.ex
  obtain ⟨f1, d1, G1, g1, k1, b1⟩ := C.ex
  obtain ⟨f2, d2, G2, g2, k2, b2⟩ := C2.ex
  obtain ⟨f3, d3, G3, g3, k3, b3⟩ := C3.ex
  refine ⟨f, fd, F.ok s_law_sharing (fun vs H Q E h => ?_) (fun cdv A outer s H vs Q E hr h => ?_), g, F.kp, b⟩
  · obtain ⟨_, _, _, _, rfl, _⟩ := h
    rfl
  · obtain ⟨b, a, m, os, rfl, hb, hst, G, k⟩ := h
    have ⟨ob, ha, vs, hob, ho⟩ := hst
    have hn10 := G.n10
    have hvl : vs.length = os.length := ho.1
    have nd := s_law_sharing.nd
    refine ⟨_, pss_cons (ps_setLc (i := 2) (own := [("turn", 5)]) (g := gName 5) (tt := tYes) (te := tCall (spCover K) [] E0 (tCons (tVar 0) (tCons (tVar 1) tNil))) rfl nd rfl rfl (sw_true rfl rfl rfl (by decide +kernel))
          (pi_range1 (by rfl) B.range (pa_cons (pe_op op_add pe_int (pe_call G1 (hr.mono (by decide)) (by rfl) g1 k1 b1 .nil pass0 (pa_cons (pv 0) (pa_cons pe_int pa_nil)))) pa_nil)) (blkOk_by (N := n_law_sharing) (sc := defScope t_law_sharing) (by decide +kernel))
          (fun _ _ _ _ _ => pg_name (i := 5) nd rfl (Or.inl rfl)) (fun _ _ _ _ _ => pts_nil) (fun _ _ _ _ _ => pe_call G2 hr (by rfl) g2 k2 b2 .nil pass0 (pa_cons (pv 0) (pa_cons (pv 1) pa_nil))))
      (pss_cons (ps_set (i := 3) nd rfl (.inl rfl) (pe_lst pa_nil))
      (pss_cons (ps_for PassesOwn.never rfl (pi_range1 (by rfl) B.range (pa_cons (pe_callB call_len_seq (by rfl) B.len PySem.boot_len (pa_cons (pvt 1) pa_nil)) pa_nil)) (pg_name (i := 4) nd rfl (.inr rfl))
        (pss_one (ps_expr (pe_bm PySem.F.plainAttrs_list PySem.F.slot_list_append PySem.F.type_list_append mt_append (pv 3) (pa_cons (pe_call G3 (hr.mono (by decide)) (by rfl) g3 k3 b3 .nil pass0
          (pa_cons (pe_callB call_len_seq (by rfl) B.len PySem.boot_len (pa_cons (pe_lc (own := [("cover", 6)]) (g := gName 6) (tt := tTest (tOp (rIn K false) (tVar 4) (tVar 6))) (te := tVar 6) rfl nd (pi_list (pv 2)) (blkOk_by (N := n_law_sharing) (sc := defScope t_law_sharing) (by decide +kernel))
              (fun _ _ _ _ _ => pg_name (i := 6) nd rfl (Or.inl rfl)) (fun _ _ _ _ _ => pts_one (pt_cmpR op_in_seq (pv 4) (pv 6) rfl)) (fun _ _ _ _ _ => pv 6)) pa_nil))
          (pa_cons (pe_callB call_len_seq (by rfl) B.len PySem.boot_len (pa_cons (pv 2) pa_nil)) pa_nil))) pa_nil)))))
      (pss_one (ps_ret (pe_callTy call_tuple_of (by rfl) B.tuple (by decide +kernel) (pa_cons (pv 3) pa_nil)))))), ?_⟩
    refine ⟨_, rfl, b, 3, rfl, hb, by decide, by decide, fun d1 H1 a0 a1 u1 hb1 => ?_⟩
    refine ⟨1, d1, rfl, rfl, _, rfl, by omega, by omega, fun D hD => ?_⟩
    have hbD : b ≠ D := let ⟨n3, h3⟩ := hb1; ne_of_none h3 hD
    have hnn : 0 < (1 + d1).toNat ∧ (1 + d1).toNat ≤ 3 := by omega
    refine lc_it (walk_range0 (n := (1 + d1).toNat)) (fun i H' => But b H1 H' ∧ BoxA H' b ∧ ∃ cvs css, H' D = some (.lst cvs) ∧ Rl (Cov K H') cvs css ∧ css.length = i ∧ ∀ cs ∈ css, CoverP m os cs)
      ⟨but_mut (But.refl _ _) hD, (let ⟨n3, h3⟩ := hb1; ⟨n3, by rw [upd_ne hbD]; exact h3⟩), [], [], upd_same, Rl.nil, rfl, fun cs hcs => absurd hcs List.not_mem_nil⟩
      (fun _ _ _ _ => trivial) (fun i v H4 H4' hi h hy => ?_) (fun H4 h => ?_)
    · obtain ⟨u4, hb4, cvs, css, hDl, hr4, hlen, hcv⟩ := h
      obtain ⟨rfl, rfl⟩ := hy
      have hst4 := hst.monoT ((u1.trans u4).tb hb)
      refine ⟨rfl, _, rfl, _, rfl, b, a, m, os, rfl, hb4, hst4, G, fun p H5 cs u5 hb5 hp c1 c2 c3 => ?_⟩
      have hDl5 := u5 _ _ hbD.symm hDl
      have t5 := u5.tb hb4
      have tu : SameT H5 (upd H5 D (.lst (cvs ++ [.ref p]))) := (but_upd (o := .lst (cvs ++ [.ref p]))).t hDl5
      refine ⟨cvs, hDl5, ld_lt (by rw [hr4.1]; omega), but_mut (u4.trans u5) hD, ?_, cvs ++ [.ref p], css ++ [cs], upd_same, ?_, by rw [List.length_append, hlen]; rfl, fun c hc => ?_⟩
      · obtain ⟨n6, h6⟩ := hb5
        exact ⟨n6, by rw [upd_ne hbD]; exact h6⟩
      · exact (hr4.imp fun v x ⟨q, e1, e2⟩ => ⟨q, e1, (e2.monoT t5).monoT tu⟩).snoc ⟨p, rfl, hp.monoT tu⟩
      · rcases List.mem_append.1 hc with h | h
        · exact hcv c h
        · rw [List.mem_singleton.1 h]
          exact ⟨c1, c2, c3⟩
    · obtain ⟨u4, hb4, cvs, css, hDl, hr4, hlen, hcv⟩ := h
      have u04 := u1.trans u4
      have t04 : SameT H H4 := u04.tb hb
      have hcl : cvs.length = css.length := hr4.1
      refine ⟨Nat.zero_le _, fun fo hfo => ?_⟩
      have sf := same_upd (o := .lst []) hfo
      refine ⟨_, rfl, a, _, 1, _, rfl, rfl, sf.sqt (t04.sqt ha), at1, ob, vs, rfl, .inr (sf.sqt (t04.sqt hob)), (vs.length : Int), rfl, by omega, by omega,
        for_it walk_range0 (fun i σ H' => ∃ y4 y5 y6 ws, σ = [some (.ref b), some (.ref a), some (.ref D), some (.ref fo), y4, y5, y6] ∧ Same H4 H' ∧ H' fo = some (.lst ws) ∧ Rl (Fr K H') ws ((List.range i).map (shr css)))
        ⟨_, _, _, [], rfl, sf, upd_same, Rl.nil⟩ (fun i σ H' _ h => trivial) (fun i x σ H' H'' hi h hyy => ?_) (fun σ H' h => ?_)⟩
      · obtain ⟨y4, y5, y6, ws, rfl, s, hF, hw⟩ := h
        obtain ⟨rfl, rfl⟩ := hyy
        have hD' := s _ _ hDl
        refine ⟨_, rfl, .inl ⟨rfl, _, .of hF⟩, _, rfl, D, rfl, ⟨_, .of hD'⟩, lc_filt (walk_list (xs := cvs)) (by omega) (fun j => decide (i ∈ css.getD j [])) (fun j => cvs.getD j .non) (fun _ _ v x => v = x) (fun _ _ _ _ _ _ _ h => h) (fun H' s' => s'.seq (.of hD'))
          (fun D2 j v H6 H6' hD2 hj s6 hl6 hy6 Kp Kn kp kn => ?_) (fun D2 ys H6 hD2 s6 hl6 r6 => ?_)⟩
        · obtain ⟨rfl, hv⟩ := hy6
          have hcj := List.getElem?_eq_getElem (show j < css.length by omega)
          obtain ⟨q, rfl, hq⟩ := hr4.2 j v _ hv hcj
          have e3 : css.getD j [] = css[j] := by rw [getD_of hcj]
          refine ⟨rfl, _, rfl, _, rfl, q, _, rfl, .inr (s6.sqt (s.sqt hq)), rfl, by simp [flatV], _, rfl, ?_⟩
          show if inV (.int (i : Int)) (iv css[j]) = true then _ else _
          rw [in_iv]
          by_cases hin : i ∈ css[j]
          · rw [decide_eq_true hin]
            exact iteT ⟨_, rfl, kp _ _ (by rw [e3]; exact decide_eq_true hin) (Same.refl _) (getD_of hv).symm⟩
          · rw [decide_eq_false hin]
            exact iteF (kn _ (by rw [e3]; exact decide_eq_false hin) (Same.refl _))
        · have hyl : ys.length = cnt css i := by
            rw [r6.1, hcl, pick_length css.length _ _ (fun j => css.getD j []), pick_filter css (fun cs => decide (i ∈ cs))]
            rfl
          have hD6 := s6 _ _ hD'
          refine ⟨D2, ys, rfl, .inl (.of hl6), _, rfl, D, cvs, rfl, .inl (.of hD6), _, _, rfl, by omega, ?_, fun c H7 s7 h7 => ?_⟩
          · have : cvs.length < 2 ^ 9000 := Nat.lt_of_le_of_lt (show cvs.length ≤ 2 ^ 2 by omega) (Nat.pow_lt_pow_right (by decide) (by decide))
            rw [Int.natAbs_natCast]
            exact this
          have hF7 := s7 _ _ (s6 _ _ hF)
          have h7' : FrA K H7 c (shr css i) := by
            unfold shr
            rw [← hyl, ← hcl]
            exact h7
          have hwl : ws.length = i := by rw [hw.1]; simp
          have tu : SameT H7 (upd H7 fo (.lst (ws ++ [.ref c]))) := (but_upd (o := .lst (ws ++ [.ref c]))).t hF7
          refine ⟨fo, ws, _, rfl, rfl, hF7, ld_lt (by omega), _, _, _, ws ++ [.ref c], rfl, same_mut ((s.trans s6).trans s7) hfo, upd_same, ?_⟩
          rw [List.range_succ, List.map_append]
          exact (hw.imp fun _ _ h => ((h.mono s6).mono s7).monoT tu).snoc ⟨c, rfl, h7'.monoT tu⟩
      · obtain ⟨y4, y5, y6, ws, rfl, s, hF, hw⟩ := h
        rw [hvl] at hw
        refine ⟨_, rfl, fo, ws, rfl, .inl ⟨.of hF, fun p hp => ?_⟩⟩
        have sp := same_upd (o := .tup ws) hp
        refine k p _ _ (u04.trans (s.trans sp).but) (hb4.of_same (s.trans sp)) ⟨ws, .of upd_same, hw.imp fun _ _ h => h.mono sp⟩ (shr_ok hcv (by omega)) fun u hu => ?_
        obtain ⟨j, _, rfl⟩ := List.mem_map.1 hu
        exact shr_fair j (by omega) (by omega)
end
end K34
set_option Elab.async false
set_option linter.all false
set_option maxRecDepth 100000
set_option exponentiation.threshold 200000
/-! the walk: what is drawn is right -/
namespace K34
open PySem PySem.Spec PyProof.Rows L2
theorem frEqS {K : PySem.W.Frag} {H : Hp} {a b : Addr} {p : Rat} {Q : VK} (ha : FrA K H a p) (hb : FrA K H b p) (k : Q (.bl true) H) : rEqD K (.ref a) (.ref b) H Q := frEq ha hb (by rw [decide_eq_true rfl]; exact k)
section
variable {P : Program} {w : World} {K : PySem.W.Frag} {mg : Str → Option Value} {base : Heap}
def spDrawn (K : PySem.W.Frag) : Sp := fun vs H Q _ => ∃ (b a c : Addr) (m : Nat) (os : List Of) (q : Rat), vs = [.ref b, .ref a, .ref c] ∧ BoxA H b ∧ StA K H a m os ∧ Good m os ∧ FrA K H c q ∧ Sz q ∧
  (∀ ys, BearP m os ys → tot ys ≤ q) ∧ (∀ us, ShareP m os us → q ≤ tot (priced us os)) ∧ ∀ H', But b H H' → BoxA H' b → Q (.bl true) H'
theorem c_law_drawn_right (D : Df K mg "_law_drawn_right" "_law_drawn_right" t_law_drawn_right ["box", "stock", "best"]) (B : Bi mg) (C1 : Cal P w K mg base 3 "_law_bearing" ["box", "stock"] (spBearing K)) (C2 : Cal P w K mg base 3 "_law_sharing" ["box", "stock"] (spSharing K))
    (C3 : Cal P w K mg base 2 "_law_cover" ["box", "stock"] (spCover K)) (C4 : Cal P w K mg base 5 "is_bearing" ["stock", "thing"] (spBear K toTrue)) (C5 : Cal P w K mg base 5 "is_sharing" ["stock", "thing"] (spShare K fun _ => toTrue))
    (C6 : Cal P w K mg base 1 "_law_less" ["one", "other"] (spLess K)) (C7 : Cal P w K mg base 6 "worth_of" ["stock", "bearing"] (spBear K (toTot K))) (C8 : Cal P w K mg base 6 "shared_price" ["stock", "sharing"] (spShare K (toPrice K)))
    (C9 : Cal P w K mg base 6 "price_of" ["stock", "lot"] (spPrice K)) : Cal P w K mg base 7 "_law_drawn_right" ["box", "stock", "best"] (spDrawn K) := by
  obtain ⟨f, fd, F, g, b⟩ := D.ex
  obtain ⟨f1, d1, G1, g1, k1, b1⟩ := C1.ex
  obtain ⟨f2, d2, G2, g2, k2, b2⟩ := C2.ex
  obtain ⟨f3, d3, G3, g3, k3, b3⟩ := C3.ex
  obtain ⟨f4, d4, G4, g4, k4, b4⟩ := C4.ex
  obtain ⟨f5, d5, G5, g5, k5, b5⟩ := C5.ex
  obtain ⟨f6, d6, G6, g6, k6, b6⟩ := C6.ex
  obtain ⟨f7, d7, G7, g7, k7, b7⟩ := C7.ex
  obtain ⟨f8, d8, G8, g8, k8, b8⟩ := C8.ex
  obtain ⟨f9, d9, G9, g9, k9, b9⟩ := C9.ex
  refine ⟨f, fd, F.ok s_law_drawn_right (fun vs H Q E h => ?_) (fun cdv A outer s H vs Q E hr h => ?_), g, F.kp, b⟩
  · obtain ⟨_, _, _, _, _, _, rfl, _⟩ := h
    rfl
  · obtain ⟨b, a, c, m, os, q, rfl, hb, hst, G, hc, hq, hlo, hhi, k⟩ := h
    have ⟨ob, ha, vs, hob, ho⟩ := hst
    have hn10 := G.n10
    have hvl : vs.length = os.length := ho.1
    have nd := s_law_drawn_right.nd
    refine ⟨_, pss_cons (ps_set (i := 3) nd rfl (.inl rfl) (pe_call G1 (hr.mono (by decide)) (by rfl) g1 k1 b1 .nil pass0 (pa_cons (pv 0) (pa_cons (pv 1) pa_nil))))
      (pss_cons (ps_set (i := 4) nd rfl (.inl rfl) (pe_call G2 (hr.mono (by decide)) (by rfl) g2 k2 b2 .nil pass0 (pa_cons (pv 0) (pa_cons (pv 1) pa_nil))))
      (pss_cons (ps_set (i := 5) nd rfl (.inr rfl) (pe_call G3 (hr.mono (by decide)) (by rfl) g3 k3 b3 .nil pass0 (pa_cons (pv 0) (pa_cons (pv 1) pa_nil))))
      (pss_cons (ps_if (PW.pt (pw_or (pt_not (pt_val (pe_call G4 (hr.mono (by decide)) (by rfl) g4 k4 b4 .nil pass0 (pa_cons (pv 1) (pa_cons (pv 3) pa_nil))))) (pw_or1 (pt_not (pt_val (pe_call G5 (hr.mono (by decide)) (by rfl) g5 k5 b5 .nil pass0 (pa_cons (pv 1) (pa_cons (pv 4) pa_nil)))))))) (pss_one (ps_ret pe_bl)) pss_nil)
      (pss_cons (ps_if (PW.pt (pw_or (pt_val (pe_call G6 (hr.mono (by decide)) (by rfl) g6 k6 b6 .nil pass0 (pa_cons (pv 2) (pa_cons (pe_call G7 hr (by rfl) g7 k7 b7 .nil pass0 (pa_cons (pv 1) (pa_cons (pv 3) pa_nil))) pa_nil))))
          (pw_or1 (pt_val (pe_call G6 (hr.mono (by decide)) (by rfl) g6 k6 b6 .nil pass0 (pa_cons (pe_call G8 hr (by rfl) g8 k8 b8 .nil pass0 (pa_cons (pv 1) (pa_cons (pv 4) pa_nil))) (pa_cons (pv 2) pa_nil))))))) (pss_one (ps_ret pe_bl)) pss_nil)
      (pss_cons (ps_set (i := 6) nd rfl (.inl rfl) (pe_callTy call_tuple_of (by rfl) B.tuple (by decide +kernel) (pa_cons (pe_lc (own := [("offer", 8)]) (g := gName 8) (tt := tYes)
          (te := tTup (tCons (tCB (fun xs H Q => (∃ i, xs = [V.int i] ∧ Q (.int i) H) ∨ ∃ k, xs = [V.bl k] ∧ Q (.int (if k then 1 else 0)) H) (tCons (tOp (rIn K false) (tVar 8) (tVar 5)) tNil)) (tCons (tC (.int 1)) tNil))) rfl nd
          (pi_range1 (by rfl) B.range (pa_cons (pe_callB call_len_seq (by rfl) B.len PySem.boot_len (pa_cons (pvt 1) pa_nil)) pa_nil)) (blkOk_by (N := n_law_drawn_right) (sc := defScope t_law_drawn_right) (by decide +kernel))
          (fun _ _ _ _ _ => pg_name (i := 8) nd rfl (Or.inl rfl)) (fun _ _ _ _ _ => pts_nil)
          (fun _ _ _ _ _ => pe_tup (pa_cons (pe_callTy call_int1 (by rfl) B.int (by decide +kernel) (pa_cons (pe_cmpR op_in_seq (pv 8) (pv 5) rfl) pa_nil)) (pa_cons pe_int pa_nil)))) pa_nil)))
      (pss_cons (ps_set (i := 7) nd rfl (.inl rfl) (pe_call G9 hr (by rfl) g9 k9 b9 .nil pass0 (pa_cons (pv 1) (pa_cons (pv 5) pa_nil))))
      (pss_one (ps_ret (pe_and (pe_cmpR (op_eqD hr.units) (pe_call G8 hr (by rfl) g8 k8 b8 .nil pass0 (pa_cons (pv 1) (pa_cons (pv 6) pa_nil))) (pe_tup (pa_cons (pv 7) (pa_cons pe_int pa_nil))) (nomark _))
          (pe_one (pe_not (pe_call G6 (hr.mono (by decide)) (by rfl) g6 k6 b6 .nil pass0 (pa_cons (pe_tup (pa_cons (pv 7) (pa_cons pe_int pa_nil))) (pa_cons (pv 2) pa_nil)))))))))))))), ?_⟩
    refine ⟨_, rfl, _, rfl, b, a, m, os, rfl, hb, hst, G, fun x1 H1 ys u1 hb1 hy yb yf => ?_⟩
    have hst1 := hst.monoT (u1.tb hb)
    refine ⟨_, rfl, _, rfl, b, a, m, os, rfl, hb1, hst1, G, fun x2 H2 us u2 hb2 hu ub uf => ?_⟩
    have hst2 := hst1.monoT (u2.tb hb1)
    refine ⟨_, rfl, _, rfl, b, a, m, os, rfl, hb2, hst2, G, fun x3 H3 cs u3 hb3 hcs c1 c2 c3 => ?_⟩
    have hst3 := hst2.monoT (u3.tb hb2)
    have u03 : But b H H3 := (u1.trans u2).trans u3
    have hy3 := (hy.monoT (u2.tb hb1)).monoT (u3.tb hb2)
    have hu3 := hu.monoT (u3.tb hb2)
    have hc3 : FrA K H3 c q := hc.monoT (u03.tb hb)
    have Z := bear_of G yb yf
    have W := share_of G ub uf
    have cv : CoverP m os cs := ⟨c1, c2, c3⟩
    obtain ⟨ok1, ok2⟩ := ones_ok cv
    refine ⟨_, rfl, _, rfl, a, x1, m, os, ys, rfl, hst3, G, hy3, Z, fun H4 s4 => ⟨_, rfl, iteF ?_⟩⟩
    refine ⟨_, rfl, _, rfl, a, x2, m, os, us, rfl, hst3.monoT s4.t, G, hu3.mono s4, W, fun H5 s5 => ⟨_, rfl, iteF ?_⟩⟩
    have s35 := s4.trans s5
    refine ⟨_, rfl, _, rfl, _, rfl, a, x1, m, os, ys, rfl, hst3.monoT s35.t, G, hy3.mono s35, Z, fun e1 H6 s6 h6 => ?_⟩
    have s36 := s35.trans s6
    refine ⟨c, e1, q, _, rfl, hc3.mono s36, h6, hq, bear_sz G yb yf, _, rfl, ?_⟩
    rw [decide_eq_false (Rat.not_lt.2 (hlo ys yb))]
    refine iteF ?_
    refine ⟨_, rfl, _, rfl, a, x2, m, os, us, rfl, hst3.monoT s36.t, G, hu3.mono s36, W, fun e2 H7 s7 h7 => ?_⟩
    have s37 := s36.trans s7
    refine ⟨_, rfl, e2, c, _, q, rfl, h7, hc3.mono s37, share_sz G ub uf, hq, _, rfl, ?_⟩
    rw [decide_eq_false (Rat.not_lt.2 (hhi us ub))]
    refine iteF ?_
    -- the noughts and ones
    refine ⟨_, rfl, a, _, 1, _, rfl, rfl, s37.sqt (((u03.tb hb)).sqt ha), at1, ob, vs, rfl, .inr (s37.sqt ((u03.tb hb).sqt hob)), (vs.length : Int), rfl, by omega, by omega,
      lc_all walk_range0 (by omega) (ones os cs) (by rw [hvl]; unfold ones; simp) (fun D H v (x : Rat) => Fr K H v x) (fun D H H' v x ⟨l, hl⟩ hb' h => h.monoT (hb'.t hl)) (fun H' s' => trivial)
        (fun D i v H8 H8' x hD hx s' hl hy' Kp kp => ?_) (fun D zs H8 hD s8 hl8 r8 => ?_)⟩
    · obtain ⟨rfl, rfl⟩ := hy'
      have hio : i < os.length := by
        have := (List.getElem?_eq_some_iff.1 hx).1
        unfold ones at this
        rwa [List.length_map, List.length_range] at this
      have hxe : x = if i ∈ cs then 1 else 0 := by
        rw [← ones_get hio, getD_of hx]
      have hcs8 : SqT K H8' x3 (iv cs) := (s37.trans s').sqt hcs
      refine ⟨rfl, _, rfl, _, rfl, x3, _, rfl, .inr hcs8, rfl, by simp [flatV], .inr ⟨_, rfl, two_line, fun p hp => kp _ _ (same_upd hp) ⟨p, rfl, ?_⟩⟩⟩
      show FrA K (upd H8' p (.tup [.int (if inV (.int (i : Int)) (iv cs) = true then 1 else 0), .int 1])) p x
      rw [in_iv, hxe]
      by_cases hin : i ∈ cs
      · rw [if_pos hin, decide_eq_true hin, if_pos rfl]
        exact fr_nat (n := 1) (.of upd_same)
      · rw [if_neg hin, decide_eq_false hin, if_neg (by decide)]
        exact fr_nat (n := 0) (.of upd_same)
    · refine ⟨D, zs, rfl, .inl ⟨.of hl8, fun x4 hx4 => ?_⟩⟩
      have s9 := same_upd (o := .tup zs) hx4
      have s39 := (s37.trans s8).trans s9
      have hones : FrT K (upd H8 x4 (.tup zs)) x4 (ones os cs) := ⟨zs, .of upd_same, r8.imp fun _ _ h => h.mono s9⟩
      generalize upd H8 x4 (.tup zs) = H9 at s9 s39 hones
      refine ⟨_, rfl, _, rfl, a, x3, m, os, cs, rfl, hst3.monoT s39.t, s39.sqt hcs, by have := up_len c1 c2; omega, c1, c2, fun H10 s10 => ?_⟩
      have s310 := s39.trans s10
      refine ⟨_, rfl, _, rfl, a, x4, m, os, _, rfl, hst3.monoT s310.t, G, hones.mono s10, share_of G ok1 ok2, fun e4 H11 s11 h11 => ?_⟩
      have s311 := s310.trans s11
      rw [ones_tot cv] at h11
      refine ⟨_, rfl, two_line, fun p hp => ?_⟩
      have sp := same_upd (o := .tup [.int (((prices os cs).sum : Nat) : Int), .int 1]) hp
      refine frEqS (h11.mono sp) (fr_nat (.of upd_same)) ⟨_, rfl, iteT ?_⟩
      refine ⟨_, rfl, two_line, fun p2 hp2 => ?_⟩
      have sp2 := same_upd (o := .tup [.int (((prices os cs).sum : Nat) : Int), .int 1]) hp2
      have sEnd := (s311.trans sp).trans sp2
      refine ⟨_, rfl, p2, c, (((prices os cs).sum : Nat) : Rat), q, rfl, fr_nat (.of upd_same), hc3.mono sEnd, by rw [← ones_tot cv]; exact share_sz G ok1 ok2, hq, _, rfl, ?_⟩
      rw [decide_eq_false (Rat.not_lt.2 (by rw [← ones_tot cv]; exact hhi _ ok1))]
      exact k _ (u03.trans sEnd.but) (hb3.of_same sEnd)
end
end K34
set_option Elab.async false
set_option linter.all false
set_option maxRecDepth 100000
set_option exponentiation.threshold 200000
/-! the walk: the law -/
namespace K34
open PySem PySem.Spec PyProof.Rows L2
theorem but_new {b : Addr} {H H1 H2 : Hp} (h : H b = none) (s : Same H H1) (u : But b H1 H2) : Same H H2 := fun a o ha => u a o (ne_of_none ha h) (s a o ha)
theorem price_up (q : Rat) (f : Nat) : Rat.divInt (q.num * (f : Int)) (q.den : Int) = q * (f : Rat) := by
  have hd : ((q.den : Int) : Rat) ≠ 0 := by
    intro z
    have := q.den_pos
    have h2 : ((q.den : Int)) = 0 := Rat.intCast_inj.1 z
    omega
  have h := rat_nd q
  rw [Rat.divInt_eq_div, Rat.intCast_mul, Rat.intCast_natCast f]
  grind
section
variable {P : Program} {w : World} {K : PySem.W.Frag} {mg : Str → Option Value} {base : Heap}
def spLaw (K : PySem.W.Frag) : Sp := fun vs H Q _ => ∃ (a : Addr) (ns : List Int), vs = [.ref a] ∧ SqL K H a (ns.map V.int) ∧ ns.length ≤ 63 ∧ ∀ H', Q (.bl true) H'
theorem ok_law {f : Addr} {fd : FuncData} (F : Fun K "law" "law" t_law f fd) (B : Bi mg) (C1 : Cal P w K mg base 2 "_law_box" ["script", "k"] (spBox K)) (C2 : Cal P w K mg base 3 "_law_full" ["box", "most", "lots"] (spFullL K)) (C3 : Cal P w K mg base 8 "balanced" ["stock"] (spBest K))
    (C4 : Cal P w K mg base 6 "worth_of" ["stock", "bearing"] (spBear K (toTot K))) (C5 : Cal P w K mg base 6 "shared_price" ["stock", "sharing"] (spShare K (toPrice K))) (C6 : Cal P w K mg base 3 "_law_tight" ["stock", "bears", "shares"] (spTight K))
    (C7 : Cal P w K mg base 7 "_law_drawn_right" ["box", "stock", "best"] (spDrawn K)) (C8 : Cal P w K mg base 1 "_law_take" ["box", "many"] spTake) (C9 : Cal P w K mg base 1 "_law_frac" ["top", "bottom"] (spMade K)) : FnOk P w K mg base CX0 9 f fd ["script"] (spLaw K) := by
  obtain ⟨f1, d1, G1, g1, k1, b1⟩ := C1.ex
  obtain ⟨f2, d2, G2, g2, k2, b2⟩ := C2.ex
  obtain ⟨f3, d3, G3, g3, k3, b3⟩ := C3.ex
  obtain ⟨f4, d4, G4, g4, k4, b4⟩ := C4.ex
  obtain ⟨f5, d5, G5, g5, k5, b5⟩ := C5.ex
  obtain ⟨f6, d6, G6, g6, k6, b6⟩ := C6.ex
  obtain ⟨f7, d7, G7, g7, k7, b7⟩ := C7.ex
  obtain ⟨f8, d8, G8, g8, k8, b8⟩ := C8.ex
  obtain ⟨f9, d9, G9, g9, k9, b9⟩ := C9.ex
  refine F.ok s_law (fun vs H Q E h => ?_) (fun cdv A outer s H vs Q E hr h => ?_)
  · obtain ⟨_, _, rfl, _⟩ := h
    rfl
  · obtain ⟨a, ns, rfl, hs, h63, k⟩ := h
    have nd := s_law.nd
    refine ⟨_, pss_cons (ps_for PassesOwn.never rfl (pi_range1 (by rfl) B.range (pa_cons (pe_callB (call_max2 rfl) (by rfl) B.max boot_max (pa_cons pe_int (pa_cons (pe_callB (call_min2 rfl) (by rfl) B.min boot_min (pa_cons (pe_callB call_len_seq (by rfl) B.len PySem.boot_len (pa_cons (pv 0) pa_nil)) (pa_cons pe_int pa_nil))) pa_nil))) pa_nil)) (pg_name (i := 1) nd rfl (.inl rfl))
        (pss_cons (ps_set (i := 2) nd rfl (.inl rfl) (pe_call G1 (hr.mono (by decide)) (by rfl) g1 k1 b1 .nil pass0 (pa_cons (pv 0) (pa_cons (pv 1) pa_nil))))
        (pss_cons (ps_set (i := 3) nd rfl (.inl rfl) (pe_call G2 (hr.mono (by decide)) (by rfl) g2 k2 b2 .nil pass0 (pa_cons (pv 2) (pa_cons pe_int (pa_cons pe_int pa_nil)))))
        (pss_cons (ps_asg (pe_call G3 hr (by rfl) g3 k3 b3 .nil pass0 (pa_cons (pv 3) pa_nil)) (pg_tup rfl (pgs_cons (pg_name (i := 4) nd rfl (.inl rfl)) (pgs_cons (pg_name (i := 5) nd rfl (.inl rfl)) pgs_nil))))
        (pss_cons (ps_set (i := 6) nd rfl (.inl rfl) (pe_call G4 (hr.mono (by decide)) (by rfl) g4 k4 b4 .nil pass0 (pa_cons (pv 3) (pa_cons (pv 4) pa_nil))))
        (pss_cons (ps_if (PW.pt (pw_or (pt_cmpR (op_neD hr.units) (pv 6) (pe_call G5 (hr.mono (by decide)) (by rfl) g5 k5 b5 .nil pass0 (pa_cons (pv 3) (pa_cons (pv 5) pa_nil))) (nomark _))
            (pw_or1 (pt_not (pt_val (pe_call G6 (hr.mono (by decide)) (by rfl) g6 k6 b6 .nil pass0 (pa_cons (pv 3) (pa_cons (pv 4) (pa_cons (pv 5) pa_nil))))))))) (pss_one (ps_ret pe_bl)) pss_nil)
        (pss_cons (ps_if (PW.pt (pw_or (pt_not (pt_val (pe_call G7 (hr.mono (by decide)) (by rfl) g7 k7 b7 .nil pass0 (pa_cons (pv 2) (pa_cons (pv 3) (pa_cons (pv 6) pa_nil))))))
            (pw_or1 (pt_not (pt_val (pe_call G7 (hr.mono (by decide)) (by rfl) g7 k7 b7 .nil pass0 (pa_cons (pv 2) (pa_cons (pv 3) (pa_cons (pv 6) pa_nil))))))))) (pss_one (ps_ret pe_bl)) pss_nil)
        (pss_cons (ps_set (i := 7) nd rfl (.inr rfl) (pe_op op_add pe_int (pe_call G8 (hr.mono (by decide)) (by rfl) g8 k8 b8 .nil pass0 (pa_cons (pv 2) (pa_cons pe_int pa_nil)))))
        (pss_cons (ps_set (i := 8) nd rfl (.inl rfl) (pe_tup (pa_cons (pvt 3) (pa_cons (pe_callTy call_tuple_of (by rfl) B.tuple (by decide +kernel) (pa_cons
            (pe_lc (own := [("things", 9), ("price", 10)]) (g := gTup K 2 (gCons (gName 9) (gCons (gName 10) gNil))) (tt := tYes) (te := tTup (tCons (tVar 9) (tCons (tOp (rI CMulW fun i j => .int (i * j)) (tVar 10) (tVar 7)) tNil))) rfl nd
              (pi_tup (pvt 3)) (blkOk_by (N := n_law) (sc := defScope t_law) (by decide +kernel))
              (fun _ _ _ _ _ => pg_tup rfl (pgs_cons (pg_name (i := 9) nd rfl (.inl rfl)) (pgs_cons (pg_name (i := 10) nd rfl (.inl rfl)) pgs_nil))) (fun _ _ _ _ _ => pts_nil)
              (fun _ _ _ _ _ => pe_tup (pa_cons (pv 9) (pa_cons (pe_op op_mulW (pv 10) (pv 7)) pa_nil)))) pa_nil)) pa_nil))))
        (pss_one (ps_if (pt_cmpR (op_neD hr.units) (pe_call G4 (hr.mono (by decide)) (by rfl) g4 k4 b4 .nil pass0 (pa_cons (pv 8) (pa_cons (pe_ix ix_tup (pe_call G3 hr (by rfl) g3 k3 b3 .nil pass0 (pa_cons (pv 8) pa_nil)) pe_int (fun _ _ => rfl)) pa_nil)))
            (pe_call G9 (hr.mono (by decide)) (by rfl) g9 k9 b9 .nil pass0 (pa_cons (pe_op op_mulW (pvt 6) (pv 7)) (pa_cons (pvt 6) pa_nil))) (nomark _)) (pss_one (ps_ret pe_bl)) pss_nil)))))))))))
      (pss_one (ps_ret pe_bl)), ?_⟩
    have hbound : ∃ n : Nat, (if (if (3 : Int) < ((ns.map V.int).length : Nat) then (3 : Int) else ((ns.map V.int).length : Nat)) > 1 then (if (3 : Int) < ((ns.map V.int).length : Nat) then (3 : Int) else ((ns.map V.int).length : Nat)) else 1) = (n : Int) ∧ n ≤ 3 := by
      generalize ((ns.map V.int).length : Nat) = L
      by_cases h1 : (3 : Int) < (L : Int)
      · rw [if_pos h1, if_pos (by decide)]
        exact ⟨3, rfl, Nat.le_refl _⟩
      · rw [if_neg h1]
        by_cases h2 : (L : Int) > 1
        · rw [if_pos h2]
          exact ⟨L, rfl, by omega⟩
        · rw [if_neg h2]
          exact ⟨1, rfl, by decide⟩
    obtain ⟨n, hn, hn3⟩ := hbound
    refine ⟨_, rfl, a, _, rfl, .inl hs, _, _, rfl, _, _, rfl, ?_⟩
    rw [hn]
    refine ⟨(n : Int), rfl, by omega, by omega, for_it walk_range0 (fun i σ H' => ∃ y1 y2 y3 y4 y5 y6 y7 y8 y9 y10, σ = [some (.ref a), y1, y2, y3, y4, y5, y6, y7, y8, y9, y10] ∧ Same H H')
      ⟨_, _, _, _, _, _, _, _, _, _, rfl, Same.refl _⟩ (fun i σ H' _ h => trivial) (fun i x σ H0 H0' hi h hyy => ?_) (fun σ H' h => k H')⟩
    obtain ⟨y1, y2, y3, y4, y5, y6, y7, y8, y9, y10, rfl, s0⟩ := h
    obtain ⟨rfl, rfl⟩ := hyy
    refine ⟨_, rfl, _, rfl, a, ns, i, rfl, by omega, s0.seq hs, fun bx H1 n0 s1 hbx hb1 => ?_⟩
    have hbxH : H bx = none := s0.free hbx
    have s01 : Same H H1 := s0.trans s1
    have hb1' : BoxA H1 bx := ⟨n0, hb1⟩
    refine ⟨_, rfl, bx, rfl, hb1', fun st H2 m os u2 hb2 hst G hp => ?_⟩
    have hm10 := G.m10
    have hn10 := G.n10
    refine ⟨_, rfl, st, m, os, rfl, hst, G, fun L t x y H3 En s3 ht hx hy => ?_⟩
    refine ⟨t, _, rfl, ht, rfl, _, _, rfl, _, _, rfl, rfl, ?_⟩
    have EP := end_plain G En
    obtain ⟨fy, fu⟩ := end_fine G En
    generalize bearL m (m + os.length + 1) L = ys at hx EP fy
    generalize shareL m L = us at hy EP fu
    have Z := bear_of G EP.bear fy
    have W := share_of G EP.share fu
    have hst3 := hst.monoT s3.t
    refine ⟨_, rfl, _, rfl, st, x, m, os, ys, rfl, hst3, G, hx, Z, fun be H4 s4 hbe => ?_⟩
    have s24 := s3.trans s4
    refine ⟨_, rfl, _, rfl, _, rfl, st, y, m, os, us, rfl, hst.monoT s24.t, G, hy.mono s4, W, fun pe H5 s5 hpe => ?_⟩
    rw [← EP.same] at hpe
    have s25 := s24.trans s5
    refine frNeS (hbe.mono s5) hpe ⟨_, rfl, iteF ?_⟩
    refine ⟨_, rfl, _, rfl, _, rfl, st, x, y, m, os, ys, us, rfl, hst.monoT s25.t, G, (hx.mono s4).mono s5, (hy.mono s4).mono s5, EP.bear.len, EP.share.len, EP.tight, fy, fun u hu => (fu u hu).fine, fun H6 s6 => ⟨_, rfl, iteF ?_⟩⟩
    have s26 := s25.trans s6
    have hbe6 : FrA K H6 be (tot ys) := (hbe.mono s5).mono s6
    have hq : Sz (tot ys) := bear_sz G EP.bear fy
    have hlo : ∀ ys', BearP m os ys' → tot ys' ≤ tot ys := fun ys' B' => by rw [EP.same]; exact weakP G B' EP.share
    have hhi : ∀ us', ShareP m os us' → tot ys ≤ tot (priced us' os) := fun us' U' => weakP G EP.bear U'
    refine ⟨_, rfl, _, rfl, _, rfl, bx, st, be, m, os, tot ys, rfl, hb2.of_same s26, hst.monoT s26.t, G, hbe6, hq, hlo, hhi, fun H7 u7 hb7 => ⟨_, rfl, iteF ?_⟩⟩
    have t7 := u7.tb (hb2.of_same s26)
    have hst7 := (hst.monoT s26.t).monoT t7
    have hbe7 := hbe6.monoT t7
    refine ⟨_, rfl, _, rfl, _, rfl, bx, st, be, m, os, tot ys, rfl, hb7, hst7, G, hbe7, hq, hlo, hhi, fun H8 u8 hb8 => ⟨_, rfl, iteF ?_⟩⟩
    have t8 := u8.tb hb7
    have hst8 := hst7.monoT t8
    have hbe8 := hbe7.monoT t8
    refine ⟨_, rfl, bx, 9, rfl, hb8, by decide, by decide, fun d0 H9 z0 z1 u9 hb9 => ?_⟩
    have t9 := u9.tb hb8
    have ⟨ob, ha9, vs, hob9, ho9⟩ := hst8.monoT t9
    have hbe9 := hbe8.monoT t9
    have S9 : Same H H9 := but_new hbxH s01 ((((u2.trans s26.but).trans u7).trans u8).trans u9)
    obtain ⟨fq, hfq⟩ := Int.eq_ofNat_of_zero_le (show 0 ≤ 2 + d0 by omega)
    have hf2 : 2 ≤ fq ∧ fq ≤ 10 := by omega
    refine ⟨2, d0, rfl, rfl, ?_⟩
    have hfv : V.int (2 + d0) = V.int (fq : Int) := by rw [hfq]
    have G' := dear_good (f := fq) G hp (by omega) hf2.2
    have hdl : (dearer os fq).length = os.length := List.length_map _
    have hvl : vs.length = os.length := ho9.1
    refine ⟨_, rfl, st, _, 0, _, rfl, rfl, ha9, at0, _, rfl, st, _, 1, _, rfl, rfl, ha9, at1, ob, rfl, ⟨_, hob9⟩, lc_all (walk_tup (xs := vs)) (by omega) (dearer os fq) (by rw [hdl, hvl]) (fun D H v (o : Of) => Ofr K H v o) (fun D H H' v x ⟨l, hl⟩ hb' h => h.monoT (hb'.t hl)) (fun H' s' => s'.sqt hob9)
      (fun D j v H10 H10' o' hD hx s' hl hy' Kp kp => ?_) (fun D zs H10 hD s10 hl10 r10 => ?_)⟩
    · obtain ⟨rfl, hv⟩ := hy'
      obtain ⟨o, hoo, dd, rfl, tt, hdd0, htt0⟩ := ho9.getV hv
      have hoe : o' = (o.1, o.2 * fq) := by
        unfold dearer at hx
        rw [List.getElem?_map, hoo] at hx
        exact (Option.some.inj hx).symm
      subst hoe
      have hpo := hp o (List.mem_of_getElem? hoo)
      refine ⟨dd, _, rfl, s'.sqt hdd0, rfl, _, _, rfl, _, _, rfl, rfl, rfl, ?_⟩
      refine ⟨_, rfl, _, rfl, _, rfl, (o.2 : Int), 2 + d0, rfl, rfl, sz_mul ?_ ?_, two_line, fun p hp' => kp _ _ (same_upd hp') ⟨p, rfl, tt, ?_, (same_upd hp').sqt (s'.sqt htt0)⟩⟩
      · rw [Int.natAbs_natCast]
        exact Nat.lt_of_le_of_lt (Nat.le_trans hpo (by decide : 10 ^ 12 ≤ 2 ^ 44)) (Nat.pow_lt_pow_right (by decide) (by decide))
      · rw [hfq, Int.natAbs_natCast]
        exact Nat.lt_of_le_of_lt (Nat.le_trans hf2.2 (by decide : 10 ≤ 2 ^ 44)) (Nat.pow_lt_pow_right (by decide) (by decide))
      · have e : (((o.2 * fq : Nat)) : Int) = (o.2 : Int) * (2 + d0) := by rw [hfq, Int.natCast_mul]
        show SqT _ _ _ [.ref tt, .int (((o.2 * fq : Nat)) : Int)]
        rw [e]
        exact .of upd_same
    · refine ⟨D, zs, rfl, .inl ⟨.of hl10, fun x4 hx4 => ?_⟩⟩
      have sa := same_upd (o := .tup zs) hx4
      refine ⟨two_line, fun de hde => ?_⟩
      have sb := same_upd (o := .tup [.int (m : Int), .ref x4]) hde
      have s9b := (s10.trans sa).trans sb
      have hde' : StA K (upd (upd H10 x4 (.tup zs)) de (.tup [.int (m : Int), .ref x4])) de m (dearer os fq) := ⟨x4, .of upd_same, zs, sb.sqt (.of upd_same), r10.imp fun _ _ h => h.monoT (sa.trans sb).t⟩
      generalize upd (upd H10 x4 (.tup zs)) de (.tup [.int (m : Int), .ref x4]) = H11 at s9b hde'
      refine ⟨_, rfl, _, rfl, de, m, _, rfl, hde', G', fun L' t' x' y' H12 En' s12 ht' hx' hy' => ?_⟩
      have EP' := end_plain G' En'
      obtain ⟨fy', fu'⟩ := end_fine G' En'
      generalize bearL m (m + (dearer os fq).length + 1) L' = ys' at hx' EP' fy'
      generalize shareL m L' = us' at hy' EP' fu'
      refine ⟨t', _, 0, _, rfl, rfl, ht', at0, de, x', m, _, ys', rfl, hde'.monoT s12.t, G', hx', bear_of G' EP'.bear fy', fun ce H13 s13 hce => ?_⟩
      have s913 := (s9b.trans s12).trans s13
      have hbe13 := hbe9.mono s913
      rw [dear_worth G G' EP EP'] at hce
      have fm : (((2 + d0 : Int))).natAbs < 2 ^ 100000 := by
        rw [hfq, Int.natAbs_natCast]
        exact Nat.lt_of_le_of_lt (Nat.le_trans hf2.2 (by decide : 10 ≤ 2 ^ 44)) (Nat.pow_lt_pow_right (by decide) (by decide))
      refine ⟨_, rfl, be, _, 0, _, rfl, rfl, hbe13, at0, _, rfl, _, _, rfl, rfl, sz_mul hq.n fm, _, rfl, be, _, 1, _, rfl, rfl, hbe13, at1, _, _, rfl, by have := (tot ys).den_pos; omega, ?_, fun fe H14 s14 hfe => ?_⟩
      · rw [Int.natAbs_natCast]
        exact tot_den fy (by rw [EP.bear.len]; exact hm10)
      · rw [hfq, price_up] at hfe
        exact frNeS (hce.mono s14) hfe ⟨_, rfl, iteF ⟨_, _, _, _, _, _, _, _, _, _, rfl, S9.trans (s913.trans s14)⟩⟩
end
end K34
set_option Elab.async false
set_option linter.all false
set_option maxRecDepth 100000
/-! the head's facts, and all defs joined -/
namespace K34
open PySem PySem.Spec PyProof.Rows L2
def BindsS (x qual : Str) (st : Stmt) (ps : List Str) : Prop := ∀ (kV doc pm : Value) (an : Option Addr) (cdv ct : Value) (us : List Value), us.length = ps.length → bindArgs (PySem.W.fnOf x qual (defArgs st) (defBody st) (defScope st) .none kV doc pm an cdv ct) ⟨us, []⟩ = pure (ps.zip us)
theorem b_is_whole : BindsS "is_whole" "is_whole" t_is_whole ["thing"] := fun _ _ _ _ _ _ us hl => match us, hl with | [_], _ => rfl
theorem b_divisor : BindsS "divisor" "divisor" t_divisor ["one", "other"] := fun _ _ _ _ _ _ us hl => match us, hl with | [_, _], _ => rfl
theorem b_made : BindsS "made" "made" t_made ["top", "bottom"] := fun _ _ _ _ _ _ us hl => match us, hl with | [_, _], _ => rfl
theorem b_is_fraction : BindsS "is_fraction" "is_fraction" t_is_fraction ["thing"] := fun _ _ _ _ _ _ us hl => match us, hl with | [_], _ => rfl
theorem b_plus : BindsS "plus" "plus" t_plus ["one", "other"] := fun _ _ _ _ _ _ us hl => match us, hl with | [_, _], _ => rfl
theorem b_minus : BindsS "minus" "minus" t_minus ["one", "other"] := fun _ _ _ _ _ _ us hl => match us, hl with | [_, _], _ => rfl
theorem b_times : BindsS "times" "times" t_times ["one", "other"] := fun _ _ _ _ _ _ us hl => match us, hl with | [_, _], _ => rfl
theorem b_over : BindsS "over" "over" t_over ["one", "other"] := fun _ _ _ _ _ _ us hl => match us, hl with | [_, _], _ => rfl
theorem b_less : BindsS "less" "less" t_less ["one", "other"] := fun _ _ _ _ _ _ us hl => match us, hl with | [_, _], _ => rfl
theorem b_total : BindsS "total" "total" t_total ["some"] := fun _ _ _ _ _ _ us hl => match us, hl with | [_], _ => rfl
theorem b_is_upto : BindsS "is_upto" "is_upto" t_is_upto ["thing", "many"] := fun _ _ _ _ _ _ us hl => match us, hl with | [_, _], _ => rfl
theorem b_is_rising : BindsS "is_rising" "is_rising" t_is_rising ["thing", "many"] := fun _ _ _ _ _ _ us hl => match us, hl with | [_, _], _ => rfl
theorem b_is_lot : BindsS "is_lot" "is_lot" t_is_lot ["stock", "thing"] := fun _ _ _ _ _ _ us hl => match us, hl with | [_, _], _ => rfl
theorem b_need_lot : BindsS "need_lot" "need_lot" t_need_lot ["stock", "thing"] := fun _ _ _ _ _ _ us hl => match us, hl with | [_, _], _ => rfl
theorem b_things_in : BindsS "things_in" "things_in" t_things_in ["stock", "lot"] := fun _ _ _ _ _ _ us hl => match us, hl with | [_, _], _ => rfl
theorem b_price_in : BindsS "price_in" "price_in" t_price_in ["stock", "lot"] := fun _ _ _ _ _ _ us hl => match us, hl with | [_, _], _ => rfl
theorem b_price_of : BindsS "price_of" "price_of" t_price_of ["stock", "lot"] := fun _ _ _ _ _ _ us hl => match us, hl with | [_, _], _ => rfl
theorem b_has_all : BindsS "has_all" "has_all" t_has_all ["stock", "lot"] := fun _ _ _ _ _ _ us hl => match us, hl with | [_, _], _ => rfl
theorem b_is_full : BindsS "is_full" "is_full" t_is_full ["stock"] := fun _ _ _ _ _ _ us hl => match us, hl with | [_], _ => rfl
theorem b_look_at_full : BindsS "look_at_full" "look_at_full" t_look_at_full ["stock"] := fun _ _ _ _ _ _ us hl => match us, hl with | [_], _ => rfl
theorem b_offers_with : BindsS "offers_with" "offers_with" t_offers_with ["stock", "thing"] := fun _ _ _ _ _ _ us hl => match us, hl with | [_, _], _ => rfl
theorem b_lessened_by : BindsS "lessened_by" "lessened_by" t_lessened_by ["row", "head", "by"] := fun _ _ _ _ _ _ us hl => match us, hl with | [_, _, _], _ => rfl
theorem b_best_of : BindsS "best_of" "best_of" t_best_of ["stock"] := fun _ _ _ _ _ _ us hl => match us, hl with | [_], _ => rfl
theorem b_balanced : BindsS "balanced" "balanced" t_balanced ["stock"] := fun _ _ _ _ _ _ us hl => match us, hl with | [_], _ => rfl
theorem b_are_shares : BindsS "are_shares" "are_shares" t_are_shares ["thing", "many"] := fun _ _ _ _ _ _ us hl => match us, hl with | [_, _], _ => rfl
theorem b_is_bearing : BindsS "is_bearing" "is_bearing" t_is_bearing ["stock", "thing"] := fun _ _ _ _ _ _ us hl => match us, hl with | [_, _], _ => rfl
theorem b_is_sharing : BindsS "is_sharing" "is_sharing" t_is_sharing ["stock", "thing"] := fun _ _ _ _ _ _ us hl => match us, hl with | [_, _], _ => rfl
theorem b_worth_of : BindsS "worth_of" "worth_of" t_worth_of ["stock", "bearing"] := fun _ _ _ _ _ _ us hl => match us, hl with | [_, _], _ => rfl
theorem b_shared_price : BindsS "shared_price" "shared_price" t_shared_price ["stock", "sharing"] := fun _ _ _ _ _ _ us hl => match us, hl with | [_, _], _ => rfl
theorem b_law_cell : BindsS "_law_cell" "_law_cell" t_law_cell ["script", "k"] := fun _ _ _ _ _ _ us hl => match us, hl with | [_, _], _ => rfl
theorem b_law_box : BindsS "_law_box" "_law_box" t_law_box ["script", "k"] := fun _ _ _ _ _ _ us hl => match us, hl with | [_, _], _ => rfl
theorem b_law_take : BindsS "_law_take" "_law_take" t_law_take ["box", "many"] := fun _ _ _ _ _ _ us hl => match us, hl with | [_, _], _ => rfl
theorem b_law_things : BindsS "_law_things" "_law_things" t_law_things ["box", "many"] := fun _ _ _ _ _ _ us hl => match us, hl with | [_, _], _ => rfl
theorem b_law_full : BindsS "_law_full" "_law_full" t_law_full ["box", "most", "lots"] := fun _ _ _ _ _ _ us hl => match us, hl with | [_, _, _], _ => rfl
theorem b_law_has : BindsS "_law_has" "_law_has" t_law_has ["stock", "lot"] := fun _ _ _ _ _ _ us hl => match us, hl with | [_, _], _ => rfl
theorem b_law_cover : BindsS "_law_cover" "_law_cover" t_law_cover ["box", "stock"] := fun _ _ _ _ _ _ us hl => match us, hl with | [_, _], _ => rfl
theorem b_law_frac : BindsS "_law_frac" "_law_frac" t_law_frac ["top", "bottom"] := fun _ _ _ _ _ _ us hl => match us, hl with | [_, _], _ => rfl
theorem b_law_sum : BindsS "_law_sum" "_law_sum" t_law_sum ["some"] := fun _ _ _ _ _ _ us hl => match us, hl with | [_], _ => rfl
theorem b_law_bearing : BindsS "_law_bearing" "_law_bearing" t_law_bearing ["box", "stock"] := fun _ _ _ _ _ _ us hl => match us, hl with | [_, _], _ => rfl
theorem b_law_sharing : BindsS "_law_sharing" "_law_sharing" t_law_sharing ["box", "stock"] := fun _ _ _ _ _ _ us hl => match us, hl with | [_, _], _ => rfl
theorem b_law_less : BindsS "_law_less" "_law_less" t_law_less ["one", "other"] := fun _ _ _ _ _ _ us hl => match us, hl with | [_, _], _ => rfl
theorem b_law_tight : BindsS "_law_tight" "_law_tight" t_law_tight ["stock", "bears", "shares"] := fun _ _ _ _ _ _ us hl => match us, hl with | [_, _, _], _ => rfl
theorem b_law_drawn_right : BindsS "_law_drawn_right" "_law_drawn_right" t_law_drawn_right ["box", "stock", "best"] := fun _ _ _ _ _ _ us hl => match us, hl with | [_, _, _], _ => rfl
theorem b_law : BindsS "law" "law" t_law ["script"] := fun _ _ _ _ _ _ us hl => match us, hl with | [_], _ => rfl
theorem b_Tinit : BindsS "__init__" "Table.__init__" t_Tinit ["self", "stock"] := fun _ _ _ _ _ _ us hl => match us, hl with | [_, _], _ => rfl
theorem b_Tcoming : BindsS "coming" "Table.coming" t_Tcoming ["self"] := fun _ _ _ _ _ _ us hl => match us, hl with | [_], _ => rfl
theorem b_Tgoing : BindsS "going" "Table.going" t_Tgoing ["self", "column"] := fun _ _ _ _ _ _ us hl => match us, hl with | [_, _], _ => rfl
theorem b_Tturn : BindsS "turn" "Table.turn" t_Tturn ["self", "column", "place"] := fun _ _ _ _ _ _ us hl => match us, hl with | [_, _, _], _ => rfl
theorem b_Tbearing : BindsS "bearing" "Table.bearing" t_Tbearing ["self"] := fun _ _ _ _ _ _ us hl => match us, hl with | [_], _ => rfl
theorem b_Tsharing : BindsS "sharing" "Table.sharing" t_Tsharing ["self"] := fun _ _ _ _ _ _ us hl => match us, hl with | [_], _ => rfl
section
variable {K : PySem.W.Frag} {h : Heap} {mg : Str → Option Value}
theorem mk_df {x qual : Str} {st : Stmt} {ps : List Str} (hb : BindsS x qual st ps) (X : K.In h) (G : h.Ns mainGlobals mg) {f : Addr} {oc : Value} {od an : Option Addr} {osl : Array (Option Value)} {kV doc pm cdv ct : Value}
    (a : PySem.W.nsIn K mainGlobals x = some (some (.ref f))) (l : K.lookup f = some ⟨oc, od, .func (PySem.W.fnOf x qual (defArgs st) (defBody st) (defScope st) .none kV doc pm an cdv ct), osl⟩) (c : PySem.W.codeIn K cdv qual = true) (k : PySem.W.keepIn K (.ref f) = true) : Df K mg x qual st ps :=
  ⟨_, _, fun_mk l c k, PySem.W.mg_of X G a, (fun_mk l c k).binds hb⟩
theorem mk_dm {C : Addr} {x qual : Str} {st : Stmt} {ps : List Str} (hb : BindsS x qual st ps) {f : Addr} {oc : Value} {od an : Option Addr} {osl : Array (Option Value)} {kV doc pm cdv ct : Value}
    (a : PySem.W.findIn K (.ref C) x = some (some (.ref f))) (i : PySem.W.isFn K (.ref f) = true) (l : K.lookup f = some ⟨oc, od, .func (PySem.W.fnOf x qual (defArgs st) (defBody st) (defScope st) .none kV doc pm an cdv ct), osl⟩) (c : PySem.W.codeIn K cdv qual = true) (k : PySem.W.keepIn K (.ref f) = true) : DfM K C x qual st ps :=
  ⟨_, _, fun_mk l c k, ⟨a, i, k⟩, (fun_mk l c k).binds hb⟩
theorem mk_num {x : Str} {i j : Int} {z : Addr} {ti tj : Tok} {od : Option Addr} {n : Nat} {sl : Array (Option Value)} (X : K.In h) (G : h.Ns mainGlobals mg) (a : PySem.W.nsIn K mainGlobals x = some (some (.ref z))) (l : K.lookup z = some ⟨.type "tuple", od, .seq #[.int i ti, .int j tj] n, sl⟩) :
    mg x = some (.ref z) ∧ ∀ H, SqT K H z [.int i, .int j] :=
  ⟨PySem.W.mg_of X G a, fun H => .inr ⟨_, _, _, l, rfl, rfl, (by decide : 2 ≤ sizeLine), .cons ⟨_, rfl⟩ (.cons ⟨_, rfl⟩ .nil)⟩⟩
theorem mk_nums {z o : Addr} (hz : mg "NOUGHT" = some (.ref z) ∧ ∀ H, SqT K H z [.int 0, .int 1]) (ho : mg "ONE" = some (.ref o) ∧ ∀ H, SqT K H o [.int 1, .int 1]) : Nums K mg :=
  ⟨⟨z, hz.1, fun H => fr_nat (n := 0) (hz.2 H)⟩, ⟨o, ho.1, fun H => fr_nat (n := 1) (ho.2 H)⟩⟩
theorem joined {P : Program} {w : World} {base : Heap} {C : Addr} (B : Bi mg) (U : Nums K mg) (T : Tx K C) (gC : mg "Table" = some (.ref C)) (mkC : PySem.W.makesIn K C = true) (kpC : PySem.W.keepIn K (.ref C) = true)
    (D_is_whole : Df K mg "is_whole" "is_whole" t_is_whole ["thing"]) (D_divisor : Df K mg "divisor" "divisor" t_divisor ["one", "other"]) (D_made : Df K mg "made" "made" t_made ["top", "bottom"]) (D_is_fraction : Df K mg "is_fraction" "is_fraction" t_is_fraction ["thing"]) (D_plus : Df K mg "plus" "plus" t_plus ["one", "other"]) (D_minus : Df K mg "minus" "minus" t_minus ["one", "other"]) (D_times : Df K mg "times" "times" t_times ["one", "other"]) (D_over : Df K mg "over" "over" t_over ["one", "other"]) (D_less : Df K mg "less" "less" t_less ["one", "other"]) (D_total : Df K mg "total" "total" t_total ["some"]) (D_is_upto : Df K mg "is_upto" "is_upto" t_is_upto ["thing", "many"]) (D_is_rising : Df K mg "is_rising" "is_rising" t_is_rising ["thing", "many"]) (D_is_lot : Df K mg "is_lot" "is_lot" t_is_lot ["stock", "thing"]) (D_need_lot : Df K mg "need_lot" "need_lot" t_need_lot ["stock", "thing"]) (D_things_in : Df K mg "things_in" "things_in" t_things_in ["stock", "lot"]) (D_price_in : Df K mg "price_in" "price_in" t_price_in ["stock", "lot"]) (D_price_of : Df K mg "price_of" "price_of" t_price_of ["stock", "lot"]) (D_has_all : Df K mg "has_all" "has_all" t_has_all ["stock", "lot"]) (D_is_full : Df K mg "is_full" "is_full" t_is_full ["stock"]) (D_look_at_full : Df K mg "look_at_full" "look_at_full" t_look_at_full ["stock"]) (D_offers_with : Df K mg "offers_with" "offers_with" t_offers_with ["stock", "thing"]) (D_lessened_by : Df K mg "lessened_by" "lessened_by" t_lessened_by ["row", "head", "by"]) (D_best_of : Df K mg "best_of" "best_of" t_best_of ["stock"]) (D_balanced : Df K mg "balanced" "balanced" t_balanced ["stock"]) (D_are_shares : Df K mg "are_shares" "are_shares" t_are_shares ["thing", "many"]) (D_is_bearing : Df K mg "is_bearing" "is_bearing" t_is_bearing ["stock", "thing"]) (D_is_sharing : Df K mg "is_sharing" "is_sharing" t_is_sharing ["stock", "thing"]) (D_worth_of : Df K mg "worth_of" "worth_of" t_worth_of ["stock", "bearing"]) (D_shared_price : Df K mg "shared_price" "shared_price" t_shared_price ["stock", "sharing"]) (D_law_cell : Df K mg "_law_cell" "_law_cell" t_law_cell ["script", "k"]) (D_law_box : Df K mg "_law_box" "_law_box" t_law_box ["script", "k"]) (D_law_take : Df K mg "_law_take" "_law_take" t_law_take ["box", "many"]) (D_law_things : Df K mg "_law_things" "_law_things" t_law_things ["box", "many"]) (D_law_full : Df K mg "_law_full" "_law_full" t_law_full ["box", "most", "lots"]) (D_law_has : Df K mg "_law_has" "_law_has" t_law_has ["stock", "lot"]) (D_law_cover : Df K mg "_law_cover" "_law_cover" t_law_cover ["box", "stock"]) (D_law_frac : Df K mg "_law_frac" "_law_frac" t_law_frac ["top", "bottom"]) (D_law_sum : Df K mg "_law_sum" "_law_sum" t_law_sum ["some"]) (D_law_bearing : Df K mg "_law_bearing" "_law_bearing" t_law_bearing ["box", "stock"]) (D_law_sharing : Df K mg "_law_sharing" "_law_sharing" t_law_sharing ["box", "stock"]) (D_law_less : Df K mg "_law_less" "_law_less" t_law_less ["one", "other"]) (D_law_tight : Df K mg "_law_tight" "_law_tight" t_law_tight ["stock", "bears", "shares"]) (D_law_drawn_right : Df K mg "_law_drawn_right" "_law_drawn_right" t_law_drawn_right ["box", "stock", "best"])
    (D_Tinit : DfM K C "__init__" "Table.__init__" t_Tinit ["self", "stock"]) (D_Tcoming : DfM K C "coming" "Table.coming" t_Tcoming ["self"]) (D_Tgoing : DfM K C "going" "Table.going" t_Tgoing ["self", "column"]) (D_Tturn : DfM K C "turn" "Table.turn" t_Tturn ["self", "column", "place"]) (D_Tbearing : DfM K C "bearing" "Table.bearing" t_Tbearing ["self"]) (D_Tsharing : DfM K C "sharing" "Table.sharing" t_Tsharing ["self"]) {f : Addr} {fd : FuncData} (F_law : Fun K "law" "law" t_law f fd) : FnOk P w K mg base CX0 9 f fd ["script"] (spLaw K) := by
  have is_whole := c_is_whole (P := P) (w := w) (base := base) D_is_whole B
  have divisor := c_divisor (P := P) (w := w) (base := base) D_divisor B.abs
  have made := c_made D_made divisor
  have is_fraction := c_is_fraction D_is_fraction B is_whole divisor
  have plus := c_plus D_plus made
  have minus := c_minus D_minus plus
  have times := c_times D_times made
  have over := c_over D_over made
  have less := c_less (P := P) (w := w) (base := base) D_less
  have totalL := c_totalL D_total U plus
  have totalT := c_totalT D_total U plus
  have is_upto := c_is_upto D_is_upto is_whole
  have is_rising := c_is_rising D_is_rising B is_upto
  have is_lot := c_is_lot D_is_lot B is_rising
  have need_lot := c_need_lot D_need_lot is_lot
  have things_in := c_things_in (P := P) (w := w) (base := base) D_things_in B
  have price_in := c_price_in (P := P) (w := w) (base := base) D_price_in B
  have price_of := c_price_of D_price_of need_lot price_in
  have has_all := c_has_all D_has_all B things_in
  have is_full := c_is_full D_is_full B has_all
  have look_at_full := c_look_at_full D_look_at_full is_full
  have offers_with := c_offers_with (P := P) (w := w) (base := base) D_offers_with B
  have lessened_by := c_lessened_by D_lessened_by B minus times
  have init := c_init (P := P) (w := w) (base := base) D_Tinit B U T
  have coming := c_coming D_Tcoming B U T less
  have going := c_going D_Tgoing B U T less over
  have turn := c_turn D_Tturn T over lessened_by
  have bearing := c_bearing (P := P) (w := w) (base := base) D_Tbearing B U T
  have sharing := c_sharing D_Tsharing B U T minus
  have maker : CalC P w K mg base C 1 ["self", "stock"] (spInit K C) := by
    obtain ⟨f, fd, F, M, b⟩ := init.ex
    exact ⟨f, fd, F, ⟨mkC, M.at_, M.fn, kpC⟩, gC, b⟩
  have best_of := c_best_of D_best_of T maker coming going turn bearing sharing
  have balanced := c_balanced D_balanced look_at_full best_of
  have are_shares := c_are_shares D_are_shares B is_fraction
  have is_bearing := c_is_bearing D_is_bearing B are_shares less totalL
  have is_sharing := c_is_sharing D_is_sharing B U are_shares less totalL offers_with
  have worth_of := c_worth_of D_worth_of is_bearing totalT
  have shared_price := c_shared_price D_shared_price B is_sharing totalL times
  have law_cell := c_law_cell (P := P) (w := w) (base := base) D_law_cell B
  have law_box := c_law_box D_law_box B law_cell
  have law_take := c_law_take (P := P) (w := w) (base := base) D_law_take
  have law_things := c_law_things D_law_things B law_take
  have law_full := c_law_full D_law_full B law_take law_things
  have law_has := c_law_has (P := P) (w := w) (base := base) D_law_has B
  have law_cover := c_law_cover D_law_cover B law_take law_has
  have law_frac := c_law_frac (P := P) (w := w) (base := base) D_law_frac B
  have law_sum := c_law_sum D_law_sum law_frac
  have law_bearing := c_law_bearing D_law_bearing B law_take law_sum law_frac
  have law_sharing := c_law_sharing D_law_sharing B law_take law_cover law_frac
  have law_less := c_law_less (P := P) (w := w) (base := base) D_law_less
  have law_tight := c_law_tight D_law_tight B law_sum
  have drawn := c_law_drawn_right D_law_drawn_right B law_bearing law_sharing law_cover is_bearing is_sharing law_less worth_of shared_price price_of
  exact ok_law F_law B law_box law_full balanced worth_of shared_price law_tight drawn law_take law_frac
theorem ended {P : Program} {w : World} {fa : Addr} (D : Df K mg "law" "law" t_law ["script"]) (hfa : mg "law" = some (.ref fa)) (J : ∀ (base : Heap) (f : Addr) (fd : FuncData), Fun K "law" "law" t_law f fd → FnOk P w K mg base CX0 9 f fd ["script"] (spLaw K)) :
    ∃ fd : FuncData, (∀ (s : Shared) (u : Value), BindsTo s fd ⟨[u], []⟩ [("script", u)]) ∧ ∀ base : Heap, K.In base → base.Ns mainGlobals mg → FnOk P w K mg base CX0 9 fa fd ["script"] (spLaw K) := by
  obtain ⟨f, fd, F, g, b⟩ := D.ex
  have e := hfa.symm.trans g
  cases e
  refine ⟨fd, fun s u => ?_, fun base _ _ => J base _ _ F⟩
  obtain ⟨oc, od, kV, doc, pm, an, cdv, ct, osl, rfl, lk, hcd⟩ := F.ex
  exact .of_eq (b_law kV doc pm an cdv ct [u] rfl)
theorem cps_df {Gl : Prop} {x qual : Str} {st : Stmt} {ps : List Str} (hb : BindsS x qual st ps) (X : K.In h) (G : h.Ns mainGlobals mg) {f : Addr} {oc : Value} {od an : Option Addr} {osl : Array (Option Value)} {kV doc pm cdv ct : Value}
    (a : PySem.W.nsIn K mainGlobals x = some (some (.ref f))) (l : K.lookup f = some ⟨oc, od, .func (PySem.W.fnOf x qual (defArgs st) (defBody st) (defScope st) .none kV doc pm an cdv ct), osl⟩) (c : PySem.W.codeIn K cdv qual = true) (k : PySem.W.keepIn K (.ref f) = true) (n : Df K mg x qual st ps → Gl) : Gl := n (mk_df hb X G a l c k)
theorem cps_dm {Gl : Prop} {C : Addr} {x qual : Str} {st : Stmt} {ps : List Str} (hb : BindsS x qual st ps) (X : K.In h) (gC : PySem.W.plainGet K C Str.empty = true) {f : Addr} {oc : Value} {od an : Option Addr} {osl : Array (Option Value)} {kV doc pm cdv ct : Value}
    (a : PySem.W.findIn K (.ref C) x = some (some (.ref f))) (i : PySem.W.isFn K (.ref f) = true) (l : K.lookup f = some ⟨oc, od, .func (PySem.W.fnOf x qual (defArgs st) (defBody st) (defScope st) .none kV doc pm an cdv ct), osl⟩) (c : PySem.W.codeIn K cdv qual = true) (k : PySem.W.keepIn K (.ref f) = true) (n : DfM K C x qual st ps → Gl) : Gl := n (mk_dm hb a i l c k)
theorem cps_num {Gl : Prop} {z o : Addr} {t0 t1 t2 t3 : Tok} {od od2 : Option Addr} {n n2 : Nat} {sl sl2 : Array (Option Value)} (X : K.In h) (G : h.Ns mainGlobals mg) (a1 : PySem.W.nsIn K mainGlobals "NOUGHT" = some (some (.ref z))) (l1 : K.lookup z = some ⟨.type "tuple", od, .seq #[.int 0 t0, .int 1 t1] n, sl⟩)
    (a2 : PySem.W.nsIn K mainGlobals "ONE" = some (some (.ref o))) (l2 : K.lookup o = some ⟨.type "tuple", od2, .seq #[.int 1 t2, .int 1 t3] n2, sl2⟩) (m : Nums K mg → Gl) : Gl := m (mk_nums (mk_num X G a1 l1) (mk_num X G a2 l2))
theorem cps_cls {Gl : Prop} {C : Addr} (X : K.In h) (G : h.Ns mainGlobals mg) (aC : PySem.W.nsIn K mainGlobals "Table" = some (some (.ref C))) (pg : PySem.W.plainGet K C Str.empty = true) (hd : PySem.W.hasDictIn K C = true) (po : PySem.W.plainOver K C = true) (sa : PySem.W.findIn K (.ref C) "__setattr__" = some (some (.builtin "object.__setattr__")))
    (mk : PySem.W.makesIn K C = true) (kc : PySem.W.keepIn K (.ref C) = true) (n1 : PySem.W.findIn K (.ref C) "things" = some none) (n2 : PySem.W.findIn K (.ref C) "rows" = some none) (n3 : PySem.W.findIn K (.ref C) "heads" = some none) (n4 : PySem.W.findIn K (.ref C) "goal" = some none)
    (n : Tx K C → mg "Table" = some (.ref C) → PySem.W.plainGet K C Str.empty = true → PySem.W.makesIn K C = true → PySem.W.keepIn K (.ref C) = true → Gl) : Gl := n ⟨⟨pg, hd, po, sa⟩, n1, n2, n3, n4⟩ (PySem.W.mg_of X G aC) pg mk kc
theorem cps_bi {Gl : Prop} (X : K.In h) (G : h.Ns mainGlobals mg) (z0 : PySem.W.nsIn K mainGlobals "isinstance" = some none) (z1 : PySem.W.nsIn K mainGlobals "int" = some none) (z2 : PySem.W.nsIn K mainGlobals "bool" = some none) (z3 : PySem.W.nsIn K mainGlobals "tuple" = some none) (z4 : PySem.W.nsIn K mainGlobals "len" = some none) (z5 : PySem.W.nsIn K mainGlobals "list" = some none) (z6 : PySem.W.nsIn K mainGlobals "range" = some none) (z7 : PySem.W.nsIn K mainGlobals "set" = some none) (z8 : PySem.W.nsIn K mainGlobals "sorted" = some none) (z9 : PySem.W.nsIn K mainGlobals "sum" = some none) (z10 : PySem.W.nsIn K mainGlobals "all" = some none) (z11 : PySem.W.nsIn K mainGlobals "any" = some none) (z12 : PySem.W.nsIn K mainGlobals "zip" = some none) (z13 : PySem.W.nsIn K mainGlobals "enumerate" = some none) (z14 : PySem.W.nsIn K mainGlobals "abs" = some none) (z15 : PySem.W.nsIn K mainGlobals "max" = some none) (z16 : PySem.W.nsIn K mainGlobals "min" = some none) (n : Bi mg → Gl) : Gl := n ⟨PySem.W.mg_none_of X G z0, PySem.W.mg_none_of X G z1, PySem.W.mg_none_of X G z2, PySem.W.mg_none_of X G z3, PySem.W.mg_none_of X G z4, PySem.W.mg_none_of X G z5, PySem.W.mg_none_of X G z6, PySem.W.mg_none_of X G z7, PySem.W.mg_none_of X G z8, PySem.W.mg_none_of X G z9, PySem.W.mg_none_of X G z10, PySem.W.mg_none_of X G z11, PySem.W.mg_none_of X G z12, PySem.W.mg_none_of X G z13, PySem.W.mg_none_of X G z14, PySem.W.mg_none_of X G z15, PySem.W.mg_none_of X G z16⟩
end
end K34
set_option Elab.async false
set_option linter.all false
set_option maxRecDepth 100000
open PySem PySem.W PyProof.Rows
set_option maxRecDepth 100000 in
set_option maxHeartbeats 0 in
theorem PySem.Challenge.cw_cheapcovers_k34_whole_both_sides_holds : PySem.Challenge.rw_cheapcovers_k34_whole_both_sides.Holds := by
  w_on; o_law; k_head; (case hw => w_witness2)
  k_fill
  refine L2.walk_of (n := 63) (k := 9) (x := "script") (CX := fun _ => L2.CX0) (sp := fun w => K34.spLaw _) rfl (by decide) rfl ⟨rfl, by decide, by decide⟩ (fun w h Y => PySem.W.kIn_of Y) ?F (fun _ _ a ns hl _ hS => ⟨a, ns, rfl, hS, hl, fun _ => rfl⟩) (fun _ _ _ _ _ h => h)
  case F =>
    intro w mg fa h KX G hmg
    refine' K34.cps_bi KX G ?z0 ?z1 ?z2 ?z3 ?z4 ?z5 ?z6 ?z7 ?z8 ?z9 ?z10 ?z11 ?z12 ?z13 ?z14 ?z15 ?z16 ?q0
    (case z0 => k_is)
    (case z1 => k_is)
    (case z2 => k_is)
    (case z3 => k_is)
    (case z4 => k_is)
    (case z5 => k_is)
    (case z6 => k_is)
    (case z7 => k_is)
    (case z8 => k_is)
    (case z9 => k_is)
    (case z10 => k_is)
    (case z11 => k_is)
    (case z12 => k_is)
    (case z13 => k_is)
    (case z14 => k_is)
    (case z15 => k_is)
    (case z16 => k_is)
    intro B
    refine' K34.cps_num KX G ?a1 ?l1 ?a2 ?l2 ?q1
    (case a1 => k_is)
    (case l1 => k_is)
    (case a2 => k_is)
    (case l2 => k_is)
    intro U
    refine' K34.cps_cls KX G ?aC ?pg ?hd ?po ?sa ?mk ?kc ?n1 ?n2 ?n3 ?n4 ?q2
    (case aC => k_is)
    (case pg => k_is)
    (case hd => k_is)
    (case po => k_is)
    (case sa => k_is)
    (case mk => k_is)
    (case kc => k_is)
    (case n1 => k_is)
    (case n2 => k_is)
    (case n3 => k_is)
    (case n4 => k_is)
    intro T gC pgC mkC kpC
    refine' K34.cps_df K34.b_is_whole KX G ?a_is_whole ?l_is_whole ?c_is_whole ?k_is_whole ?q_is_whole
    (case a_is_whole => k_is)
    (case l_is_whole => k_is)
    (case c_is_whole => k_is)
    (case k_is_whole => k_is)
    intro D_is_whole
    refine' K34.cps_df K34.b_divisor KX G ?a_divisor ?l_divisor ?c_divisor ?k_divisor ?q_divisor
    (case a_divisor => k_is)
    (case l_divisor => k_is)
    (case c_divisor => k_is)
    (case k_divisor => k_is)
    intro D_divisor
    refine' K34.cps_df K34.b_made KX G ?a_made ?l_made ?c_made ?k_made ?q_made
    (case a_made => k_is)
    (case l_made => k_is)
    (case c_made => k_is)
    (case k_made => k_is)
    intro D_made
    refine' K34.cps_df K34.b_is_fraction KX G ?a_is_fraction ?l_is_fraction ?c_is_fraction ?k_is_fraction ?q_is_fraction
    (case a_is_fraction => k_is)
    (case l_is_fraction => k_is)
    (case c_is_fraction => k_is)
    (case k_is_fraction => k_is)
    intro D_is_fraction
    refine' K34.cps_df K34.b_plus KX G ?a_plus ?l_plus ?c_plus ?k_plus ?q_plus
    (case a_plus => k_is)
    (case l_plus => k_is)
    (case c_plus => k_is)
    (case k_plus => k_is)
    intro D_plus
    refine' K34.cps_df K34.b_minus KX G ?a_minus ?l_minus ?c_minus ?k_minus ?q_minus
    (case a_minus => k_is)
    (case l_minus => k_is)
    (case c_minus => k_is)
    (case k_minus => k_is)
    intro D_minus
    refine' K34.cps_df K34.b_times KX G ?a_times ?l_times ?c_times ?k_times ?q_times
    (case a_times => k_is)
    (case l_times => k_is)
    (case c_times => k_is)
    (case k_times => k_is)
    intro D_times
    refine' K34.cps_df K34.b_over KX G ?a_over ?l_over ?c_over ?k_over ?q_over
    (case a_over => k_is)
    (case l_over => k_is)
    (case c_over => k_is)
    (case k_over => k_is)
    intro D_over
    refine' K34.cps_df K34.b_less KX G ?a_less ?l_less ?c_less ?k_less ?q_less
    (case a_less => k_is)
    (case l_less => k_is)
    (case c_less => k_is)
    (case k_less => k_is)
    intro D_less
    refine' K34.cps_df K34.b_total KX G ?a_total ?l_total ?c_total ?k_total ?q_total
    (case a_total => k_is)
    (case l_total => k_is)
    (case c_total => k_is)
    (case k_total => k_is)
    intro D_total
    refine' K34.cps_df K34.b_is_upto KX G ?a_is_upto ?l_is_upto ?c_is_upto ?k_is_upto ?q_is_upto
    (case a_is_upto => k_is)
    (case l_is_upto => k_is)
    (case c_is_upto => k_is)
    (case k_is_upto => k_is)
    intro D_is_upto
    refine' K34.cps_df K34.b_is_rising KX G ?a_is_rising ?l_is_rising ?c_is_rising ?k_is_rising ?q_is_rising
    (case a_is_rising => k_is)
    (case l_is_rising => k_is)
    (case c_is_rising => k_is)
    (case k_is_rising => k_is)
    intro D_is_rising
    refine' K34.cps_df K34.b_is_lot KX G ?a_is_lot ?l_is_lot ?c_is_lot ?k_is_lot ?q_is_lot
    (case a_is_lot => k_is)
    (case l_is_lot => k_is)
    (case c_is_lot => k_is)
    (case k_is_lot => k_is)
    intro D_is_lot
    refine' K34.cps_df K34.b_need_lot KX G ?a_need_lot ?l_need_lot ?c_need_lot ?k_need_lot ?q_need_lot
    (case a_need_lot => k_is)
    (case l_need_lot => k_is)
    (case c_need_lot => k_is)
    (case k_need_lot => k_is)
    intro D_need_lot
    refine' K34.cps_df K34.b_things_in KX G ?a_things_in ?l_things_in ?c_things_in ?k_things_in ?q_things_in
    (case a_things_in => k_is)
    (case l_things_in => k_is)
    (case c_things_in => k_is)
    (case k_things_in => k_is)
    intro D_things_in
    refine' K34.cps_df K34.b_price_in KX G ?a_price_in ?l_price_in ?c_price_in ?k_price_in ?q_price_in
    (case a_price_in => k_is)
    (case l_price_in => k_is)
    (case c_price_in => k_is)
    (case k_price_in => k_is)
    intro D_price_in
    refine' K34.cps_df K34.b_price_of KX G ?a_price_of ?l_price_of ?c_price_of ?k_price_of ?q_price_of
    (case a_price_of => k_is)
    (case l_price_of => k_is)
    (case c_price_of => k_is)
    (case k_price_of => k_is)
    intro D_price_of
    refine' K34.cps_df K34.b_has_all KX G ?a_has_all ?l_has_all ?c_has_all ?k_has_all ?q_has_all
    (case a_has_all => k_is)
    (case l_has_all => k_is)
    (case c_has_all => k_is)
    (case k_has_all => k_is)
    intro D_has_all
    refine' K34.cps_df K34.b_is_full KX G ?a_is_full ?l_is_full ?c_is_full ?k_is_full ?q_is_full
    (case a_is_full => k_is)
    (case l_is_full => k_is)
    (case c_is_full => k_is)
    (case k_is_full => k_is)
    intro D_is_full
    refine' K34.cps_df K34.b_look_at_full KX G ?a_look_at_full ?l_look_at_full ?c_look_at_full ?k_look_at_full ?q_look_at_full
    (case a_look_at_full => k_is)
    (case l_look_at_full => k_is)
    (case c_look_at_full => k_is)
    (case k_look_at_full => k_is)
    intro D_look_at_full
    refine' K34.cps_df K34.b_offers_with KX G ?a_offers_with ?l_offers_with ?c_offers_with ?k_offers_with ?q_offers_with
    (case a_offers_with => k_is)
    (case l_offers_with => k_is)
    (case c_offers_with => k_is)
    (case k_offers_with => k_is)
    intro D_offers_with
    refine' K34.cps_df K34.b_lessened_by KX G ?a_lessened_by ?l_lessened_by ?c_lessened_by ?k_lessened_by ?q_lessened_by
    (case a_lessened_by => k_is)
    (case l_lessened_by => k_is)
    (case c_lessened_by => k_is)
    (case k_lessened_by => k_is)
    intro D_lessened_by
    refine' K34.cps_df K34.b_best_of KX G ?a_best_of ?l_best_of ?c_best_of ?k_best_of ?q_best_of
    (case a_best_of => k_is)
    (case l_best_of => k_is)
    (case c_best_of => k_is)
    (case k_best_of => k_is)
    intro D_best_of
    refine' K34.cps_df K34.b_balanced KX G ?a_balanced ?l_balanced ?c_balanced ?k_balanced ?q_balanced
    (case a_balanced => k_is)
    (case l_balanced => k_is)
    (case c_balanced => k_is)
    (case k_balanced => k_is)
    intro D_balanced
    refine' K34.cps_df K34.b_are_shares KX G ?a_are_shares ?l_are_shares ?c_are_shares ?k_are_shares ?q_are_shares
    (case a_are_shares => k_is)
    (case l_are_shares => k_is)
    (case c_are_shares => k_is)
    (case k_are_shares => k_is)
    intro D_are_shares
    refine' K34.cps_df K34.b_is_bearing KX G ?a_is_bearing ?l_is_bearing ?c_is_bearing ?k_is_bearing ?q_is_bearing
    (case a_is_bearing => k_is)
    (case l_is_bearing => k_is)
    (case c_is_bearing => k_is)
    (case k_is_bearing => k_is)
    intro D_is_bearing
    refine' K34.cps_df K34.b_is_sharing KX G ?a_is_sharing ?l_is_sharing ?c_is_sharing ?k_is_sharing ?q_is_sharing
    (case a_is_sharing => k_is)
    (case l_is_sharing => k_is)
    (case c_is_sharing => k_is)
    (case k_is_sharing => k_is)
    intro D_is_sharing
    refine' K34.cps_df K34.b_worth_of KX G ?a_worth_of ?l_worth_of ?c_worth_of ?k_worth_of ?q_worth_of
    (case a_worth_of => k_is)
    (case l_worth_of => k_is)
    (case c_worth_of => k_is)
    (case k_worth_of => k_is)
    intro D_worth_of
    refine' K34.cps_df K34.b_shared_price KX G ?a_shared_price ?l_shared_price ?c_shared_price ?k_shared_price ?q_shared_price
    (case a_shared_price => k_is)
    (case l_shared_price => k_is)
    (case c_shared_price => k_is)
    (case k_shared_price => k_is)
    intro D_shared_price
    refine' K34.cps_df K34.b_law_cell KX G ?a_law_cell ?l_law_cell ?c_law_cell ?k_law_cell ?q_law_cell
    (case a_law_cell => k_is)
    (case l_law_cell => k_is)
    (case c_law_cell => k_is)
    (case k_law_cell => k_is)
    intro D_law_cell
    refine' K34.cps_df K34.b_law_box KX G ?a_law_box ?l_law_box ?c_law_box ?k_law_box ?q_law_box
    (case a_law_box => k_is)
    (case l_law_box => k_is)
    (case c_law_box => k_is)
    (case k_law_box => k_is)
    intro D_law_box
    refine' K34.cps_df K34.b_law_take KX G ?a_law_take ?l_law_take ?c_law_take ?k_law_take ?q_law_take
    (case a_law_take => k_is)
    (case l_law_take => k_is)
    (case c_law_take => k_is)
    (case k_law_take => k_is)
    intro D_law_take
    refine' K34.cps_df K34.b_law_things KX G ?a_law_things ?l_law_things ?c_law_things ?k_law_things ?q_law_things
    (case a_law_things => k_is)
    (case l_law_things => k_is)
    (case c_law_things => k_is)
    (case k_law_things => k_is)
    intro D_law_things
    refine' K34.cps_df K34.b_law_full KX G ?a_law_full ?l_law_full ?c_law_full ?k_law_full ?q_law_full
    (case a_law_full => k_is)
    (case l_law_full => k_is)
    (case c_law_full => k_is)
    (case k_law_full => k_is)
    intro D_law_full
    refine' K34.cps_df K34.b_law_has KX G ?a_law_has ?l_law_has ?c_law_has ?k_law_has ?q_law_has
    (case a_law_has => k_is)
    (case l_law_has => k_is)
    (case c_law_has => k_is)
    (case k_law_has => k_is)
    intro D_law_has
    refine' K34.cps_df K34.b_law_cover KX G ?a_law_cover ?l_law_cover ?c_law_cover ?k_law_cover ?q_law_cover
    (case a_law_cover => k_is)
    (case l_law_cover => k_is)
    (case c_law_cover => k_is)
    (case k_law_cover => k_is)
    intro D_law_cover
    refine' K34.cps_df K34.b_law_frac KX G ?a_law_frac ?l_law_frac ?c_law_frac ?k_law_frac ?q_law_frac
    (case a_law_frac => k_is)
    (case l_law_frac => k_is)
    (case c_law_frac => k_is)
    (case k_law_frac => k_is)
    intro D_law_frac
    refine' K34.cps_df K34.b_law_sum KX G ?a_law_sum ?l_law_sum ?c_law_sum ?k_law_sum ?q_law_sum
    (case a_law_sum => k_is)
    (case l_law_sum => k_is)
    (case c_law_sum => k_is)
    (case k_law_sum => k_is)
    intro D_law_sum
    refine' K34.cps_df K34.b_law_bearing KX G ?a_law_bearing ?l_law_bearing ?c_law_bearing ?k_law_bearing ?q_law_bearing
    (case a_law_bearing => k_is)
    (case l_law_bearing => k_is)
    (case c_law_bearing => k_is)
    (case k_law_bearing => k_is)
    intro D_law_bearing
    refine' K34.cps_df K34.b_law_sharing KX G ?a_law_sharing ?l_law_sharing ?c_law_sharing ?k_law_sharing ?q_law_sharing
    (case a_law_sharing => k_is)
    (case l_law_sharing => k_is)
    (case c_law_sharing => k_is)
    (case k_law_sharing => k_is)
    intro D_law_sharing
    refine' K34.cps_df K34.b_law_less KX G ?a_law_less ?l_law_less ?c_law_less ?k_law_less ?q_law_less
    (case a_law_less => k_is)
    (case l_law_less => k_is)
    (case c_law_less => k_is)
    (case k_law_less => k_is)
    intro D_law_less
    refine' K34.cps_df K34.b_law_tight KX G ?a_law_tight ?l_law_tight ?c_law_tight ?k_law_tight ?q_law_tight
    (case a_law_tight => k_is)
    (case l_law_tight => k_is)
    (case c_law_tight => k_is)
    (case k_law_tight => k_is)
    intro D_law_tight
    refine' K34.cps_df K34.b_law_drawn_right KX G ?a_law_drawn_right ?l_law_drawn_right ?c_law_drawn_right ?k_law_drawn_right ?q_law_drawn_right
    (case a_law_drawn_right => k_is)
    (case l_law_drawn_right => k_is)
    (case c_law_drawn_right => k_is)
    (case k_law_drawn_right => k_is)
    intro D_law_drawn_right
    refine' K34.cps_df K34.b_law KX G ?a_law ?l_law ?c_law ?k_law ?q_law
    (case a_law => k_is)
    (case l_law => k_is)
    (case c_law => k_is)
    (case k_law => k_is)
    intro D_law
    refine' K34.cps_dm K34.b_Tinit KX pgC ?a_Tinit ?i_Tinit ?l_Tinit ?c_Tinit ?k_Tinit ?q_Tinit
    (case a_Tinit => k_is)
    (case i_Tinit => k_is)
    (case l_Tinit => k_is)
    (case c_Tinit => k_is)
    (case k_Tinit => k_is)
    intro D_Tinit
    refine' K34.cps_dm K34.b_Tcoming KX pgC ?a_Tcoming ?i_Tcoming ?l_Tcoming ?c_Tcoming ?k_Tcoming ?q_Tcoming
    (case a_Tcoming => k_is)
    (case i_Tcoming => k_is)
    (case l_Tcoming => k_is)
    (case c_Tcoming => k_is)
    (case k_Tcoming => k_is)
    intro D_Tcoming
    refine' K34.cps_dm K34.b_Tgoing KX pgC ?a_Tgoing ?i_Tgoing ?l_Tgoing ?c_Tgoing ?k_Tgoing ?q_Tgoing
    (case a_Tgoing => k_is)
    (case i_Tgoing => k_is)
    (case l_Tgoing => k_is)
    (case c_Tgoing => k_is)
    (case k_Tgoing => k_is)
    intro D_Tgoing
    refine' K34.cps_dm K34.b_Tturn KX pgC ?a_Tturn ?i_Tturn ?l_Tturn ?c_Tturn ?k_Tturn ?q_Tturn
    (case a_Tturn => k_is)
    (case i_Tturn => k_is)
    (case l_Tturn => k_is)
    (case c_Tturn => k_is)
    (case k_Tturn => k_is)
    intro D_Tturn
    refine' K34.cps_dm K34.b_Tbearing KX pgC ?a_Tbearing ?i_Tbearing ?l_Tbearing ?c_Tbearing ?k_Tbearing ?q_Tbearing
    (case a_Tbearing => k_is)
    (case i_Tbearing => k_is)
    (case l_Tbearing => k_is)
    (case c_Tbearing => k_is)
    (case k_Tbearing => k_is)
    intro D_Tbearing
    refine' K34.cps_dm K34.b_Tsharing KX pgC ?a_Tsharing ?i_Tsharing ?l_Tsharing ?c_Tsharing ?k_Tsharing ?q_Tsharing
    (case a_Tsharing => k_is)
    (case i_Tsharing => k_is)
    (case l_Tsharing => k_is)
    (case c_Tsharing => k_is)
    (case k_Tsharing => k_is)
    intro D_Tsharing
    exact K34.ended D_law hmg fun base f fd F => K34.joined B U T gC mkC kpC D_is_whole D_divisor D_made D_is_fraction D_plus D_minus D_times D_over D_less D_total D_is_upto D_is_rising D_is_lot D_need_lot D_things_in D_price_in D_price_of D_has_all D_is_full D_look_at_full D_offers_with D_lessened_by D_best_of D_balanced D_are_shares D_is_bearing D_is_sharing D_worth_of D_shared_price D_law_cell D_law_box D_law_take D_law_things D_law_full D_law_has D_law_cover D_law_frac D_law_sum D_law_bearing D_law_sharing D_law_less D_law_tight D_law_drawn_right D_Tinit D_Tcoming D_Tgoing D_Tturn D_Tbearing D_Tsharing F
