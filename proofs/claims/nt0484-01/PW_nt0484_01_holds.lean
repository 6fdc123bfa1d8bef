import PyProof.Rows.All
import Wide.All
import OpenK.AllK
import Wide.FinOn
import PySem.Challenge.RW_nt0484_01
set_option Elab.async false
section
namespace Mine

/-- Cauchy product -/
noncomputable def cv (f g : Nat → Rat) : Nat → Rat
  | 0 => f 0 * g 0
  | n+1 => f 0 * g (n+1) + cv (fun i => f (i+1)) g n

/-- partial sums, inclusive -/
noncomputable def ps (f : Nat → Rat) : Nat → Rat
  | 0 => f 0
  | n+1 => ps f n + f (n+1)

theorem cv_congr {f g f' g' : Nat → Rat} (n : Nat) (hf : ∀ i, i ≤ n → f i = f' i) (hg : ∀ i, i ≤ n → g i = g' i) : cv f g n = cv f' g' n := by
  induction n generalizing f f' with
  | zero => simp [cv, hf 0 (Nat.le_refl _), hg 0 (Nat.le_refl _)]
  | succ n ih =>
    simp only [cv]
    rw [hf 0 (by omega), hg (n+1) (by omega), ih (fun i hi => hf (i+1) (by omega)) (fun i hi => hg i (by omega))]

theorem cv_add_left (f f' g : Nat → Rat) (n : Nat) : cv (fun i => f i + f' i) g n = cv f g n + cv f' g n := by
  induction n generalizing f f' with
  | zero => simp only [cv]; grind
  | succ n ih => simp only [cv]; rw [ih]; grind

theorem cv_add_right (f g g' : Nat → Rat) (n : Nat) : cv f (fun i => g i + g' i) n = cv f g n + cv f g' n := by
  induction n generalizing f with
  | zero => simp only [cv]; grind
  | succ n ih => simp only [cv]; rw [ih]; grind

theorem cv_smul_left (c : Rat) (f g : Nat → Rat) (n : Nat) : cv (fun i => c * f i) g n = c * cv f g n := by
  induction n generalizing f with
  | zero => simp only [cv]; grind
  | succ n ih => simp only [cv]; rw [ih]; grind

theorem cv_smul_right (c : Rat) (f g : Nat → Rat) (n : Nat) : cv f (fun i => c * g i) n = c * cv f g n := by
  induction n generalizing f with
  | zero => simp only [cv]; grind
  | succ n ih => simp only [cv]; rw [ih]; grind

theorem cv_succ' (f g : Nat → Rat) (n : Nat) : cv f g (n+1) = cv f (fun i => g (i+1)) n + f (n+1) * g 0 := by
  induction n generalizing f with
  | zero => simp only [cv]
  | succ n ih =>
    rw [cv, ih, cv]
    grind

theorem cv_weigh (f g : Nat → Rat) (n : Nat) : cv (fun i => (i : Rat) * f i) g n + cv f (fun i => (i : Rat) * g i) n = n * cv f g n := by
  induction n generalizing f with
  | zero => simp only [cv]; push_cast; grind
  | succ n ih =>
    have h := ih (fun i => f (i+1))
    have e : cv (fun i => ((i + 1 : Nat) : Rat) * f (i+1)) g n = cv (fun i => (i : Rat) * f (i+1)) g n + cv (fun i => f (i+1)) g n := by
      rw [← cv_add_left]
      exact cv_congr n (fun i _ => by push_cast; grind) (fun i _ => rfl)
    simp only [cv]
    rw [e]
    push_cast
    grind

theorem cv_shift_left {f f' g : Nat → Rat} {c : Rat} (n : Nat) (h0 : f 0 = 0) (h : ∀ i, f (i+1) = c * f' i) : cv f g (n+1) = c * cv f' g n := by
  rw [cv, h0, ← cv_smul_left]
  rw [cv_congr n (fun i _ => h i) (fun i _ => rfl)]
  grind

theorem cv_shift_right {f g g' : Nat → Rat} {c : Rat} (n : Nat) (h0 : g 0 = 0) (h : ∀ i, g (i+1) = c * g' i) : cv f g (n+1) = c * cv f g' n := by
  rw [cv_succ', h0, ← cv_smul_right]
  rw [cv_congr n (fun i _ => rfl) (fun i _ => h i)]
  grind

theorem ps_congr {f f' : Nat → Rat} (n : Nat) (hf : ∀ i, i ≤ n → f i = f' i) : ps f n = ps f' n := by
  induction n with
  | zero => simp [ps, hf 0 (Nat.le_refl _)]
  | succ n ih => rw [ps, ps, ih (fun i hi => hf i (by omega)), hf (n+1) (by omega)]

theorem ps_cv (f g : Nat → Rat) (n : Nat) : ps (cv f g) n = cv f (ps g) n := by
  induction n with
  | zero => simp only [ps, cv]
  | succ n ih =>
    have e : cv f (fun i => ps g (i+1)) n = cv f (ps g) n + cv f (fun i => g (i+1)) n := by
      rw [← cv_add_right]
      exact cv_congr n (fun i _ => rfl) (fun i _ => rfl)
    rw [ps, ih, cv_succ' f (ps g), e, cv_succ' f g]
    simp only [ps]
    grind

theorem ps_cv_const (f : Nat → Rat) (c : Rat) (n : Nat) : cv f (fun _ => c) n = ps f n * c := by
  induction n generalizing f with
  | zero => simp only [ps, cv]
  | succ n ih =>
    rw [cv_succ', ih]
    simp only [ps]
    grind

/-- the excess of a product of partial sums over the partial sum of the product -/
theorem excess_eq (f g : Nat → Rat) (n : Nat) : ps f n * ps g n - ps (cv f g) n = cv f (fun j => ps g n - ps g j) n := by
  have e : cv f (fun j => ps g n - ps g j) n = cv f (fun _ => ps g n) n + cv f (fun j => (-1) * ps g j) n := by
    rw [← cv_add_right]
    exact cv_congr n (fun i _ => rfl) (fun i _ => by grind)
  rw [e, cv_smul_right, ps_cv_const, ps_cv]
  grind

/-- x is within e of 0 -/
noncomputable def Ab (x e : Rat) : Prop := -e ≤ x ∧ x ≤ e

theorem Ab.nonneg {x e : Rat} (h : Ab x e) : 0 ≤ e := by unfold Ab at h; grind
theorem Ab.add {x y a b : Rat} (h : Ab x a) (k : Ab y b) : Ab (x + y) (a + b) := by unfold Ab at *; grind
theorem Ab.sub {x y a b : Rat} (h : Ab x a) (k : Ab y b) : Ab (x - y) (a + b) := by unfold Ab at *; grind
theorem Ab.neg {x a : Rat} (h : Ab x a) : Ab (-x) a := by unfold Ab at *; grind
theorem Ab.mono {x a b : Rat} (h : Ab x a) (k : a ≤ b) : Ab x b := by unfold Ab at *; grind
theorem Ab.zero {a : Rat} (h : 0 ≤ a) : Ab 0 a := by unfold Ab at *; grind
theorem mul_nn {a b : Rat} (h : 0 ≤ a) (k : 0 ≤ b) : 0 ≤ a * b := by
  exact Rat.mul_nonneg h k
theorem Ab.mul {x y a b : Rat} (h : Ab x a) (k : Ab y b) : Ab (x * y) (a * b) := by
  have h0 := h.nonneg
  have k0 := k.nonneg
  unfold Ab at *
  have h1 := mul_nn (show 0 ≤ a - x by grind) (show 0 ≤ b + y by grind)
  have h2 := mul_nn (show 0 ≤ a + x by grind) (show 0 ≤ b - y by grind)
  have h3 := mul_nn (show 0 ≤ a - x by grind) (show 0 ≤ b - y by grind)
  have h4 := mul_nn (show 0 ≤ a + x by grind) (show 0 ≤ b + y by grind)
  grind

theorem cv_ab {f g F G : Nat → Rat} (n : Nat) (hf : ∀ i, i ≤ n → Ab (f i) (F i)) (hg : ∀ i, i ≤ n → Ab (g i) (G i)) : Ab (cv f g n) (cv F G n) := by
  induction n generalizing f F with
  | zero => exact (hf 0 (Nat.le_refl _)).mul (hg 0 (Nat.le_refl _))
  | succ n ih =>
    exact ((hf 0 (by omega)).mul (hg (n+1) (by omega))).add (ih (fun i hi => hf (i+1) (by omega)) (fun i hi => hg i (by omega)))

theorem ps_ab {f F : Nat → Rat} (n : Nat) (hf : ∀ i, i ≤ n → Ab (f i) (F i)) : Ab (ps f n) (ps F n) := by
  induction n with
  | zero => exact hf 0 (Nat.le_refl _)
  | succ n ih => exact (ih fun i hi => hf i (by omega)).add (hf (n+1) (by omega))

theorem ps_diff_ab {f F : Nat → Rat} (n j : Nat) (hj : j ≤ n) (hf : ∀ i, i ≤ n → Ab (f i) (F i)) : Ab (ps f n - ps f j) (ps F n - ps F j) := by
  induction n with
  | zero =>
    have : j = 0 := by omega
    subst this
    unfold Ab; grind
  | succ n ih =>
    rcases Nat.lt_or_ge n j with h | h
    · have : j = n + 1 := by omega
      subst this
      unfold Ab; grind
    · have := (ih h fun i hi => hf i (by omega)).add (hf (n+1) (by omega))
      simp only [ps]
      unfold Ab at *
      grind

/-- the terms x^n/n! -/
noncomputable def ex (x : Rat) : Nat → Rat
  | 0 => 1
  | n+1 => x * ex x n / ((n+1 : Nat) : Rat)

/-- cosine and sine terms -/
noncomputable def cs (x : Rat) : Nat → Rat × Rat
  | 0 => (1, 0)
  | n+1 => (-(x * (cs x n).2) / ((n+1 : Nat) : Rat), x * (cs x n).1 / ((n+1 : Nat) : Rat))

noncomputable def ct (x : Rat) (n : Nat) : Rat := (cs x n).1
noncomputable def st (x : Rat) (n : Nat) : Rat := (cs x n).2

theorem nz (n : Nat) : ((n+1 : Nat) : Rat) ≠ 0 := by
  intro h
  have : (n+1 : Nat) = 0 := by exact_mod_cast h
  omega

theorem npos (n : Nat) : (0:Rat) < ((n+1 : Nat) : Rat) := by
  have : 0 < n + 1 := by omega
  exact_mod_cast this

theorem wex (x : Rat) (n : Nat) : ((n+1 : Nat) : Rat) * ex x (n+1) = x * ex x n := by
  have := nz n
  rw [ex]; grind
theorem wct (x : Rat) (n : Nat) : ((n+1 : Nat) : Rat) * ct x (n+1) = -x * st x n := by
  have := nz n
  simp only [ct, cs, st]; grind
theorem wst (x : Rat) (n : Nat) : ((n+1 : Nat) : Rat) * st x (n+1) = x * ct x n := by
  have := nz n
  simp only [ct, cs, st]; grind

theorem cancel {n : Nat} {a b : Rat} (h : ((n+1 : Nat) : Rat) * a = ((n+1 : Nat) : Rat) * b) : a = b := by
  have := nz n
  grind

theorem cv_ex (x y : Rat) (n : Nat) : cv (ex x) (ex y) n = ex (x+y) n := by
  induction n with
  | zero => simp only [cv, ex]; grind
  | succ n ih =>
    apply cancel (n := n)
    rw [wex, ← cv_weigh]
    rw [cv_shift_left (f' := ex x) (c := x) n (by grind) (fun i => wex x i)]
    rw [cv_shift_right (g' := ex y) (c := y) n (by grind) (fun i => wex y i)]
    rw [ih]; grind

theorem cv_cs (x y : Rat) (n : Nat) : cv (ct x) (ct y) n - cv (st x) (st y) n = ct (x+y) n ∧ cv (st x) (ct y) n + cv (ct x) (st y) n = st (x+y) n := by
  induction n with
  | zero => simp only [cv, ct, st, cs]; grind
  | succ n ih =>
    obtain ⟨h1, h2⟩ := ih
    constructor
    · apply cancel (n := n)
      rw [wct, show ∀ a b c : Rat, a * (b - c) = a * b - a * c from fun a b c => by grind, ← cv_weigh, ← cv_weigh]
      rw [cv_shift_left (f' := st x) (c := -x) n (by grind) (fun i => wct x i)]
      rw [cv_shift_right (g' := st y) (c := -y) n (by grind) (fun i => wct y i)]
      rw [cv_shift_left (f' := ct x) (c := x) n (by grind) (fun i => wst x i)]
      rw [cv_shift_right (g' := ct y) (c := y) n (by grind) (fun i => wst y i)]
      rw [← h2]; grind
    · apply cancel (n := n)
      rw [wst, Rat.mul_add, ← cv_weigh, ← cv_weigh]
      rw [cv_shift_left (f' := ct x) (c := x) n (by grind) (fun i => wst x i)]
      rw [cv_shift_right (g' := st y) (c := -y) n (by grind) (fun i => wct y i)]
      rw [cv_shift_left (f' := st x) (c := -x) n (by grind) (fun i => wct x i)]
      rw [cv_shift_right (g' := ct y) (c := y) n (by grind) (fun i => wst y i)]
      rw [← h1]; grind


theorem div_nn {a b : Rat} (h : 0 ≤ a) (k : 0 < b) : 0 ≤ a / b := by
  rw [Rat.div_def]
  exact mul_nn h (Rat.le_of_lt (Rat.inv_pos.mpr k))

theorem ex_nonneg {x : Rat} (h : 0 ≤ x) (n : Nat) : 0 ≤ ex x n := by
  induction n with
  | zero => simp only [ex]; grind
  | succ n ih =>
    have h1 := wex x n
    have h2 := mul_nn h ih
    have h3 := npos n
    rw [← h1] at h2
    have h4 : ex x (n+1) = ((n+1 : Nat) : Rat) * ex x (n+1) / ((n+1 : Nat) : Rat) := by
      have := nz n
      grind
    rw [h4]
    exact div_nn h2 h3

theorem div_le {a b c : Rat} (h : a ≤ b) (hc : 0 < c) : a / c ≤ b / c := by
  have h1 := div_nn (show 0 ≤ b - a by grind) hc
  have : (b - a) / c = b / c - a / c := by grind
  grind

theorem ex_step {x : Rat} (n : Nat) : ex x (n+1) = x * ex x n / ((n+1 : Nat) : Rat) := by rw [ex]

theorem ex_mono {x y : Rat} (h : 0 ≤ x) (k : x ≤ y) (n : Nat) : ex x n ≤ ex y n := by
  induction n with
  | zero => simp only [ex]; grind
  | succ n ih =>
    rw [ex_step, ex_step]
    refine div_le ?_ (npos n)
    have h1 := mul_nn h (show 0 ≤ ex y n - ex x n by grind)
    have h2 := mul_nn (show 0 ≤ y - x by grind) (ex_nonneg (x := y) (by grind) n)
    grind

theorem Ab.div {x a c : Rat} (h : Ab x a) (hc : 0 < c) : Ab (x / c) (a / c) := by
  unfold Ab at *
  have h1 := div_le h.1 hc
  have h2 := div_le h.2 hc
  grind

theorem cs_ab {x X : Rat} (h : Ab x X) (n : Nat) : Ab (ct x n) (ex X n) ∧ Ab (st x n) (ex X n) := by
  induction n with
  | zero => constructor <;> (simp only [ct, st, cs, ex, Ab]; grind)
  | succ n ih =>
    have e1 : ct x (n+1) = -(x * st x n) / ((n+1 : Nat) : Rat) := by simp only [ct, st, cs]
    have e2 : st x (n+1) = (x * ct x n) / ((n+1 : Nat) : Rat) := by simp only [ct, st, cs]
    rw [e1, e2, ex_step]
    exact ⟨((h.mul ih.2).neg).div (npos n), (h.mul ih.1).div (npos n)⟩

theorem ex_add_le {x : Rat} (h : 0 ≤ x) (j m : Nat) : ex x (j + m) ≤ ex x j * ex x m := by
  induction m with
  | zero => simp only [ex, Nat.add_zero]; grind
  | succ m ih =>
    rw [← Nat.add_assoc, ex_step, ex_step]
    have h1 : ex x j * (x * ex x m / ((m+1 : Nat) : Rat)) = (x * (ex x j * ex x m)) / ((m+1 : Nat) : Rat) := by grind
    rw [h1]
    have h2 := mul_nn h (show 0 ≤ ex x j * ex x m - ex x (j+m) by grind)
    have h3 := div_le (show x * ex x (j+m) ≤ x * (ex x j * ex x m) by grind) (npos m)
    have h4 : x * ex x (j+m) / ((j+m+1 : Nat) : Rat) ≤ x * ex x (j+m) / ((m+1 : Nat) : Rat) := by
      have p := mul_nn h (ex_nonneg h (j+m))
      generalize x * ex x (j+m) = t at *
      have a1 := npos m
      have a2 := npos (j+m)
      have a3 : ((m+1 : Nat) : Rat) ≤ ((j+m+1 : Nat) : Rat) := by
        have : m + 1 ≤ j + m + 1 := by omega
        exact_mod_cast this
      generalize ((m+1 : Nat) : Rat) = a at *
      generalize ((j+m+1 : Nat) : Rat) = b at *
      have : t / a - t / b = t * (b - a) / (a * b) := by grind
      have := div_nn (mul_nn p (show 0 ≤ b - a by grind)) (Rat.mul_pos a1 a2)
      grind
    grind

theorem ps_tail {x : Rat} (h : 0 ≤ x) (j k : Nat) : ps (ex x) (j + k + 1) - ps (ex x) j ≤ ex x (j+1) * ps (ex x) k := by
  induction k with
  | zero => simp only [ps, ex]; grind
  | succ k ih =>
    have h1 := ex_add_le h (j+1) (k+1)
    have e : j + 1 + (k + 1) = j + (k + 1) + 1 := by omega
    rw [e] at h1
    have e2 : ps (ex x) (j + (k+1) + 1) = ps (ex x) (j + k + 1) + ex x (j + (k+1) + 1) := rfl
    have e3 : ps (ex x) (k+1) = ps (ex x) k + ex x (k+1) := rfl
    rw [e2, e3]
    generalize ex x (j + (k+1) + 1) = a1 at *
    generalize ps (ex x) (j + k + 1) = a2 at *
    generalize ps (ex x) j = a3 at *
    generalize ps (ex x) k = a4 at *
    generalize ex x (k + 1) = a5 at *
    generalize ex x (j + 1) = a6 at *
    grind

theorem ps_nonneg {f : Nat → Rat} (n : Nat) (h : ∀ i, 0 ≤ f i) : 0 ≤ ps f n := by
  induction n with
  | zero => exact h 0
  | succ n ih => have := h (n+1); rw [ps]; grind

theorem ps_le {f : Nat → Rat} (h : ∀ i, 0 ≤ f i) (m n : Nat) (k : m ≤ n) : ps f m ≤ ps f n := by
  induction n with
  | zero => have : m = 0 := by omega
            subst this; exact Rat.le_refl
  | succ n ih =>
    rcases Nat.lt_or_ge n m with h1 | h1
    · have : m = n + 1 := by omega
      subst this; exact Rat.le_refl
    · have := ih h1
      have := h (n+1)
      rw [ps]; grind

theorem ps_mono {f g : Nat → Rat} (n : Nat) (h : ∀ i, f i ≤ g i) : ps f n ≤ ps g n := by
  induction n with
  | zero => exact h 0
  | succ n ih => have := h (n+1); rw [ps, ps]; grind

theorem ps_tail' {x : Rat} (h : 0 ≤ x) (n j : Nat) (hj : j ≤ n) : ps (ex x) n - ps (ex x) j ≤ ps (ex x) n * ex x (j+1) := by
  rcases Nat.lt_or_ge j n with h1 | h1
  · obtain ⟨k, rfl⟩ : ∃ k, n = j + k + 1 := ⟨n - j - 1, by omega⟩
    have h2 := ps_tail h j k
    have h3 := ps_le (ex_nonneg h) k (j+k+1) (by omega)
    have h4 := mul_nn (ex_nonneg h (j+1)) (show 0 ≤ ps (ex x) (j+k+1) - ps (ex x) k by grind)
    grind
  · have : j = n := by omega
    subst this
    have := mul_nn (ps_nonneg j (ex_nonneg h)) (ex_nonneg h (j+1))
    grind

theorem cv_mono_right {f g g' : Nat → Rat} (n : Nat) (hf : ∀ i, 0 ≤ f i) (h : ∀ i, i ≤ n → g i ≤ g' i) : cv f g n ≤ cv f g' n := by
  induction n generalizing f with
  | zero => have := mul_nn (hf 0) (show 0 ≤ g' 0 - g 0 by have := h 0 (by omega); grind); simp only [cv]; grind
  | succ n ih =>
    have h1 := ih (f := fun i => f (i+1)) (fun i => hf (i+1)) (fun i hi => h i (by omega))
    have h2 := mul_nn (hf 0) (show 0 ≤ g' (n+1) - g (n+1) by have := h (n+1) (by omega); grind)
    simp only [cv]; grind

theorem excess_ex {x y : Rat} (hx : 0 ≤ x) (hy : 0 ≤ y) (n : Nat) : cv (ex x) (fun j => ps (ex y) n - ps (ex y) j) n ≤ ps (ex y) n * ex (x+y) (n+1) := by
  have h1 := cv_mono_right (f := ex x) n (ex_nonneg hx) (fun j hj => ps_tail' hy n j hj)
  rw [cv_smul_right] at h1
  have h2 := cv_succ' (ex x) (ex y) n
  rw [cv_ex] at h2
  have h3 := mul_nn (ex_nonneg hx (n+1)) (ex_nonneg hy 0)
  have h4 := mul_nn (ps_nonneg n (ex_nonneg hy)) h3
  have h5 : ps (ex y) n * ex (x+y) (n+1) = ps (ex y) n * cv (ex x) (fun i => ex y (i+1)) n + ps (ex y) n * (ex x (n+1) * ex y 0) := by rw [h2]; grind
  grind

theorem excess_ab {f g : Nat → Rat} {x y X Y K T : Rat} (n : Nat) (hf : ∀ i, Ab (f i) (ex x i)) (hg : ∀ i, Ab (g i) (ex y i)) (hx : 0 ≤ x) (hy : 0 ≤ y) (kx : x ≤ X) (ky : y ≤ Y)
    (hK : ps (ex Y) n ≤ K) (hT : ex (X+Y) (n+1) ≤ T) : Ab (ps f n * ps g n - ps (cv f g) n) (K * T) := by
  rw [excess_eq]
  refine (cv_ab n (fun i _ => hf i) (fun i hi => ps_diff_ab n i hi fun i _ => hg i)).mono ?_
  have h1 := excess_ex hx hy n
  have h2 : ps (ex y) n ≤ K := Rat.le_trans (ps_mono n fun i => ex_mono hy ky i) hK
  have h3 : ex (x+y) (n+1) ≤ T := Rat.le_trans (ex_mono (by grind) (by grind) (n+1)) hT
  have h4 := ps_nonneg n (ex_nonneg hy)
  have h5 := ex_nonneg (x := x + y) (by grind) (n+1)
  have h6 := mul_nn h4 (show 0 ≤ T - ex (x+y) (n+1) by grind)
  have h7 := mul_nn (show 0 ≤ K - ps (ex y) n by grind) (show 0 ≤ T by grind)
  grind

/-- cosine and sine: polynomials of degree 128 -/
noncomputable def Cn (x : Rat) : Rat := ps (ct x) 128
noncomputable def Sn (x : Rat) : Rat := ps (st x) 128

theorem K7 : ps (ex 7) 128 ≤ 1100 := by decide +kernel
theorem T14 : ex (7+7) (128+1) ≤ 1/10^69 := by decide +kernel

theorem ps_add (f g : Nat → Rat) (n : Nat) : ps (fun i => f i + g i) n = ps f n + ps g n := by
  induction n with
  | zero => simp only [ps]
  | succ n ih => simp only [ps]; rw [ih]; grind
theorem ps_sub (f g : Nat → Rat) (n : Nat) : ps (fun i => f i - g i) n = ps f n - ps g n := by
  induction n with
  | zero => simp only [ps]
  | succ n ih => simp only [ps]; rw [ih]; grind

theorem abs_of (x : Rat) : ∃ X, 0 ≤ X ∧ Ab x X ∧ (∀ e, Ab x e → X ≤ e) := by
  by_cases h : 0 ≤ x
  · exact ⟨x, h, by unfold Ab; grind, fun e he => he.2⟩
  · exact ⟨-x, by grind, by unfold Ab; grind, fun e he => by unfold Ab at he; grind⟩

theorem add_SC {x y : Rat} (hx : Ab x 7) (hy : Ab y 7) :
    Ab (Cn (x+y) - (Cn x * Cn y - Sn x * Sn y)) (1/10^65) ∧ Ab (Sn (x+y) - (Sn x * Cn y + Cn x * Sn y)) (1/10^65) := by
  obtain ⟨X, X0, aX, lX⟩ := abs_of x
  obtain ⟨Y, Y0, aY, lY⟩ := abs_of y
  have kx := lX 7 hx
  have ky := lY 7 hy
  have E := fun (f g : Nat → Rat) (hf : ∀ i, Ab (f i) (ex X i)) (hg : ∀ i, Ab (g i) (ex Y i)) => excess_ab 128 hf hg X0 Y0 kx ky K7 T14
  have cc := E (ct x) (ct y) (fun i => (cs_ab aX i).1) (fun i => (cs_ab aY i).1)
  have ss := E (st x) (st y) (fun i => (cs_ab aX i).2) (fun i => (cs_ab aY i).2)
  have sc := E (st x) (ct y) (fun i => (cs_ab aX i).2) (fun i => (cs_ab aY i).1)
  have cS := E (ct x) (st y) (fun i => (cs_ab aX i).1) (fun i => (cs_ab aY i).2)
  have e1 : Cn (x+y) = ps (cv (ct x) (ct y)) 128 - ps (cv (st x) (st y)) 128 := by
    unfold Cn
    rw [← ps_sub]
    exact ps_congr _ fun i _ => ((cv_cs x y i).1).symm
  have e2 : Sn (x+y) = ps (cv (st x) (ct y)) 128 + ps (cv (ct x) (st y)) 128 := by
    unfold Sn
    rw [← ps_add]
    exact ps_congr _ fun i _ => ((cv_cs x y i).2).symm
  have num : (1100:Rat) * (1/10^69) + 1100 * (1/10^69) ≤ 1/10^65 := by decide +kernel
  rw [e1, e2]
  unfold Cn Sn
  constructor
  · have := (ss.sub cc).mono num
    unfold Ab at *
    grind
  · have := (sc.add cS).mono num
    unfold Ab at *
    grind

theorem cs_neg (x : Rat) (n : Nat) : ct (-x) n = ct x n ∧ st (-x) n = -st x n := by
  induction n with
  | zero => simp only [ct, st, cs]; grind
  | succ n ih =>
    have e1 : ∀ x, ct x (n+1) = -(x * st x n) / ((n+1 : Nat) : Rat) := fun x => by simp only [ct, st, cs]
    have e2 : ∀ x, st x (n+1) = (x * ct x n) / ((n+1 : Nat) : Rat) := fun x => by simp only [ct, st, cs]
    rw [e1, e2, e1, e2, ih.1, ih.2]
    grind

theorem ps_neg (f : Nat → Rat) (n : Nat) : ps (fun i => -f i) n = -ps f n := by
  induction n with
  | zero => simp only [ps]
  | succ n ih => simp only [ps]; rw [ih]; grind

theorem Cn_neg (x : Rat) : Cn (-x) = Cn x := ps_congr _ fun i _ => (cs_neg x i).1
theorem Sn_neg (x : Rat) : Sn (-x) = -Sn x := by
  unfold Sn
  rw [← ps_neg]
  exact ps_congr _ fun i _ => (cs_neg x i).2

end Mine
end
section
namespace Mine

noncomputable def pdiv (a b : Int) : Int := if a < 0 then -((2 * (-a) + b) / (2 * b)) else (2 * a + b) / (2 * b)
noncomputable def fprod (a b : Int) : Int := pdiv (a * b) 1000000000000000000000000000000000000
/-- the powers of the odd series -/
noncomputable def powAt (part sq : Int) : Nat → Int
  | 0 => part
  | j+1 => -(fprod (powAt part sq j) sq)
noncomputable def fndAt (part sq : Int) : Nat → Int
  | 0 => 0
  | j+1 => fndAt part sq j + pdiv (powAt part sq j) (2 * (j:Int) + 1)
/-- the parts of sine's series -/
noncomputable def sinpart (x sq : Int) : Nat → Int
  | 0 => x
  | j+1 => -(pdiv (fprod (sinpart x sq j) sq) ((2 * (j:Int) + 1 + 1) * (2 * (j:Int) + 1 + 2)))
noncomputable def sinfnd (x sq : Int) : Nat → Int
  | 0 => 0
  | j+1 => sinfnd x sq j + sinpart x sq j
noncomputable abbrev sinx (a : Int) : Int := pdiv (a * 3141592653589793238462643383279502884) 180000000
noncomputable def sinR (a r : Int) : Prop := ∃ j : Nat, j ≤ 130 ∧ r = sinfnd (sinx a) (fprod (sinx a) (sinx a)) j ∧ sinpart (sinx a) (fprod (sinx a) (sinx a)) j = 0
/-- the parts of cosine's series -/
noncomputable def cospart (x sq : Int) : Nat → Int
  | 0 => 1000000000000000000000000000000000000
  | j+1 => -(pdiv (fprod (cospart x sq j) sq) ((2 * (j:Int) + 0 + 1) * (2 * (j:Int) + 0 + 2)))
noncomputable def cosfnd (x sq : Int) : Nat → Int
  | 0 => 0
  | j+1 => cosfnd x sq j + cospart x sq j
noncomputable abbrev cosx (a : Int) : Int := pdiv (a * 3141592653589793238462643383279502884) 180000000
noncomputable def cosR (a r : Int) : Prop := ∃ j : Nat, j ≤ 130 ∧ r = cosfnd (cosx a) (fprod (cosx a) (cosx a)) j ∧ cospart (cosx a) (fprod (cosx a) (cosx a)) j = 0
noncomputable abbrev lx (a : Int) : Int := (a.fmod 360000000 * 31415926535897932384626433832795028841971).fdiv 180000000
noncomputable def lpart (x sq : Int) : Nat → Int
  | 0 => x
  | j+1 => ((lpart x sq j * sq).fdiv 10000000000000000000000000000000000000000).fdiv ((2 * (j:Int) + 1 + 1) * (2 * (j:Int) + 1 + 2))
noncomputable def ltot (x sq : Int) : Nat → Int
  | 0 => 0
  | j+1 => if (2 * (j:Int) + 1).fmod 4 = 1 then ltot x sq j + lpart x sq j else ltot x sq j - lpart x sq j
noncomputable abbrev lsq (a : Int) : Int := (lx a * lx a).fdiv 10000000000000000000000000000000000000000
noncomputable def lawR (a r : Int) : Prop := ∃ j : Nat, j ≤ 130 ∧ r = ltot (lx a) (lsq a) j ∧ lpart (lx a) (lsq a) j = 0
noncomputable def wrR (n r : Int) : Prop := 0 ≤ r ∧ r * r ≤ n ∧ n < (r + 1) * (r + 1)
noncomputable def sineR (a r : Int) : Prop := ∃ l f g : Int, ((90000000 < (a.fmod 360000000).fmod 180000000 ∧ l = 180000000 - (a.fmod 360000000).fmod 180000000) ∨ (¬ 90000000 < (a.fmod 360000000).fmod 180000000 ∧ l = (a.fmod 360000000).fmod 180000000)) ∧
  ((90000000 < 2 * l ∧ cosR (90000000 - l) f) ∨ (¬ 90000000 < 2 * l ∧ sinR l f)) ∧ ((180000000 ≤ a.fmod 360000000 ∧ r = -g) ∨ (¬ 180000000 ≤ a.fmod 360000000 ∧ r = g)) ∧ g = pdiv (f * 1000000) 1000000000000000000000000000000000000
noncomputable def oddR (part r : Int) : Prop := ∃ j : Nat, j ≤ 120 ∧ r = fndAt part (fprod part part) j ∧ powAt part (fprod part part) j = 0
noncomputable def arcR (n u r : Int) : Prop := ∃ w0 w1 o : Int, wrR (1000000000000000000000000000000000000 * 1000000000000000000000000000000000000 + pdiv (n * 1000000000000000000000000000000000000) u * pdiv (n * 1000000000000000000000000000000000000) u) w0 ∧
  wrR (1000000000000000000000000000000000000 * 1000000000000000000000000000000000000 + pdiv (pdiv (n * 1000000000000000000000000000000000000) u * 1000000000000000000000000000000000000) (1000000000000000000000000000000000000 + w0) * pdiv (pdiv (n * 1000000000000000000000000000000000000) u * 1000000000000000000000000000000000000) (1000000000000000000000000000000000000 + w0)) w1 ∧
  oddR (pdiv (pdiv (pdiv (n * 1000000000000000000000000000000000000) u * 1000000000000000000000000000000000000) (1000000000000000000000000000000000000 + w0) * 1000000000000000000000000000000000000) (1000000000000000000000000000000000000 + w1)) o ∧ r = 4 * o
noncomputable def arctR (n u r : Int) : Prop := ∃ t v o g g2 : Int, ((0 ≤ n ∧ t = n) ∨ (n < 0 ∧ t = -n)) ∧ ((0 ≤ u ∧ v = u) ∨ (u < 0 ∧ v = -u)) ∧
  ((t ≤ v ∧ arcR t v o ∧ g = pdiv (o * 180000000) 3141592653589793238462643383279502884) ∨ (v < t ∧ arcR v t o ∧ g = 90000000 - pdiv (o * 180000000) 3141592653589793238462643383279502884)) ∧
  ((0 ≤ u ∧ g2 = g) ∨ (u < 0 ∧ g2 = 180000000 - g)) ∧ ((0 ≤ n ∧ r = g2) ∨ (n < 0 ∧ r = (360000000 - g2).fmod 360000000))
noncomputable def near20 (x : Int) : Prop := -100000000000000000000 ≤ x ∧ x ≤ 100000000000000000000
noncomputable def rootR (v r : Int) : Prop := 0 ≤ r ∧ 4 * v * 1000000 ≤ (2 * r + 1) * (2 * r + 1) ∧ (0 < r → (2 * r - 1) * (2 * r - 1) ≤ 4 * v * 1000000)
end Mine
end
section
namespace Mine
/-- an int between -B and B -/
noncomputable def Ib (x B : Int) : Prop := -B ≤ x ∧ x ≤ B

theorem pdiv_nonneg' {a b : Int} (ha : 0 ≤ a) (hb : 0 < b) : 0 ≤ pdiv a b := by
  unfold pdiv
  rw [if_neg (by omega)]
  exact Int.ediv_nonneg (by omega) (by omega)
theorem pdiv_mono {a a' b : Int} (ha : 0 ≤ a) (h : a ≤ a') (hb : 0 < b) : pdiv a b ≤ pdiv a' b := by
  unfold pdiv
  rw [if_neg (by omega), if_neg (by omega)]
  exact Int.ediv_le_ediv (by omega) (by omega)
theorem pdiv_zero {b : Int} (hb : 0 < b) : pdiv 0 b = 0 := by
  unfold pdiv
  rw [if_neg (by omega)]
  exact Int.ediv_eq_zero_of_lt (by omega) (by omega)
theorem pdiv_neg' {a b : Int} (hb : 0 < b) : pdiv (-a) b = -pdiv a b := by
  rcases Int.lt_trichotomy a 0 with h | h | h
  · unfold pdiv
    rw [if_neg (by omega), if_pos h, Int.neg_neg]
  · subst h
    rw [Int.neg_zero, pdiv_zero hb]; rfl
  · unfold pdiv
    rw [if_pos (by omega), if_neg (by omega), Int.neg_neg]
theorem pdiv_ib {a A b : Int} (h : Ib a A) (hb : 0 < b) : Ib (pdiv a b) (pdiv A b) := by
  unfold Ib at *
  rcases Int.le_total 0 a with h0 | h0
  · have h1 := pdiv_mono h0 h.2 hb
    have h2 := pdiv_nonneg' h0 hb
    omega
  · have h1 := pdiv_mono (a := -a) (a' := A) (by omega) (by omega) hb
    have h2 := pdiv_nonneg' (a := -a) (by omega) hb
    rw [pdiv_neg' hb] at h1 h2
    omega
theorem pdiv_near {a b : Int} (hb : 0 < b) : 2 * a - b ≤ 2 * (b * pdiv a b) ∧ 2 * (b * pdiv a b) ≤ 2 * a + b := by
  have key : ∀ a, 0 ≤ a → 2 * a - b ≤ 2 * (b * pdiv a b) ∧ 2 * (b * pdiv a b) ≤ 2 * a + b := fun a ha => by
    unfold pdiv
    rw [if_neg (by omega)]
    have h1 := Int.mul_ediv_add_emod (2 * a + b) (2 * b)
    have h2 := Int.emod_nonneg (2 * a + b) (show 2 * b ≠ 0 by omega)
    have h3 := Int.emod_lt_of_pos (2 * a + b) (show 0 < 2 * b by omega)
    have h4 : 2 * b * ((2 * a + b) / (2 * b)) = 2 * (b * ((2 * a + b) / (2 * b))) := by rw [Int.mul_assoc]
    omega
  rcases Int.le_total 0 a with h0 | h0
  · exact key a h0
  · have := key (-a) (by omega)
    rw [pdiv_neg' hb, Int.mul_neg b] at this
    omega
theorem ib_mul {x y X Y : Int} (h : Ib x X) (k : Ib y Y) : Ib (x * y) (X * Y) := by
  have hX : 0 ≤ X := by unfold Ib at h; omega
  have hY : 0 ≤ Y := by unfold Ib at k; omega
  have hx : x.natAbs ≤ X.natAbs := by unfold Ib at h; omega
  have hy : y.natAbs ≤ Y.natAbs := by unfold Ib at k; omega
  have := Nat.mul_le_mul hx hy
  rw [← Int.natAbs_mul, ← Int.natAbs_mul] at this
  have h2 := Int.mul_nonneg hX hY
  unfold Ib
  omega
theorem fprod_ib {x y X Y : Int} (h : Ib x X) (k : Ib y Y) : Ib (fprod x y) (fprod X Y) := pdiv_ib (ib_mul h k) (by decide)
theorem ib_neg {x X : Int} (h : Ib x X) : Ib (-x) X := by unfold Ib at *; omega
theorem ib_zero {x : Int} (h : Ib x 0) : x = 0 := by unfold Ib at *; omega
theorem ib_mono {x X Y : Int} (h : Ib x X) (k : X ≤ Y) : Ib x Y := by unfold Ib at *; omega
theorem fprod_zero (y : Int) : fprod 0 y = 0 := by unfold fprod; rw [Int.zero_mul]; exact pdiv_zero (by decide)

noncomputable def bpow (P S : Int) : Nat → Int
  | 0 => P
  | j+1 => fprod (bpow P S j) S
theorem powAt_ib {p s P S : Int} (h : Ib p P) (k : Ib s S) (j : Nat) : Ib (powAt p s j) (bpow P S j) := by
  induction j with
  | zero => exact h
  | succ j ih => exact ib_neg (fprod_ib ih k)
theorem powAt_zero {p s : Int} {j : Nat} (h : powAt p s j = 0) (i : Nat) : powAt p s (j + i) = 0 := by
  induction i with
  | zero => exact h
  | succ i ih =>
    show -(fprod (powAt p s (j + i)) s) = 0
    rw [ih, fprod_zero]; rfl
theorem bpow_ok : (∀ j, j < 120 → bpow 500000000000000000000000000000000000 260000000000000000000000000000000000 j ≤ 1000000000000000000000000000000000000) ∧ bpow 500000000000000000000000000000000000 260000000000000000000000000000000000 120 = 0 := by decide +kernel
theorem sq_small (part : Int) (h0 : 0 ≤ part) (h1 : part ≤ 500000000000000000000000000000000000) : 0 ≤ fprod part part ∧ fprod part part ≤ 260000000000000000000000000000000000 := by
  have h2 : 0 ≤ part * part := Int.mul_nonneg h0 h0
  have h3 := Int.mul_le_mul h1 h1 h0 (by decide)
  refine ⟨pdiv_nonneg' h2 (by decide), Int.le_trans (pdiv_mono h2 h3 (by decide)) (by decide +kernel)⟩
theorem pow_small (part : Int) (h0 : 0 ≤ part) (h1 : part ≤ 500000000000000000000000000000000000) (j : Nat) : -1000000000000000000000000000000000000 ≤ powAt part (fprod part part) j ∧ powAt part (fprod part part) j ≤ 1000000000000000000000000000000000000 ∧ (120 ≤ j → powAt part (fprod part part) j = 0) := by
  have hs := sq_small part h0 h1
  have b := powAt_ib (p := part) (s := fprod part part) (P := 500000000000000000000000000000000000) (S := 260000000000000000000000000000000000) ⟨by omega, h1⟩ ⟨by omega, hs.2⟩
  have z : ∀ j, 120 ≤ j → powAt part (fprod part part) j = 0 := fun j hj => by
    have h2 := powAt_zero (ib_zero (by have := b 120; rw [bpow_ok.2] at this; exact this)) (j - 120)
    rw [show 120 + (j - 120) = j by omega] at h2
    exact h2
  rcases Nat.lt_or_ge j 120 with h | h
  · have := ib_mono (b j) (bpow_ok.1 j h)
    unfold Ib at this
    exact ⟨this.1, this.2, fun h2 => by omega⟩
  · have := z j h
    exact ⟨by omega, by omega, z j⟩

-- sine and cosine near nought
noncomputable def btrig (P S c : Int) : Nat → Int
  | 0 => P
  | j+1 => pdiv (fprod (btrig P S c j) S) ((2 * (j:Int) + c + 1) * (2 * (j:Int) + c + 2))
theorem m_pos {c : Int} (hc : 0 ≤ c) (j : Nat) : 0 < (2 * (j:Int) + c + 1) * (2 * (j:Int) + c + 2) := Int.mul_pos (by omega) (by omega)
theorem sinpart_ib {p s P S : Int} (h : Ib p P) (k : Ib s S) (j : Nat) : Ib (sinpart p s j) (btrig P S 1 j) := by
  induction j with
  | zero => exact h
  | succ j ih => exact ib_neg (pdiv_ib (fprod_ib ih k) (m_pos (by decide) j))
theorem cospart_ib {p s S : Int} (k : Ib s S) (j : Nat) : Ib (cospart p s j) (btrig 1000000000000000000000000000000000000 S 0 j) := by
  induction j with
  | zero => show Ib 1000000000000000000000000000000000000 1000000000000000000000000000000000000; unfold Ib; decide
  | succ j ih => exact ib_neg (pdiv_ib (fprod_ib ih k) (m_pos (by decide) j))
theorem sinpart_zero {p s : Int} {j : Nat} (h : sinpart p s j = 0) (i : Nat) : sinpart p s (j + i) = 0 := by
  induction i with
  | zero => exact h
  | succ i ih =>
    show -(pdiv (fprod (sinpart p s (j + i)) s) _) = 0
    rw [ih, fprod_zero, pdiv_zero (m_pos (by decide) _)]; rfl
theorem cospart_zero {p s : Int} {j : Nat} (h : cospart p s j = 0) (i : Nat) : cospart p s (j + i) = 0 := by
  induction i with
  | zero => exact h
  | succ i ih =>
    show -(pdiv (fprod (cospart p s (j + i)) s) _) = 0
    rw [ih, fprod_zero, pdiv_zero (m_pos (by decide) _)]; rfl
theorem btrig_ok : ((∀ j, j < 64 → btrig 790000000000000000000000000000000000 630000000000000000000000000000000000 1 j ≤ 1000000000000000000000000000000000000) ∧ btrig 790000000000000000000000000000000000 630000000000000000000000000000000000 1 64 = 0) ∧
  ((∀ j, j < 65 → btrig 1000000000000000000000000000000000000 630000000000000000000000000000000000 0 j ≤ 1000000000000000000000000000000000000) ∧ btrig 1000000000000000000000000000000000000 630000000000000000000000000000000000 0 65 = 0) := by decide +kernel
theorem sinx_in (a : Int) (h0 : 0 ≤ a) (h1 : a ≤ 45000000) : 0 ≤ sinx a ∧ sinx a ≤ 790000000000000000000000000000000000 ∧ 0 ≤ fprod (sinx a) (sinx a) ∧ fprod (sinx a) (sinx a) ≤ 630000000000000000000000000000000000 := by
  have k0 := pdiv_nonneg' (a := a * 3141592653589793238462643383279502884) (b := 180000000) (by omega) (by decide)
  have k1 := pdiv_mono (a := a * 3141592653589793238462643383279502884) (a' := 45000000 * 3141592653589793238462643383279502884) (b := 180000000) (by omega) (by omega) (by decide)
  have k2 : pdiv (45000000 * 3141592653589793238462643383279502884) 180000000 ≤ 790000000000000000000000000000000000 := by decide +kernel
  have k3 := Int.le_trans k1 k2
  have h2 : 0 ≤ sinx a * sinx a := Int.mul_nonneg k0 k0
  have h3 := Int.mul_le_mul k3 k3 k0 (by decide)
  exact ⟨k0, k3, pdiv_nonneg' h2 (by decide), Int.le_trans (pdiv_mono h2 h3 (by decide)) (by decide +kernel)⟩
theorem sinx_small (a : Int) (h0 : 0 ≤ a) (h1 : a ≤ 45000000) : 0 ≤ sinx a ∧ sinx a ≤ 1000000000000000000000000000000000000 ∧ 0 ≤ fprod (sinx a) (sinx a) ∧ fprod (sinx a) (sinx a) ≤ 1000000000000000000000000000000000000 := by
  have := sinx_in a h0 h1
  omega
theorem cosx_small (a : Int) (h0 : 0 ≤ a) (h1 : a ≤ 45000000) : 0 ≤ cosx a ∧ cosx a ≤ 1000000000000000000000000000000000000 ∧ 0 ≤ fprod (cosx a) (cosx a) ∧ fprod (cosx a) (cosx a) ≤ 1000000000000000000000000000000000000 := sinx_small a h0 h1
theorem sinpart_64 (a : Int) (h0 : 0 ≤ a) (h1 : a ≤ 45000000) (j : Nat) (hj : 64 ≤ j) : sinpart (sinx a) (fprod (sinx a) (sinx a)) j = 0 := by
  have hs := sinx_in a h0 h1
  have b := sinpart_ib (p := sinx a) (s := fprod (sinx a) (sinx a)) (P := 790000000000000000000000000000000000) (S := 630000000000000000000000000000000000) ⟨by omega, hs.2.1⟩ ⟨by omega, hs.2.2.2⟩ 64
  rw [btrig_ok.1.2] at b
  have h2 := sinpart_zero (ib_zero b) (j - 64)
  rw [show 64 + (j - 64) = j by omega] at h2
  exact h2
theorem cospart_65 (a : Int) (h0 : 0 ≤ a) (h1 : a ≤ 45000000) (j : Nat) (hj : 65 ≤ j) : cospart (cosx a) (fprod (cosx a) (cosx a)) j = 0 := by
  have hs := sinx_in a h0 h1
  have b := cospart_ib (p := cosx a) (s := fprod (cosx a) (cosx a)) (S := 630000000000000000000000000000000000) ⟨Int.le_trans (by decide) hs.2.2.1, hs.2.2.2⟩ 65
  rw [btrig_ok.2.2] at b
  have h2 := cospart_zero (ib_zero b) (j - 65)
  rw [show 65 + (j - 65) = j by omega] at h2
  exact h2
theorem sinpart_small (a : Int) (h0 : 0 ≤ a) (h1 : a ≤ 45000000) (j : Nat) : -1000000000000000000000000000000000000 ≤ sinpart (sinx a) (fprod (sinx a) (sinx a)) j ∧ sinpart (sinx a) (fprod (sinx a) (sinx a)) j ≤ 1000000000000000000000000000000000000 ∧ (130 ≤ j → sinpart (sinx a) (fprod (sinx a) (sinx a)) j = 0) := by
  have hs := sinx_in a h0 h1
  have b := sinpart_ib (p := sinx a) (s := fprod (sinx a) (sinx a)) (P := 790000000000000000000000000000000000) (S := 630000000000000000000000000000000000) ⟨by omega, hs.2.1⟩ ⟨by omega, hs.2.2.2⟩ j
  rcases Nat.lt_or_ge j 64 with h | h
  · have := ib_mono b (btrig_ok.1.1 j h)
    unfold Ib at this
    exact ⟨this.1, this.2, fun h2 => by omega⟩
  · have := sinpart_64 a h0 h1 j h
    exact ⟨by omega, by omega, fun _ => this⟩
theorem cospart_small (a : Int) (h0 : 0 ≤ a) (h1 : a ≤ 45000000) (j : Nat) : -1000000000000000000000000000000000000 ≤ cospart (cosx a) (fprod (cosx a) (cosx a)) j ∧ cospart (cosx a) (fprod (cosx a) (cosx a)) j ≤ 1000000000000000000000000000000000000 ∧ (130 ≤ j → cospart (cosx a) (fprod (cosx a) (cosx a)) j = 0) := by
  have hs := sinx_in a h0 h1
  have b := cospart_ib (p := cosx a) (s := fprod (cosx a) (cosx a)) (S := 630000000000000000000000000000000000) ⟨Int.le_trans (by decide) hs.2.2.1, hs.2.2.2⟩ j
  rcases Nat.lt_or_ge j 65 with h | h
  · have := ib_mono b (btrig_ok.2.1 j h)
    unfold Ib at this
    exact ⟨this.1, this.2, fun h2 => by omega⟩
  · have := cospart_65 a h0 h1 j h
    exact ⟨by omega, by omega, fun _ => this⟩

-- the law's sine
theorem lx_in (a : Int) : 0 ≤ a.fmod 360000000 ∧ a.fmod 360000000 < 360000000 ∧ 0 ≤ lx a ∧ lx a ≤ 63000000000000000000000000000000000000000 ∧ 0 ≤ lsq a ∧ lsq a ≤ 400000000000000000000000000000000000000000 := by
  have e1 : a.fmod 360000000 = a % 360000000 := Int.fmod_eq_emod_of_nonneg _ (by decide)
  have h1 := Int.emod_nonneg a (show (360000000:Int) ≠ 0 by decide)
  have h2 := Int.emod_lt_of_pos a (show (0:Int) < 360000000 by decide)
  have e2 : lx a = (a % 360000000 * 31415926535897932384626433832795028841971) / 180000000 := by
    unfold lx; rw [e1, Int.fdiv_eq_ediv_of_nonneg _ (by decide)]
  have e3 : lsq a = (lx a * lx a) / 10000000000000000000000000000000000000000 := by
    unfold lsq; rw [Int.fdiv_eq_ediv_of_nonneg _ (by decide)]
  have k0 : 0 ≤ lx a := by rw [e2]; exact Int.ediv_nonneg (by omega) (by decide)
  have k1 : lx a ≤ 63000000000000000000000000000000000000000 := by rw [e2]; omega
  have h4 : 0 ≤ lx a * lx a := Int.mul_nonneg k0 k0
  have h5 := Int.mul_le_mul k1 k1 k0 (by decide)
  refine ⟨by omega, by omega, k0, k1, by rw [e3]; exact Int.ediv_nonneg h4 (by decide), by rw [e3]; omega⟩
noncomputable def blaw : Nat → Int
  | 0 => 63000000000000000000000000000000000000000
  | j+1 => (blaw j * 40) / ((2 * (j:Int) + 1 + 1) * (2 * (j:Int) + 1 + 2))
theorem lpart_bd {x s : Int} (h0 : 0 ≤ x) (h1 : x ≤ 63000000000000000000000000000000000000000) (h2 : 0 ≤ s) (h3 : s ≤ 400000000000000000000000000000000000000000) (j : Nat) : 0 ≤ lpart x s j ∧ lpart x s j ≤ blaw j := by
  induction j with
  | zero => exact ⟨h0, h1⟩
  | succ j ih =>
    have hm := m_pos (c := 1) (by decide) j
    have e : lpart x s (j+1) = (lpart x s j * s) / 10000000000000000000000000000000000000000 / ((2 * (j:Int) + 1 + 1) * (2 * (j:Int) + 1 + 2)) := by
      show ((lpart x s j * s).fdiv 10000000000000000000000000000000000000000).fdiv _ = _
      rw [Int.fdiv_eq_ediv_of_nonneg _ (Int.le_of_lt hm), Int.fdiv_eq_ediv_of_nonneg _ (by decide)]
    have p0 : 0 ≤ lpart x s j * s := Int.mul_nonneg ih.1 h2
    have p1 := Int.mul_le_mul ih.2 h3 h2 (by omega)
    have p2 : 0 ≤ (lpart x s j * s) / 10000000000000000000000000000000000000000 := Int.ediv_nonneg p0 (by decide)
    have p3 : (lpart x s j * s) / 10000000000000000000000000000000000000000 ≤ blaw j * 40 := by omega
    rw [e]
    exact ⟨Int.ediv_nonneg p2 (by omega), Int.ediv_le_ediv hm p3⟩
theorem blaw_ok : (∀ j, j < 64 → blaw j ≤ 10000000000000000000000000000000000000000000) ∧ blaw 64 = 0 := by decide +kernel
theorem lpart_zero {x s : Int} {j : Nat} (h : lpart x s j = 0) (i : Nat) : lpart x s (j + i) = 0 := by
  induction i with
  | zero => exact h
  | succ i ih =>
    show ((lpart x s (j + i) * s).fdiv 10000000000000000000000000000000000000000).fdiv _ = 0
    rw [ih, Int.zero_mul, Int.zero_fdiv, Int.zero_fdiv]
theorem lpart_64 (a : Int) (j : Nat) (hj : 64 ≤ j) : lpart (lx a) (lsq a) j = 0 := by
  have hs := lx_in a
  have b := lpart_bd hs.2.2.1 hs.2.2.2.1 hs.2.2.2.2.1 hs.2.2.2.2.2 64
  rw [blaw_ok.2] at b
  have h2 := lpart_zero (Int.le_antisymm b.2 b.1) (j - 64)
  rw [show 64 + (j - 64) = j by omega] at h2
  exact h2
theorem lpart_small (a : Int) (j : Nat) : 0 ≤ lpart (lx a) (lsq a) j ∧ lpart (lx a) (lsq a) j ≤ 10000000000000000000000000000000000000000000 ∧ (130 ≤ j → lpart (lx a) (lsq a) j = 0) := by
  have hs := lx_in a
  have b := lpart_bd hs.2.2.1 hs.2.2.2.1 hs.2.2.2.2.1 hs.2.2.2.2.2 j
  rcases Nat.lt_or_ge j 64 with h | h
  · exact ⟨b.1, Int.le_trans b.2 (blaw_ok.1 j h), fun h2 => by omega⟩
  · have := lpart_64 a j h
    exact ⟨by omega, by omega, fun _ => this⟩
theorem lx_small (a : Int) : 0 ≤ a.fmod 360000000 ∧ a.fmod 360000000 < 360000000 ∧ 0 ≤ lx a ∧ lx a ≤ 100000000000000000000000000000000000000000 ∧ 0 ≤ lsq a ∧ lsq a ≤ 1000000000000000000000000000000000000000000 := by
  have := lx_in a
  omega
end Mine
end
section
namespace Mine

theorem ps_ex1 : ps (ex 1) 128 ≤ 3 := by decide +kernel
theorem ex_tail {Y : Rat} (h0 : 0 ≤ Y) (h1 : Y ≤ 1) (j : Nat) (hj : j ≤ 128) : ps (ex Y) 128 - ps (ex Y) j ≤ 3 * ex Y (j+1) := by
  have a := ps_tail' h0 128 j hj
  have b : ps (ex Y) 128 ≤ 3 := Rat.le_trans (ps_mono 128 fun i => ex_mono h0 h1 i) ps_ex1
  have c := mul_nn (show 0 ≤ 3 - ps (ex Y) 128 by grind) (ex_nonneg h0 (j+1))
  grind
theorem tailC {y Y : Rat} (h0 : 0 ≤ Y) (h1 : Y ≤ 1) (h : Ab y Y) (j : Nat) (hj : j ≤ 128) : Ab (Cn y - ps (ct y) j) (3 * ex Y (j+1)) :=
  (ps_diff_ab 128 j hj fun i _ => (cs_ab h i).1).mono (ex_tail h0 h1 j hj)
theorem tailS {y Y : Rat} (h0 : 0 ≤ Y) (h1 : Y ≤ 1) (h : Ab y Y) (j : Nat) (hj : j ≤ 128) : Ab (Sn y - ps (st y) j) (3 * ex Y (j+1)) :=
  (ps_diff_ab 128 j hj fun i _ => (cs_ab h i).2).mono (ex_tail h0 h1 j hj)
theorem smallC {y Y : Rat} (h0 : 0 ≤ Y) (h1 : Y ≤ 1) (h : Ab y Y) : Ab (Cn y - 1) (3 * Y * Y / 2) := by
  have := tailC h0 h1 h 1 (by decide)
  have e : ps (ct y) 1 = 1 := by simp only [ps, ct, cs]; grind
  rw [e] at this
  refine this.mono ?_
  simp only [ex]
  push_cast
  grind
theorem smallS {y Y : Rat} (h0 : 0 ≤ Y) (h1 : Y ≤ 1) (h : Ab y Y) : Ab (Sn y - y) (Y * Y * Y / 2) := by
  have := tailS h0 h1 h 2 (by decide)
  have e : ps (st y) 2 = y := by simp only [ps, st, cs]; push_cast; grind
  rw [e] at this
  refine this.mono ?_
  simp only [ex]
  push_cast
  grind
theorem fineC {y Y : Rat} (h0 : 0 ≤ Y) (h1 : Y ≤ 1) (h : Ab y Y) : Ab (Cn y - (1 - y * y / 2)) (Y * Y * Y * Y / 8) := by
  have := tailC h0 h1 h 3 (by decide)
  have e : ps (ct y) 3 = 1 - y * y / 2 := by simp only [ps, ct, cs]; push_cast; grind
  rw [e] at this
  refine this.mono ?_
  simp only [ex]
  push_cast
  grind
theorem fineS {y Y : Rat} (h0 : 0 ≤ Y) (h1 : Y ≤ 1) (h : Ab y Y) : Ab (Sn y - (y - y * y * y / 6)) (Y * Y * Y * Y * Y / 40) := by
  have := tailS h0 h1 h 4 (by decide)
  have e : ps (st y) 4 = y - y * y * y / 6 := by simp only [ps, st, cs]; push_cast; grind
  rw [e] at this
  refine this.mono ?_
  simp only [ex]
  push_cast
  grind
theorem Cn_zero : Cn 0 = 1 := by
  have := smallC (y := 0) (Y := 0) (by decide) (by decide) ⟨by decide, by decide⟩
  unfold Ab at this
  grind
theorem Sn_zero : Sn 0 = 0 := by
  have := smallS (y := 0) (Y := 0) (by decide) (by decide) ⟨by decide, by decide⟩
  unfold Ab at this
  grind
theorem sq_nn (x : Rat) : 0 ≤ x * x := by
  rcases (show 0 ≤ x ∨ 0 ≤ -x by grind) with h | h
  · exact mul_nn h h
  · have := mul_nn h h; grind
theorem Ab.negx {x e : Rat} (h : Ab x e) : Ab (-x) e := h.neg
theorem unit_circle {x : Rat} (h : Ab x 7) : Ab (1 - (Cn x * Cn x + Sn x * Sn x)) (1/10^65) := by
  have := (add_SC h h.neg).1
  rw [Cn_neg, Sn_neg, show x + -x = 0 by grind, Cn_zero] at this
  unfold Ab at *
  grind
theorem le2_of_sq {x : Rat} (h : x * x ≤ 2) : Ab x 2 := by
  unfold Ab
  constructor
  · rcases (show -2 ≤ x ∨ 0 ≤ -2 - x by grind) with h1 | h1
    · exact h1
    · have := mul_nn h1 h1; grind
  · rcases (show x ≤ 2 ∨ 0 ≤ x - 2 by grind) with h1 | h1
    · exact h1
    · have := mul_nn h1 h1; grind
theorem num65 : (1:Rat)/10^65 ≤ 1/2 := by decide +kernel
theorem bd_C {x : Rat} (h : Ab x 7) : Ab (Cn x) 2 := by
  have a := unit_circle h
  have b := sq_nn (Sn x)
  have := num65
  apply le2_of_sq
  unfold Ab at a
  grind
theorem bd_S {x : Rat} (h : Ab x 7) : Ab (Sn x) 2 := by
  have a := unit_circle h
  have b := sq_nn (Cn x)
  have := num65
  apply le2_of_sq
  unfold Ab at a
  grind

/-- a millionth of a degree -/
noncomputable def hh : Rat := 31415926535897932384626433832795028841971 / (180000000 * 10000000000000000000000000000000000000000)
noncomputable def Ca (a : Int) : Rat := Cn (a * hh)
noncomputable def Sa (a : Int) : Rat := Sn (a * hh)
theorem hh_pos : 0 ≤ hh ∧ 400000000 * hh ≤ 7 := by decide +kernel
theorem ang_ab {a B : Int} (h0 : -B ≤ a) (h1 : a ≤ B) : Ab (a * hh) (B * hh) := by
  have k0 : -(B:Rat) ≤ (a : Rat) := by exact_mod_cast h0
  have k1 : (a : Rat) ≤ B := by exact_mod_cast h1
  have := hh_pos.1
  have h2 := mul_nn (show 0 ≤ (B:Rat) - a by grind) this
  have h3 := mul_nn (show 0 ≤ (a:Rat) + B by grind) this
  unfold Ab
  grind
theorem hh7 : ((400000000 : Int) : Rat) * hh ≤ 7 := by decide +kernel
theorem ang7 {a : Int} (h0 : -400000000 ≤ a) (h1 : a ≤ 400000000) : Ab (a * hh) 7 := (ang_ab h0 h1).mono hh7
theorem ang_add (a b : Int) : ((a + b : Int) : Rat) * hh = a * hh + b * hh := by push_cast; grind
theorem ang_neg (a : Int) : ((-a : Int) : Rat) * hh = -(a * hh) := by push_cast; grind
theorem Ca_neg (a : Int) : Ca (-a) = Ca a := by unfold Ca; rw [ang_neg, Cn_neg]
theorem Sa_neg (a : Int) : Sa (-a) = -Sa a := by unfold Sa; rw [ang_neg, Sn_neg]
theorem rotC {a b : Int} (h0 : -400000000 ≤ a) (h1 : a ≤ 400000000) (k0 : -400000000 ≤ b) (k1 : b ≤ 400000000) :
    Ab (Ca (a + b) - (Ca a * Ca b - Sa a * Sa b)) (1/10^65) := by
  unfold Ca Sa; rw [ang_add]; exact (add_SC (ang7 h0 h1) (ang7 k0 k1)).1
theorem rotS {a b : Int} (h0 : -400000000 ≤ a) (h1 : a ≤ 400000000) (k0 : -400000000 ≤ b) (k1 : b ≤ 400000000) :
    Ab (Sa (a + b) - (Sa a * Ca b + Ca a * Sa b)) (1/10^65) := by
  unfold Ca Sa; rw [ang_add]; exact (add_SC (ang7 h0 h1) (ang7 k0 k1)).2
theorem bdCa {a : Int} (h0 : -400000000 ≤ a) (h1 : a ≤ 400000000) : Ab (Ca a) 2 := bd_C (ang7 h0 h1)
theorem bdSa {a : Int} (h0 : -400000000 ≤ a) (h1 : a ≤ 400000000) : Ab (Sa a) 2 := bd_S (ang7 h0 h1)

theorem valQ : Ab (Ca 90000000 - 0) (1/10^38) ∧ Ab (Sa 90000000 - 1) (1/10^38) := by unfold Ab; decide +kernel
theorem valH : Ab (Ca 180000000 - (-1)) (1/10^38) ∧ Ab (Sa 180000000 - 0) (1/10^38) := by unfold Ab; decide +kernel
theorem valW : Ab (Ca 360000000 - 1) (1/10^38) ∧ Ab (Sa 360000000 - 0) (1/10^38) := by unfold Ab; decide +kernel
theorem shift_num : (1:Rat)/10^65 + (2 * (1/10^38) + 2 * (1/10^38)) ≤ 1/10^37 := by decide +kernel
theorem eqC (u c s p q x y : Rat) : u - (c * p - s * q) + (c * (p - x) - s * (q - y)) = u - (c * x - s * y) := by grind
theorem eqS (u c s p q x y : Rat) : u - (s * p + c * q) + (s * (p - x) + c * (q - y)) = u - (s * x + c * y) := by grind
theorem shiftBy {a b : Int} {x y : Rat} (h0 : -400000000 ≤ a) (h1 : a ≤ 400000000) (k0 : -400000000 ≤ b) (k1 : b ≤ 400000000) (v : Ab (Ca b - x) (1/10^38) ∧ Ab (Sa b - y) (1/10^38)) :
    Ab (Ca (a + b) - (Ca a * x - Sa a * y)) (1/10^37) ∧ Ab (Sa (a + b) - (Sa a * x + Ca a * y)) (1/10^37) := by
  have r1 := (rotC h0 h1 k0 k1).add (((bdCa h0 h1).mul v.1).sub ((bdSa h0 h1).mul v.2))
  have r2 := (rotS h0 h1 k0 k1).add (((bdSa h0 h1).mul v.1).add ((bdCa h0 h1).mul v.2))
  rw [eqC] at r1
  rw [eqS] at r2
  exact ⟨r1.mono shift_num, r2.mono shift_num⟩
theorem q10 (u c s : Rat) : u - (c * 0 - s * 1) = u + s := by grind
theorem q11 (u c s : Rat) : u - (s * 0 + c * 1) = u - c := by grind
theorem q20 (u c s : Rat) : u - (c * -1 - s * 0) = u + c := by grind
theorem q21 (u c s : Rat) : u - (s * -1 + c * 0) = u + s := by grind
theorem q30 (u c s : Rat) : u - (c * 1 - s * 0) = u - c := by grind
theorem q31 (u c s : Rat) : u - (s * 1 + c * 0) = u - s := by grind
theorem q40 (x y : Rat) : x + -y = x - y := by grind
theorem q41 (x y : Rat) : x - -y = x + y := by grind
theorem toQ {a : Int} (h0 : -400000000 ≤ a) (h1 : a ≤ 400000000) : Ab (Ca (a + 90000000) + Sa a) (1/10^37) ∧ Ab (Sa (a + 90000000) - Ca a) (1/10^37) := by
  have := shiftBy h0 h1 (by decide) (by decide) valQ
  rw [q10, q11] at this
  exact this
theorem toH {a : Int} (h0 : -400000000 ≤ a) (h1 : a ≤ 400000000) : Ab (Ca (a + 180000000) + Ca a) (1/10^37) ∧ Ab (Sa (a + 180000000) + Sa a) (1/10^37) := by
  have := shiftBy h0 h1 (by decide) (by decide) valH
  rw [q20, q21] at this
  exact this
theorem toW {a : Int} (h0 : -400000000 ≤ a) (h1 : a ≤ 400000000) : Ab (Ca (a + 360000000) - Ca a) (1/10^37) ∧ Ab (Sa (a + 360000000) - Sa a) (1/10^37) := by
  have := shiftBy h0 h1 (by decide) (by decide) valW
  rw [q30, q31] at this
  exact this
theorem neg_in {a : Int} (h0 : -400000000 ≤ a) (h1 : a ≤ 400000000) : -400000000 ≤ -a ∧ -a ≤ 400000000 := by omega
theorem flip_add (a b : Int) : -a + b = b - a := by omega
theorem mirQ {a : Int} (h0 : -400000000 ≤ a) (h1 : a ≤ 400000000) : Ab (Ca (90000000 - a) - Sa a) (1/10^37) ∧ Ab (Sa (90000000 - a) - Ca a) (1/10^37) := by
  have := toQ (neg_in h0 h1).1 (neg_in h0 h1).2
  rw [Ca_neg, Sa_neg, flip_add, q40] at this
  exact this
theorem mirH {a : Int} (h0 : -400000000 ≤ a) (h1 : a ≤ 400000000) : Ab (Ca (180000000 - a) + Ca a) (1/10^37) ∧ Ab (Sa (180000000 - a) - Sa a) (1/10^37) := by
  have := toH (neg_in h0 h1).1 (neg_in h0 h1).2
  rw [Ca_neg, Sa_neg, flip_add, q40] at this
  exact this
theorem mirW {a : Int} (h0 : -400000000 ≤ a) (h1 : a ≤ 400000000) : Ab (Ca (360000000 - a) - Ca a) (1/10^37) ∧ Ab (Sa (360000000 - a) + Sa a) (1/10^37) := by
  have := toW (neg_in h0 h1).1 (neg_in h0 h1).2
  rw [Ca_neg, Sa_neg, flip_add, q41] at this
  exact this
end Mine
end
section
namespace Mine
/-- sums, exclusive -/
noncomputable def sm (f : Nat → Rat) : Nat → Rat
  | 0 => 0
  | n+1 => sm f n + f n
theorem sm_close {q t : Nat → Rat} {G E : Rat} (h : ∀ j, Ab (q j - G * t j) E) (J : Nat) : Ab (sm q J - G * sm t J) (E * J) := by
  induction J with
  | zero => unfold Ab; simp only [sm]; push_cast; grind
  | succ J ih =>
    have := ih.add (h J)
    simp only [sm]
    push_cast
    unfold Ab at *
    grind
theorem ab_div {x a m M : Rat} (h : Ab x a) (hM : 0 < M) (hm : M ≤ m) : Ab (x / m) (a / M) := by
  have a0 := h.nonneg
  refine (h.div (c := m) (by grind)).mono ?_
  have h1 := div_nn (mul_nn a0 (show 0 ≤ m - M by grind)) (Rat.mul_pos hM (show 0 < m by grind))
  have h2 : a * (m - M) / (M * m) = a / M - a / m := by grind
  grind
theorem ser_step {G s x2 qj qk tj tk m M E : Rat} (hM : 0 < M) (hm : M ≤ m) (hq : Ab (qk + qj * s / m) 2) (ht : tk = -(tj * x2 / m)) (hd : Ab (G * s - G * x2) 15) (hs : Ab s 40) (hb : Ab tj 100) (h : Ab (qj - G * tj) E) :
    Ab (qk - G * tk) ((E * 40 + 100 * 15) / M + 2) := by
  have h1 := (h.mul hs).add (hb.mul hd)
  have h2 := (ab_div h1 hM hm).neg.add hq
  have e : -(((qj - G * tj) * s + tj * (G * s - G * x2)) / m) + (qk + qj * s / m) = qk - G * tk := by
    rw [ht]; grind
  rw [e] at h2
  exact h2
theorem ser_close {G s x2 : Rat} {q t m : Nat → Rat} (h0 : Ab (q 0 - G * t 0) 1) (hq : ∀ j, Ab (q (j+1) + q j * s / m j) 2) (ht : ∀ j, t (j+1) = -(t j * x2 / m j))
    (hd : Ab (G * s - G * x2) 15) (hs : Ab s 40) (hb : ∀ j, Ab (t j) 100) (m0 : 2 ≤ m 0) (m1 : 12 ≤ m 1) (m2 : 30 ≤ m 2) (m3 : ∀ j, 56 ≤ m (j+3)) (j : Nat) : Ab (q j - G * t j) 4000 := by
  have s1 := ser_step (by decide) m0 (hq 0) (ht 0) hd hs (hb 0) h0
  have s2 := ser_step (by decide) m1 (hq 1) (ht 1) hd hs (hb 1) s1
  have s3 := ser_step (by decide) m2 (hq 2) (ht 2) hd hs (hb 2) s2
  have gen : ∀ j, Ab (q (j+3) - G * t (j+3)) 4000 := fun j => by
    induction j with
    | zero => exact s3.mono (by decide +kernel)
    | succ j ih => exact (ser_step (by decide) (m3 j) (hq (j+3)) (ht (j+3)) hd hs (hb (j+3)) ih).mono (by decide +kernel)
  match j with
  | 0 => exact h0.mono (by decide +kernel)
  | 1 => exact s1.mono (by decide +kernel)
  | 2 => exact s2.mono (by decide +kernel)
  | j+3 => exact gen j

-- the exact terms
theorem st_even (x : Rat) (j : Nat) : st x (2*j) = 0 ∧ ct x (2*j+1) = 0 := by
  have z : ∀ n, st x n = 0 → ct x (n+1) = 0 := fun n h => by
    have e : ct x (n+1) = -(x * st x n) / ((n+1 : Nat) : Rat) := by simp only [ct, st, cs]
    rw [e, h]; grind
  induction j with
  | zero =>
    have h : st x (2*0) = 0 := by simp only [st, cs, Nat.mul_zero]
    exact ⟨h, z _ h⟩
  | succ j ih =>
    have h : st x (2*(j+1)) = 0 := by
      have e : st x (2*j+1+1) = x * ct x (2*j+1) / ((2*j+1+1 : Nat) : Rat) := by simp only [ct, st, cs]
      rw [show 2*(j+1) = 2*j+1+1 by omega, e, ih.2]; grind
    exact ⟨h, z _ h⟩
theorem st_next (x : Rat) (n : Nat) : st x (n+2) = -(st x n * (x * x) / (((n+1 : Nat) : Rat) * ((n+2 : Nat) : Rat))) := by
  have e1 : st x (n+1+1) = x * ct x (n+1) / ((n+1+1 : Nat) : Rat) := by simp only [ct, st, cs]
  have e2 : ct x (n+1) = -(x * st x n) / ((n+1 : Nat) : Rat) := by simp only [ct, st, cs]
  have := nz n
  have := nz (n+1)
  rw [show n + 2 = n+1+1 by omega, e1, e2]
  grind
theorem ct_next (x : Rat) (n : Nat) : ct x (n+2) = -(ct x n * (x * x) / (((n+1 : Nat) : Rat) * ((n+2 : Nat) : Rat))) := by
  have e1 : ct x (n+1+1) = -(x * st x (n+1)) / ((n+1+1 : Nat) : Rat) := by simp only [ct, st, cs]
  have e2 : st x (n+1) = (x * ct x n) / ((n+1 : Nat) : Rat) := by simp only [ct, st, cs]
  have := nz n
  have := nz (n+1)
  rw [show n + 2 = n+1+1 by omega, e1, e2]
  grind
theorem Sn_sm (x : Rat) : Sn x = sm (fun j => st x (2*j+1)) 64 := by
  have gen : ∀ J, ps (st x) (2*J) = sm (fun j => st x (2*j+1)) J := fun J => by
    induction J with
    | zero => simp only [ps, sm, Nat.mul_zero]; exact (st_even x 0).1
    | succ J ih =>
      have e : ps (st x) (2*J+1+1) = ps (st x) (2*J) + st x (2*J+1) + st x (2*J+1+1) := rfl
      rw [show 2*(J+1) = 2*J+1+1 by omega, e, ih, show 2*J+1+1 = 2*(J+1) by omega, (st_even x (J+1)).1]
      simp only [sm]; grind
  exact gen 64
theorem Cn_sm (x : Rat) : Cn x = sm (fun j => ct x (2*j)) 65 := by
  have gen : ∀ J, ps (ct x) (2*J) = sm (fun j => ct x (2*j)) (J+1) := fun J => by
    induction J with
    | zero => simp only [ps, sm, Nat.mul_zero]; grind
    | succ J ih =>
      have e : ps (ct x) (2*J+1+1) = ps (ct x) (2*J) + ct x (2*J+1) + ct x (2*J+1+1) := rfl
      rw [show 2*(J+1) = 2*J+1+1 by omega, e, ih, (st_even x J).2]
      simp only [sm]; grind
  exact gen 64
theorem ex_100 (n : Nat) : ex (63/10) n ≤ 100 := by
  have hi : ∀ i, ex (63/10) (i+6) ≤ 100 := fun i => by
    induction i with
    | zero => decide +kernel
    | succ i ih =>
      have w := wex (63/10) (i+6)
      have p := ex_nonneg (x := 63/10) (by decide +kernel) (i+6+1)
      have k : (7:Rat) ≤ ((i+6+1 : Nat) : Rat) := by
        have : 7 ≤ i+6+1 := by omega
        exact_mod_cast this
      have h := mul_nn (show 0 ≤ ((i+6+1 : Nat) : Rat) - 7 by grind) p
      rw [show i+1+6 = i+6+1 by omega]
      grind
  match n with
  | 0 | 1 | 2 | 3 | 4 | 5 => decide +kernel
  | n+6 => exact hi n
theorem term_100 {x : Rat} (h : Ab x (63/10)) (n : Nat) : Ab (st x n) 100 ∧ Ab (ct x n) 100 :=
  ⟨(cs_ab h n).2.mono (ex_100 n), (cs_ab h n).1.mono (ex_100 n)⟩

-- floors and rounds as fractions
theorem floor_q {a b : Int} (hb : 0 < b) : 0 ≤ (a : Rat) / b - (a.fdiv b : Int) ∧ (a : Rat) / b - (a.fdiv b : Int) ≤ 1 := by
  have e : a.fdiv b = a / b := Int.fdiv_eq_ediv_of_nonneg _ (Int.le_of_lt hb)
  rw [e]
  have h1 := Int.mul_ediv_add_emod a b
  have h2 := Int.emod_nonneg a (show b ≠ 0 by omega)
  have h3 := Int.emod_lt_of_pos a hb
  have k1 : b * (a / b) ≤ a := by omega
  have k2 : a ≤ b * (a / b) + b := by omega
  have r0 : (0:Rat) < (b : Rat) := by exact_mod_cast hb
  have r1 : (b : Rat) * ((a / b : Int) : Rat) ≤ a := by exact_mod_cast k1
  have r2 : (a : Rat) ≤ b * ((a / b : Int) : Rat) + b := by exact_mod_cast k2
  generalize ((a / b : Int) : Rat) = q at *
  clear h1 h2 h3 k1 k2 e
  generalize (a : Rat) = x at *
  generalize (b : Rat) = y at *
  have s1 := div_nn (show 0 ≤ x - y * q by grind) r0
  have s2 := div_nn (show 0 ≤ y * q + y - x by grind) r0
  have e1 : (x - y * q) / y = x / y - q := by grind
  have e2 : (y * q + y - x) / y = q + 1 - x / y := by grind
  rw [e1] at s1
  rw [e2] at s2
  constructor <;> grind
theorem round_q {a b : Int} (hb : 0 < b) : Ab ((pdiv a b : Int) - (a : Rat) / b) (1/2) := by
  have h := pdiv_near (a := a) hb
  have r0 : (0:Rat) < (b : Rat) := by exact_mod_cast hb
  have r1 : 2 * (a : Rat) - b ≤ 2 * (b * ((pdiv a b : Int) : Rat)) := by exact_mod_cast h.1
  have r2 : 2 * (b * ((pdiv a b : Int) : Rat)) ≤ 2 * (a : Rat) + b := by exact_mod_cast h.2
  generalize ((pdiv a b : Int) : Rat) = q at *
  clear h
  generalize (a : Rat) = x at *
  generalize (b : Rat) = y at *
  have s1 := div_nn (show 0 ≤ 2 * (y * q) - (2 * x - y) by grind) r0
  have s2 := div_nn (show 0 ≤ 2 * x + y - 2 * (y * q) by grind) r0
  have e1 : (2 * (y * q) - (2 * x - y)) / y = 2 * q - 2 * (x / y) + 1 := by grind
  have e2 : (2 * x + y - 2 * (y * q)) / y = 2 * (x / y) + 1 - 2 * q := by grind
  rw [e1] at s1
  rw [e2] at s2
  unfold Ab
  constructor <;> grind
theorem fprod_q (a b : Int) : Ab ((fprod a b : Int) - (a : Rat) * ((b : Rat) / 1000000000000000000000000000000000000)) (1/2) := by
  have h := round_q (a := a * b) (b := 1000000000000000000000000000000000000) (by decide)
  have e : ((a * b : Int) : Rat) / ((1000000000000000000000000000000000000 : Int) : Rat) = (a : Rat) * ((b : Rat) / 1000000000000000000000000000000000000) := by push_cast; grind
  rw [e] at h
  exact h
end Mine
end
section
set_option maxRecDepth 100000
namespace Mine
theorem of_q {a b : Int} (h : (a : Rat) ≤ (b : Rat)) : a ≤ b := by exact_mod_cast h
theorem mq_pos {b B : Int} (h : B ≤ b) : (B : Rat) ≤ (b : Rat) := by exact_mod_cast h
theorem mfac (j : Nat) (c : Int) (n : Nat) (e : (n : Int) = 2 * (j:Int) + c) : (((2 * (j:Int) + c + 1) * (2 * (j:Int) + c + 2) : Int) : Rat) = ((n+1 : Nat) : Rat) * ((n+2 : Nat) : Rat) := by
  have : (2 * (j:Int) + c + 1) * (2 * (j:Int) + c + 2) = ((n+1 : Nat) : Int) * ((n+2 : Nat) : Int) := by push_cast; rw [e]; grind
  rw [this]
  push_cast
  grind

-- one step's rounding
theorem step_sin {q s m : Int} (hm : 2 ≤ m) : Ab (((-(pdiv (fprod q s) m) : Int) : Rat) + (q : Rat) * ((s : Rat) / 1000000000000000000000000000000000000) / (m : Rat)) 2 := by
  have r1 := round_q (a := fprod q s) (b := m) (by omega)
  have r2 := (ab_div (M := 2) (fprod_q q s) (by decide) (mq_pos hm))
  have m0 : (m : Rat) ≠ 0 := by have : (0:Rat) < (m : Rat) := by (have := mq_pos hm; grind)
                                grind
  push_cast
  generalize ((pdiv (fprod q s) m : Int) : Rat) = p at *
  generalize ((fprod q s : Int) : Rat) = f at *
  generalize (q : Rat) * ((s : Rat) / 1000000000000000000000000000000000000) = g at *
  generalize (m : Rat) = mm at *
  have e : (f - g) / mm = f / mm - g / mm := by grind
  rw [e] at r2
  unfold Ab at *
  constructor <;> grind
theorem step_law {q s m : Int} (hm : 2 ≤ m) : Ab ((((q * s).fdiv 10000000000000000000000000000000000000000).fdiv m : Int) - (q : Rat) * ((s : Rat) / 10000000000000000000000000000000000000000) / (m : Rat)) 2 := by
  have r1 := floor_q (a := (q * s).fdiv 10000000000000000000000000000000000000000) (b := m) (by omega)
  have r2 := floor_q (a := q * s) (b := 10000000000000000000000000000000000000000) (by decide)
  have k := mq_pos hm
  have e0 : ((q * s : Int) : Rat) / ((10000000000000000000000000000000000000000 : Int) : Rat) = (q : Rat) * ((s : Rat) / 10000000000000000000000000000000000000000) := by push_cast; grind
  rw [e0] at r2
  have k2 : (2:Rat) ≤ (m : Rat) := k
  generalize ((((q * s).fdiv 10000000000000000000000000000000000000000).fdiv m : Int) : Rat) = p at *
  generalize (((q * s).fdiv 10000000000000000000000000000000000000000 : Int) : Rat) = f at *
  generalize (q : Rat) * ((s : Rat) / 10000000000000000000000000000000000000000) = g at *
  clear k
  generalize (m : Rat) = mm at *
  have r3 : Ab ((g - f) / mm) (1 / 2) := ab_div ⟨by grind, r2.2⟩ (by decide) k2
  have e : (g - f) / mm = g / mm - f / mm := by grind
  rw [e] at r3
  unfold Ab at *
  constructor <;> grind

theorem mbig (j : Nat) (c : Int) (hc : 0 ≤ c) : 56 ≤ (2 * ((j+3 : Nat):Int) + c + 1) * (2 * ((j+3 : Nat):Int) + c + 2) := by
  have := Int.mul_le_mul (show 7 ≤ 2 * ((j+3 : Nat):Int) + c + 1 by push_cast; omega) (show 8 ≤ 2 * ((j+3 : Nat):Int) + c + 2 by push_cast; omega) (by omega) (by push_cast; omega)
  omega
theorem m2big (j : Nat) (c : Int) (hc : 0 ≤ c) : 2 ≤ (2 * (j:Int) + c + 1) * (2 * (j:Int) + c + 2) := by
  have := Int.mul_le_mul (show 1 ≤ 2 * (j:Int) + c + 1 by omega) (show 2 ≤ 2 * (j:Int) + c + 2 by omega) (by omega) (by omega)
  omega

-- sine and cosine near nought
theorem hh_half : hh * 180000000 = 31415926535897932384626433832795028841971 / 10000000000000000000000000000000000000000 := by decide +kernel
theorem sinx_q {a : Int} (h0 : 0 ≤ a) (h1 : a ≤ 45000000) : Ab ((sinx a : Int) - 1000000000000000000000000000000000000 * (a * hh)) 1 := by
  have r := round_q (a := a * 3141592653589793238462643383279502884) (b := 180000000) (by decide)
  have k0 : (0:Rat) ≤ (a:Rat) := by exact_mod_cast h0
  have k1 := mq_pos h1
  rw [show ((45000000 : Int) : Rat) = 45000000 by decide +kernel] at k1
  have e := hh_half
  have r' : Ab ((sinx a : Int) - ((a * 3141592653589793238462643383279502884 : Int) : Rat) / ((180000000 : Int) : Rat)) (1/2) := r
  push_cast at r'
  generalize ((sinx a : Int) : Rat) = x at *
  generalize (a : Rat) = y at *
  generalize hh = z at *
  have e2 : 1000000000000000000000000000000000000 * (y * z) = y * (1000000000000000000000000000000000000 * (31415926535897932384626433832795028841971 / 10000000000000000000000000000000000000000) / 180000000) := by grind
  rw [e2]
  unfold Ab at *
  constructor <;> grind
theorem sq_close {q X F t : Rat} (hF : 1 ≤ F) (h : Ab (q - F * X) 1) (h2 : Ab X (63/10)) (h3 : Ab (t - q * (q / F)) 1) : Ab (t - F * (X * X)) 15 := by
  have k := h.mul h
  have k2 := h.mul h2
  have e : q * (q / F) = F * (X * X) + 2 * ((q - F * X) * X) + (q - F * X) * (q - F * X) / F := by grind
  have k3 := ab_div (M := 1) k (by decide) hF
  rw [e] at h3
  generalize (q - F * X) * (q - F * X) / F = u at *
  generalize (q - F * X) * X = v at *
  generalize F * (X * X) = w at *
  unfold Ab at *
  constructor <;> grind
theorem F1 : (1:Rat) ≤ 1000000000000000000000000000000000000 := by decide +kernel
theorem G1 : (1:Rat) ≤ 10000000000000000000000000000000000000000 := by decide +kernel
theorem ang_eighth {a : Int} (h0 : 0 ≤ a) (h1 : a ≤ 45000000) : Ab (a * hh) (63/10) := (ang_ab (B := 45000000) (by omega) h1).mono (by decide +kernel)
theorem ang_turn {a : Int} (h0 : 0 ≤ a) (h1 : a < 360000000) : Ab (a * hh) (63/10) := (ang_ab (B := 360000000) (by omega) (by omega)).mono (by decide +kernel)
theorem sinsq_q {a : Int} (h0 : 0 ≤ a) (h1 : a ≤ 45000000) : Ab ((fprod (sinx a) (sinx a) : Int) - 1000000000000000000000000000000000000 * ((a * hh) * (a * hh))) 15 :=
  sq_close F1 (sinx_q h0 h1) (ang_eighth h0 h1) ((fprod_q (sinx a) (sinx a)).mono (by decide +kernel))
theorem sinsq_40 {a : Int} (h0 : 0 ≤ a) (h1 : a ≤ 45000000) : Ab ((fprod (sinx a) (sinx a) : Int) / (1000000000000000000000000000000000000 : Rat)) 40 := by
  have h := sinx_in a h0 h1
  have k := mq_pos h.2.2.2
  rw [show ((630000000000000000000000000000000000 : Int) : Rat) = 630000000000000000000000000000000000 by decide +kernel] at k
  have k0 : (0:Rat) ≤ ((fprod (sinx a) (sinx a) : Int) : Rat) := by exact_mod_cast h.2.2.1
  exact (Ab.div (c := 1000000000000000000000000000000000000) ⟨by grind, k⟩ (by decide +kernel)).mono (by decide +kernel)
theorem back {t F X : Rat} (hF : 1 ≤ F) : F * (t / F) - F * X = t - F * X := by
  have : F ≠ 0 := by grind
  grind
theorem sin_terms {a : Int} (h0 : 0 ≤ a) (h1 : a ≤ 45000000) (j : Nat) :
    Ab ((sinpart (sinx a) (fprod (sinx a) (sinx a)) j : Int) - 1000000000000000000000000000000000000 * st (a * hh) (2*j+1)) 4000 := by
  refine ser_close (q := fun j => ((sinpart (sinx a) (fprod (sinx a) (sinx a)) j : Int) : Rat)) (t := fun j => st (a * hh) (2*j+1)) (m := fun j => (((2 * (j:Int) + 1 + 1) * (2 * (j:Int) + 1 + 2) : Int) : Rat))
    (s := (fprod (sinx a) (sinx a) : Int) / (1000000000000000000000000000000000000 : Rat)) (x2 := (a * hh) * (a * hh)) ?_ ?_ ?_ ?_ (sinsq_40 h0 h1) (fun j => (term_100 (ang_eighth h0 h1) _).1) ?_ ?_ ?_ ?_ j
  · have e : st (a * hh) (2*0+1) = a * hh := by simp only [st, cs]; grind
    rw [e]
    exact sinx_q h0 h1
  · intro j
    exact step_sin (m2big j 1 (by decide))
  · intro j
    have h := st_next (a * hh) (2*j+1)
    rw [mfac j 1 (2*j+1) (by push_cast; rfl)]
    exact h
  · rw [back F1]; exact sinsq_q h0 h1
  · decide +kernel
  · decide +kernel
  · decide +kernel
  · intro j; exact mq_pos (mbig j 1 (by decide))
theorem cos_terms {a : Int} (h0 : 0 ≤ a) (h1 : a ≤ 45000000) (j : Nat) :
    Ab ((cospart (cosx a) (fprod (cosx a) (cosx a)) j : Int) - 1000000000000000000000000000000000000 * ct (a * hh) (2*j)) 4000 := by
  refine ser_close (q := fun j => ((cospart (cosx a) (fprod (cosx a) (cosx a)) j : Int) : Rat)) (t := fun j => ct (a * hh) (2*j)) (m := fun j => (((2 * (j:Int) + 0 + 1) * (2 * (j:Int) + 0 + 2) : Int) : Rat))
    (s := (fprod (sinx a) (sinx a) : Int) / (1000000000000000000000000000000000000 : Rat)) (x2 := (a * hh) * (a * hh)) ?_ ?_ ?_ ?_ (sinsq_40 h0 h1) (fun j => (term_100 (ang_eighth h0 h1) _).2) ?_ ?_ ?_ ?_ j
  · have e : ct (a * hh) (2*0) = 1 := by simp only [ct, cs]
    rw [e]
    show Ab ((1000000000000000000000000000000000000 : Int) - 1000000000000000000000000000000000000 * (1:Rat)) 1
    unfold Ab; decide +kernel
  · intro j
    exact step_sin (m2big j 0 (by decide))
  · intro j
    have h := ct_next (a * hh) (2*j)
    rw [mfac j 0 (2*j) (by push_cast; grind)]
    exact h
  · rw [back F1]; exact sinsq_q h0 h1
  · decide +kernel
  · decide +kernel
  · decide +kernel
  · intro j; exact mq_pos (mbig j 0 (by decide))
theorem sinfnd_sm (x s : Int) (J : Nat) : ((sinfnd x s J : Int) : Rat) = sm (fun j => ((sinpart x s j : Int) : Rat)) J := by
  induction J with
  | zero => rfl
  | succ J ih =>
    show ((sinfnd x s J + sinpart x s J : Int) : Rat) = _
    push_cast
    rw [ih]; rfl
theorem cosfnd_sm (x s : Int) (J : Nat) : ((cosfnd x s J : Int) : Rat) = sm (fun j => ((cospart x s j : Int) : Rat)) J := by
  induction J with
  | zero => rfl
  | succ J ih =>
    show ((cosfnd x s J + cospart x s J : Int) : Rat) = _
    push_cast
    rw [ih]; rfl
/-- a sum whose parts are nought from j and from J on -/
theorem same_end {f p : Nat → Int} (hf : ∀ j, p j = 0 → f (j+1) = f j) (z : ∀ j, p j = 0 → p (j+1) = 0) {j J : Nat} (h : p j = 0) (k : p J = 0) : f j = f J := by
  have zz : ∀ j, p j = 0 → ∀ i, p (j+i) = 0 := fun j h i => by
    induction i with
    | zero => exact h
    | succ i ih => exact z _ ih
  have ff : ∀ j, p j = 0 → ∀ i, f (j+i) = f j := fun j h i => by
    induction i with
    | zero => rfl
    | succ i ih => exact (hf _ (zz j h i)).trans ih
  rcases Nat.le_total j J with h1 | h1
  · have := ff j h (J - j)
    rw [show j + (J - j) = J by omega] at this
    exact this.symm
  · have := ff J k (j - J)
    rw [show J + (j - J) = j by omega] at this
    exact this
theorem sin_close {a r : Int} (h0 : 0 ≤ a) (h1 : a ≤ 45000000) (h : sinR a r) : Ab ((r : Rat) - 1000000000000000000000000000000000000 * Sa a) 260000 := by
  obtain ⟨j, _, e, z⟩ := h
  have k := same_end (f := sinfnd (sinx a) (fprod (sinx a) (sinx a))) (p := sinpart (sinx a) (fprod (sinx a) (sinx a))) (fun j h => by show _ + _ = _; rw [h, Int.add_zero]) (fun j h => sinpart_zero h 1) z (sinpart_64 a h0 h1 64 (Nat.le_refl _))
  rw [e, k, sinfnd_sm]
  unfold Sa
  rw [Sn_sm]
  exact (sm_close (sin_terms h0 h1) 64).mono (by decide +kernel)
theorem cos_close {a r : Int} (h0 : 0 ≤ a) (h1 : a ≤ 45000000) (h : cosR a r) : Ab ((r : Rat) - 1000000000000000000000000000000000000 * Ca a) 260000 := by
  obtain ⟨j, _, e, z⟩ := h
  have k := same_end (f := cosfnd (cosx a) (fprod (cosx a) (cosx a))) (p := cospart (cosx a) (fprod (cosx a) (cosx a))) (fun j h => by show _ + _ = _; rw [h, Int.add_zero]) (fun j h => cospart_zero h 1) z (cospart_65 a h0 h1 65 (Nat.le_refl _))
  rw [e, k, cosfnd_sm]
  unfold Ca
  rw [Cn_sm]
  exact (sm_close (cos_terms h0 h1) 65).mono (by decide +kernel)

-- the law's sine
theorem lx_q (a : Int) : Ab ((lx a : Int) - 10000000000000000000000000000000000000000 * ((a.fmod 360000000 : Int) * hh)) 1 := by
  have r := floor_q (a := a.fmod 360000000 * 31415926535897932384626433832795028841971) (b := 180000000) (by decide)
  have r' : 0 ≤ ((a.fmod 360000000 * 31415926535897932384626433832795028841971 : Int) : Rat) / ((180000000 : Int) : Rat) - (lx a : Int) ∧ ((a.fmod 360000000 * 31415926535897932384626433832795028841971 : Int) : Rat) / ((180000000 : Int) : Rat) - (lx a : Int) ≤ 1 := r
  have e := hh_half
  push_cast at r'
  generalize ((lx a : Int) : Rat) = x at *
  generalize ((a.fmod 360000000 : Int) : Rat) = y at *
  generalize hh = z at *
  have e2 : 10000000000000000000000000000000000000000 * (y * z) = y * 31415926535897932384626433832795028841971 / 180000000 := by grind
  rw [e2]
  unfold Ab at *
  constructor <;> grind
theorem lsq_q (a : Int) : Ab ((lsq a : Int) - 10000000000000000000000000000000000000000 * (((a.fmod 360000000 : Int) * hh) * ((a.fmod 360000000 : Int) * hh))) 15 := by
  have hx := lx_in a
  refine sq_close G1 (lx_q a) (ang_turn hx.1 hx.2.1) ?_
  have r := floor_q (a := lx a * lx a) (b := 10000000000000000000000000000000000000000) (by decide)
  have r' : 0 ≤ ((lx a * lx a : Int) : Rat) / ((10000000000000000000000000000000000000000 : Int) : Rat) - (lsq a : Int) ∧ ((lx a * lx a : Int) : Rat) / ((10000000000000000000000000000000000000000 : Int) : Rat) - (lsq a : Int) ≤ 1 := r
  push_cast at r'
  generalize ((lsq a : Int) : Rat) = t at *
  generalize ((lx a : Int) : Rat) = x at *
  have e : x * x / 10000000000000000000000000000000000000000 = x * (x / 10000000000000000000000000000000000000000) := by grind
  rw [e] at r'
  unfold Ab
  constructor <;> grind
theorem lsq_40 (a : Int) : Ab ((lsq a : Int) / (10000000000000000000000000000000000000000 : Rat)) 40 := by
  have h := lx_in a
  have k := mq_pos h.2.2.2.2.2
  rw [show ((400000000000000000000000000000000000000000 : Int) : Rat) = 400000000000000000000000000000000000000000 by decide +kernel] at k
  have k0 : (0:Rat) ≤ ((lsq a : Int) : Rat) := by exact_mod_cast h.2.2.2.2.1
  exact (Ab.div (c := 10000000000000000000000000000000000000000) ⟨by grind, k⟩ (by decide +kernel)).mono (by decide +kernel)
/-- plus, minus, plus .. -/
noncomputable def sgn : Nat → Rat
  | 0 => 1
  | j+1 => -sgn j
theorem sgn_mod (j : Nat) : sgn j = if (2 * (j:Int) + 1).fmod 4 = 1 then 1 else -1 := by
  induction j with
  | zero => rfl
  | succ j ih =>
    rw [Int.fmod_eq_emod_of_nonneg _ (by decide)] at ih ⊢
    show -sgn j = _
    rw [ih]
    by_cases h : (2 * (j:Int) + 1) % 4 = 1
    · rw [if_pos h, if_neg (by push_cast; omega)]
    · rw [if_neg h, if_pos (by push_cast; omega)]; grind
theorem sgn_ab (j : Nat) : sgn j = 1 ∨ sgn j = -1 := by
  induction j with
  | zero => left; rfl
  | succ j ih => show -sgn j = 1 ∨ -sgn j = -1; grind
theorem ab_sgn {x e : Rat} (j : Nat) (h : Ab x e) : Ab (sgn j * x) e := by
  rcases sgn_ab j with k | k <;> rw [k] <;> unfold Ab at * <;> grind
theorem law_terms (a : Int) (j : Nat) :
    Ab (sgn j * ((lpart (lx a) (lsq a) j : Int) : Rat) - 10000000000000000000000000000000000000000 * st ((a.fmod 360000000 : Int) * hh) (2*j+1)) 4000 := by
  have hx := lx_in a
  refine ser_close (q := fun j => sgn j * ((lpart (lx a) (lsq a) j : Int) : Rat)) (t := fun j => st ((a.fmod 360000000 : Int) * hh) (2*j+1)) (m := fun j => (((2 * (j:Int) + 1 + 1) * (2 * (j:Int) + 1 + 2) : Int) : Rat))
    (s := (lsq a : Int) / (10000000000000000000000000000000000000000 : Rat)) (x2 := ((a.fmod 360000000 : Int) * hh) * ((a.fmod 360000000 : Int) * hh)) ?_ ?_ ?_ ?_ (lsq_40 a) (fun j => (term_100 (ang_turn hx.1 hx.2.1) _).1) ?_ ?_ ?_ ?_ j
  · have e : st ((a.fmod 360000000 : Int) * hh) (2*0+1) = (a.fmod 360000000 : Int) * hh := by simp only [st, cs]; grind
    rw [e]
    have := lx_q a
    show Ab (1 * ((lx a : Int) : Rat) - _) 1
    rw [Rat.one_mul]
    exact this
  · intro j
    have h := ab_sgn (j+1) (step_law (q := lpart (lx a) (lsq a) j) (s := lsq a) (m2big j 1 (by decide)))
    have e1 : ((lpart (lx a) (lsq a) j * lsq a).fdiv 10000000000000000000000000000000000000000).fdiv ((2 * (j:Int) + 1 + 1) * (2 * (j:Int) + 1 + 2)) = lpart (lx a) (lsq a) (j+1) := rfl
    rw [e1] at h
    have e2 : sgn (j+1) = -sgn j := rfl
    show Ab (sgn (j+1) * ((lpart (lx a) (lsq a) (j+1) : Int) : Rat) + sgn j * ((lpart (lx a) (lsq a) j : Int) : Rat) * _ / _) 2
    rw [e2] at h ⊢
    generalize ((lpart (lx a) (lsq a) (j+1) : Int) : Rat) = u at *
    generalize ((lpart (lx a) (lsq a) j : Int) : Rat) = v at *
    generalize (((2 * (j:Int) + 1 + 1) * (2 * (j:Int) + 1 + 2) : Int) : Rat) = w at *
    generalize ((lsq a : Int) / (10000000000000000000000000000000000000000 : Rat)) = s at *
    have e3 : -sgn j * (u - v * s / w) = -sgn j * u + sgn j * v * s / w := by grind
    rw [e3] at h
    exact h
  · intro j
    have h := st_next ((a.fmod 360000000 : Int) * hh) (2*j+1)
    rw [mfac j 1 (2*j+1) (by push_cast; rfl)]
    exact h
  · rw [back G1]; exact lsq_q a
  · decide +kernel
  · decide +kernel
  · decide +kernel
  · intro j; exact mq_pos (mbig j 1 (by decide))
theorem ltot_sm (x s : Int) (J : Nat) : ((ltot x s J : Int) : Rat) = sm (fun j => sgn j * ((lpart x s j : Int) : Rat)) J := by
  induction J with
  | zero => rfl
  | succ J ih =>
    show ((if (2 * (J:Int) + 1).fmod 4 = 1 then ltot x s J + lpart x s J else ltot x s J - lpart x s J : Int) : Rat) = sm (fun j => sgn j * ((lpart x s j : Int) : Rat)) J + sgn J * ((lpart x s J : Int) : Rat)
    rw [← ih, sgn_mod]
    by_cases h : (2 * (J:Int) + 1).fmod 4 = 1
    · rw [if_pos h, if_pos h]; push_cast; grind
    · rw [if_neg h, if_neg h]; push_cast; grind
theorem law_close {a r : Int} (h : lawR a r) : Ab ((r : Rat) - 10000000000000000000000000000000000000000 * Sa (a.fmod 360000000)) 256000 := by
  obtain ⟨j, _, e, z⟩ := h
  have k := same_end (f := ltot (lx a) (lsq a)) (p := lpart (lx a) (lsq a)) (fun j h => by show (if _ then _ + _ else _ - _) = _; rw [h, Int.add_zero, Int.sub_zero, ite_self]) (fun j h => lpart_zero h 1) z (lpart_64 a 64 (Nat.le_refl _))
  rw [e, k, ltot_sm]
  unfold Sa
  rw [Sn_sm]
  exact (sm_close (law_terms a) 64).mono (by decide +kernel)
theorem lawR_bd {a r : Int} (h : lawR a r) : -20000000000000000000000000000000000000000 ≤ r ∧ r ≤ 20000000000000000000000000000000000000000 := by
  have c := law_close h
  have hx := lx_in a
  have u := unit_circle (ang7 (a := a.fmod 360000000) (by omega) (by omega))
  have v := sq_nn (Cn ((a.fmod 360000000 : Int) * hh))
  have n : (1:Rat)/10^65 ≤ 1 := by decide +kernel
  have w : Ab (Sa (a.fmod 360000000)) (3/2) := by
    have e : Sn ((a.fmod 360000000 : Int) * hh) * Sn ((a.fmod 360000000 : Int) * hh) ≤ 2 := by unfold Ab at u; grind
    show Ab (Sn _) _
    generalize Sn ((a.fmod 360000000 : Int) * hh) = s at *
    unfold Ab
    constructor
    · rcases (show -(3/2) ≤ s ∨ 0 ≤ -(3/2) - s by grind) with h1 | h1
      · exact h1
      · have := mul_nn h1 h1; grind
    · rcases (show s ≤ 3/2 ∨ 0 ≤ s - 3/2 by grind) with h1 | h1
      · exact h1
      · have := mul_nn h1 h1; grind
  have d : -(20000000000000000000000000000000000000000:Rat) ≤ r ∧ (r:Rat) ≤ 20000000000000000000000000000000000000000 := by
    unfold Ab at c w
    generalize Sa (a.fmod 360000000) = s at *
    constructor <;> grind
  rw [← show ((20000000000000000000000000000000000000000 : Int) : Rat) = 20000000000000000000000000000000000000000 by decide +kernel] at d
  have d1 := of_q d.2
  have d2 : ((-20000000000000000000000000000000000000000 : Int) : Rat) ≤ (r : Rat) := by
    rw [show ((-20000000000000000000000000000000000000000 : Int) : Rat) = -((20000000000000000000000000000000000000000 : Int) : Rat) by decide +kernel]
    exact d.1
  exact ⟨of_q d2, d1⟩
end Mine
end
section
set_option maxRecDepth 100000
namespace Mine
/-- lanes of 96 bits -/
noncomputable def pk (f : Nat → Nat) : Nat → Nat
  | 0 => 0
  | n+1 => f 0 + 2^96 * pk (fun j => f (j+1)) n
theorem pk_congr {f g : Nat → Nat} (n : Nat) (h : ∀ j, j < n → f j = g j) : pk f n = pk g n := by
  induction n generalizing f g with
  | zero => rfl
  | succ n ih => simp only [pk]; rw [h 0 (by omega), ih fun j hj => h (j+1) (by omega)]
theorem pk_add (f g : Nat → Nat) (n : Nat) : pk (fun j => f j + g j) n = pk f n + pk g n := by
  induction n generalizing f g with
  | zero => rfl
  | succ n ih => simp only [pk]; rw [ih]; rw [Nat.mul_add]; omega
theorem pk_mul (a : Nat) (f : Nat → Nat) (n : Nat) : pk (fun j => a * f j) n = a * pk f n := by
  induction n generalizing f with
  | zero => simp only [pk, Nat.mul_zero]
  | succ n ih => simp only [pk]; rw [ih, Nat.mul_add, Nat.mul_left_comm]
theorem pk_sub (f g : Nat → Nat) (n : Nat) (h : ∀ j, j < n → g j ≤ f j) : pk f n - pk g n = pk (fun j => f j - g j) n := by
  have e : pk f n = pk (fun j => f j - g j) n + pk g n := by
    rw [← pk_add]
    exact pk_congr n fun j hj => by have := h j hj; omega
  omega
theorem pk_app (f : Nat → Nat) (m n : Nat) : pk f (m + n) = pk f m + pk (fun j => f (m + j)) n * 2^(96*m) := by
  induction m generalizing f with
  | zero => simp only [pk, Nat.zero_add, Nat.mul_zero, Nat.pow_zero, Nat.mul_one]
  | succ m ih =>
    rw [show m + 1 + n = (m + n) + 1 by omega]
    simp only [pk]
    rw [ih, show 96*(m+1) = 96 + 96*m by omega, Nat.pow_add, Nat.mul_add, pk_congr n (fun j _ => show f (m + j + 1) = f (m + 1 + j) by congr 1; omega)]
    rw [Nat.add_assoc, Nat.mul_left_comm]
theorem pk_two (f : Nat → Nat) (k : Nat) : pk f (2^(k+1)) = pk f (2^k) + pk (fun j => f (2^k + j)) (2^k) * 2^(96*2^k) := by
  rw [show 2^(k+1) = 2^k + 2^k by rw [Nat.pow_succ]; omega, pk_app]

noncomputable def one : Nat → Nat
  | 0 => 1
  | k+1 => one k + one k * 2^(96*2^k)
noncomputable def pp1 : Nat → Nat
  | 0 => 0
  | k+1 => pp1 k + (pp1 k + 2^k * one k) * 2^(96*2^k)
noncomputable def pp2 : Nat → Nat
  | 0 => 0
  | k+1 => pp2 k + (pp2 k + (2*2^k) * pp1 k + (2^k*2^k) * one k) * 2^(96*2^k)
noncomputable def pp3 : Nat → Nat
  | 0 => 0
  | k+1 => pp3 k + (pp3 k + (3*2^k) * pp2 k + (3*(2^k*2^k)) * pp1 k + (2^k*2^k*2^k) * one k) * 2^(96*2^k)
theorem one_eq (k : Nat) : one k = pk (fun _ => 1) (2^k) := by
  induction k with
  | zero => rfl
  | succ k ih => rw [pk_two, one, ← ih]
theorem pk_const (a k : Nat) : pk (fun _ => a) (2^k) = a * one k := by
  rw [one_eq, ← pk_mul]
  exact pk_congr _ fun j _ => by omega
theorem pp1_eq (k : Nat) : pp1 k = pk (fun j => j) (2^k) := by
  induction k with
  | zero => rfl
  | succ k ih =>
    rw [pk_two, pp1, pk_add (fun _ => 2^k) (fun j => j), ← ih, pk_const, Nat.add_comm (2^k * one k)]
theorem pp2_eq (k : Nat) : pp2 k = pk (fun j => j * j) (2^k) := by
  induction k with
  | zero => rfl
  | succ k ih =>
    have e : pk (fun j => (2^k + j) * (2^k + j)) (2^k) = pp2 k + (2*2^k) * pp1 k + (2^k*2^k) * one k := by
      rw [← pk_const, pp1_eq, ← pk_mul, ih, ← pk_add, ← pk_add]
      exact pk_congr _ fun j _ => by grind
    rw [pk_two, pp2, e, ← ih]
theorem pp3_eq (k : Nat) : pp3 k = pk (fun j => j * j * j) (2^k) := by
  induction k with
  | zero => rfl
  | succ k ih =>
    have e : pk (fun j => (2^k + j) * (2^k + j) * (2^k + j)) (2^k) = pp3 k + (3*2^k) * pp2 k + (3*(2^k*2^k)) * pp1 k + (2^k*2^k*2^k) * one k := by
      rw [← pk_const, pp1_eq, pp2_eq, ← pk_mul, ← pk_mul, ih, ← pk_add, ← pk_add, ← pk_add]
      exact pk_congr _ fun j _ => by grind
    rw [pk_two, pp3, e, ← ih]

theorem land_cons {a b X Y : Nat} (ha : a < 2^96) (hb : b < 2^96) : (a + 2^96 * X) &&& (b + 2^96 * Y) = (a &&& b) + 2^96 * (X &&& Y) := by
  apply Nat.eq_of_testBit_eq
  intro i
  have hc : a &&& b < 2^96 := Nat.and_lt_two_pow _ hb
  rw [Nat.testBit_and, Nat.add_comm a, Nat.add_comm b, Nat.add_comm (a &&& b), Nat.testBit_two_pow_mul_add _ ha, Nat.testBit_two_pow_mul_add _ hb, Nat.testBit_two_pow_mul_add _ hc]
  by_cases h : i < 96
  · rw [if_pos h, if_pos h, if_pos h, Nat.testBit_and]
  · rw [if_neg h, if_neg h, if_neg h, Nat.testBit_and]
theorem pk_land (f g : Nat → Nat) (n : Nat) (hf : ∀ j, j < n → f j < 2^96) (hg : ∀ j, j < n → g j < 2^96) : pk f n &&& pk g n = pk (fun j => f j &&& g j) n := by
  induction n generalizing f g with
  | zero => exact Nat.zero_and _
  | succ n ih =>
    simp only [pk]
    rw [land_cons (hf 0 (by omega)) (hg 0 (by omega)), ih _ _ (fun j hj => hf (j+1) (by omega)) (fun j hj => hg (j+1) (by omega))]
theorem pk_inj (f g : Nat → Nat) (n : Nat) (hf : ∀ j, j < n → f j < 2^96) (hg : ∀ j, j < n → g j < 2^96) (h : pk f n = pk g n) : ∀ j, j < n → f j = g j := by
  induction n generalizing f g with
  | zero => intro j hj; omega
  | succ n ih =>
    simp only [pk] at h
    have h1 := hf 0 (by omega)
    have h2 := hg 0 (by omega)
    have e0 : f 0 = g 0 := by omega
    have e1 : pk (fun j => f (j+1)) n = pk (fun j => g (j+1)) n := by omega
    intro j hj
    match j with
    | 0 => exact e0
    | j+1 => exact ih _ _ (fun j hj => hf (j+1) (by omega)) (fun j hj => hg (j+1) (by omega)) e1 j (by omega)

noncomputable def ONE : Nat := one 13
noncomputable def P1 : Nat := pp1 13
noncomputable def P2 : Nat := pp2 13
noncomputable def P3 : Nat := pp3 13
noncomputable def cM : Nat := 4722366447685273124864
noncomputable def cA : Nat := 2361183259027008651264
noncomputable def MO : Nat := cM * ONE
noncomputable def HI : Nat := 4722366482869645213696 * ONE
theorem MO_eq : MO = pk (fun _ => cM) (2^13) := by unfold MO ONE; exact (pk_const cM 13).symm
theorem HI_eq : HI = pk (fun _ => 4722366482869645213696) (2^13) := by unfold HI ONE; exact (pk_const 4722366482869645213696 13).symm
theorem ONE_eq (a : Nat) : pk (fun _ => a) (2^13) = a * ONE := by unfold ONE; exact pk_const a 13
theorem P1_eq : pk (fun j => j) (2^13) = P1 := by unfold P1; exact (pp1_eq 13).symm
theorem P2_eq : pk (fun j => j * j) (2^13) = P2 := by unfold P2; exact (pp2_eq 13).symm
theorem P3_eq : pk (fun j => j * j * j) (2^13) = P3 := by unfold P3; exact (pp3_eq 13).symm
noncomputable def chk (W : Nat) : Bool := Nat.beq (Nat.land (Nat.land W MO + MO) HI) HI
theorem chk_ok {w : Nat → Nat} (hw : ∀ j, j < 8192 → w j < 2^96) (h : chk (pk w (2^13)) = true) (j : Nat) (hj : j < 8192) : 35184372088832 ≤ w j % 4722366482869645213696 := by
  have h1 := Nat.eq_of_beq_eq_true h
  have hM := MO_eq
  have hH := HI_eq
  have le : ∀ j, (w j &&& cM) ≤ cM := fun j => Nat.and_le_right
  have lt : ∀ j, (w j &&& cM) + cM < 2^96 := fun j => by have := le j; unfold cM at *; omega
  have h2 : pk (fun j => ((w j &&& cM) + cM) &&& 4722366482869645213696) (2^13) = pk (fun _ => 4722366482869645213696) (2^13) := by
    rw [← hH, ← pk_land (fun j => (w j &&& cM) + cM) (fun _ => 4722366482869645213696) (2^13) (fun j _ => lt j) (fun _ _ => by decide), pk_add (fun j => w j &&& cM) (fun _ => cM), ← pk_land w (fun _ => cM) (2^13) hw (fun _ _ => by decide), ← hM, ← hH]
    exact h1
  have h3 := pk_inj _ _ (2^13) (fun j _ => Nat.lt_of_le_of_lt Nat.and_le_left (lt j)) (fun _ _ => by decide) h2 j hj
  have h4 : 4722366482869645213696 ≤ (w j &&& cM) + cM := by
    have : ((w j &&& cM) + cM) &&& 4722366482869645213696 ≤ (w j &&& cM) + cM := Nat.and_le_left
    rw [show ((w j &&& cM) + cM) &&& 4722366482869645213696 = 4722366482869645213696 from h3] at this
    exact this
  have h5 : (w j &&& cM) ≤ w j % 4722366482869645213696 := by
    have e : (w j &&& cM) % 2^72 = (w j % 2^72) &&& (cM % 2^72) := Nat.and_mod_two_pow
    have e2 : (w j &&& cM) % 2^72 = (w j &&& cM) := Nat.mod_eq_of_lt (Nat.lt_of_le_of_lt (le j) (by decide))
    rw [e2] at e
    rw [e]
    exact Nat.and_le_left
  unfold cM at *
  omega

noncomputable def blkS (a0 a1 a2 a3 : Nat) : Bool := Nat.ble (a2 * 67108864 + a3 * 549755813888) a0 && (Nat.ble (a0 + a1 * 8192) 79228162514264337593543950335 && chk ((a0 * ONE + a1 * P1) - (a2 * P2 + a3 * P3)))
noncomputable def blkC (a0 a1 a2 a3 : Nat) : Bool := Nat.ble (a1 * 8192 + a2 * 67108864) a0 && (Nat.ble (a0 + a3 * 549755813888) 79228162514264337593543950335 && chk ((a0 * ONE + a3 * P3) - (a1 * P1 + a2 * P2)))
theorem jj {j : Nat} (hj : j < 8192) : j * j ≤ 67108864 ∧ j * j * j ≤ 549755813888 := by
  have h1 := Nat.mul_le_mul (show j ≤ 8192 by omega) (show j ≤ 8192 by omega)
  have h2 := Nat.mul_le_mul h1 (show j ≤ 8192 by omega)
  omega
theorem blkS_ok {a0 a1 a2 a3 : Nat} (h : blkS a0 a1 a2 a3 = true) (j : Nat) (hj : j < 8192) :
    a2 * (j * j) + a3 * (j * j * j) ≤ a0 + a1 * j ∧ 35184372088832 ≤ (a0 + a1 * j - (a2 * (j * j) + a3 * (j * j * j))) % 4722366482869645213696 := by
  unfold blkS at h
  rw [Bool.and_eq_true, Bool.and_eq_true] at h
  obtain ⟨h1, h2, h3⟩ := h
  have h1 := Nat.le_of_ble_eq_true h1
  have h2 := Nat.le_of_ble_eq_true h2
  have low : ∀ j, j < 8192 → a2 * (j * j) + a3 * (j * j * j) ≤ a0 + a1 * j := fun j hj => by
    have k1 := Nat.mul_le_mul (Nat.le_refl a2) (jj hj).1
    have k2 := Nat.mul_le_mul (Nat.le_refl a3) (jj hj).2
    omega
  refine ⟨low j hj, ?_⟩
  have e : (a0 * ONE + a1 * P1) - (a2 * P2 + a3 * P3) = pk (fun j => a0 + a1 * j - (a2 * (j * j) + a3 * (j * j * j))) (2^13) := by
    rw [← pk_sub (fun j => a0 + a1 * j) (fun j => a2 * (j * j) + a3 * (j * j * j)) (2^13) low, pk_add, pk_add, pk_mul, pk_mul, pk_mul]
    rw [ONE_eq, P1_eq, P2_eq, P3_eq]
  rw [e] at h3
  refine chk_ok (w := fun j => a0 + a1 * j - (a2 * (j * j) + a3 * (j * j * j))) (fun j hj => ?_) h3 j hj
  have k := Nat.mul_le_mul (Nat.le_refl a1) (show j ≤ 8192 by omega)
  have : (2:Nat)^96 = 79228162514264337593543950335 + 1 := by decide
  rw [this]
  show _ - _ < _
  omega
theorem blkC_ok {a0 a1 a2 a3 : Nat} (h : blkC a0 a1 a2 a3 = true) (j : Nat) (hj : j < 8192) :
    a1 * j + a2 * (j * j) ≤ a0 + a3 * (j * j * j) ∧ 35184372088832 ≤ (a0 + a3 * (j * j * j) - (a1 * j + a2 * (j * j))) % 4722366482869645213696 := by
  unfold blkC at h
  rw [Bool.and_eq_true, Bool.and_eq_true] at h
  obtain ⟨h1, h2, h3⟩ := h
  have h1 := Nat.le_of_ble_eq_true h1
  have h2 := Nat.le_of_ble_eq_true h2
  have low : ∀ j, j < 8192 → a1 * j + a2 * (j * j) ≤ a0 + a3 * (j * j * j) := fun j hj => by
    have k1 := Nat.mul_le_mul (Nat.le_refl a1) (show j ≤ 8192 by omega)
    have k2 := Nat.mul_le_mul (Nat.le_refl a2) (jj hj).1
    omega
  refine ⟨low j hj, ?_⟩
  have e : (a0 * ONE + a3 * P3) - (a1 * P1 + a2 * P2) = pk (fun j => a0 + a3 * (j * j * j) - (a1 * j + a2 * (j * j))) (2^13) := by
    rw [← pk_sub (fun j => a0 + a3 * (j * j * j)) (fun j => a1 * j + a2 * (j * j)) (2^13) low, pk_add, pk_add, pk_mul, pk_mul, pk_mul]
    rw [ONE_eq, P1_eq, P2_eq, P3_eq]
  rw [e] at h3
  refine chk_ok (w := fun j => a0 + a3 * (j * j * j) - (a1 * j + a2 * (j * j))) (fun j hj => ?_) h3 j hj
  have k := Nat.mul_le_mul (Nat.le_refl a3) (jj hj).2
  have : (2:Nat)^96 = 79228162514264337593543950335 + 1 := by decide
  rw [this]
  show _ - _ < _
  omega

noncomputable def gap : Nat → Nat → Nat → Nat → Nat → Nat → Nat → Bool
  | 0, s, c, e, s', c', e' => Nat.beq s s' && (Nat.beq c c' && Nat.beq e e')
  | n+1, s, c, e, s', c', e' => blkS (s / 268435456 + cA) (c * 31415926535897932384626433832795028841971 / 483183820800000000000000000000000000000000000000000000000) (s * 986960440108935861883449099987615113531326335810679828730412902785309749291164841 / 1739461754880000000000000000000000000000000000000000000000000000000000000000000000000000000000000000000000) (c * 31006276680299820175476315067101395202223233732751175908242522028129270372880832094154247735621616029500791833641900341611 / 9393093476352000000000000000000000000000000000000000000000000000000000000000000000000000000000000000000000000000000000000000000000000000000000000000000000) &&
     (blkC (c / 268435456 + cA) (s * 31415926535897932384626433832795028841971 / 483183820800000000000000000000000000000000000000000000000) (c * 986960440108935861883449099987615113531326335810679828730412902785309749291164841 / 1739461754880000000000000000000000000000000000000000000000000000000000000000000000000000000000000000000000) (s * 31006276680299820175476315067101395202223233732751175908242522028129270372880832094154247735621616029500791833641900341611 / 9393093476352000000000000000000000000000000000000000000000000000000000000000000000000000000000000000000000000000000000000000000000000000000000000000000000) &&
     (Nat.ble (s * 181245351227263067221829856) (c * 1267650587271237347273220868324) && (Nat.ble e 1099511627776 && gap n ((s * 1267650587271237347273220868324 + c * 181245351227263067221829856) / 1267650600228229401496703205376) ((c * 1267650587271237347273220868324 - s * 181245351227263067221829856) / 1267650600228229401496703205376) (e + e / 4096 + 8388608) s' c' e')))
end Mine
end
section
set_option maxRecDepth 100000
namespace Mine
theorem nat_floor {a d : Nat} (hd : 0 < d) : Ab (((a / d : Nat) : Rat) - (a : Rat) / (d : Rat)) 1 ∧ ((a / d : Nat) : Rat) ≤ (a : Rat) / (d : Rat) := by
  have h1 := Nat.div_add_mod a d
  have h2 := Nat.mod_lt a hd
  have k1 : d * (a / d) ≤ a := by omega
  have k2 : a ≤ d * (a / d) + d := by omega
  have r0 : (0:Rat) < (d : Rat) := by exact_mod_cast hd
  have r1 : (d : Rat) * ((a / d : Nat) : Rat) ≤ a := by exact_mod_cast k1
  have r2 : (a : Rat) ≤ d * ((a / d : Nat) : Rat) + d := by exact_mod_cast k2
  generalize ((a / d : Nat) : Rat) = q at *
  clear h1 h2 k1 k2
  generalize (a : Rat) = x at *
  generalize (d : Rat) = y at *
  have s1 := div_nn (show 0 ≤ x - y * q by grind) r0
  have s2 := div_nn (show 0 ≤ y * q + y - x by grind) r0
  have e1 : (x - y * q) / y = x / y - q := by grind
  have e2 : (y * q + y - x) / y = q + 1 - x / y := by grind
  rw [e1] at s1
  rw [e2] at s2
  unfold Ab
  refine ⟨⟨?_, ?_⟩, ?_⟩ <;> grind
theorem cst (n : Nat) (d : Nat) {q : Rat} (h : (n : Rat) / (d : Rat) = q) (c : Nat) : ((c * n : Nat) : Rat) / (d : Rat) = (c : Rat) * q := by
  rw [← h]; push_cast; grind
theorem q0 : ((1 : Nat) : Rat) / ((268435456 : Nat) : Rat) = 1 / 268435456 := by decide +kernel
theorem q1 : ((31415926535897932384626433832795028841971 : Nat) : Rat) / ((483183820800000000000000000000000000000000000000000000000 : Nat) : Rat) = 1 / 268435456 * hh := by decide +kernel
theorem q2 : ((986960440108935861883449099987615113531326335810679828730412902785309749291164841 : Nat) : Rat) / ((1739461754880000000000000000000000000000000000000000000000000000000000000000000000000000000000000000000000 : Nat) : Rat) = 1 / 268435456 * (hh * hh / 2) := by decide +kernel
theorem q3 : ((31006276680299820175476315067101395202223233732751175908242522028129270372880832094154247735621616029500791833641900341611 : Nat) : Rat) / ((9393093476352000000000000000000000000000000000000000000000000000000000000000000000000000000000000000000000000000000000000000000000000000000000000000000000 : Nat) : Rat) = 1 / 268435456 * (hh * hh * hh / 6) := by decide +kernel
theorem fl0 (c : Nat) : Ab (((c / 268435456 : Nat) : Rat) - (c : Rat) / 268435456) 1 := by
  have := (nat_floor (a := c) (d := 268435456) (by decide)).1
  have e := cst 1 268435456 q0 c
  rw [Nat.mul_one] at e
  rw [e] at this
  have e2 : (c : Rat) * (1 / 268435456) = (c : Rat) / 268435456 := by grind
  rw [e2] at this
  exact this
theorem fl1 (c : Nat) : Ab (((c * 31415926535897932384626433832795028841971 / 483183820800000000000000000000000000000000000000000000000 : Nat) : Rat) - (c : Rat) / 268435456 * hh) 1 := by
  have := (nat_floor (a := c * 31415926535897932384626433832795028841971) (d := 483183820800000000000000000000000000000000000000000000000) (by decide)).1
  rw [cst _ _ q1] at this
  have e2 : (c : Rat) * (1 / 268435456 * hh) = (c : Rat) / 268435456 * hh := by grind
  rw [e2] at this
  exact this
theorem fl2 (c : Nat) : Ab (((c * 986960440108935861883449099987615113531326335810679828730412902785309749291164841 / 1739461754880000000000000000000000000000000000000000000000000000000000000000000000000000000000000000000000 : Nat) : Rat) - (c : Rat) / 268435456 * (hh * hh / 2)) 1 := by
  have := (nat_floor (a := c * 986960440108935861883449099987615113531326335810679828730412902785309749291164841) (d := 1739461754880000000000000000000000000000000000000000000000000000000000000000000000000000000000000000000000) (by decide)).1
  rw [cst _ _ q2] at this
  have e2 : (c : Rat) * (1 / 268435456 * (hh * hh / 2)) = (c : Rat) / 268435456 * (hh * hh / 2) := by grind
  rw [e2] at this
  exact this
theorem fl3 (c : Nat) : Ab (((c * 31006276680299820175476315067101395202223233732751175908242522028129270372880832094154247735621616029500791833641900341611 / 9393093476352000000000000000000000000000000000000000000000000000000000000000000000000000000000000000000000000000000000000000000000000000000000000000000000 : Nat) : Rat) - (c : Rat) / 268435456 * (hh * hh * hh / 6)) 1 := by
  have := (nat_floor (a := c * 31006276680299820175476315067101395202223233732751175908242522028129270372880832094154247735621616029500791833641900341611) (d := 9393093476352000000000000000000000000000000000000000000000000000000000000000000000000000000000000000000000000000000000000000000000000000000000000000000000) (by decide)).1
  rw [cst _ _ q3] at this
  have e2 : (c : Rat) * (1 / 268435456 * (hh * hh * hh / 6)) = (c : Rat) / 268435456 * (hh * hh * hh / 6) := by grind
  rw [e2] at this
  exact this

theorem lane_coef {σ γ A0 A1 A2 A3 J : Rat} (t0 : Ab (A0 - σ / 268435456) 1) (t1 : Ab (A1 - γ / 268435456 * hh) 1) (t2 : Ab (A2 - σ / 268435456 * (hh * hh / 2)) 1) (t3 : Ab (A3 - γ / 268435456 * (hh * hh * hh / 6)) 1) (hJ : Ab J 8192) :
    Ab (A0 + A1 * J - A2 * (J * J) - A3 * (J * J * J) - (σ / 268435456 * (1 - (J * hh) * (J * hh) / 2) + γ / 268435456 * (J * hh - (J * hh) * (J * hh) * (J * hh) / 6))) 1099511627776 := by
  have h := ((t0.add (t1.mul hJ)).sub (t2.mul (hJ.mul hJ))).sub (t3.mul ((hJ.mul hJ).mul hJ))
  have e : A0 - σ / 268435456 + (A1 - γ / 268435456 * hh) * J - (A2 - σ / 268435456 * (hh * hh / 2)) * (J * J) - (A3 - γ / 268435456 * (hh * hh * hh / 6)) * (J * J * J) =
    A0 + A1 * J - A2 * (J * J) - A3 * (J * J * J) - (σ / 268435456 * (1 - (J * hh) * (J * hh) / 2) + γ / 268435456 * (J * hh - (J * hh) * (J * hh) * (J * hh) / 6)) := by grind
  rw [e] at h
  exact h.mono (by decide +kernel)
theorem lane_num : (2:Rat) * (1099511627776 / 268435456) + 1099511627776 + 4722366482869645213696000000 * (2 * (1/10^16) + 2 * (1/10^16) + 1/10^65) ≤ 4722366482869645213696/10^9 := by decide +kernel
theorem lane_abs {σ γ S C κ ρ Cy Sy V u e : Rat} (h1 : Ab (σ - 1267650600228229401496703205376000000 * S) e) (h2 : Ab (γ - 1267650600228229401496703205376000000 * C) e) (hκ : Ab κ 1) (hρ : Ab ρ 1) (hc : Ab (Cy - κ) (1/10^16)) (hs : Ab (Sy - ρ) (1/10^16)) (hS : Ab S 2) (hC : Ab C 2)
    (hV : Ab (V - (S * Cy + C * Sy)) (1/10^65)) (hu : Ab (u - (σ / 268435456 * κ + γ / 268435456 * ρ)) 1099511627776) (he : e ≤ 1099511627776) : Ab (u - 4722366482869645213696000000 * V) (4722366482869645213696/10^9) := by
  have k1 := ((h1.mono he).mul hκ).div (c := 268435456) (by decide +kernel)
  have k2 := ((h2.mono he).mul hρ).div (c := 268435456) (by decide +kernel)
  have k3 := ((hS.mul hc).add (hC.mul hs)).add hV
  have k4 : Ab (4722366482869645213696000000 : Rat) 4722366482869645213696000000 := ⟨by decide +kernel, by decide +kernel⟩
  have h := ((k1.add k2).add hu).sub (k4.mul k3)
  have e : (σ - 1267650600228229401496703205376000000 * S) * κ / 268435456 + (γ - 1267650600228229401496703205376000000 * C) * ρ / 268435456 + (u - (σ / 268435456 * κ + γ / 268435456 * ρ)) - 4722366482869645213696000000 * (S * (Cy - κ) + C * (Sy - ρ) + (V - (S * Cy + C * Sy))) = u - 4722366482869645213696000000 * V := by grind
  rw [e] at h
  exact h.mono (by have := lane_num; grind)

/-- v, a million times, is not near a half -/
noncomputable def Gp (v : Rat) : Prop := ∃ k : Int, (k : Rat) - 1/2 + 1/10^9 ≤ 1000000 * v ∧ 1000000 * v ≤ k + 1/2 - 1/10^9
theorem gp_num : (35184372088832 : Rat) / 4722366482869645213696 / 2 ≥ 2 / 10^9 := by decide +kernel
theorem gp_of {w : Nat} {u V : Rat} (hw : 35184372088832 ≤ w % 4722366482869645213696) (hu : (w : Rat) = u + 2361183259027008651264) (h : Ab (u - 4722366482869645213696000000 * V) (4722366482869645213696/10^9)) : Gp V := by
  have h1 := Nat.div_add_mod w 4722366482869645213696
  have h2 := Nat.mod_lt w (show 0 < 4722366482869645213696 by decide)
  have r : ((4722366482869645213696 * (w / 4722366482869645213696) + w % 4722366482869645213696 : Nat) : Rat) = w := by rw [h1]
  have r1 : ((35184372088832 : Nat) : Rat) ≤ ((w % 4722366482869645213696 : Nat) : Rat) := Rat.natCast_le_natCast.mpr hw
  have r2 : ((w % 4722366482869645213696 : Nat) : Rat) ≤ ((4722366482869645213696 : Nat) : Rat) := Rat.natCast_le_natCast.mpr (Nat.le_of_lt h2)
  rw [Rat.natCast_add, Rat.natCast_mul] at r
  rw [show ((35184372088832 : Nat) : Rat) = 35184372088832 by decide +kernel] at r1
  rw [show ((4722366482869645213696 : Nat) : Rat) = 4722366482869645213696 by decide +kernel] at r2 r
  refine ⟨((w / 4722366482869645213696 : Nat) : Int), ?_⟩
  rw [Rat.intCast_natCast]
  generalize ((w / 4722366482869645213696 : Nat) : Rat) = k at *
  generalize ((w % 4722366482869645213696 : Nat) : Rat) = m at *
  clear h1 h2 hw
  generalize (w : Rat) = x at *
  unfold Ab at h
  constructor <;> grind
end Mine
end
section
set_option maxRecDepth 100000
namespace Mine
theorem cA_q : ((cA : Nat) : Rat) = 2361183259027008651264 := by decide +kernel
theorem y_num : 0 ≤ 8192 * hh ∧ 8192 * hh ≤ 1 ∧ (8192 * hh) * (8192 * hh) * (8192 * hh) * (8192 * hh) / 8 ≤ 1/10^16 ∧ (8192 * hh) * (8192 * hh) * (8192 * hh) * (8192 * hh) * (8192 * hh) / 40 ≤ 1/10^16 := by decide +kernel
theorem small_j {j : Nat} (hj : j < 8192) : Ab (j : Rat) 8192 ∧ Ab ((j : Rat) * hh) (8192 * hh) ∧ 0 ≤ (j : Rat) * hh := by
  have k : ((j : Nat) : Rat) ≤ ((8192 : Nat) : Rat) := Rat.natCast_le_natCast.mpr (by omega)
  have k0 : ((0 : Nat) : Rat) ≤ ((j : Nat) : Rat) := Rat.natCast_le_natCast.mpr (by omega)
  rw [show ((8192 : Nat) : Rat) = 8192 by decide +kernel] at k
  rw [show ((0 : Nat) : Rat) = 0 by decide +kernel] at k0
  have h := hh_pos.1
  have h1 := mul_nn k0 h
  have h2 := mul_nn (show 0 ≤ 8192 - (j : Rat) by grind) h
  unfold Ab
  refine ⟨⟨?_, ?_⟩, ⟨?_, ?_⟩, h1⟩ <;> grind
theorem fine_j {j : Nat} (hj : j < 8192) : Ab (Ca (j : Int) - (1 - ((j:Rat) * hh) * ((j:Rat) * hh) / 2)) (1/10^16) ∧ Ab (Sa (j : Int) - ((j:Rat) * hh - ((j:Rat) * hh) * ((j:Rat) * hh) * ((j:Rat) * hh) / 6)) (1/10^16) := by
  have h := (small_j hj).2.1
  have n := y_num
  unfold Ca Sa
  rw [Rat.intCast_natCast]
  exact ⟨(fineC n.1 n.2.1 h).mono n.2.2.1, (fineS n.1 n.2.1 h).mono n.2.2.2⟩
theorem kr_j {j : Nat} (hj : j < 8192) : Ab (1 - ((j:Rat) * hh) * ((j:Rat) * hh) / 2) 1 ∧ Ab ((j:Rat) * hh - ((j:Rat) * hh) * ((j:Rat) * hh) * ((j:Rat) * hh) / 6) 1 := by
  have h := small_j hj
  have n := y_num
  have y0 := h.2.2
  have y1 : (j:Rat) * hh ≤ 1 := by have := h.2.1; unfold Ab at this; grind
  generalize (j:Rat) * hh = y at *
  have a := mul_nn y0 y0
  have b := mul_nn y0 (show 0 ≤ 1 - y by grind)
  have c := mul_nn a y0
  have d := mul_nn a (show 0 ≤ 1 - y by grind)
  unfold Ab
  refine ⟨⟨?_, ?_⟩, ⟨?_, ?_⟩⟩ <;> grind

noncomputable def St (i s c e : Nat) : Prop := Ab ((s : Rat) - 1267650600228229401496703205376000000 * Sa (8192 * (i : Int))) (e : Rat) ∧ Ab ((c : Rat) - 1267650600228229401496703205376000000 * Ca (8192 * (i : Int))) (e : Rat)
theorem e40 {e : Nat} (he : e ≤ 1099511627776) : (e : Rat) ≤ 1099511627776 := by
  have k : ((e : Nat) : Rat) ≤ ((1099511627776 : Nat) : Rat) := Rat.natCast_le_natCast.mpr he
  rw [show ((1099511627776 : Nat) : Rat) = 1099511627776 by decide +kernel] at k
  exact k
theorem blkS_gp {i s c e a0 a1 a2 a3 : Nat} (hi : i ≤ 40000) (h : St i s c e) (he : e ≤ 1099511627776) (t0 : Ab ((a0 : Rat) - (s : Rat) / 268435456) 1) (t1 : Ab ((a1 : Rat) - (c : Rat) / 268435456 * hh) 1) (t2 : Ab ((a2 : Rat) - (s : Rat) / 268435456 * (hh * hh / 2)) 1) (t3 : Ab ((a3 : Rat) - (c : Rat) / 268435456 * (hh * hh * hh / 6)) 1) (b : blkS (a0 + cA) a1 a2 a3 = true) (j : Nat) (hj : j < 8192) :
    Gp (Sa (8192 * (i : Int) + (j : Int))) := by
  obtain ⟨p1, p2⟩ := blkS_ok b j hj
  clear b
  have f := fine_j hj
  have kr := kr_j hj
  have hV := rotS (a := 8192 * (i : Int)) (b := (j : Int)) (by omega) (by omega) (by omega) (by omega)
  have bS := bdSa (a := 8192 * (i : Int)) (by omega) (by omega)
  have bC := bdCa (a := 8192 * (i : Int)) (by omega) (by omega)
  have L := lane_abs h.1 h.2 kr.1 kr.2 f.1 f.2 bS bC hV (lane_coef t0 t1 t2 t3 (small_j hj).1) (e40 he)
  refine gp_of p2 ?_ L
  have q : a0 + cA + a1 * j - (a2 * (j * j) + a3 * (j * j * j)) + (a2 * (j * j) + a3 * (j * j * j)) = a0 + cA + a1 * j := Nat.sub_add_cancel p1
  generalize a0 + cA + a1 * j - (a2 * (j * j) + a3 * (j * j * j)) = w at *
  have q' : ((w + (a2 * (j * j) + a3 * (j * j * j)) : Nat) : Rat) = ((a0 + cA + a1 * j : Nat) : Rat) := by rw [q]
  simp only [Rat.natCast_add, Rat.natCast_mul, cA_q] at q'
  grind
theorem blkC_gp {i s c e a0 a1 a2 a3 : Nat} (hi : i ≤ 40000) (h : St i s c e) (he : e ≤ 1099511627776) (t0 : Ab ((a0 : Rat) - (c : Rat) / 268435456) 1) (t1 : Ab ((a1 : Rat) - (s : Rat) / 268435456 * hh) 1) (t2 : Ab ((a2 : Rat) - (c : Rat) / 268435456 * (hh * hh / 2)) 1) (t3 : Ab ((a3 : Rat) - (s : Rat) / 268435456 * (hh * hh * hh / 6)) 1) (b : blkC (a0 + cA) a1 a2 a3 = true) (j : Nat) (hj : j < 8192) :
    Gp (Ca (8192 * (i : Int) + (j : Int))) := by
  obtain ⟨p1, p2⟩ := blkC_ok b j hj
  clear b
  have f := fine_j hj
  have kr := kr_j hj
  have hV := rotC (a := 8192 * (i : Int)) (b := (j : Int)) (by omega) (by omega) (by omega) (by omega)
  have bS := bdSa (a := 8192 * (i : Int)) (by omega) (by omega)
  have bC := bdCa (a := 8192 * (i : Int)) (by omega) (by omega)
  have t1' : Ab (-(a1 : Rat) - (-(s : Rat)) / 268435456 * hh) 1 := by
    have := t1.neg
    have e : -((a1 : Rat) - (s : Rat) / 268435456 * hh) = -(a1 : Rat) - (-(s : Rat)) / 268435456 * hh := by grind
    rw [e] at this; exact this
  have t3' : Ab (-(a3 : Rat) - (-(s : Rat)) / 268435456 * (hh * hh * hh / 6)) 1 := by
    have := t3.neg
    have e : -((a3 : Rat) - (s : Rat) / 268435456 * (hh * hh * hh / 6)) = -(a3 : Rat) - (-(s : Rat)) / 268435456 * (hh * hh * hh / 6) := by grind
    rw [e] at this; exact this
  have h1' : Ab (-(s : Rat) - 1267650600228229401496703205376000000 * (-Sa (8192 * (i : Int)))) (e : Rat) := by
    have := h.1.neg
    have e : -((s : Rat) - 1267650600228229401496703205376000000 * Sa (8192 * (i : Int))) = -(s : Rat) - 1267650600228229401496703205376000000 * (-Sa (8192 * (i : Int))) := by grind
    rw [e] at this; exact this
  have hV' : Ab (Ca (8192 * (i : Int) + (j : Int)) - (Ca (8192 * (i : Int)) * Ca (j : Int) + (-Sa (8192 * (i : Int))) * Sa (j : Int))) (1/10^65) := by
    have e : Ca (8192 * (i : Int)) * Ca (j : Int) - Sa (8192 * (i : Int)) * Sa (j : Int) = Ca (8192 * (i : Int)) * Ca (j : Int) + (-Sa (8192 * (i : Int))) * Sa (j : Int) := by grind
    rw [← e]; exact hV
  have L := lane_abs h.2 h1' kr.1 kr.2 f.1 f.2 bC bS.neg hV' (lane_coef t0 t1' t2 t3' (small_j hj).1) (e40 he)
  refine gp_of p2 ?_ L
  have q : a0 + cA + a3 * (j * j * j) - (a1 * j + a2 * (j * j)) + (a1 * j + a2 * (j * j)) = a0 + cA + a3 * (j * j * j) := Nat.sub_add_cancel p1
  generalize a0 + cA + a3 * (j * j * j) - (a1 * j + a2 * (j * j)) = w at *
  have q' : ((w + (a1 * j + a2 * (j * j)) : Nat) : Rat) = ((a0 + cA + a3 * (j * j * j) : Nat) : Rat) := by rw [q]
  simp only [Rat.natCast_add, Rat.natCast_mul, cA_q] at q'
  grind

theorem CNq : Ab ((1267650587271237347273220868324 : Rat) / 1267650600228229401496703205376 - Ca 8192) (1/1267650600228229401496703205376) := by unfold Ab; decide +kernel
theorem SNq : Ab ((181245351227263067221829856 : Rat) / 1267650600228229401496703205376 - Sa 8192) (1/1267650600228229401496703205376) := by unfold Ab; decide +kernel
theorem C1q : Ab (Ca 8192) 1 ∧ Ab (Sa 8192) (1/5000) := by unfold Ab; decide +kernel
theorem st_num : (2 * 1267650600228229401496703205376000000 + 1099511627776 : Rat) * (1/1267650600228229401496703205376) + (2 * 1267650600228229401496703205376000000 + 1099511627776) * (1/1267650600228229401496703205376) + 1 + 1267650600228229401496703205376000000 * (1/10^65) + 1 ≤ 8388608 := by decide +kernel
theorem rot_close {s c S C V t : Rat} {e : Rat} (hs : Ab (s - 1267650600228229401496703205376000000 * S) e) (hc : Ab (c - 1267650600228229401496703205376000000 * C) e) (he : e ≤ 1099511627776) (bS : Ab S 2) (bC : Ab C 2) (hV : Ab (V - (S * Ca 8192 + C * Sa 8192)) (1/10^65))
    (ht : Ab (t - (s * (1267650587271237347273220868324 / 1267650600228229401496703205376) + c * (181245351227263067221829856 / 1267650600228229401496703205376))) 1) : Ab (t - 1267650600228229401496703205376000000 * V) (e + e / 5000 + 8388608 - 1) := by
  have k4 : Ab (1267650600228229401496703205376000000 : Rat) 1267650600228229401496703205376000000 := ⟨by decide +kernel, by decide +kernel⟩
  have s3 : Ab s (2 * 1267650600228229401496703205376000000 + 1099511627776) := by
    have := (hs.mono he).add (k4.mul bS)
    have e : s - 1267650600228229401496703205376000000 * S + 1267650600228229401496703205376000000 * S = s := by grind
    rw [e] at this
    exact this.mono (by decide +kernel)
  have c3 : Ab c (2 * 1267650600228229401496703205376000000 + 1099511627776) := by
    have := (hc.mono he).add (k4.mul bC)
    have e : c - 1267650600228229401496703205376000000 * C + 1267650600228229401496703205376000000 * C = c := by grind
    rw [e] at this
    exact this.mono (by decide +kernel)
  have h := ((((hs.mul C1q.1).add (hc.mul C1q.2)).add ((s3.mul CNq).add (c3.mul SNq))).add ht).sub (k4.mul hV)
  have e : (s - 1267650600228229401496703205376000000 * S) * Ca 8192 + (c - 1267650600228229401496703205376000000 * C) * Sa 8192 + (s * (1267650587271237347273220868324 / 1267650600228229401496703205376 - Ca 8192) + c * (181245351227263067221829856 / 1267650600228229401496703205376 - Sa 8192)) + (t - (s * (1267650587271237347273220868324 / 1267650600228229401496703205376) + c * (181245351227263067221829856 / 1267650600228229401496703205376))) - 1267650600228229401496703205376000000 * (V - (S * Ca 8192 + C * Sa 8192)) = t - 1267650600228229401496703205376000000 * V := by grind
  rw [e] at h
  have n := st_num
  exact h.mono (by grind)
theorem e_next (e : Nat) : (e : Rat) + (e : Rat) / 5000 + 8388608 - 1 ≤ ((e + e / 4096 + 8388608 : Nat) : Rat) := by
  have f := (nat_floor (a := e) (d := 4096) (by decide)).1
  have k0 : ((0 : Nat) : Rat) ≤ ((e : Nat) : Rat) := Rat.natCast_le_natCast.mpr (by omega)
  rw [show ((0 : Nat) : Rat) = 0 by decide +kernel] at k0
  rw [Rat.natCast_add, Rat.natCast_add, show ((8388608 : Nat) : Rat) = 8388608 by decide +kernel]
  rw [show ((4096 : Nat) : Rat) = 4096 by decide +kernel] at f
  generalize ((e / 4096 : Nat) : Rat) = x at *
  generalize (e : Rat) = y at *
  unfold Ab at f
  grind
theorem st_next' {i s c e : Nat} (hi : i ≤ 40000) (h : St i s c e) (he : e ≤ 1099511627776) (hb : s * 181245351227263067221829856 ≤ c * 1267650587271237347273220868324) : St (i+1) ((s * 1267650587271237347273220868324 + c * 181245351227263067221829856) / 1267650600228229401496703205376) ((c * 1267650587271237347273220868324 - s * 181245351227263067221829856) / 1267650600228229401496703205376) (e + e / 4096 + 8388608) := by
  have bS := bdSa (a := 8192 * (i : Int)) (by omega) (by omega)
  have bC := bdCa (a := 8192 * (i : Int)) (by omega) (by omega)
  have v1 := rotS (a := 8192 * (i : Int)) (b := 8192) (by omega) (by omega) (by omega) (by omega)
  have v2 := rotC (a := 8192 * (i : Int)) (b := 8192) (by omega) (by omega) (by omega) (by omega)
  have ei : 8192 * (i : Int) + 8192 = 8192 * ((i + 1 : Nat) : Int) := by push_cast; omega
  rw [ei] at v1 v2
  have f1 := (nat_floor (a := s * 1267650587271237347273220868324 + c * 181245351227263067221829856) (d := 1267650600228229401496703205376) (by decide)).1
  have f2 := (nat_floor (a := c * 1267650587271237347273220868324 - s * 181245351227263067221829856) (d := 1267650600228229401496703205376) (by decide)).1
  have e1 : ((s * 1267650587271237347273220868324 + c * 181245351227263067221829856 : Nat) : Rat) / ((1267650600228229401496703205376 : Nat) : Rat) = (s : Rat) * (1267650587271237347273220868324 / 1267650600228229401496703205376) + (c : Rat) * (181245351227263067221829856 / 1267650600228229401496703205376) := by
    rw [Rat.natCast_add, Rat.natCast_mul, Rat.natCast_mul, show ((1267650600228229401496703205376 : Nat) : Rat) = 1267650600228229401496703205376 by decide +kernel, show ((1267650587271237347273220868324 : Nat) : Rat) = 1267650587271237347273220868324 by decide +kernel, show ((181245351227263067221829856 : Nat) : Rat) = 181245351227263067221829856 by decide +kernel]
    grind
  have e2 : ((c * 1267650587271237347273220868324 - s * 181245351227263067221829856 : Nat) : Rat) / ((1267650600228229401496703205376 : Nat) : Rat) = (c : Rat) * (1267650587271237347273220868324 / 1267650600228229401496703205376) + (-(s : Rat)) * (181245351227263067221829856 / 1267650600228229401496703205376) := by
    have q : c * 1267650587271237347273220868324 - s * 181245351227263067221829856 + s * 181245351227263067221829856 = c * 1267650587271237347273220868324 := Nat.sub_add_cancel hb
    generalize c * 1267650587271237347273220868324 - s * 181245351227263067221829856 = w at *
    have q' : ((w + s * 181245351227263067221829856 : Nat) : Rat) = ((c * 1267650587271237347273220868324 : Nat) : Rat) := by rw [q]
    rw [Rat.natCast_add, Rat.natCast_mul, Rat.natCast_mul, show ((1267650587271237347273220868324 : Nat) : Rat) = 1267650587271237347273220868324 by decide +kernel, show ((181245351227263067221829856 : Nat) : Rat) = 181245351227263067221829856 by decide +kernel] at q'
    rw [show ((1267650600228229401496703205376 : Nat) : Rat) = 1267650600228229401496703205376 by decide +kernel]
    grind
  rw [e1] at f1
  rw [e2] at f2
  have h1' : Ab (-(s : Rat) - 1267650600228229401496703205376000000 * (-Sa (8192 * (i : Int)))) (e : Rat) := by
    have := h.1.neg
    have e : -((s : Rat) - 1267650600228229401496703205376000000 * Sa (8192 * (i : Int))) = -(s : Rat) - 1267650600228229401496703205376000000 * (-Sa (8192 * (i : Int))) := by grind
    rw [e] at this; exact this
  have v2' : Ab (Ca (8192 * ((i + 1 : Nat) : Int)) - (Ca (8192 * (i : Int)) * Ca 8192 + (-Sa (8192 * (i : Int))) * Sa 8192)) (1/10^65) := by
    have e : Ca (8192 * (i : Int)) * Ca 8192 - Sa (8192 * (i : Int)) * Sa 8192 = Ca (8192 * (i : Int)) * Ca 8192 + (-Sa (8192 * (i : Int))) * Sa 8192 := by grind
    rw [← e]; exact v2
  exact ⟨(rot_close h.1 h.2 (e40 he) bS bC v1 f1).mono (e_next e), (rot_close h.2 h1' (e40 he) bC bS.neg v2' f2).mono (e_next e)⟩
theorem gap_ok (n : Nat) : ∀ (i s c e s' c' e' : Nat), gap n s c e s' c' e' = true → i + n ≤ 40000 → St i s c e → St (i + n) s' c' e' ∧ ∀ b : Nat, 8192 * i ≤ b → b < 8192 * (i + n) → Gp (Sa (b : Int)) ∧ Gp (Ca (b : Int)) := by
  induction n with
  | zero =>
    intro i s c e s' c' e' h hi st
    unfold gap at h
    rw [Bool.and_eq_true, Bool.and_eq_true] at h
    obtain ⟨h1, h2, h3⟩ := h
    rw [← Nat.eq_of_beq_eq_true h1, ← Nat.eq_of_beq_eq_true h2, ← Nat.eq_of_beq_eq_true h3]
    exact ⟨st, fun b h1 h2 => by omega⟩
  | succ n ih =>
    intro i s c e s' c' e' h hi st
    unfold gap at h
    rw [Bool.and_eq_true, Bool.and_eq_true, Bool.and_eq_true, Bool.and_eq_true] at h
    obtain ⟨h1, h2, h3, h4, h5⟩ := h
    have he := Nat.le_of_ble_eq_true h4
    have hb := Nat.le_of_ble_eq_true h3
    obtain ⟨r1, r2⟩ := ih (i+1) _ _ _ _ _ _ h5 (by omega) (st_next' (by omega) st he hb)
    rw [show i + (n + 1) = i + 1 + n by omega]
    refine ⟨r1, fun b hb1 hb2 => ?_⟩
    rcases Nat.lt_or_ge b (8192 * (i + 1)) with hlt | hge
    · have e : (b : Int) = 8192 * (i : Int) + ((b - 8192 * i : Nat) : Int) := by omega
      rw [e]
      exact ⟨blkS_gp (by omega) st he (fl0 s) (fl1 c) (fl2 s) (fl3 c) h1 _ (by omega), blkC_gp (by omega) st he (fl0 c) (fl1 s) (fl2 c) (fl3 s) h2 _ (by omega)⟩
    · exact r2 b hge hb2
noncomputable def Gr (i s c e : Nat) : Prop := St i s c e ∧ ∀ b : Nat, b < 8192 * i → Gp (Sa (b : Int)) ∧ Gp (Ca (b : Int))
theorem gap_join {i n k s c e s' c' e' : Nat} (h : gap n s c e s' c' e' = true) (r : Gr i s c e) (hk : i + n = k) (hi : k ≤ 40000) : Gr k s' c' e' := by
  subst hk
  obtain ⟨a, b⟩ := gap_ok n i s c e s' c' e' h hi r.1
  refine ⟨a, fun x hx => ?_⟩
  rcases Nat.lt_or_ge x (8192 * i) with h1 | h1
  · exact r.2 x h1
  · exact b x h1 hx
theorem st_zero : St 0 0 1267650600228229401496703205376000000 0 := by
  have z : ((8192 * ((0 : Nat) : Int) : Int) : Rat) * hh = 0 := by decide +kernel
  unfold St Sa Ca
  rw [z, Sn_zero, Cn_zero]
  unfold Ab
  decide +kernel
theorem gr_zero : Gr 0 0 1267650600228229401496703205376000000 0 := ⟨st_zero, fun b h => by omega⟩
end Mine
end
section
set_option maxRecDepth 100000
namespace Mine
theorem gp0 : gap 110 0 1267650600228229401496703205376000000 0 19936166795444058804002281173224200 1267493823855759270858729151445510738 935133210 = true := by decide +kernel
theorem gp110 : gap 110 19936166795444058804002281173224200 1267493823855759270858729151445510738 935133210 39867402389955326717575022885549450 1267023533516906567424475267572853254 1895716959 = true := by decide +kernel
theorem gp220 : gap 110 39867402389955326717575022885549450 1267023533516906567424475267572853254 1895716959 59788776802331108864270995632859462 1266239845537752499692352560361375911 2882443926 = true := by decide +kernel
theorem gp330 : gap 110 59788776802331108864270995632859462 1266239845537752499692352560361375911 2882443926 79695362490527202763530284087861624 1265142953763128597898772790397613131 3896025610 = true := by decide +kernel
theorem gp440 : gap 110 79695362490527202763530284087861624 1265142953763128597898772790397613131 3896025610 99582235570482970073684490533428484 1263733129508669291433530026958067457 4937192891 = true := by decide +kernel
theorem gp550 : gap 110 99582235570482970073684490533428484 1263733129508669291433530026958067457 4937192891 119444477034041607921285744461776792 1262010721493702121722414199218909802 6006696537 = true := by decide +kernel
theorem gp660 : gap 110 119444477034041607921285744461776792 1262010721493702121722414199218909802 6006696537 139277173965664367843918045540196675 1259976155754992190149493421574909836 7105307752 = true := by decide +kernel
theorem gp770 : gap 110 139277173965664367843918045540196675 1259976155754992190149493421574909836 7105307752 159075420757637768690105909188994141 1257629935541362176286934202030422057 8233818725 = true := by decide +kernel
theorem gp880 : gap 110 159075420757637768690105909188994141 1257629935541362176286934202030422057 8233818725 178834320323473222577129820609462659 1254972641189213992118393087081033549 9393043210 = true := by decide +kernel
theorem gp990 : gap 110 178834320323473222577129820609462659 1254972641189213992118393087081033549 9393043210 198548985309198940113288327725937765 1252004929978982861912843275848000650 10583817098 = true := by decide +kernel
theorem gp1100 : gap 110 198548985309198940113288327725937765 1252004929978982861912843275848000650 10583817098 218214539302244502434821336336123433 1248727535972559333760723417217852682 11806999045 = true := by decide +kernel
theorem gp1210 : gap 110 218214539302244502434821336336123433 1248727535972559333760723417217852682 11806999045 237826118037619083060374213373399760 1245141269831719436356925119032321024 13063471060 = true := by decide +kernel
theorem gp1320 : gap 110 237826118037619083060374213373399760 1245141269831719436356925119032321024 13063471060 257378870601084971980252736286947117 1241247018617607892240954901499412008 14354139171 = true := by decide +kernel
theorem gp1430 : gap 110 257378870601084971980252736286947117 1241247018617607892240954901499412008 14354139171 276867960629028797608215436842919183 1237045745571323985221660010015135417 15679934050 = true := by decide +kernel
theorem gp1540 : gap 110 276867960629028797608215436842919183 1237045745571323985221660010015135417 15679934050 296288567504733659046339729794902479 1232538489875664353962988005178825449 17041811704 = true := by decide +kernel
theorem gp1650 : gap 110 296288567504733659046339729794902479 1232538489875664353962988005178825449 17041811704 315635887550756271346540680404822239 1227726366398081644532184186694127034 18440754168 = true := by decide +kernel
theorem gp1760 : gap 110 315635887550756271346540680404822239 1227726366398081644532184186694127034 18440754168 334905135217114189875417649813728529 1222610565414922600959765955734172834 19877770201 = true := by decide +kernel
theorem gp1870 : gap 110 334905135217114189875417649813728529 1222610565414922600959765955734172834 19877770201 354091544264989216263952140458895697 1217192352317013803382302063343701990 21353895997 = true := by decide +kernel
theorem gp1980 : gap 110 354091544264989216263952140458895697 1217192352317013803382302063343701990 21353895997 373190368945654197493833142335009669 1211473067296667876989110095853711889 22870195976 = true := by decide +kernel
theorem gp2090 : gap 110 373190368945654197493833142335009669 1211473067296667876989110095853711889 22870195976 392196885174331611163516179914825125 1205454125016187590631283460108763141 24427763513 = true := by decide +kernel
theorem gp2200 : gap 110 392196885174331611163516179914825125 1205454125016187590631283460108763141 24427763513 411106391698693583597287786664830711 1199137014257949840439240953585774469 26027721748 = true := by decide +kernel
theorem gp2310 : gap 110 411106391698693583597287786664830711 1199137014257949840439240953585774469 26027721748 429914211261714312899525965412987001 1192523297556156070001265762520820356 27671224379 = true := by decide +kernel
theorem gp2420 : gap 110 429914211261714312899525965412987001 1192523297556156070001265762520820356 27671224379 448615691758587265986172671568318969 1185614610810340213453291071185573928 29359456509 = true := by decide +kernel
theorem gp2530 : gap 110 448615691758587265986172671568318969 1185614610810340213453291071185573928 29359456509 467206207387420986700636585404226813 1178412662880729760097816411412588733 31093635496 = true := by decide +kernel
theorem gp2640 : gap 110 467206207387420986700636585404226813 1178412662880729760097816411412588733 31093635496 485681159793428890978795748823363950 1170919235165560027791195282003744667 32875011828 = true := by decide +kernel
theorem gp2750 : gap 110 485681159793428890978795748823363950 1170919235165560027791195282003744667 32875011828 504035979206330034286834406671249180 1163136181160446196203362164662542728 34704870033 = true := by decide +kernel
theorem gp2860 : gap 110 504035979206330034286834406671249180 1163136181160446196203362164662542728 34704870033 522266125570679515818277184165011113 1155065425999922089058231113538120990 36584529583 = true := by decide +kernel
theorem gp2970 : gap 110 522266125570679515818277184165011113 1155065425999922089058231113538120990 36584529583 540367089668848932787411775044551338 1146708965981259105508760478581493558 38515345868 = true := by decide +kernel
theorem gp3080 : gap 110 540367089668848932787411775044551338 1146708965981259105508760478581493558 38515345868 558334394236379116162741227883275842 1138068868070683083796969065149940630 40498711171 = true := by decide +kernel
theorem gp3190 : gap 110 558334394236379116162741227883275842 1138068868070683083796969065149940630 40498711171 576163595069429265896495710217314274 1129147269392111234211876182958626870 42536055666 = true := by decide +kernel
theorem gp3300 : gap 110 576163595069429265896495710217314274 1129147269392111234211876182958626870 42536055666 593850282124048558657883931588198707 1119946376698535602010495828220227508 44628848453 = true := by decide +kernel
theorem gp3410 : gap 110 593850282124048558657883931588198707 1119946376698535602010495828220227508 44628848453 611390080606998323785119899701328670 1110468465826183813339190464683046552 46778598599 = true := by decide +kernel
theorem gp3520 : gap 110 611390080606998323785119899701328670 1110468465826183813339190464683046552 46778598599 628778652057854973134005711187309876 1100715881131592117223166401442758846 48986856257 = true := by decide +kernel
theorem gp3630 : gap 110 628778652057854973134005711187309876 1100715881131592117223166401442758846 48986856257 646011695422126027202034395299431429 1090691034911729963326954190100897890 51255213770 = true := by decide +kernel
theorem gp3740 : gap 110 646011695422126027202034395299431429 1090691034911729963326954190100897890 51255213770 663084948115113802813139471183081819 1080396406807319547382907702615812973 53585306806 = true := by decide +kernel
theorem gp3850 : gap 110 663084948115113802813139471183081819 1080396406807319547382907702615812973 53585306806 679994187076263616209525114326889655 1069834543189497912901137457923750014 55978815565 = true := by decide +kernel
theorem gp3960 : gap 110 679994187076263616209525114326889655 1069834543189497912901137457923750014 55978815565 696735229813735709047388155333504493 1059008056529973317984705612214055341 58437465964 = true := by decide +kernel
theorem gp4070 : gap 110 696735229813735709047388155333504493 1059008056529973317984705612214055341 58437465964 713303935438942522950616305026317091 1047919624754831658759219820260290892 60963030891 = true := by decide +kernel
theorem gp4180 : gap 110 713303935438942522950616305026317091 1047919624754831658759219820260290892 60963030891 729696205690795430342586016357326168 1036571990582152785076320734388750578 63557331489 = true := by decide +kernel
theorem gp4290 : gap 110 729696205690795430342586016357326168 1036571990582152785076320734388750578 63557331489 745907985949407574637050456402421940 1024967960843600548765644655710477188 66222238464 = true := by decide +kernel
theorem gp4400 : gap 110 745907985949407574637050456402421940 1024967960843600548765644655710477188 66222238464 761935266239002080895209427515589590 1013110405790154388799119240910191631 68959673448 = true := by decide +kernel
theorem gp4510 : gap 110 761935266239002080895209427515589590 1013110405790154388799119240910191631 68959673448 777774082219777568102294787544360532 1001002258382154180314400687952326844 71771610355 = true := by decide +kernel
theorem gp4620 : gap 110 777774082219777568102294787544360532 1001002258382154180314400687952326844 71771610355 793420516168485625622952366125452486 988646513563833954550636535349459523 74660076815 = true := by decide +kernel
theorem gp4730 : gap 110 793420516168485625622952366125452486 988646513563833954550636535349459523 74660076815 808870697947477708484742656052633435 976046227522523933419796731595162822 77627155671 = true := by decide +kernel
theorem gp4840 : gap 110 808870697947477708484742656052633435 976046227522523933419796731595162822 77627155671 824120805961981758222595593707108334 963204516932704114721558534879506305 80674986423 = true := by decide +kernel
theorem gp4950 : gap 110 824120805961981758222595593707108334 963204516932704114721558534879506305 80674986423 839167068105371767388578093359003575 950124558185096390971138344892518817 83805766812 = true := by decide +kernel
theorem gp5060 : gap 110 839167068105371767388578093359003575 950124558185096390971138344892518817 83805766812 854005762692196475770740369743128554 936809586600985885520726709430480298 87021754394 = true := by decide +kernel
theorem gp5170 : gap 110 854005762692196475770740369743128554 936809586600985885520726709430480298 87021754394 868633219378736414137485437682014441 923262895631965843200932399898078468 90325268164 = true := by decide +kernel
theorem gp5280 : gap 110 868633219378736414137485437682014441 923262895631965843200932399898078468 90325268164 883045820070861596180937451884006155 909487836045304018185174889175440519 93718690235 = true := by decide +kernel
theorem gp5390 : gap 104 883045820070861596180937451884006155 909487836045304018185174889175440519 93718690235 896471462791325851557297662628402215 896257195597207322520394205238274183 97011911114 = true := by decide +kernel
theorem gr0 : Gr 0 0 1267650600228229401496703205376000000 0 := gr_zero
theorem gr110 : Gr 110 19936166795444058804002281173224200 1267493823855759270858729151445510738 935133210 := gap_join gp0 gr0 (by decide) (by decide)
theorem gr220 : Gr 220 39867402389955326717575022885549450 1267023533516906567424475267572853254 1895716959 := gap_join gp110 gr110 (by decide) (by decide)
theorem gr330 : Gr 330 59788776802331108864270995632859462 1266239845537752499692352560361375911 2882443926 := gap_join gp220 gr220 (by decide) (by decide)
theorem gr440 : Gr 440 79695362490527202763530284087861624 1265142953763128597898772790397613131 3896025610 := gap_join gp330 gr330 (by decide) (by decide)
theorem gr550 : Gr 550 99582235570482970073684490533428484 1263733129508669291433530026958067457 4937192891 := gap_join gp440 gr440 (by decide) (by decide)
theorem gr660 : Gr 660 119444477034041607921285744461776792 1262010721493702121722414199218909802 6006696537 := gap_join gp550 gr550 (by decide) (by decide)
theorem gr770 : Gr 770 139277173965664367843918045540196675 1259976155754992190149493421574909836 7105307752 := gap_join gp660 gr660 (by decide) (by decide)
theorem gr880 : Gr 880 159075420757637768690105909188994141 1257629935541362176286934202030422057 8233818725 := gap_join gp770 gr770 (by decide) (by decide)
theorem gr990 : Gr 990 178834320323473222577129820609462659 1254972641189213992118393087081033549 9393043210 := gap_join gp880 gr880 (by decide) (by decide)
theorem gr1100 : Gr 1100 198548985309198940113288327725937765 1252004929978982861912843275848000650 10583817098 := gap_join gp990 gr990 (by decide) (by decide)
theorem gr1210 : Gr 1210 218214539302244502434821336336123433 1248727535972559333760723417217852682 11806999045 := gap_join gp1100 gr1100 (by decide) (by decide)
theorem gr1320 : Gr 1320 237826118037619083060374213373399760 1245141269831719436356925119032321024 13063471060 := gap_join gp1210 gr1210 (by decide) (by decide)
theorem gr1430 : Gr 1430 257378870601084971980252736286947117 1241247018617607892240954901499412008 14354139171 := gap_join gp1320 gr1320 (by decide) (by decide)
theorem gr1540 : Gr 1540 276867960629028797608215436842919183 1237045745571323985221660010015135417 15679934050 := gap_join gp1430 gr1430 (by decide) (by decide)
theorem gr1650 : Gr 1650 296288567504733659046339729794902479 1232538489875664353962988005178825449 17041811704 := gap_join gp1540 gr1540 (by decide) (by decide)
theorem gr1760 : Gr 1760 315635887550756271346540680404822239 1227726366398081644532184186694127034 18440754168 := gap_join gp1650 gr1650 (by decide) (by decide)
theorem gr1870 : Gr 1870 334905135217114189875417649813728529 1222610565414922600959765955734172834 19877770201 := gap_join gp1760 gr1760 (by decide) (by decide)
theorem gr1980 : Gr 1980 354091544264989216263952140458895697 1217192352317013803382302063343701990 21353895997 := gap_join gp1870 gr1870 (by decide) (by decide)
theorem gr2090 : Gr 2090 373190368945654197493833142335009669 1211473067296667876989110095853711889 22870195976 := gap_join gp1980 gr1980 (by decide) (by decide)
theorem gr2200 : Gr 2200 392196885174331611163516179914825125 1205454125016187590631283460108763141 24427763513 := gap_join gp2090 gr2090 (by decide) (by decide)
theorem gr2310 : Gr 2310 411106391698693583597287786664830711 1199137014257949840439240953585774469 26027721748 := gap_join gp2200 gr2200 (by decide) (by decide)
theorem gr2420 : Gr 2420 429914211261714312899525965412987001 1192523297556156070001265762520820356 27671224379 := gap_join gp2310 gr2310 (by decide) (by decide)
theorem gr2530 : Gr 2530 448615691758587265986172671568318969 1185614610810340213453291071185573928 29359456509 := gap_join gp2420 gr2420 (by decide) (by decide)
theorem gr2640 : Gr 2640 467206207387420986700636585404226813 1178412662880729760097816411412588733 31093635496 := gap_join gp2530 gr2530 (by decide) (by decide)
theorem gr2750 : Gr 2750 485681159793428890978795748823363950 1170919235165560027791195282003744667 32875011828 := gap_join gp2640 gr2640 (by decide) (by decide)
theorem gr2860 : Gr 2860 504035979206330034286834406671249180 1163136181160446196203362164662542728 34704870033 := gap_join gp2750 gr2750 (by decide) (by decide)
theorem gr2970 : Gr 2970 522266125570679515818277184165011113 1155065425999922089058231113538120990 36584529583 := gap_join gp2860 gr2860 (by decide) (by decide)
theorem gr3080 : Gr 3080 540367089668848932787411775044551338 1146708965981259105508760478581493558 38515345868 := gap_join gp2970 gr2970 (by decide) (by decide)
theorem gr3190 : Gr 3190 558334394236379116162741227883275842 1138068868070683083796969065149940630 40498711171 := gap_join gp3080 gr3080 (by decide) (by decide)
theorem gr3300 : Gr 3300 576163595069429265896495710217314274 1129147269392111234211876182958626870 42536055666 := gap_join gp3190 gr3190 (by decide) (by decide)
theorem gr3410 : Gr 3410 593850282124048558657883931588198707 1119946376698535602010495828220227508 44628848453 := gap_join gp3300 gr3300 (by decide) (by decide)
theorem gr3520 : Gr 3520 611390080606998323785119899701328670 1110468465826183813339190464683046552 46778598599 := gap_join gp3410 gr3410 (by decide) (by decide)
theorem gr3630 : Gr 3630 628778652057854973134005711187309876 1100715881131592117223166401442758846 48986856257 := gap_join gp3520 gr3520 (by decide) (by decide)
theorem gr3740 : Gr 3740 646011695422126027202034395299431429 1090691034911729963326954190100897890 51255213770 := gap_join gp3630 gr3630 (by decide) (by decide)
theorem gr3850 : Gr 3850 663084948115113802813139471183081819 1080396406807319547382907702615812973 53585306806 := gap_join gp3740 gr3740 (by decide) (by decide)
theorem gr3960 : Gr 3960 679994187076263616209525114326889655 1069834543189497912901137457923750014 55978815565 := gap_join gp3850 gr3850 (by decide) (by decide)
theorem gr4070 : Gr 4070 696735229813735709047388155333504493 1059008056529973317984705612214055341 58437465964 := gap_join gp3960 gr3960 (by decide) (by decide)
theorem gr4180 : Gr 4180 713303935438942522950616305026317091 1047919624754831658759219820260290892 60963030891 := gap_join gp4070 gr4070 (by decide) (by decide)
theorem gr4290 : Gr 4290 729696205690795430342586016357326168 1036571990582152785076320734388750578 63557331489 := gap_join gp4180 gr4180 (by decide) (by decide)
theorem gr4400 : Gr 4400 745907985949407574637050456402421940 1024967960843600548765644655710477188 66222238464 := gap_join gp4290 gr4290 (by decide) (by decide)
theorem gr4510 : Gr 4510 761935266239002080895209427515589590 1013110405790154388799119240910191631 68959673448 := gap_join gp4400 gr4400 (by decide) (by decide)
theorem gr4620 : Gr 4620 777774082219777568102294787544360532 1001002258382154180314400687952326844 71771610355 := gap_join gp4510 gr4510 (by decide) (by decide)
theorem gr4730 : Gr 4730 793420516168485625622952366125452486 988646513563833954550636535349459523 74660076815 := gap_join gp4620 gr4620 (by decide) (by decide)
theorem gr4840 : Gr 4840 808870697947477708484742656052633435 976046227522523933419796731595162822 77627155671 := gap_join gp4730 gr4730 (by decide) (by decide)
theorem gr4950 : Gr 4950 824120805961981758222595593707108334 963204516932704114721558534879506305 80674986423 := gap_join gp4840 gr4840 (by decide) (by decide)
theorem gr5060 : Gr 5060 839167068105371767388578093359003575 950124558185096390971138344892518817 83805766812 := gap_join gp4950 gr4950 (by decide) (by decide)
theorem gr5170 : Gr 5170 854005762692196475770740369743128554 936809586600985885520726709430480298 87021754394 := gap_join gp5060 gr5060 (by decide) (by decide)
theorem gr5280 : Gr 5280 868633219378736414137485437682014441 923262895631965843200932399898078468 90325268164 := gap_join gp5170 gr5170 (by decide) (by decide)
theorem gr5390 : Gr 5390 883045820070861596180937451884006155 909487836045304018185174889175440519 93718690235 := gap_join gp5280 gr5280 (by decide) (by decide)
theorem gr5494 : Gr 5494 896471462791325851557297662628402215 896257195597207322520394205238274183 97011911114 := gap_join gp5390 gr5390 (by decide) (by decide)
theorem gp_all (b : Nat) (h : b ≤ 45000000) : Gp (Sa (b : Int)) ∧ Gp (Ca (b : Int)) := gr5494.2 b (by omega)
end Mine
end
section
set_option maxRecDepth 100000
namespace Mine
theorem int_eq {a b : Int} (h1 : (a : Rat) - 1 < b) (h2 : (b : Rat) < a + 1) : b = a := by
  have k1 : ((a - 1 : Int) : Rat) < (b : Rat) := by rw [Rat.intCast_sub]; exact h1
  have k2 : (b : Rat) < ((a + 1 : Int) : Rat) := by rw [Rat.intCast_add]; exact h2
  have j1 := Rat.intCast_lt_intCast.mp k1
  have j2 := Rat.intCast_lt_intCast.mp k2
  omega
theorem near_round {f k : Int} {v : Rat} (h : Ab ((f : Rat) - 1000000000000000000000000000000000000 * v) 260000) (g1 : (k : Rat) - 1/2 + 1/10^9 ≤ 1000000 * v) (g2 : 1000000 * v ≤ k + 1/2 - 1/10^9) :
    pdiv (f * 1000000) 1000000000000000000000000000000000000 = k := by
  have r := round_q (a := f * 1000000) (b := 1000000000000000000000000000000000000) (by decide)
  rw [Rat.intCast_mul, show ((1000000 : Int) : Rat) = 1000000 by decide +kernel, show ((1000000000000000000000000000000000000 : Int) : Rat) = 1000000000000000000000000000000000000 by decide +kernel] at r
  generalize pdiv (f * 1000000) 1000000000000000000000000000000000000 = p at *
  generalize (f : Rat) = x at *
  have d := h.div (c := 1000000000000000000000000000000) (by decide +kernel)
  have e : (x - 1000000000000000000000000000000000000 * v) / 1000000000000000000000000000000 = x * 1000000 / 1000000000000000000000000000000000000 - 1000000 * v := by grind
  rw [e] at d
  have d := d.mono (show (260000 : Rat) / 1000000000000000000000000000000 ≤ 1/10^10 by decide +kernel)
  generalize x * 1000000 / 1000000000000000000000000000000000000 = y at *
  have n : (1:Rat)/10^10 < 1/10^9 := by decide +kernel
  unfold Ab at *
  exact int_eq (by grind) (by grind)
theorem near_floor {f k : Int} {v : Rat} (h : Ab ((f : Rat) - 10000000000000000000000000000000000000000 * v) 300000) (g1 : (k : Rat) - 1/2 + 1/10^9 ≤ 1000000 * v) (g2 : 1000000 * v ≤ k + 1/2 - 1/10^9) :
    (2 * f * 1000000 + 10000000000000000000000000000000000000000).fdiv (2 * 10000000000000000000000000000000000000000) = k := by
  have r := floor_q (a := 2 * f * 1000000 + 10000000000000000000000000000000000000000) (b := 2 * 10000000000000000000000000000000000000000) (by decide)
  rw [Rat.intCast_add, Rat.intCast_mul, Rat.intCast_mul, show ((2 * 10000000000000000000000000000000000000000 : Int) : Rat) = 20000000000000000000000000000000000000000 by decide +kernel, show ((2 : Int) : Rat) = 2 by decide +kernel, show ((1000000 : Int) : Rat) = 1000000 by decide +kernel, show ((10000000000000000000000000000000000000000 : Int) : Rat) = 10000000000000000000000000000000000000000 by decide +kernel] at r
  generalize (2 * f * 1000000 + 10000000000000000000000000000000000000000).fdiv (2 * 10000000000000000000000000000000000000000) = p at *
  generalize (f : Rat) = x at *
  have d := h.div (c := 10000000000000000000000000000000000) (by decide +kernel)
  have e : (x - 10000000000000000000000000000000000000000 * v) / 10000000000000000000000000000000000 = (2 * x * 1000000 + 10000000000000000000000000000000000000000) / 20000000000000000000000000000000000000000 - 1/2 - 1000000 * v := by grind
  rw [e] at d
  have d := d.mono (show (300000 : Rat) / 10000000000000000000000000000000000 ≤ 1/10^10 by decide +kernel)
  generalize (2 * x * 1000000 + 10000000000000000000000000000000000000000) / 20000000000000000000000000000000000000000 = y at *
  have n : (1:Rat)/10^10 < 1/10^9 := by decide +kernel
  unfold Ab at *
  exact int_eq (by grind) (by grind)
theorem gp_eighth {b : Int} (h0 : 0 ≤ b) (h1 : b ≤ 45000000) : Gp (Sa b) ∧ Gp (Ca b) := by
  have := gp_all b.toNat (by omega)
  rw [show ((b.toNat : Nat) : Int) = b by omega] at this
  exact this
theorem gp_neg {v : Rat} {k : Int} (g : (k : Rat) - 1/2 + 1/10^9 ≤ 1000000 * v ∧ 1000000 * v ≤ k + 1/2 - 1/10^9) : ((-k : Int) : Rat) - 1/2 + 1/10^9 ≤ 1000000 * (-v) ∧ 1000000 * (-v) ≤ ((-k : Int) : Rat) + 1/2 - 1/10^9 := by
  rw [Rat.intCast_neg]
  generalize (k : Rat) = x at *
  constructor <;> grind
theorem ab37 : (10000000000000000000000000000000000000000 : Rat) * (1/10^37 + 1/10^37 + 1/10^37) + 256000 ≤ 300000 := by decide +kernel
theorem z37 : (0:Rat) ≤ 1/10^37 := by decide +kernel
theorem ab_eq (x : Rat) : Ab (x - x) (1/10^37) := by rw [Rat.sub_self]; exact Ab.zero z37
theorem near_l {n l : Int} (hn : 0 ≤ n ∧ n < 180000000) (hl : (90000000 < n ∧ l = 180000000 - n) ∨ (¬ 90000000 < n ∧ l = n)) : (0 ≤ l ∧ l ≤ 90000000) ∧ Ab (Sa n - Sa l) (1/10^37) := by
  rcases hl with ⟨h, e⟩ | ⟨h, e⟩
  · have m := (mirH (a := n) (by omega) (by omega)).2.neg
    rw [e]
    refine ⟨by omega, ?_⟩
    rw [Rat.neg_sub] at m
    exact m
  · rw [e]; exact ⟨by omega, ab_eq _⟩
theorem near_v {l f' : Int} (hl0 : 0 ≤ l ∧ l ≤ 90000000) (hfl : (90000000 < 2 * l ∧ cosR (90000000 - l) f') ∨ (¬ 90000000 < 2 * l ∧ sinR l f')) :
    ∃ v, Gp v ∧ Ab (Sa l - v) (1/10^37) ∧ Ab ((f' : Rat) - 1000000000000000000000000000000000000 * v) 260000 := by
  rcases hfl with ⟨h, c⟩ | ⟨h, c⟩
  · have m := (mirQ (a := l) (by omega) (by omega)).1.neg
    rw [Rat.neg_sub] at m
    exact ⟨Ca (90000000 - l), (gp_eighth (by omega) (by omega)).2, m, cos_close (by omega) (by omega) c⟩
  · exact ⟨Sa l, (gp_eighth (by omega) (by omega)).1, ab_eq _, sin_close (by omega) (by omega) c⟩
theorem near_chain {f x y w v : Rat} (c : Ab (f - 10000000000000000000000000000000000000000 * x) 256000) (s2 : Ab (x - y) (1/10^37)) (s1 : Ab (y - w) (1/10^37)) (s4 : Ab (w - v) (1/10^37)) : Ab (f - 10000000000000000000000000000000000000000 * v) 300000 := by
  have h := c.add ((show Ab (10000000000000000000000000000000000000000 : Rat) 10000000000000000000000000000000000000000 from ⟨by decide +kernel, by decide +kernel⟩).mul ((s2.add s1).add s4))
  rw [show f - 10000000000000000000000000000000000000000 * x + 10000000000000000000000000000000000000000 * (x - y + (y - w) + (w - v)) = f - 10000000000000000000000000000000000000000 * v by clear h c s1 s2 s4; grind] at h
  exact h.mono (by rw [Rat.add_comm]; exact ab37)
theorem ab_flip {x y e : Rat} (h : Ab (x - y) e) : Ab (-x - -y) e := by
  have := h.neg
  rw [show -(x - y) = -x - -y by grind] at this
  exact this
theorem near_eq {a r f r2 : Int} (h2 : r2 = (2 * f * 1000000 + 10000000000000000000000000000000000000000).fdiv (2 * 10000000000000000000000000000000000000000)) (hf : lawR a f) (hs : sineR a r) : r = r2 := by
  have hm := lx_in a
  have hc := law_close hf
  obtain ⟨l, f', g, hl, hfl, hr, hg⟩ := hs
  generalize a.fmod 360000000 = m at *
  have hm2 : 0 ≤ m ∧ m < 360000000 := ⟨hm.1, hm.2.1⟩
  clear hm hf
  have hn : 0 ≤ m.fmod 180000000 ∧ m.fmod 180000000 < 180000000 := by
    rw [Int.fmod_eq_emod_of_nonneg _ (by decide)]
    clear hl hfl hr hg h2
    omega
  obtain ⟨hl0, s1⟩ := near_l hn hl
  obtain ⟨v, ⟨k, gk⟩, s4, s5⟩ := near_v hl0 hfl
  have eg : g = k := by rw [hg]; exact near_round s5 gk.1 gk.2
  clear hg hfl hl s5 hl0
  rcases hr with ⟨h, e⟩ | ⟨h, e⟩
  · have e2 : m.fmod 180000000 = m - 180000000 := by
      rw [Int.fmod_eq_emod_of_nonneg _ (by decide)]
      clear hc s1 s4 gk eg h2 hn e
      omega
    have t := (toH (a := m.fmod 180000000) (by omega) (by omega)).2
    have e3 : m.fmod 180000000 + 180000000 = m := by clear hc s1 s4 gk eg h2 hn e t; omega
    rw [e3] at t
    rw [show Sa m + Sa (m.fmod 180000000) = Sa m - -Sa (m.fmod 180000000) by clear t s1 s4; grind] at t
    have gn := gp_neg gk
    rw [e, eg, h2]
    exact (near_floor (near_chain hc t (ab_flip s1) (ab_flip s4)) gn.1 gn.2).symm
  · have e2 : m.fmod 180000000 = m := by
      rw [Int.fmod_eq_emod_of_nonneg _ (by decide)]
      clear hc s1 s4 gk eg h2 hn e
      omega
    rw [e2] at s1
    rw [e, eg, h2]
    exact (near_floor (near_chain hc (ab_eq _) s1 s4) gk.1 gk.2).symm
end Mine
end
section
set_option maxRecDepth 100000
namespace Mine
/-- even powers -/
noncomputable def ev (u : Rat) : Nat → Rat
  | 0 => 1
  | j+1 => ev u j * (u * u)
/-- powers of a product -/
noncomputable def gv (w : Rat) : Nat → Rat
  | 0 => 1
  | j+1 => gv w j * w
theorem ev_nn {u : Rat} (j : Nat) : 0 ≤ ev u j := by
  induction j with
  | zero => simp only [ev]; grind
  | succ j ih => exact mul_nn ih (sq_nn u)
theorem gv_nn {w : Rat} (h : 0 ≤ w) (j : Nat) : 0 ≤ gv w j := by
  induction j with
  | zero => simp only [gv]; grind
  | succ j ih => exact mul_nn ih h
/-- the polynomial of the arc -/
noncomputable def Ar (u : Rat) : Rat := sm (fun j => sgn j * (u * ev u j) / ((2 * j + 1 : Nat) : Rat)) 120
theorem odd_pos (j : Nat) : (1:Rat) ≤ ((2 * j + 1 : Nat) : Rat) := by
  have : ((1 : Nat) : Rat) ≤ ((2 * j + 1 : Nat) : Rat) := Rat.natCast_le_natCast.mpr (by omega)
  exact this
theorem odd_succ (j : Nat) : ((2 * (j+1) + 1 : Nat) : Rat) = ((2 * j + 1 : Nat) : Rat) + 2 := by
  rw [show 2 * (j+1) + 1 = 2 * j + 1 + 2 by omega, Rat.natCast_add]; rfl
section
variable {u d : Rat} (hu : 0 ≤ u) (hd : 0 ≤ d) (hv : u + d ≤ 1/2)
include hu hd hv
theorem ev_le1 (j : Nat) : ev u j ≤ 1 ∧ ev (u+d) j ≤ 1 := by
  have a1 : u * u ≤ 1 := by have := mul_nn hu (show 0 ≤ 1 - u by grind); grind
  have a2 : (u+d) * (u+d) ≤ 1 := by have := mul_nn (show 0 ≤ u + d by grind) (show 0 ≤ 1 - (u+d) by grind); grind
  induction j with
  | zero => simp only [ev]; grind
  | succ j ih =>
    simp only [ev]
    have b1 := mul_nn (ev_nn (u := u) j) (show 0 ≤ 1 - u * u by grind)
    have b2 := mul_nn (ev_nn (u := u + d) j) (show 0 ≤ 1 - (u+d) * (u+d) by grind)
    constructor <;> grind
theorem ev_diff (j : Nat) : 0 ≤ ev (u+d) j - ev u j ∧ ev (u+d) j - ev u j ≤ 2 * d := by
  induction j with
  | zero => simp only [ev]; constructor <;> grind
  | succ j ih =>
    simp only [ev]
    have l := ev_le1 hu hd hv j
    have n1 := ev_nn (u := u) j
    have e : ev (u+d) j * ((u+d) * (u+d)) - ev u j * (u * u) = (u+d) * (u+d) * (ev (u+d) j - ev u j) + ev u j * ((2 * u + d) * d) := by grind
    have s : 0 ≤ (u+d) * (u+d) := sq_nn _
    have s4 : (u+d) * (u+d) ≤ 1/4 := by have := mul_nn (show 0 ≤ 1/2 - (u+d) by grind) (show 0 ≤ 1/2 + (u+d) by grind); grind
    have p1 := mul_nn s ih.1
    have p2 := mul_nn (show 0 ≤ 1/4 - (u+d) * (u+d) by grind) ih.1
    have q0 : 0 ≤ (2 * u + d) * d := mul_nn (by grind) hd
    have q1 : (2 * u + d) * d ≤ d := by have := mul_nn (show 0 ≤ 1 - (2 * u + d) by grind) hd; grind
    have p3 := mul_nn n1 q0
    have p4 := mul_nn (show 0 ≤ 1 - ev u j by grind) q0
    rw [e]
    constructor <;> grind
theorem gv_between (j : Nat) : ev u j ≤ gv (u * (u+d)) j ∧ gv (u * (u+d)) j ≤ ev (u+d) j := by
  have w0 : 0 ≤ u * (u+d) := mul_nn hu (by grind)
  have a1 : 0 ≤ u * (u+d) - u * u := by have := mul_nn hu hd; grind
  have a2 : 0 ≤ (u+d) * (u+d) - u * (u+d) := by have := mul_nn hd (show 0 ≤ u + d by grind); grind
  induction j with
  | zero => simp only [ev, gv]; grind
  | succ j ih =>
    simp only [ev, gv]
    have p1 := mul_nn (show 0 ≤ gv (u * (u+d)) j - ev u j by grind) w0
    have p2 := mul_nn (ev_nn (u := u) j) a1
    have p3 := mul_nn (show 0 ≤ ev (u+d) j - gv (u * (u+d)) j by grind) w0
    have p4 := mul_nn (ev_nn (u := u+d) j) a2
    constructor <;> grind
/-- the mean value of an odd power -/
theorem odd_mean (j : Nat) : ((2 * j + 1 : Nat) : Rat) * (d * ev u j) ≤ (u+d) * ev (u+d) j - u * ev u j ∧ (u+d) * ev (u+d) j - u * ev u j ≤ ((2 * j + 1 : Nat) : Rat) * (d * ev (u+d) j) := by
  induction j with
  | zero =>
    have : ((2 * 0 + 1 : Nat) : Rat) = 1 := rfl
    rw [this]; simp only [ev]; constructor <;> grind
  | succ j ih =>
    rw [odd_succ]
    have m1 := odd_pos j
    generalize ((2 * j + 1 : Nat) : Rat) = m at *
    simp only [ev]
    have l := ev_diff hu hd hv j
    have n1 := ev_nn (u := u) j
    have n2 := ev_nn (u := u+d) j
    have s1 := sq_nn u
    have s2 := sq_nn (u+d)
    have p1 := mul_nn s2 (show 0 ≤ m * (d * ev (u+d) j) - ((u+d) * ev (u+d) j - u * ev u j) by grind)
    have p2 := mul_nn s1 (show 0 ≤ ((u+d) * ev (u+d) j - u * ev u j) - m * (d * ev u j) by grind)
    generalize ev (u+d) j = x at *
    generalize ev u j = y at *
    -- upper: 2 d v² x - y u (2u+d) d ≥ 0; lower: x v (2u+d) d - 2 d u² y ≥ 0
    have r1 : 0 ≤ d * (2 * ((u+d) * (u+d)) * x - y * (u * (2 * u + d))) := by
      refine mul_nn hd ?_
      have t1 := mul_nn (show 0 ≤ 2 * ((u+d) * (u+d)) by grind) l.1
      have t2 := mul_nn n1 (show 0 ≤ 2 * ((u+d) * (u+d)) - u * (2 * u + d) by have := mul_nn hu hd; have := mul_nn hd hd; grind)
      grind
    have r2 : 0 ≤ d * (x * ((u+d) * (2 * u + d)) - 2 * (u * u) * y) := by
      refine mul_nn hd ?_
      have t1 := mul_nn (show 0 ≤ 2 * (u * u) by grind) l.1
      have t2 := mul_nn n2 (show 0 ≤ (u+d) * (2 * u + d) - 2 * (u * u) by have := mul_nn hu hd; have := mul_nn hd hd; grind)
      grind
    constructor <;> grind
theorem term_diff (j : Nat) : Ab (sgn j * ((u+d) * ev (u+d) j) / ((2 * j + 1 : Nat) : Rat) - sgn j * (u * ev u j) / ((2 * j + 1 : Nat) : Rat) - d * (sgn j * gv (u * (u+d)) j)) (d * (2 * d)) := by
  have m := odd_mean hu hd hv j
  have g := gv_between hu hd hv j
  have l := ev_diff hu hd hv j
  have p := odd_pos j
  generalize ((2 * j + 1 : Nat) : Rat) = mm at *
  generalize gv (u * (u+d)) j = w at *
  generalize ev (u+d) j = x at *
  generalize ev u j = y at *
  have p0 : 0 < mm := by grind
  have d1 := div_le m.1 p0
  have d2 := div_le m.2 p0
  have e1 : mm * (d * y) / mm = d * y := by grind
  have e2 : mm * (d * x) / mm = d * x := by grind
  rw [e1] at d1
  rw [e2] at d2
  have e3 : sgn j * ((u+d) * x) / mm - sgn j * (u * y) / mm - d * (sgn j * w) = sgn j * (((u+d) * x - u * y) / mm - d * w) := by grind
  rw [e3]
  refine ab_sgn j ?_
  generalize ((u+d) * x - u * y) / mm = z at *
  have q1 := mul_nn hd (show 0 ≤ w - y by grind)
  have q2 := mul_nn hd (show 0 ≤ x - w by grind)
  have q3 := mul_nn hd (show 0 ≤ 2 * d - (x - y) by grind)
  unfold Ab
  constructor <;> grind
theorem sum_diff : Ab (Ar (u+d) - Ar u - d * sm (fun j => sgn j * gv (u * (u+d)) j) 120) (240 * (d * d)) := by
  have gen : ∀ J : Nat, Ab (sm (fun j => sgn j * ((u+d) * ev (u+d) j) / ((2 * j + 1 : Nat) : Rat)) J - sm (fun j => sgn j * (u * ev u j) / ((2 * j + 1 : Nat) : Rat)) J - d * sm (fun j => sgn j * gv (u * (u+d)) j) J) ((J : Rat) * (d * (2 * d))) := fun J => by
    induction J with
    | zero => simp only [sm]; unfold Ab; rw [show ((0 : Nat) : Rat) = 0 from rfl]; constructor <;> grind
    | succ J ih =>
      have h := ih.add (term_diff hu hd hv J)
      simp only [sm]
      rw [Rat.natCast_add, show ((1 : Nat) : Rat) = 1 from rfl]
      unfold Ab at *
      constructor <;> grind
  have h := gen 120
  rw [show ((120 : Nat) : Rat) = 120 from rfl] at h
  unfold Ar
  exact h.mono (by grind)
end
theorem geo (w : Rat) (J : Nat) : (1 + w) * sm (fun j => sgn j * gv w j) J = 1 - sgn J * gv w J := by
  induction J with
  | zero => simp only [sm, sgn, gv]; grind
  | succ J ih => simp only [sm, sgn, gv]; grind
theorem gv_120 {w : Rat} (h0 : 0 ≤ w) (h1 : w ≤ 1/4) : gv w 120 ≤ 1/10^72 := by
  have gen : ∀ j, gv w j ≤ gv (1/4) j := fun j => by
    induction j with
    | zero => simp only [gv]; grind
    | succ j ih =>
      simp only [gv]
      have a := mul_nn (show 0 ≤ gv (1/4) j - gv w j by grind) h0
      have b := mul_nn (gv_nn (w := 1/4) (by grind) j) (show 0 ≤ 1/4 - w by grind)
      grind
  exact Rat.le_trans (gen 120) (by decide +kernel)
theorem arc_alg {a y z w d : Rat} (hd : 0 ≤ d) (w0 : 0 ≤ w) (w1 : w ≤ 1/4) (s : Ab (a - d * y) (240 * (d * d))) (g : (1 + w) * y = 1 - z) (sg : Ab z (1/10^72)) : Ab (a * (1 + w) - d) (300 * (d * d) + d * (1/10^72)) := by
  have p := (s.mul (show Ab (1 + w) (5/4) from ⟨by grind, by grind⟩)).sub ((show Ab d d from ⟨by grind, Rat.le_refl⟩).mul sg)
  have e : (a - d * y) * (1 + w) - d * z = a * (1 + w) - d := by clear p s sg; grind
  rw [e] at p
  exact p.mono (by clear p s sg e g; grind)
theorem arc_sm {d : Rat} (hd : 0 ≤ d) (hd1 : d ≤ 1/100000) : 300 * (d * d) + d * (1/10^72) ≤ 1/100 * d := by
  have dd := mul_nn hd (show 0 ≤ 1/100000 - d by grind)
  have n72 : (1:Rat)/10^72 ≤ 1/1000 := by decide +kernel
  have dn := mul_nn hd (show 0 ≤ 1/1000 - (1:Rat)/10^72 by grind)
  grind
theorem arc_bd {a w d e : Rat} (w0 : 0 ≤ w) (h : Ab (a * (1 + w) - d) e) (he : e ≤ 1/100 * d) (hd : 0 ≤ d) : Ab a (101/100 * d) ∧ 0 ≤ a := by
  unfold Ab at *
  have nn : 0 ≤ a := by
    rcases (show 0 ≤ a ∨ 0 ≤ -a by grind) with h1 | h1
    · exact h1
    · have := mul_nn h1 w0; grind
  have := mul_nn nn w0
  refine ⟨⟨?_, ?_⟩, nn⟩ <;> grind
theorem w_bd {u d : Rat} (hu : 0 ≤ u) (hd : 0 ≤ d) (hv : u + d ≤ 1/2) : 0 ≤ u * (u+d) ∧ u * (u+d) ≤ 1/4 := by
  refine ⟨mul_nn hu (by grind), ?_⟩
  have a := mul_nn hu (show 0 ≤ 1/2 - (u+d) by grind)
  grind
/-- a small step of the arc -/
theorem arc_step {u d : Rat} (hu : 0 ≤ u) (hd : 0 ≤ d) (hv : u + d ≤ 1/2) (hd1 : d ≤ 1/100000) :
    Ab ((Ar (u+d) - Ar u) * (1 + u * (u+d)) - d) (300 * (d * d) + d * (1/10^72)) ∧ Ab (Ar (u+d) - Ar u) (101/100 * d) ∧ 0 ≤ Ar (u+d) - Ar u := by
  have w := w_bd hu hd hv
  have h := arc_alg hd w.1 w.2 (sum_diff hu hd hv) (geo (u * (u+d)) 120) (ab_sgn 120 ⟨Rat.le_trans (Rat.neg_le_neg (Rat.le_of_lt (by decide +kernel : (0:Rat) < 1/10^72))) (by have := gv_nn w.1 120; grind), gv_120 w.1 w.2⟩)
  exact ⟨h, arc_bd w.1 h (arc_sm hd hd1) hd⟩
/-- how far the sine is from u times the cosine -/
noncomputable def Du (u : Rat) : Rat := Sn (Ar u) - u * Cn (Ar u)
theorem du_e (S C ca sa S' C' u d : Rat) : (S - u * C) * (ca + (u+d) * sa - 1) + C * (-(d * ca) + sa * (1 + u * (u+d))) + (S' - (S * ca + C * sa)) - (u+d) * (C' - (C * ca - S * sa)) + (S - u * C) = S' - (u+d) * C' := by grind
theorem du_f {ca sa a v d : Rat} (hd : 0 ≤ d) (hd1 : d ≤ 1/100000) (vb : Ab v (1/2)) (h2 : Ab a (101/100 * d)) (sC : Ab (ca - 1) (3 * (101/100 * d) * (101/100 * d) / 2)) (sS : Ab (sa - a) (101/100 * d * (101/100 * d) * (101/100 * d) / 2)) : Ab (ca + v * sa - 1) (1/100 * d + 1/2 * (102/100 * d)) := by
  have dd := mul_nn hd (show 0 ≤ 1/100000 - d by grind)
  have ddd := mul_nn (mul_nn hd hd) (show 0 ≤ 1/100000 - d by grind)
  have f1 : Ab (ca - 1) (1/100 * d) := sC.mono (by clear sC sS h2 vb; grind)
  have f2 : Ab sa (102/100 * d) := by
    have := sS.add h2
    rw [show sa - a + a = sa by clear sC sS h2 vb this; grind] at this
    exact this.mono (by clear sC sS h2 vb this f1; grind)
  have := f1.add (vb.mul f2)
  rw [show ca - 1 + v * sa = ca + v * sa - 1 by clear sC sS h2 vb this f1 f2; grind] at this
  exact this
theorem du_b {ca sa a w d : Rat} (hd : 0 ≤ d) (hd1 : d ≤ 1/100000) (wb : Ab (1 + w) 2) (h1 : Ab (a * (1 + w) - d) (300 * (d * d) + d * (1/10^72))) (sC : Ab (ca - 1) (3 * (101/100 * d) * (101/100 * d) / 2)) (sS : Ab (sa - a) (101/100 * d * (101/100 * d) * (101/100 * d) / 2)) : Ab (-(d * ca) + sa * (1 + w)) (301 * (d * d) + d * (1/10^72)) := by
  have dd0 := mul_nn hd hd
  have ddd := mul_nn dd0 (show 0 ≤ 1/100000 - d by grind)
  have b := (h1.add (wb.mul sS)).sub ((show Ab d d from ⟨by grind, Rat.le_refl⟩).mul sC)
  have eb : a * (1 + w) - d + (1 + w) * (sa - a) - d * (ca - 1) = -(d * ca) + sa * (1 + w) := by clear b h1 wb sC sS; grind
  rw [eb] at b
  exact b.mono (by clear b eb h1 wb sC sS; grind)
theorem du_n {E d : Rat} (hd : 0 ≤ d) (E0 : 0 ≤ E) : E * (1/100 * d + 1/2 * (102/100 * d)) + 2 * (301 * (d * d) + d * (1/10^72)) + 1/10^65 + 1/2 * (1/10^65) + E ≤ E + E * (3/5 * d) + (700 * (d * d) + d * (2/10^72) + 2/10^65) := by
  have Ed := mul_nn E0 hd
  have dd := mul_nn hd hd
  have n65 : (0:Rat) ≤ 1/10^65 := by decide +kernel
  grind
theorem du_step {u d E : Rat} (hu : 0 ≤ u) (hd : 0 ≤ d) (hv : u + d ≤ 1/2) (hd1 : d ≤ 1/100000) (hA : Ab (Ar u) 1) (hD : Ab (Du u) E) :
    Ab (Du (u+d)) (E + E * (3/5 * d) + (700 * (d * d) + d * (2/10^72) + 2/10^65)) := by
  obtain ⟨h1, h2, _⟩ := arc_step hu hd hv hd1
  have A7 : Ab (Ar u) 7 := hA.mono (by decide +kernel)
  have d1 : 101/100 * d ≤ 1 := by clear h1 h2 hA hD A7; grind
  have d0 : 0 ≤ 101/100 * d := mul_nn (by decide +kernel) hd
  obtain ⟨c1, c2⟩ := add_SC A7 (h2.mono (Rat.le_trans d1 (by decide +kernel)))
  rw [show Ar u + (Ar (u+d) - Ar u) = Ar (u+d) by clear c1 c2 h1 h2 hA hD; grind] at c1 c2
  have w := w_bd hu hd hv
  have vb : Ab (u+d) (1/2) := ⟨by clear c1 c2 h1 h2 hA hD w; grind, hv⟩
  have wb : Ab (1 + u * (u+d)) 2 := ⟨by clear c1 c2 h1 h2 hA hD; grind, by clear c1 c2 h1 h2 hA hD; grind⟩
  have f := du_f hd hd1 vb h2 (smallC d0 d1 h2) (smallS d0 d1 h2)
  have b := du_b hd hd1 wb h1 (smallC d0 d1 h2) (smallS d0 d1 h2)
  have t := ((((hD.mul f).add ((bd_C A7).mul b)).add c2).sub (vb.mul c1)).add hD
  unfold Du at *
  rw [du_e] at t
  exact t.mono (du_n hd hD.nonneg)
end Mine
end
section
set_option maxRecDepth 100000
namespace Mine
theorem Ar_zero : Ar 0 = 0 := by decide +kernel
theorem du_zero : Ab (Du 0) 0 := by
  unfold Du
  rw [Ar_zero, Sn_zero, Cn_zero]
  unfold Ab; decide +kernel
theorem stepF : (700 : Rat) * ((1/1000000000000000000000000000000000000) * (1/1000000000000000000000000000000000000)) + (1/1000000000000000000000000000000000000) * (2/10^72) + 2/10^65 ≤ 3/10^65 := by decide +kernel
theorem F_q : ((1000000000000000000000000000000000000 : Nat) : Rat) = 1000000000000000000000000000000000000 := by decide +kernel
/-- along the arc in steps of 1/F -/
theorem du_all (k : Nat) (hk : 2 * k ≤ 1000000000000000000000000000000000000) : Ab (Du ((k : Rat) * (1/1000000000000000000000000000000000000))) ((k : Rat) * (6/10^65)) ∧ Ab (Ar ((k : Rat) * (1/1000000000000000000000000000000000000))) ((k : Rat) * (2/1000000000000000000000000000000000000)) := by
  induction k with
  | zero =>
    rw [show ((0 : Nat) : Rat) = 0 from rfl, show (0:Rat) * (1/1000000000000000000000000000000000000) = 0 by grind, Ar_zero]
    refine ⟨du_zero.mono (by grind), ?_⟩
    unfold Ab; constructor <;> grind
  | succ k ih =>
    obtain ⟨i1, i2⟩ := ih (by omega)
    have kq : ((2 * (k + 1) : Nat) : Rat) ≤ ((1000000000000000000000000000000000000 : Nat) : Rat) := Rat.natCast_le_natCast.mpr hk
    rw [F_q, Rat.natCast_mul, Rat.natCast_add, show ((2 : Nat) : Rat) = 2 from rfl, show ((1 : Nat) : Rat) = 1 from rfl] at kq
    rw [Rat.natCast_add, show ((1 : Nat) : Rat) = 1 from rfl]
    have k0 : (0:Rat) ≤ (k : Rat) := by
      have : ((0 : Nat) : Rat) ≤ ((k : Nat) : Rat) := Rat.natCast_le_natCast.mpr (by omega)
      exact this
    generalize (k : Rat) = x at *
    have e : (x + 1) * (1/1000000000000000000000000000000000000) = x * (1/1000000000000000000000000000000000000) + 1/1000000000000000000000000000000000000 := by grind
    have hu : 0 ≤ x * (1/1000000000000000000000000000000000000) := mul_nn k0 (by decide +kernel)
    have hd : (0:Rat) ≤ 1/1000000000000000000000000000000000000 := by decide +kernel
    have hv : x * (1/1000000000000000000000000000000000000) + 1/1000000000000000000000000000000000000 ≤ 1/2 := by grind
    have hd1 : (1:Rat)/1000000000000000000000000000000000000 ≤ 1/100000 := by decide +kernel
    have A1 : Ab (Ar (x * (1/1000000000000000000000000000000000000))) 1 := i2.mono (by grind)
    have h := du_step hu hd hv hd1 A1 i1
    have g := (arc_step hu hd hv hd1).2.1
    rw [e]
    constructor
    · refine h.mono ?_
      have n := stepF
      generalize (700 : Rat) * ((1/1000000000000000000000000000000000000) * (1/1000000000000000000000000000000000000)) + (1/1000000000000000000000000000000000000) * (2/10^72) + 2/10^65 = z at *
      have e2 : x * (6/10^65) * (3/5 * (1/1000000000000000000000000000000000000)) = (6/10^65) * (3/5) * (x * (1/1000000000000000000000000000000000000)) := by grind
      rw [e2]
      have m := mul_nn (show (0:Rat) ≤ (6/10^65) * (3/5) by decide +kernel) (show 0 ≤ 1/2 - x * (1/1000000000000000000000000000000000000) by grind)
      grind
    · have := i2.add g
      rw [show Ar (x * (1/1000000000000000000000000000000000000)) + (Ar (x * (1/1000000000000000000000000000000000000) + 1/1000000000000000000000000000000000000) - Ar (x * (1/1000000000000000000000000000000000000))) = Ar (x * (1/1000000000000000000000000000000000000) + 1/1000000000000000000000000000000000000) by grind] at this
      refine this.mono ?_
      grind
theorem du_end {p : Int} (h0 : 0 ≤ p) (h1 : p ≤ 500000000000000000000000000000000000) : Ab (Du ((p : Rat) / 1000000000000000000000000000000000000)) (1/10^28) ∧ Ab (Ar ((p : Rat) / 1000000000000000000000000000000000000)) 1 := by
  have h := du_all p.toNat (by omega)
  have e : ((p.toNat : Nat) : Rat) = (p : Rat) := by
    have : ((p.toNat : Nat) : Int) = p := by omega
    rw [← Rat.intCast_natCast, this]
  have b : (p : Rat) ≤ 500000000000000000000000000000000000 := by
    have := mq_pos h1
    rw [show ((500000000000000000000000000000000000 : Int) : Rat) = 500000000000000000000000000000000000 by decide +kernel] at this
    exact this
  rw [e, show (p : Rat) * (1/1000000000000000000000000000000000000) = (p : Rat) / 1000000000000000000000000000000000000 by grind] at h
  refine ⟨h.1.mono ?_, h.2.mono ?_⟩
  · have n : (500000000000000000000000000000000000 : Rat) * (6/10^65) ≤ 1/10^28 := by decide +kernel
    have m := mul_nn (show 0 ≤ 500000000000000000000000000000000000 - (p : Rat) by grind) (show (0:Rat) ≤ 6/10^65 by decide +kernel)
    grind
  · grind

-- the program's odd series
theorem pow_terms {p : Int} (h0 : 0 ≤ p) (h1 : p ≤ 500000000000000000000000000000000000) (j : Nat) :
    Ab ((powAt p (fprod p p) j : Int) - 1000000000000000000000000000000000000 * (sgn j * ((p : Rat) / 1000000000000000000000000000000000000 * ev ((p : Rat) / 1000000000000000000000000000000000000) j))) 2 := by
  have b : (p : Rat) ≤ 500000000000000000000000000000000000 := by
    have := mq_pos h1
    rw [show ((500000000000000000000000000000000000 : Int) : Rat) = 500000000000000000000000000000000000 by decide +kernel] at this
    exact this
  have b0 : (0:Rat) ≤ (p : Rat) := by have := mq_pos h0; exact this
  have fp := fprod_q p p
  have e1 : (p : Rat) * ((p : Rat) / 1000000000000000000000000000000000000) = 1000000000000000000000000000000000000 * ((p : Rat) / 1000000000000000000000000000000000000 * ((p : Rat) / 1000000000000000000000000000000000000)) := by grind
  rw [e1] at fp
  have P0 : 0 ≤ (p : Rat) / 1000000000000000000000000000000000000 := div_nn b0 (by decide +kernel)
  have P1 : (p : Rat) / 1000000000000000000000000000000000000 ≤ 1/2 := by grind
  have sb : Ab (((fprod p p : Int) : Rat) / 1000000000000000000000000000000000000) (1/4 + 1/100) := by
    have d := fp.div (c := 1000000000000000000000000000000000000) (by decide +kernel)
    rw [show (((fprod p p : Int) : Rat) - 1000000000000000000000000000000000000 * ((p : Rat) / 1000000000000000000000000000000000000 * ((p : Rat) / 1000000000000000000000000000000000000))) / 1000000000000000000000000000000000000 = ((fprod p p : Int) : Rat) / 1000000000000000000000000000000000000 - (p : Rat) / 1000000000000000000000000000000000000 * ((p : Rat) / 1000000000000000000000000000000000000) by grind] at d
    have d := d.mono (show (1/2 : Rat) / 1000000000000000000000000000000000000 ≤ 1/100 by decide +kernel)
    have q0 := mul_nn P0 P0
    have q1 := mul_nn P0 (show 0 ≤ 1/2 - (p : Rat) / 1000000000000000000000000000000000000 by grind)
    unfold Ab at *; constructor <;> grind
  have sd : Ab (1000000000000000000000000000000000000 * (((fprod p p : Int) : Rat) / 1000000000000000000000000000000000000 - (p : Rat) / 1000000000000000000000000000000000000 * ((p : Rat) / 1000000000000000000000000000000000000))) (1/2) := by
    rw [show 1000000000000000000000000000000000000 * (((fprod p p : Int) : Rat) / 1000000000000000000000000000000000000 - (p : Rat) / 1000000000000000000000000000000000000 * ((p : Rat) / 1000000000000000000000000000000000000)) = ((fprod p p : Int) : Rat) - 1000000000000000000000000000000000000 * ((p : Rat) / 1000000000000000000000000000000000000 * ((p : Rat) / 1000000000000000000000000000000000000)) by grind]
    exact fp
  have tb : ∀ j, Ab (sgn j * ((p : Rat) / 1000000000000000000000000000000000000 * ev ((p : Rat) / 1000000000000000000000000000000000000) j)) (1/2) := fun j => by
    refine ab_sgn j ?_
    have l := (ev_le1 (u := (p : Rat) / 1000000000000000000000000000000000000) (d := 0) P0 (by decide +kernel) (by grind) j).1
    have n := ev_nn (u := (p : Rat) / 1000000000000000000000000000000000000) j
    have q0 := mul_nn P0 n
    have q1 := mul_nn P0 (show 0 ≤ 1 - ev ((p : Rat) / 1000000000000000000000000000000000000) j by grind)
    unfold Ab; constructor <;> grind
  induction j with
  | zero =>
    show Ab (((p : Int) : Rat) - 1000000000000000000000000000000000000 * (1 * ((p : Rat) / 1000000000000000000000000000000000000 * 1))) 2
    rw [show ((p : Int) : Rat) - 1000000000000000000000000000000000000 * (1 * ((p : Rat) / 1000000000000000000000000000000000000 * 1)) = 0 by grind]
    unfold Ab; decide +kernel
  | succ j ih =>
    have r := fprod_q (powAt p (fprod p p) j) (fprod p p)
    have e : powAt p (fprod p p) (j+1) = -(fprod (powAt p (fprod p p) j) (fprod p p)) := rfl
    rw [e, Rat.intCast_neg]
    simp only [sgn, ev]
    have t := tb j
    generalize ((fprod (powAt p (fprod p p) j) (fprod p p) : Int) : Rat) = y at *
    generalize ((powAt p (fprod p p) j : Int) : Rat) = x at *
    generalize ((fprod p p : Int) : Rat) / 1000000000000000000000000000000000000 = s at *
    generalize (p : Rat) / 1000000000000000000000000000000000000 = P at *
    have h := ((ih.mul sb).add (t.mul sd)).add r
    have e2 : (x - 1000000000000000000000000000000000000 * (sgn j * (P * ev P j))) * s + sgn j * (P * ev P j) * (1000000000000000000000000000000000000 * (s - P * P)) + (y - x * s) = -(-y - 1000000000000000000000000000000000000 * (-sgn j * (P * (ev P j * (P * P))))) := by grind
    rw [e2] at h
    have h := h.neg
    rw [Rat.neg_neg] at h
    exact h.mono (by decide +kernel)
theorem fnd_sm (p s : Int) (J : Nat) : ((fndAt p s J : Int) : Rat) = sm (fun j => ((pdiv (powAt p s j) (2 * (j:Int) + 1) : Int) : Rat)) J := by
  induction J with
  | zero => rfl
  | succ J ih =>
    show ((fndAt p s J + pdiv (powAt p s J) (2 * (J:Int) + 1) : Int) : Rat) = _
    rw [Rat.intCast_add, ih]; rfl
theorem odd_close {p o : Int} (h0 : 0 ≤ p) (h1 : p ≤ 500000000000000000000000000000000000) (h : oddR p o) : Ab ((o : Rat) - 1000000000000000000000000000000000000 * Ar ((p : Rat) / 1000000000000000000000000000000000000)) 360 := by
  obtain ⟨j, _, e, z⟩ := h
  have k := same_end (f := fndAt p (fprod p p)) (p := powAt p (fprod p p)) (fun j h => by show _ + _ = _; rw [h, pdiv_zero (by omega), Int.add_zero]) (fun j h => powAt_zero h 1) z ((pow_small p h0 h1 120).2.2 (Nat.le_refl _))
  rw [e, k, fnd_sm]
  unfold Ar
  refine (sm_close (E := 3) (fun j => ?_) 120).mono (by decide +kernel)
  have r := round_q (a := powAt p (fprod p p) j) (b := 2 * (j:Int) + 1) (by omega)
  have t := pow_terms h0 h1 j
  have m1 := odd_pos j
  have em : ((2 * (j:Int) + 1 : Int) : Rat) = ((2 * j + 1 : Nat) : Rat) := by
    rw [show (2 * (j:Int) + 1 : Int) = ((2 * j + 1 : Nat) : Int) by push_cast; rfl, Rat.intCast_natCast]
  rw [em] at r
  generalize ((2 * j + 1 : Nat) : Rat) = m at *
  generalize ((pdiv (powAt p (fprod p p) j) (2 * (j:Int) + 1) : Int) : Rat) = x at *
  generalize ((powAt p (fprod p p) j : Int) : Rat) = y at *
  generalize sgn j * ((p : Rat) / 1000000000000000000000000000000000000 * ev ((p : Rat) / 1000000000000000000000000000000000000) j) = v at *
  have d := (ab_div (M := 1) t (by decide +kernel) m1).add r
  have e2 : (y - 1000000000000000000000000000000000000 * v) / m + (x - y / m) = x - 1000000000000000000000000000000000000 * (v / m) := by grind
  rw [e2] at d
  exact d.mono (by decide +kernel)

-- near and twice an angle
theorem pert {x e E : Rat} (hx : Ab x 6) (he : Ab e E) (hE : E ≤ 1/2) : Ab (Cn (x + e) - Cn x) (6 * E + 1/10^65) ∧ Ab (Sn (x + e) - Sn x) (6 * E + 1/10^65) := by
  have x7 : Ab x 7 := hx.mono (by decide +kernel)
  have E0 := he.nonneg
  obtain ⟨c1, c2⟩ := add_SC x7 (he.mono (show E ≤ 7 by grind))
  have bC := bd_C x7
  have bS := bd_S x7
  have EE := mul_nn E0 (show 0 ≤ 1/2 - E by grind)
  have EEE := mul_nn (mul_nn E0 E0) (show 0 ≤ 1/2 - E by grind)
  have sC := (smallC (Y := E) E0 (by grind) he).mono (show 3 * E * E / 2 ≤ E by grind)
  have sS : Ab (Sn e) (2 * E) := by
    have := (smallS (Y := E) E0 (by grind) he).add he
    rw [show Sn e - e + e = Sn e by grind] at this
    exact this.mono (by grind)
  generalize Cn (x + e) = C' at *
  generalize Sn (x + e) = S' at *
  generalize Cn x = C at *
  generalize Sn x = S at *
  generalize Cn e = ce at *
  generalize Sn e = se at *
  have t1 := (((bC.mul sC).sub (bS.mul sS)).add c1)
  have t2 := (((bS.mul sC).add (bC.mul sS)).add c2)
  have e1 : C * (ce - 1) - S * se + (C' - (C * ce - S * se)) = C' - C := by grind
  have e2 : S * (ce - 1) + C * se + (S' - (S * ce + C * se)) = S' - S := by grind
  rw [e1] at t1
  rw [e2] at t2
  exact ⟨t1.mono (by grind), t2.mono (by grind)⟩
theorem twice {x P Q n e : Rat} (hx : Ab x 3) (hs : Ab (Sn x - P * Cn x) e) (ht : Ab (2 * P - Q * (1 - P * P)) n) (hP : Ab P 1) (hQ : Ab Q 1) (he : e ≤ 1) :
    Ab (Sn (x + x) - Q * Cn (x + x)) (4 * n + 9 * e + 2/10^65) := by
  have x7 : Ab x 7 := hx.mono (by decide +kernel)
  obtain ⟨c1, c2⟩ := add_SC x7 x7
  have bC := bd_C x7
  generalize Cn (x + x) = C' at *
  generalize Sn (x + x) = S' at *
  generalize Cn x = C at *
  generalize Sn x = S at *
  have e0 := hs.nonneg
  have t := (((((bC.mul bC).mul ht).add ((bC.mul hs).add (bC.mul hs))).add (hQ.mul ((((hP.mul bC).mul hs).add ((hP.mul bC).mul hs)).add (hs.mul hs)))).add c2).sub (hQ.mul c1)
  have e1 : C * C * (2 * P - Q * (1 - P * P)) + (C * (S - P * C) + C * (S - P * C)) + Q * (P * C * (S - P * C) + P * C * (S - P * C) + (S - P * C) * (S - P * C)) + (S' - (S * C + C * S)) - Q * (C' - (C * C - S * S)) = S' - Q * C' := by grind
  rw [e1] at t
  refine t.mono ?_
  have := mul_nn e0 (show 0 ≤ 1 - e by grind)
  grind
end Mine
end
section
set_option maxRecDepth 100000
namespace Mine
theorem pdiv_nn {a b : Int} (ha : 0 ≤ a) (hb : 0 < b) : pdiv a b = (2 * a + b) / (2 * b) := by
  unfold pdiv
  rw [if_neg (by omega)]
theorem pdiv_le {a b c : Int} (ha : 0 ≤ a) (hb : 0 < b) (h : a ≤ c * b) : 0 ≤ pdiv a b ∧ pdiv a b ≤ c := by
  rw [pdiv_nn ha hb]
  refine ⟨Int.ediv_nonneg (by omega) (by omega), ?_⟩
  have : (2 * a + b) / (2 * b) < c + 1 := by
    refine Int.ediv_lt_of_lt_mul (by omega) ?_
    have e : (c + 1) * (2 * b) = 2 * (c * b) + 2 * b := by grind
    omega
  omega
theorem sq_le {p c : Int} (h0 : 0 ≤ p) (h1 : p ≤ c) : 0 ≤ p * p ∧ p * p ≤ c * c := ⟨Int.mul_nonneg h0 h0, Int.mul_le_mul h1 h1 h0 (by omega)⟩
theorem arc_first {n u : Int} (h0 : 0 ≤ n) (h1 : n ≤ u) (h2 : 0 < u) : 0 ≤ pdiv (n * 1000000000000000000000000000000000000) u ∧ pdiv (n * 1000000000000000000000000000000000000) u ≤ 1000000000000000000000000000000000000 ∧ 0 ≤ pdiv (n * 1000000000000000000000000000000000000) u * pdiv (n * 1000000000000000000000000000000000000) u ∧ pdiv (n * 1000000000000000000000000000000000000) u * pdiv (n * 1000000000000000000000000000000000000) u ≤ 1000000000000000000000000000000000000000000000000000000000000000000000000 := by
  have h := pdiv_le (a := n * 1000000000000000000000000000000000000) (b := u) (c := 1000000000000000000000000000000000000) (by omega) h2 (by omega)
  have k := sq_le h.1 h.2
  exact ⟨h.1, h.2, k.1, by omega⟩
theorem arc_w {p r : Int} (h : wrR (1000000000000000000000000000000000000 * 1000000000000000000000000000000000000 + p * p) r) (h0 : 0 ≤ p) (h1 : p ≤ 1000000000000000000000000000000000000) : 1000000000000000000000000000000000000 ≤ r ∧ r ≤ 2000000000000000000000000000000000000 ∧ 0 ≤ pdiv (p * 1000000000000000000000000000000000000) (1000000000000000000000000000000000000 + r) ∧ pdiv (p * 1000000000000000000000000000000000000) (1000000000000000000000000000000000000 + r) ≤ 500000000000000000000000000000000000 ∧
    0 ≤ pdiv (p * 1000000000000000000000000000000000000) (1000000000000000000000000000000000000 + r) * pdiv (p * 1000000000000000000000000000000000000) (1000000000000000000000000000000000000 + r) ∧ pdiv (p * 1000000000000000000000000000000000000) (1000000000000000000000000000000000000 + r) * pdiv (p * 1000000000000000000000000000000000000) (1000000000000000000000000000000000000 + r) ≤ 1000000000000000000000000000000000000000000000000000000000000000000000000 := by
  obtain ⟨a1, a2, a3⟩ := h
  have k := sq_le h0 h1
  have b1 : 1000000000000000000000000000000000000 ≤ r := by
    rcases Int.lt_or_le r 1000000000000000000000000000000000000 with h | h
    · have := sq_le (show 0 ≤ r + 1 by omega) (show r + 1 ≤ 1000000000000000000000000000000000000 by omega)
      omega
    · exact h
  have b2 : r ≤ 2000000000000000000000000000000000000 := by
    rcases Int.lt_or_le 2000000000000000000000000000000000000 r with h | h
    · have := sq_le (show (0:Int) ≤ 2000000000000000000000000000000000000 by omega) (show 2000000000000000000000000000000000000 ≤ r by omega)
      omega
    · exact h
  have h := pdiv_le (a := p * 1000000000000000000000000000000000000) (b := 1000000000000000000000000000000000000 + r) (c := 500000000000000000000000000000000000) (by omega) (by omega) (by omega)
  have k2 := sq_le h.1 h.2
  exact ⟨b1, b2, h.1, h.2, k2.1, by omega⟩

-- arcs do not fall
theorem arc_step_nn {u d : Rat} (hu : 0 ≤ u) (hd : 0 ≤ d) (hv : u + d ≤ 1/2) (hd1 : d ≤ 1/100000) : 0 ≤ Ar (u+d) - Ar u := (arc_step hu hd hv hd1).2.2
theorem ar_all (k : Nat) (hk : 2 * k ≤ 1000000000000000000000000000000000000) : 0 ≤ Ar ((k : Rat) * (1/1000000000000000000000000000000000000)) ∧ Ar ((k : Rat) * (1/1000000000000000000000000000000000000)) ≤ (k : Rat) * (101/100/1000000000000000000000000000000000000) := by
  induction k with
  | zero =>
    rw [show ((0 : Nat) : Rat) = 0 from rfl, show (0:Rat) * (1/1000000000000000000000000000000000000) = 0 by grind, Ar_zero]
    constructor <;> grind
  | succ k ih =>
    obtain ⟨i1, i2⟩ := ih (by omega)
    have kq : ((2 * (k + 1) : Nat) : Rat) ≤ ((1000000000000000000000000000000000000 : Nat) : Rat) := Rat.natCast_le_natCast.mpr hk
    rw [F_q, Rat.natCast_mul, Rat.natCast_add, show ((2 : Nat) : Rat) = 2 from rfl, show ((1 : Nat) : Rat) = 1 from rfl] at kq
    rw [Rat.natCast_add, show ((1 : Nat) : Rat) = 1 from rfl]
    have k0 : (0:Rat) ≤ (k : Rat) := by
      have : ((0 : Nat) : Rat) ≤ ((k : Nat) : Rat) := Rat.natCast_le_natCast.mpr (by omega)
      exact this
    generalize (k : Rat) = x at *
    have e : (x + 1) * (1/1000000000000000000000000000000000000) = x * (1/1000000000000000000000000000000000000) + 1/1000000000000000000000000000000000000 := by grind
    have hu : 0 ≤ x * (1/1000000000000000000000000000000000000) := mul_nn k0 (by decide +kernel)
    have hd : (0:Rat) ≤ 1/1000000000000000000000000000000000000 := by decide +kernel
    have hv : x * (1/1000000000000000000000000000000000000) + 1/1000000000000000000000000000000000000 ≤ 1/2 := by grind
    have hd1 : (1:Rat)/1000000000000000000000000000000000000 ≤ 1/100000 := by decide +kernel
    have g := (arc_step hu hd hv hd1).2.1
    have g0 := arc_step_nn hu hd hv hd1
    rw [e]
    unfold Ab at g
    generalize Ar (x * (1/1000000000000000000000000000000000000) + 1/1000000000000000000000000000000000000) = y at *
    generalize Ar (x * (1/1000000000000000000000000000000000000)) = z at *
    constructor <;> grind
theorem ar_end {p : Int} (h0 : 0 ≤ p) (h1 : p ≤ 500000000000000000000000000000000000) : 0 ≤ Ar ((p : Rat) / 1000000000000000000000000000000000000) ∧ Ar ((p : Rat) / 1000000000000000000000000000000000000) ≤ 101/100 * ((p : Rat) / 1000000000000000000000000000000000000) := by
  have h := ar_all p.toNat (by omega)
  have e : ((p.toNat : Nat) : Rat) = (p : Rat) := by
    have : ((p.toNat : Nat) : Int) = p := by omega
    rw [← Rat.intCast_natCast, this]
  rw [e, show (p : Rat) * (1/1000000000000000000000000000000000000) = (p : Rat) / 1000000000000000000000000000000000000 by grind] at h
  exact ⟨h.1, by have := h.2; grind⟩

-- half the angle
theorem ab_of_mul {t Z E : Rat} (h : Ab (Z * t) E) (hZ : 1 ≤ Z) : Ab t E := by
  unfold Ab at *
  constructor
  · rcases (show -E ≤ t ∨ 0 ≤ -E - t by grind) with h1 | h1
    · exact h1
    · have E0 : 0 ≤ E := by grind
      have := mul_nn (show 0 ≤ -t by grind) (show 0 ≤ Z - 1 by grind)
      grind
  · rcases (show t ≤ E ∨ 0 ≤ t - E by grind) with h1 | h1
    · exact h1
    · have E0 : 0 ≤ E := by grind
      have := mul_nn (show 0 ≤ t by grind) (show 0 ≤ Z - 1 by grind)
      grind
theorem half_W {W P : Rat} (k1 : 1000000000000000000000000000000000000 * W * (1000000000000000000000000000000000000 * W) ≤ 1000000000000000000000000000000000000 * 1000000000000000000000000000000000000 + 1000000000000000000000000000000000000 * P * (1000000000000000000000000000000000000 * P)) (k2 : 1000000000000000000000000000000000000 * 1000000000000000000000000000000000000 + 1000000000000000000000000000000000000 * P * (1000000000000000000000000000000000000 * P) ≤ (1000000000000000000000000000000000000 * W + 1) * (1000000000000000000000000000000000000 * W + 1)) (W2 : W ≤ 2) : 0 ≤ 1 + P * P - W * W ∧ 1 + P * P - W * W ≤ 5/1000000000000000000000000000000000000 := by
  constructor
  · grind
  · have : (1000000000000000000000000000000000000 * 1000000000000000000000000000000000000 : Rat) * (1 + P * P - W * W) ≤ 1000000000000000000000000000000000000 * (2 * W) + 1 := by grind
    grind
theorem half_q {W P Q : Rat} (W1 : 1 ≤ W) (W2 : W ≤ 2) (r : Ab (1000000000000000000000000000000000000 * Q - 1000000000000000000000000000000000000 * P * 1000000000000000000000000000000000000 / (1000000000000000000000000000000000000 + 1000000000000000000000000000000000000 * W)) (1/2)) : Ab (Q * (1 + W) - P) (2/1000000000000000000000000000000000000) := by
  have z : 1000000000000000000000000000000000000 * P * 1000000000000000000000000000000000000 / (1000000000000000000000000000000000000 + 1000000000000000000000000000000000000 * W) = 1000000000000000000000000000000000000 * (P / (1 + W)) := by
    clear r
    have : (1 + W) ≠ 0 := by grind
    have : (1000000000000000000000000000000000000 + 1000000000000000000000000000000000000 * W : Rat) ≠ 0 := by grind
    grind
  rw [z] at r
  have m := r.mul (show Ab (1 + W) 3 from ⟨by grind, by grind⟩)
  have z2 : (1000000000000000000000000000000000000 * Q - 1000000000000000000000000000000000000 * (P / (1 + W))) * (1 + W) = 1000000000000000000000000000000000000 * (Q * (1 + W) - P) := by
    clear r m z
    have : (1 + W) ≠ 0 := by grind
    grind
  rw [z2] at m
  clear r z z2
  unfold Ab at *
  constructor <;> grind
theorem half_e (W P Q : Rat) : P * (1 + P * P - W * W) + 2 * (1 + W) * (Q * (1 + W) - P) + P * ((Q * (1 + W) - P) * (Q * (1 + W) + P)) = (1 + W) * (1 + W) * (2 * Q - P * (1 - Q * Q)) := by grind
theorem half_end {W P Q : Rat} (P0 : 0 ≤ P) (P1 : P ≤ 1) (W1 : 1 ≤ W) (W2 : W ≤ 2) (n : 0 ≤ 1 + P * P - W * W ∧ 1 + P * P - W * W ≤ 5/1000000000000000000000000000000000000) (er : Ab (Q * (1 + W) - P) (2/1000000000000000000000000000000000000)) : Ab (2 * Q - P * (1 - Q * Q)) (30/1000000000000000000000000000000000000) := by
  have Qb : Ab (Q * (1 + W) + P) 3 := by
    have m : (2:Rat)/1000000000000000000000000000000000000 ≤ 1 := by decide +kernel
    clear n
    unfold Ab at *
    constructor <;> grind
  have z5 : (0:Rat) ≤ 5/1000000000000000000000000000000000000 := by decide +kernel
  have Pb : Ab P 1 := ⟨by clear er Qb n; grind, P1⟩
  have nb : Ab (1 + P * P - W * W) (5/1000000000000000000000000000000000000) := ⟨by clear er Qb Pb; grind, n.2⟩
  have wb : Ab (2 * (1 + W)) 6 := ⟨by clear er Qb Pb n nb; grind, by clear er Qb Pb n nb; grind⟩
  have t := ((Pb.mul nb).add (wb.mul er)).add (Pb.mul (er.mul Qb))
  rw [half_e] at t
  exact ab_of_mul (t.mono (by decide +kernel)) (by clear er Qb Pb n nb wb t; have := mul_nn (show 0 ≤ W by grind) (show 0 ≤ W by grind); grind)
theorem f_mul (x : Rat) : x = 1000000000000000000000000000000000000 * (x / 1000000000000000000000000000000000000) := by grind
theorem half_step {p w : Int} (h0 : 0 ≤ p) (h1 : p ≤ 1000000000000000000000000000000000000) (hw : wrR (1000000000000000000000000000000000000 * 1000000000000000000000000000000000000 + p * p) w) :
    Ab (2 * ((pdiv (p * 1000000000000000000000000000000000000) (1000000000000000000000000000000000000 + w) : Int) / 1000000000000000000000000000000000000) - (p : Rat) / 1000000000000000000000000000000000000 * (1 - ((pdiv (p * 1000000000000000000000000000000000000) (1000000000000000000000000000000000000 + w) : Int) / 1000000000000000000000000000000000000) * ((pdiv (p * 1000000000000000000000000000000000000) (1000000000000000000000000000000000000 + w) : Int) / 1000000000000000000000000000000000000))) (30/1000000000000000000000000000000000000) := by
  have aw := arc_w hw h0 h1
  obtain ⟨a1, a2, a3⟩ := hw
  have r := round_q (a := p * 1000000000000000000000000000000000000) (b := 1000000000000000000000000000000000000 + w) (Int.lt_of_lt_of_le (by decide) (Int.add_le_add_left aw.1 _))
  have Fq : ((1000000000000000000000000000000000000 : Int) : Rat) = 1000000000000000000000000000000000000 := by decide +kernel
  rw [Rat.intCast_mul, Rat.intCast_add, Fq] at r
  have k1 : ((w * w : Int) : Rat) ≤ ((1000000000000000000000000000000000000 * 1000000000000000000000000000000000000 + p * p : Int) : Rat) := mq_pos a2
  have k2 : ((1000000000000000000000000000000000000 * 1000000000000000000000000000000000000 + p * p : Int) : Rat) ≤ (((w + 1) * (w + 1) : Int) : Rat) := mq_pos (Int.le_of_lt a3)
  rw [Rat.intCast_mul, Rat.intCast_add, Rat.intCast_mul, Rat.intCast_mul, Fq] at k1
  rw [Rat.intCast_add, Rat.intCast_mul, Rat.intCast_mul, Rat.intCast_mul, Rat.intCast_add, Fq, show ((1 : Int) : Rat) = 1 from rfl] at k2
  have w0 : (1 : Rat) ≤ (w : Rat) / 1000000000000000000000000000000000000 := by
    have := div_le (mq_pos aw.1) (show (0:Rat) < 1000000000000000000000000000000000000 by decide +kernel)
    rw [Fq, show (1000000000000000000000000000000000000 : Rat) / 1000000000000000000000000000000000000 = 1 by decide +kernel] at this
    exact this
  have w1 : (w : Rat) / 1000000000000000000000000000000000000 ≤ 2 := by
    have := div_le (mq_pos aw.2.1) (show (0:Rat) < 1000000000000000000000000000000000000 by decide +kernel)
    rw [show ((2000000000000000000000000000000000000 : Int) : Rat) / 1000000000000000000000000000000000000 = 2 by decide +kernel] at this
    exact this
  have p0 : 0 ≤ (p : Rat) / 1000000000000000000000000000000000000 := div_nn (mq_pos h0) (by decide +kernel)
  have p1 : (p : Rat) / 1000000000000000000000000000000000000 ≤ 1 := by
    have := div_le (mq_pos h1) (show (0:Rat) < 1000000000000000000000000000000000000 by decide +kernel)
    rw [Fq, show (1000000000000000000000000000000000000 : Rat) / 1000000000000000000000000000000000000 = 1 by decide +kernel] at this
    exact this
  generalize ((pdiv (p * 1000000000000000000000000000000000000) (1000000000000000000000000000000000000 + w) : Int) : Rat) = q at *
  clear aw a1 a2 a3 h0 h1 Fq
  rw [f_mul (w : Rat)] at k1 k2 r
  rw [f_mul (p : Rat)] at k1 k2 r
  rw [f_mul q] at r
  generalize (w : Rat) / 1000000000000000000000000000000000000 = W at *
  generalize (p : Rat) / 1000000000000000000000000000000000000 = P at *
  generalize q / 1000000000000000000000000000000000000 = Q at *
  exact half_end p0 p1 w0 w1 (half_W k1 k2 w1) (half_q w0 w1 r)
end Mine
end
section
set_option maxRecDepth 100000
namespace Mine
theorem q_of {p : Int} (h0 : 0 ≤ p) : 0 ≤ (p : Rat) / 1000000000000000000000000000000000000 := by
  have : (0 : Rat) ≤ p := by have := mq_pos h0; exact this
  exact div_nn this (by decide +kernel)
theorem first_half {P0 P1 e : Rat} (P00 : 0 ≤ P0) (P01 : P0 ≤ 1) (P10 : 0 ≤ P1) (P11 : P1 ≤ 1/2) (t0 : Ab (2 * P1 - P0 * (1 - P1 * P1)) e) (he : e ≤ 1/10000) : P1 ≤ 415/1000 := by
  rcases (show P1 ≤ 415/1000 ∨ 0 ≤ P1 - 415/1000 by grind) with h | h
  · exact h
  · have q1 := mul_nn h (show 0 ≤ P1 + 415/1000 by grind)
    have q2 := mul_nn (show 0 ≤ 1 - P0 by grind) (show 0 ≤ 1 - P1 * P1 by have := mul_nn P10 (show 0 ≤ 1 - P1 by grind); grind)
    unfold Ab at t0
    grind
theorem next_half {P1 P2 e : Rat} (P10 : 0 ≤ P1) (P11 : P1 ≤ 415/1000) (P20 : 0 ≤ P2) (t1 : Ab (2 * P2 - P1 * (1 - P2 * P2)) e) (he : e ≤ 1/10000) : P2 ≤ 208/1000 := by
  have q1 := mul_nn P10 (mul_nn P20 P20)
  unfold Ab at t1
  grind
theorem quarter_bd {X P2 A : Rat} (a0 : 0 ≤ A) (a1 : A ≤ 101/100 * P2) (b2 : P2 ≤ 208/1000) (ex : Ab (X - A) (360/1000000000000000000000000000000000000)) : -(1/10^31) ≤ X ∧ X ≤ 22/100 := by
  have n360 : (360:Rat)/1000000000000000000000000000000000000 ≤ 1/10^31 := by decide +kernel
  have n31 : (1:Rat)/10^31 ≤ 1/1000000 := by decide +kernel
  unfold Ab at ex
  constructor <;> grind
theorem quad_bd {X : Rat} (x0 : -(1/10^31) ≤ X) (x1 : X ≤ 22/100) : Ab X 3 ∧ Ab (X + X) 3 ∧ Ab (X + X + (X + X)) 7 ∧ -(1/10^30) ≤ X + X + (X + X) ∧ X + X + (X + X) ≤ 88/100 := by
  have n31 : (1:Rat)/10^31 ≤ 1/1000000 := by decide +kernel
  have n31' : (4:Rat)*(1/10^31) ≤ 1/10^30 := by decide +kernel
  unfold Ab
  refine ⟨⟨?_, ?_⟩, ⟨?_, ?_⟩, ⟨?_, ?_⟩, ?_, ?_⟩ <;> grind
theorem quarter_sc {X A P : Rat} (hP : Ab P 1) (hA : Ab A 1) (d : Ab (Sn A - P * Cn A) (1/10^28)) (ex : Ab (X - A) (360/1000000000000000000000000000000000000)) : Ab (Sn X - P * Cn X) (2/10^28) := by
  have pe := pert (x := A) (hA.mono (by decide +kernel)) ex (by decide +kernel)
  rw [show A + (X - A) = X by clear pe d ex; grind] at pe
  have h := (d.add pe.2).sub (hP.mul pe.1)
  rw [show Sn A - P * Cn A + (Sn X - Sn A) - P * (Cn X - Cn A) = Sn X - P * Cn X by clear h pe d ex; grind] at h
  exact h.mono (by decide +kernel)
theorem across_end {U N P0 S C : Rat} (u0 : 0 < U) (r0 : Ab (1000000000000000000000000000000000000 * P0 - N * 1000000000000000000000000000000000000 / U) (1/2)) (s0 : Ab (S - P0 * C) (2/10^26)) (bC : Ab C 2) : Ab (U * S - N * C) (U * (1/10^24)) := by
  have Ub : Ab U U := ⟨by grind, Rat.le_refl⟩
  have up : Ab (U * P0 - N) (U * (1/1000000000000000000000000000000000000)) := by
    have m := (Ub.mul r0).div (c := 1000000000000000000000000000000000000) (by decide +kernel)
    have z : U * (1000000000000000000000000000000000000 * P0 - N * 1000000000000000000000000000000000000 / U) / 1000000000000000000000000000000000000 = U * P0 - N := by
      clear m r0 s0 bC
      have : U ≠ 0 := by grind
      grind
    rw [z] at m
    clear r0 s0 bC
    refine m.mono ?_
    grind
  have t := (Ub.mul s0).add (up.mul bC)
  rw [show U * (S - P0 * C) + (U * P0 - N) * C = U * S - N * C by clear t up s0 r0 bC; grind] at t
  refine t.mono ?_
  have nn : (2:Rat)/10^26 + 1/1000000000000000000000000000000000000 * 2 ≤ 1/10^24 := by decide +kernel
  have := mul_nn (show 0 ≤ U by grind) (show 0 ≤ (1:Rat)/10^24 - (2/10^26 + 1/1000000000000000000000000000000000000 * 2) by grind)
  clear t up s0 r0 bC
  grind
theorem q_le {p P : Int} {c : Rat} (h : p ≤ P) (e : ((P : Int) : Rat) / 1000000000000000000000000000000000000 = c) : (p : Rat) / 1000000000000000000000000000000000000 ≤ c := by
  rw [← e]
  exact div_le (mq_pos h) (by decide +kernel)
theorem one_ab {P c : Rat} (h0 : 0 ≤ P) (h1 : P ≤ c) (hc : c ≤ 1) : Ab P 1 := ⟨by grind, by grind⟩
theorem arc_close {n u r : Int} (h0 : 0 ≤ n) (h1 : n ≤ u) (h2 : 0 < u) (h : arcR n u r) :
    Ab ((u : Rat) * Sn ((r : Rat) / 1000000000000000000000000000000000000) - n * Cn ((r : Rat) / 1000000000000000000000000000000000000)) (u * (1/10^24)) ∧ -(1/10^30) ≤ (r : Rat) / 1000000000000000000000000000000000000 ∧ (r : Rat) / 1000000000000000000000000000000000000 ≤ 88/100 := by
  obtain ⟨w0, w1, o, hw0, hw1, ho, hr⟩ := h
  have f0 := arc_first h0 h1 h2
  have r0 := round_q (a := n * 1000000000000000000000000000000000000) (b := u) h2
  rw [Rat.intCast_mul, show ((1000000000000000000000000000000000000 : Int) : Rat) = 1000000000000000000000000000000000000 by decide +kernel] at r0
  have u0 : (0 : Rat) < u := Rat.intCast_lt_intCast.mpr h2
  clear h0 h1 h2
  generalize pdiv (n * 1000000000000000000000000000000000000) u = p0 at *
  have t0 := half_step f0.1 f0.2.1 hw0
  have a0 := arc_w hw0 f0.1 f0.2.1
  generalize pdiv (p0 * 1000000000000000000000000000000000000) (1000000000000000000000000000000000000 + w0) = p1 at *
  have p1F : p1 ≤ 1000000000000000000000000000000000000 := Int.le_trans a0.2.2.2.1 (by decide)
  have t1 := half_step a0.2.2.1 p1F hw1
  have a1 := arc_w hw1 a0.2.2.1 p1F
  generalize pdiv (p1 * 1000000000000000000000000000000000000) (1000000000000000000000000000000000000 + w1) = p2 at *
  have P00 := q_of f0.1
  have P10 := q_of a0.2.2.1
  have P20 := q_of a1.2.2.1
  have P01 : (p0 : Rat) / 1000000000000000000000000000000000000 ≤ 1 := q_le f0.2.1 (by decide +kernel)
  have P11 : (p1 : Rat) / 1000000000000000000000000000000000000 ≤ 1/2 := q_le a0.2.2.2.1 (by decide +kernel)
  have de := du_end a1.2.2.1 a1.2.2.2.1
  have ae := ar_end a1.2.2.1 a1.2.2.2.1
  have oc := odd_close a1.2.2.1 a1.2.2.2.1 ho
  clear f0 a0 a1 hw0 hw1 ho p1F
  unfold Du at de
  have hrq : (r : Rat) = 4 * (o : Rat) := by rw [hr, Rat.intCast_mul]; rfl
  have e4 : (r : Rat) / 1000000000000000000000000000000000000 = (o : Rat) / 1000000000000000000000000000000000000 + (o : Rat) / 1000000000000000000000000000000000000 + ((o : Rat) / 1000000000000000000000000000000000000 + (o : Rat) / 1000000000000000000000000000000000000) := by
    rw [hrq]
    clear r0 t0 t1 P00 P10 P20 P01 P11 de ae oc u0
    grind
  have ep0 : (p0 : Rat) = 1000000000000000000000000000000000000 * ((p0 : Rat) / 1000000000000000000000000000000000000) := by
    clear r0 t0 t1 P00 P10 P20 P01 P11 de ae oc u0 e4 hrq
    grind
  rw [e4]
  rw [ep0] at r0
  have ex : Ab ((o : Rat) / 1000000000000000000000000000000000000 - Ar ((p2 : Rat) / 1000000000000000000000000000000000000)) (360/1000000000000000000000000000000000000) := by
    have d := oc.div (c := 1000000000000000000000000000000000000) (by decide +kernel)
    rw [show ((o : Rat) - 1000000000000000000000000000000000000 * Ar ((p2 : Rat) / 1000000000000000000000000000000000000)) / 1000000000000000000000000000000000000 = (o : Rat) / 1000000000000000000000000000000000000 - Ar ((p2 : Rat) / 1000000000000000000000000000000000000) by
      clear r0 t0 t1 P00 P10 P20 P01 P11 de ae oc u0 e4 hrq d ep0
      grind] at d
    exact d
  clear oc e4 hrq ep0 hr
  generalize (p0 : Rat) / 1000000000000000000000000000000000000 = P0 at *
  generalize (p1 : Rat) / 1000000000000000000000000000000000000 = P1 at *
  generalize (p2 : Rat) / 1000000000000000000000000000000000000 = P2 at *
  generalize (o : Rat) / 1000000000000000000000000000000000000 = X at *
  have n30 : (30:Rat)/1000000000000000000000000000000000000 ≤ 1/10000 := by decide +kernel
  have b1 := first_half P00 P01 P10 P11 t0 n30
  have b2 := next_half P10 b1 P20 t1 n30
  have Xb := quarter_bd ae.1 ae.2 b2 ex
  obtain ⟨x3, x6, x7, y0, y1⟩ := quad_bd Xb.1 Xb.2
  have P1b := one_ab P10 b1 (by decide +kernel)
  have P2b := one_ab P20 b2 (by decide +kernel)
  have s2 := quarter_sc P2b de.2 de.1 ex
  have s1 := (twice x3 s2 t1 P2b P1b (by decide +kernel)).mono (show 4 * ((30:Rat)/1000000000000000000000000000000000000) + 9 * (2/10^28) + 2/10^65 ≤ 2/10^27 by decide +kernel)
  have s0 := (twice x6 s1 t0 P1b (one_ab P00 P01 (by decide +kernel)) (by decide +kernel)).mono (show 4 * ((30:Rat)/1000000000000000000000000000000000000) + 9 * (2/10^27) + 2/10^65 ≤ 2/10^26 by decide +kernel)
  exact ⟨across_end u0 r0 s0 (bd_C x7), y0, y1⟩

-- sizes against the length of the point
/-- x is within m lengths, R the length's square -/
noncomputable def Le (R x m : Rat) : Prop := x * x ≤ R * (m * m)
theorem Le.add {R x y a b : Rat} (hR : 0 ≤ R) (ha : 0 ≤ a) (hb : 0 ≤ b) (h : Le R x a) (k : Le R y b) : Le R (x + y) (a + b) := by
  unfold Le at *
  have p : x * y ≤ R * (a * b) := by
    rcases (show x * y ≤ R * (a * b) ∨ 0 ≤ x * y - R * (a * b) by grind) with h1 | h1
    · exact h1
    · have n := mul_nn hR (mul_nn ha hb)
      rcases (show x * y - R * (a * b) = 0 ∨ 0 < x * y - R * (a * b) by grind) with h2 | h2
      · grind
      · have q1 := Rat.mul_pos h2 (show 0 < x * y + R * (a * b) by grind)
        have q2 := mul_nn (sq_nn x) (show 0 ≤ R * (b * b) - y * y by grind)
        have q3 := mul_nn (show 0 ≤ R * (a * a) - x * x by grind) (show 0 ≤ R * (b * b) by exact mul_nn hR (sq_nn b))
        grind
  grind
theorem Le.neg {R x a : Rat} (h : Le R x a) : Le R (-x) a := by unfold Le at *; grind
theorem Le.mono {R x a b : Rat} (hR : 0 ≤ R) (h : Le R x a) (ha : 0 ≤ a) (k : a ≤ b) : Le R x b := by
  unfold Le at *
  have := mul_nn hR (show 0 ≤ b * b - a * a by have := mul_nn (show 0 ≤ b - a by grind) (show 0 ≤ b + a by grind); grind)
  grind
theorem Le.mul {R x a c k : Rat} (h : Le R x a) (hc : Ab c k) : Le R (c * x) (k * a) := by
  unfold Le at *
  have k0 := hc.nonneg
  have c2 : c * c ≤ k * k := by
    have := mul_nn (show 0 ≤ k - c by unfold Ab at hc; grind) (show 0 ≤ k + c by unfold Ab at hc; grind)
    grind
  have q1 := mul_nn (show 0 ≤ k * k - c * c by grind) (sq_nn x)
  have q2 := mul_nn (sq_nn k) (show 0 ≤ R * (a * a) - x * x by grind)
  grind
theorem Le.of_ab {R x U m : Rat} (h : Ab x (U * m)) (hU : U * U ≤ R) : Le R x m := by
  unfold Le
  have q := mul_nn (show 0 ≤ U * m - x by unfold Ab at h; grind) (show 0 ≤ U * m + x by unfold Ab at h; grind)
  have q2 := mul_nn (show 0 ≤ R - U * U by grind) (sq_nn m)
  grind
end Mine
end
section
set_option maxRecDepth 100000
namespace Mine
theorem eta_num : (0:Rat) ≤ hh/2 + 1/10^37 ∧ hh/2 + 1/10^37 ≤ 1 ∧ (hh/2 + 1/10^37) + (hh/2 + 1/10^37) * (hh/2 + 1/10^37) * (hh/2 + 1/10^37) / 2 ≤ hh/2 + 1/10^24 ∧ hh/2 + 1/10^37 ≤ 1/100 ∧ (0:Rat) ≤ hh/2 + 1/10^24 := by decide +kernel
theorem k1_num : Ab ((1000000000000000000000000000000000000 : Rat) * 180000000 / 3141592653589793238462643383279502884 * hh - 1) (1/10^37) := by unfold Ab; decide +kernel
theorem base_num : (hh/2 + 1/10^24) * (1 + 1/10^60) + 2 * (1/10^24) + 1/10^65 + 1/10^65 ≤ hh/2 + 1/10^23 := by decide +kernel
theorem one60 : (1:Rat) + 1/10^65 ≤ (1 + 1/10^60) * (1 + 1/10^60) := by decide +kernel
theorem lt_of_q {a b : Int} (h : (a : Rat) < (b : Rat)) : a < b := Rat.intCast_lt_intCast.mp h
theorem base_g {X g c : Rat} (x0 : -(1/10^30) ≤ X) (x1 : X ≤ 88/100) (c0 : 0 ≤ c) (c1 : c ≤ 60000000) (rr : Ab (g - X * c) (1/2)) : -1 < g ∧ g ≤ 60000000 := by
  have n30 : (1:Rat)/10^30 ≤ 1/1000000000 := by decide +kernel
  have m1 := mul_nn (show 0 ≤ X + 1/10^30 by grind) c0
  have m2 := mul_nn (show 0 ≤ 88/100 - X by grind) c0
  unfold Ab at rr
  constructor <;> grind
theorem base_d {X g c h : Rat} (x0 : -(1/10^30) ≤ X) (x1 : X ≤ 88/100) (h0 : 0 ≤ h) (rr : Ab (g - X * c) (1/2)) (kk : Ab (c * h - 1) (1/10^37)) : Ab (g * h - X) (h/2 + 1/10^37) := by
  have n30 : (1:Rat)/10^30 ≤ 1 := by decide +kernel
  have Xb : Ab X 1 := ⟨by grind, by grind⟩
  have m := (rr.mul (show Ab h h from ⟨by grind, by grind⟩)).add (Xb.mul kk)
  rw [show (g - X * c) * h + X * (c * h - 1) = g * h - X by grind] at m
  exact m.mono (by grind)
theorem base_across {p q S C SY CY sd cd ε : Rat} (q0 : 0 ≤ q) (p0 : 0 ≤ p) (p1 : p ≤ q) (e0 : 0 ≤ ε) (ac : Ab (q * S - p * C) (q * (1/10^24))) (sS : Ab sd ε) (bC : Ab cd 2) (uc : Ab (1 - (C * C + S * S)) (1/10^65))
    (c1 : Ab (CY - (C * cd - S * sd)) (1/10^65)) (c2 : Ab (SY - (S * cd + C * sd)) (1/10^65)) : Le (p * p + q * q) (q * SY - p * CY) (ε * (1 + 1/10^60) + 2 * (1/10^24) + 1/10^65 + 1/10^65) := by
  have R0 : 0 ≤ p * p + q * q := by have := sq_nn p; have := sq_nn q; grind
  have qR : q * q ≤ p * p + q * q := by have := sq_nn p; grind
  have L1 : Le (p * p + q * q) (q * C + p * S) (1 + 1/10^60) := by
    unfold Le
    have m := mul_nn R0 (show 0 ≤ 1 + 1/10^65 - (C * C + S * S) by unfold Ab at uc; grind)
    have m2 := mul_nn R0 (show 0 ≤ (1 + 1/10^60) * (1 + 1/10^60) - (1 + 1/10^65 : Rat) by have := one60; grind)
    have s := sq_nn (q * S - p * C)
    clear ac sS bC uc c1 c2
    grind
  have L2 := L1.mul sS
  have L3 := (Le.of_ab ac qR).mul bC
  have L5 := Le.of_ab ((show Ab q q from ⟨by grind, Rat.le_refl⟩).mul c2) qR
  have L6 := (Le.of_ab ((show Ab p q from ⟨by grind, p1⟩).mul c1) qR).neg
  have z60 : (0:Rat) ≤ 1 + 1/10^60 := by decide +kernel
  have z24 : (0:Rat) ≤ 2 * (1/10^24) := by decide +kernel
  have z65 : (0:Rat) ≤ 1/10^65 := by decide +kernel
  have z1 : 0 ≤ ε * (1 + 1/10^60) := mul_nn e0 z60
  have z2 := Rat.add_nonneg z1 z24
  have L := ((L2.add R0 z1 z24 L3).add R0 z2 z65 L5).add R0 (Rat.add_nonneg z2 z65) z65 L6
  have e : sd * (q * C + p * S) + cd * (q * S - p * C) + q * (SY - (S * cd + C * sd)) + -(p * (CY - (C * cd - S * sd))) = q * SY - p * CY := by
    clear ac sS bC uc c1 c2 L L1 L2 L3 L5 L6
    grind
  rw [e] at L
  exact L
theorem base_along {p q y SY CY : Rat} (q0 : 0 ≤ q) (p0 : 0 ≤ p) (y0 : 0 ≤ y) (y1 : y ≤ 9/10) (fC : Ab (CY - (1 - y * y / 2)) (y * y * y * y / 8)) (fS : Ab (SY - (y - y * y * y / 6)) (y * y * y * y * y / 40)) : q / 2 ≤ q * CY + p * SY := by
  have yy := mul_nn y0 y0
  have y9 := mul_nn y0 (show 0 ≤ 9/10 - y by grind)
  have y81 := mul_nn yy (show 0 ≤ 81/100 - y * y by grind)
  have c5 : 1/2 ≤ CY := by clear fS; unfold Ab at fC; grind
  have s5 : 0 ≤ SY := by
    have t1 := mul_nn y0 (show 0 ≤ 81/100 - y * y by grind)
    have t2 := mul_nn (mul_nn y0 yy) (show 0 ≤ 81/100 - y * y by grind)
    clear fC
    unfold Ab at fS; grind
  have m1 := mul_nn q0 (show 0 ≤ CY - 1/2 by grind)
  have m2 := mul_nn p0 s5
  clear fC fS yy y9 y81
  grind
theorem c_num : (0:Rat) ≤ 1000000000000000000000000000000000000 * 180000000 / 3141592653589793238462643383279502884 ∧ (1000000000000000000000000000000000000 * 180000000 / 3141592653589793238462643383279502884 : Rat) ≤ 60000000 := by decide +kernel
theorem arc_base {p q o : Int} (h0 : 0 ≤ p) (h1 : p ≤ q) (h2 : 0 < q) (h : arcR p q o) :
    (0 ≤ pdiv (o * 180000000) 3141592653589793238462643383279502884 ∧ pdiv (o * 180000000) 3141592653589793238462643383279502884 ≤ 60000000) ∧
    Le ((p:Rat) * p + q * q) ((q:Rat) * Sa (pdiv (o * 180000000) 3141592653589793238462643383279502884) - p * Ca (pdiv (o * 180000000) 3141592653589793238462643383279502884)) (hh/2 + 1/10^23) ∧
    (q:Rat) / 2 ≤ q * Ca (pdiv (o * 180000000) 3141592653589793238462643383279502884) + p * Sa (pdiv (o * 180000000) 3141592653589793238462643383279502884) := by
  obtain ⟨ac, x0, x1⟩ := arc_close h0 h1 h2 h
  have rr := round_q (a := o * 180000000) (b := 3141592653589793238462643383279502884) (by decide)
  rw [Rat.intCast_mul, show ((180000000 : Int) : Rat) = 180000000 by decide +kernel, show ((3141592653589793238462643383279502884 : Int) : Rat) = 3141592653589793238462643383279502884 by decide +kernel] at rr
  have q0 : (0 : Rat) ≤ q := mq_pos (Int.le_of_lt h2)
  have p0 : (0 : Rat) ≤ p := mq_pos h0
  have p1 : (p : Rat) ≤ q := mq_pos h1
  generalize pdiv (o * 180000000) 3141592653589793238462643383279502884 = g at *
  have eX : (o : Rat) * 180000000 / 3141592653589793238462643383279502884 = (o : Rat) / 1000000000000000000000000000000000000 * (1000000000000000000000000000000000000 * 180000000 / 3141592653589793238462643383279502884) := by
    clear ac x0 x1 rr q0 p0 p1
    grind
  rw [eX] at rr
  generalize (o : Rat) / 1000000000000000000000000000000000000 = X at *
  have gq := base_g x0 x1 c_num.1 c_num.2 rr
  have g0 : 0 ≤ g := by
    have : ((-1 : Int) : Rat) < (g : Rat) := gq.1
    have := lt_of_q this
    clear h0 h1 h2
    omega
  have g1 : g ≤ 60000000 := by
    have : (g : Rat) ≤ ((60000000 : Int) : Rat) := by rw [show ((60000000 : Int) : Rat) = 60000000 by decide +kernel]; exact gq.2
    exact of_q this
  refine ⟨⟨g0, g1⟩, ?_⟩
  have gp0 : (0:Rat) ≤ g := mq_pos g0
  have hp := hh_pos.1
  have ed := base_d x0 x1 hp rr k1_num
  clear rr gq eX
  obtain ⟨e0, e1, e2, e3, e4⟩ := eta_num
  have n30 : (1:Rat)/10^30 ≤ 1 := by decide +kernel
  have Xb7 : Ab X 7 := ⟨by grind, by grind⟩
  have d7 : Ab ((g : Rat) * hh - X) 7 := ed.mono (by grind)
  obtain ⟨c1, c2⟩ := add_SC Xb7 d7
  rw [show X + ((g : Rat) * hh - X) = (g : Rat) * hh by clear ac; grind] at c1 c2
  have sS : Ab (Sn ((g : Rat) * hh - X)) (hh/2 + 1/10^24) := by
    have := (smallS e0 e1 ed).add ed
    rw [show Sn ((g : Rat) * hh - X) - ((g : Rat) * hh - X) + ((g : Rat) * hh - X) = Sn ((g : Rat) * hh - X) by clear ac c1 c2; grind] at this
    exact this.mono (by rw [Rat.add_comm]; exact e2)
  have y0 : 0 ≤ (g : Rat) * hh := mul_nn gp0 hp
  have y1 : (g : Rat) * hh ≤ 9/10 := by clear ac c1 c2 sS; unfold Ab at ed; grind
  have yb : Ab ((g : Rat) * hh) ((g : Rat) * hh) := by clear ac c1 c2 sS; exact ⟨by grind, Rat.le_refl⟩
  have y2 : (g : Rat) * hh ≤ 1 := Rat.le_trans y1 (by decide +kernel)
  have R0 : 0 ≤ (p:Rat) * p + q * q := Rat.add_nonneg (sq_nn _) (sq_nn _)
  refine ⟨(base_across q0 p0 p1 e4 ac sS (bd_C d7) (unit_circle Xb7) c1 c2).mono R0 ?_ base_num, base_along q0 p0 y0 y1 (fineC y0 y2 yb) (fineS y0 y2 yb)⟩
  exact Rat.add_nonneg (Rat.add_nonneg (Rat.add_nonneg (mul_nn e4 (by decide +kernel)) (by decide +kernel)) (by decide +kernel)) (by decide +kernel)

/-- one mirror -/
theorem mirror {R q A A' B B' m k e : Rat} (hR : 0 ≤ R) (hm : 0 ≤ m) (he : 0 ≤ e) (hq : q * q ≤ R) (hA : Le R A m) (hB : q/2 - q * k ≤ B) (h1 : Ab (A' - A) (q * e) ∨ Ab (A' + A) (q * e)) (h2 : Ab (B' - B) (q * e)) :
    Le R A' (m + e) ∧ q/2 - q * (k + e) ≤ B' := by
  constructor
  · rcases h1 with h1 | h1
    · have := hA.add hR hm he (Le.of_ab h1 hq)
      rw [show A + (A' - A) = A' by grind] at this
      exact this
    · have := hA.neg.add hR hm he (Le.of_ab h1 hq)
      rw [show -A + (A' + A) = A' by grind] at this
      exact this
  · unfold Ab at h2; grind
theorem ab_pair {x y q a b e : Rat} (hx : Ab x q) (hy : Ab y q) (ha : Ab a e) (hb : Ab b e) : Ab (x * a + y * b) (q * (2 * e)) := by
  have := (hx.mul ha).add (hy.mul hb)
  exact this.mono (by grind)
theorem e37 : (0:Rat) ≤ 2 * (1/10^37) := by decide +kernel
theorem m23 : (0:Rat) ≤ hh/2 + 1/10^23 := by decide +kernel
/-- the angle a stands at the point (u, n), q the greater size, k the slack -/
structure Tg (n u a : Int) (q k : Rat) : Prop where
  q1 : 1 ≤ q
  nq : Ab (n : Rat) q
  uq : Ab (u : Rat) q
  qR : q * q ≤ (n : Rat) * n + u * u
  k0 : 0 ≤ k
  A : Le ((n : Rat) * n + u * u) ((u : Rat) * Sa a - n * Ca a) (hh/2 + 1/10^23 + k)
  B : q/2 - q * k ≤ (u : Rat) * Ca a + n * Sa a
theorem Tg.R0 {n u a : Int} {q k : Rat} (_ : Tg n u a q k) : 0 ≤ (n : Rat) * n + u * u := Rat.add_nonneg (sq_nn _) (sq_nn _)
theorem Tg.mono {n u a : Int} {q k k' : Rat} (T : Tg n u a q k) (h : k ≤ k') : Tg n u a q k' where
  q1 := T.q1
  nq := T.nq
  uq := T.uq
  qR := T.qR
  k0 := Rat.le_trans T.k0 h
  A := T.A.mono T.R0 (Rat.add_nonneg m23 T.k0) (by grind)
  B := by
    have := mul_nn (show 0 ≤ q by have := T.q1; grind) (show 0 ≤ k' - k by grind)
    have := T.B
    grind
/-- one mirror of a point and its angle -/
theorem Tg.turn {n u a n' u' a' : Int} {q k : Rat} (T : Tg n u a q k) (nq : Ab (n' : Rat) q) (uq : Ab (u' : Rat) q) (e : (n' : Rat) * n' + u' * u' = (n : Rat) * n + u * u)
    (h1 : Ab ((u' : Rat) * Sa a' - n' * Ca a' - (u * Sa a - n * Ca a)) (q * (2 * (1/10^37))) ∨ Ab ((u' : Rat) * Sa a' - n' * Ca a' + (u * Sa a - n * Ca a)) (q * (2 * (1/10^37))))
    (h2 : Ab ((u' : Rat) * Ca a' + n' * Sa a' - (u * Ca a + n * Sa a)) (q * (2 * (1/10^37)))) : Tg n' u' a' q (k + 2 * (1/10^37)) := by
  have m := mirror T.R0 (Rat.add_nonneg m23 T.k0) e37 T.qR T.A T.B h1 h2
  rw [Rat.add_assoc] at m
  exact ⟨T.q1, nq, uq, by rw [e]; exact T.qR, Rat.add_nonneg T.k0 e37, by rw [e]; exact m.1, m.2⟩
theorem one_q {t : Int} (h : 1 ≤ t) : (1:Rat) ≤ t := mq_pos h
theorem ab_self {q : Rat} (h : 1 ≤ q) : Ab q q := ⟨by grind, Rat.le_refl⟩
theorem ab_low {t q : Rat} (h0 : 0 ≤ t) (h : t ≤ q) : Ab t q := ⟨by grind, h⟩
theorem tgA {t v o : Int} (t0 : 0 ≤ t) (h1 : t ≤ v) (hv : 1 ≤ v) (h : arcR t v o) :
    (0 ≤ pdiv (o * 180000000) 3141592653589793238462643383279502884 ∧ pdiv (o * 180000000) 3141592653589793238462643383279502884 ≤ 60000000) ∧ Tg t v (pdiv (o * 180000000) 3141592653589793238462643383279502884) v 0 := by
  obtain ⟨b, A, B⟩ := arc_base t0 h1 (by omega) h
  have v1 := one_q hv
  refine ⟨b, v1, ab_low (mq_pos t0) (mq_pos h1), ab_self v1, by have := sq_nn (t : Rat); grind, Rat.le_refl, by rw [Rat.add_zero]; exact A, ?_⟩
  rw [Rat.mul_zero, Rat.sub_eq_add_neg, Rat.neg_zero, Rat.add_zero]
  exact B
theorem swap_eq (x y : Rat) : x * x + y * y = y * y + x * x := Rat.add_comm _ _
theorem tgB {t v g : Int} {q k : Rat} (T : Tg v t g q k) (b : 0 ≤ g ∧ g ≤ 60000000) : Tg t v (90000000 - g) q (k + 2 * (1/10^37)) := by
  have mi := mirQ (a := g) (by omega) (by omega)
  have k1 := ab_pair T.nq T.uq.neg mi.2 mi.1
  have k2 := ab_pair T.nq T.uq mi.1 mi.2
  refine T.turn T.uq T.nq (swap_eq _ _) (Or.inr ?_) ?_
  · rw [show (v : Rat) * Sa (90000000 - g) - t * Ca (90000000 - g) + (t * Sa g - v * Ca g) = v * (Sa (90000000 - g) - Ca g) + -(t : Rat) * (Ca (90000000 - g) - Sa g) by clear k1 k2 mi T; grind]
    exact k1
  · rw [show (v : Rat) * Ca (90000000 - g) + t * Sa (90000000 - g) - (t * Ca g + v * Sa g) = v * (Ca (90000000 - g) - Sa g) + t * (Sa (90000000 - g) - Ca g) by clear k1 k2 mi T; grind]
    exact k2
theorem neg_sq (x y : Rat) : x * x + -y * -y = x * x + y * y := by grind
theorem neg_sq' (x y : Rat) : -x * -x + y * y = x * x + y * y := by grind
theorem tgH {t v g : Int} {q k : Rat} (T : Tg t v g q k) (b : 0 ≤ g ∧ g ≤ 90000000) : Tg t (-v) (180000000 - g) q (k + 2 * (1/10^37)) := by
  have mi := mirH (a := g) (by omega) (by omega)
  have k1 := ab_pair T.uq.neg T.nq.neg mi.2 mi.1
  have k2 := ab_pair T.uq.neg T.nq mi.1 mi.2
  refine T.turn T.nq (by rw [Rat.intCast_neg]; exact T.uq.neg) (by rw [Rat.intCast_neg]; exact neg_sq _ _) (Or.inr ?_) ?_
  · rw [Rat.intCast_neg, show -(v : Rat) * Sa (180000000 - g) - t * Ca (180000000 - g) + (v * Sa g - t * Ca g) = -(v : Rat) * (Sa (180000000 - g) - Sa g) + -(t : Rat) * (Ca (180000000 - g) + Ca g) by clear k1 k2 mi T; grind]
    exact k1
  · rw [Rat.intCast_neg, show -(v : Rat) * Ca (180000000 - g) + t * Sa (180000000 - g) - (v * Ca g + t * Sa g) = -(v : Rat) * (Ca (180000000 - g) + Ca g) + t * (Sa (180000000 - g) - Sa g) by clear k1 k2 mi T; grind]
    exact k2
theorem mirW' {g : Int} (b : 0 ≤ g ∧ g ≤ 180000000) : (0 ≤ (360000000 - g).fmod 360000000 ∧ (360000000 - g).fmod 360000000 < 360000000) ∧ Ab (Ca ((360000000 - g).fmod 360000000) - Ca g) (1/10^37) ∧ Ab (Sa ((360000000 - g).fmod 360000000) + Sa g) (1/10^37) := by
  rw [Int.fmod_eq_emod_of_nonneg _ (by decide)]
  refine ⟨by omega, ?_⟩
  by_cases hz : g = 0
  · subst hz
    have s0 : Sa 0 = 0 := by
      unfold Sa
      rw [show ((0 : Int) : Rat) * hh = 0 by decide +kernel, Sn_zero]
    rw [show (360000000 - 0) % 360000000 = (0:Int) by decide, s0, Rat.sub_self]
    unfold Ab; decide +kernel
  · rw [show (360000000 - g) % 360000000 = 360000000 - g by omega]
    exact mirW (by omega) (by omega)
theorem tgW {t u g : Int} {q k : Rat} (T : Tg t u g q k) (b : 0 ≤ g ∧ g ≤ 180000000) : Tg (-t) u ((360000000 - g).fmod 360000000) q (k + 2 * (1/10^37)) := by
  have mi := (mirW' b).2
  generalize (360000000 - g).fmod 360000000 = a at *
  have k1 := ab_pair T.uq T.nq mi.2 mi.1
  have k2 := ab_pair T.uq T.nq.neg mi.1 mi.2
  refine T.turn (by rw [Rat.intCast_neg]; exact T.nq.neg) T.uq (by rw [Rat.intCast_neg]; exact neg_sq' _ _) (Or.inr ?_) ?_
  · rw [Rat.intCast_neg, show (u : Rat) * Sa a - -(t : Rat) * Ca a + (u * Sa g - t * Ca g) = u * (Sa a + Sa g) + (t : Rat) * (Ca a - Ca g) by clear k1 k2 mi T; grind]
    exact k1
  · rw [Rat.intCast_neg, show (u : Rat) * Ca a + -(t : Rat) * Sa a - (u * Ca g + t * Sa g) = u * (Ca a - Ca g) + -(t : Rat) * (Sa a + Sa g) by clear k1 k2 mi T; grind]
    exact k2
theorem tg_1 {t v o g : Int} (t0 : 0 ≤ t) (v0 : 0 ≤ v) (hz : 1 ≤ t ∨ 1 ≤ v) (hg : (t ≤ v ∧ arcR t v o ∧ g = pdiv (o * 180000000) 3141592653589793238462643383279502884) ∨ (v < t ∧ arcR v t o ∧ g = 90000000 - pdiv (o * 180000000) 3141592653589793238462643383279502884)) :
    (0 ≤ g ∧ g ≤ 90000000) ∧ ∃ q, Tg t v g q (0 + 2 * (1/10^37)) := by
  rcases hg with ⟨h1, h2, h3⟩ | ⟨h1, h2, h3⟩
  · obtain ⟨b, T⟩ := tgA t0 h1 (by omega) h2
    rw [h3]
    exact ⟨by omega, _, T.mono (by rw [Rat.zero_add]; exact e37)⟩
  · obtain ⟨b, T⟩ := tgA v0 (by omega) (by omega) h2
    rw [h3]
    exact ⟨by omega, _, tgB T b⟩
theorem tg_2 {t u v g g2 : Int} {q k : Rat} (T : Tg t v g q k) (b : 0 ≤ g ∧ g ≤ 90000000) (hv : (0 ≤ u ∧ v = u) ∨ (u < 0 ∧ v = -u)) (hg2 : (0 ≤ u ∧ g2 = g) ∨ (u < 0 ∧ g2 = 180000000 - g)) :
    (0 ≤ g2 ∧ g2 ≤ 180000000) ∧ Tg t u g2 q (k + 2 * (1/10^37)) := by
  rcases hv with ⟨h, e⟩ | ⟨h, e⟩
  · have e2 : g2 = g := by omega
    rw [e2, ← e]
    exact ⟨by omega, T.mono (by have := e37; grind)⟩
  · have e2 : g2 = 180000000 - g := by omega
    have e3 : u = -v := by omega
    rw [e2, e3]
    exact ⟨by omega, tgH T b⟩
theorem tg_3 {n u t a g2 : Int} {q k : Rat} (T : Tg t u g2 q k) (b : 0 ≤ g2 ∧ g2 ≤ 180000000) (ht : (0 ≤ n ∧ t = n) ∨ (n < 0 ∧ t = -n)) (hr : (0 ≤ n ∧ a = g2) ∨ (n < 0 ∧ a = (360000000 - g2).fmod 360000000)) :
    (0 ≤ a ∧ a < 360000000) ∧ Tg n u a q (k + 2 * (1/10^37)) := by
  rcases ht with ⟨h, e⟩ | ⟨h, e⟩
  · have e2 : a = g2 := by
      clear T
      rcases hr with ⟨_, e⟩ | ⟨h2, _⟩
      · exact e
      · exact absurd h (by omega)
    rw [e2, ← e]
    exact ⟨by clear hr; omega, T.mono (by have := e37; grind)⟩
  · have e2 : a = (360000000 - g2).fmod 360000000 := by
      rcases hr with ⟨h2, _⟩ | ⟨_, e⟩
      · exact absurd h (by omega)
      · exact e
    have e3 : n = -t := by clear hr e2; omega
    rw [e2, e3]
    exact ⟨(mirW' b).1, tgW T b⟩
theorem tan_good {n u a : Int} (hz : n ≠ 0 ∨ u ≠ 0) (ha : arctR n u a) : (0 ≤ a ∧ a < 360000000) ∧ ∃ q, Tg n u a q (0 + 2 * (1/10^37) + 2 * (1/10^37) + 2 * (1/10^37)) := by
  obtain ⟨t, v, o, g, g2, ht, hv, hg, hg2, hr⟩ := ha
  have hz2 : (0 ≤ t ∧ 0 ≤ v) ∧ (1 ≤ t ∨ 1 ≤ v) := by clear hg hg2 hr; omega
  obtain ⟨b1, q, T1⟩ := tg_1 hz2.1.1 hz2.1.2 hz2.2 hg
  obtain ⟨b2, T2⟩ := tg_2 T1 b1 hv hg2
  obtain ⟨b3, T3⟩ := tg_3 T2 b2 ht hr
  exact ⟨b3, q, T3⟩
theorem arct_range {h v a : Int} (hz : h ≠ 0 ∨ v ≠ 0) (ha : arctR h v a) : 0 ≤ a ∧ a < 360000000 := (tan_good hz ha).1

theorem most_num : 10000000000000000000000000000000000000000 * (hh/2 + 1/10^23 + (0 + 2 * (1/10^37) + 2 * (1/10^37) + 2 * (1/10^37))) + 2 * 300000 ≤ ((Int.fdiv 31415926535897932384626433832795028841971 360000000 + Int.fdiv 10000000000000000000000000000000000000000 100000000000000000000 : Int) : Rat) := by decide +kernel
theorem along_num : (0:Rat) < 10000000000000000000000000000000000000000 * (1/2 - (0 + 2 * (1/10^37) + 2 * (1/10^37) + 2 * (1/10^37))) - 2 * 300000 := by decide +kernel
theorem near_num : (256000:Rat) + 10000000000000000000000000000000000000000 * (1/10^37 + 1/10^37) ≤ 300000 := by decide +kernel
theorem law_cos {a n : Int} (ar : 0 ≤ a ∧ a < 360000000) (c2 : Ab ((n : Rat) - 10000000000000000000000000000000000000000 * Sa ((a + 90000000).fmod 360000000)) 256000) : Ab ((n : Rat) - 10000000000000000000000000000000000000000 * Ca a) 300000 := by
  have s : Ab (Sa ((a + 90000000).fmod 360000000) - Ca a) (1/10^37 + 1/10^37) := by
    clear c2
    rw [Int.fmod_eq_emod_of_nonneg _ (by decide)]
    rcases Int.lt_or_le (a + 90000000) 360000000 with h | h
    · rw [show (a + 90000000) % 360000000 = a + 90000000 by omega]
      exact (toQ (a := a) (by omega) (by omega)).2.mono (by decide +kernel)
    · rw [show (a + 90000000) % 360000000 = (a - 360000000) + 90000000 by omega]
      have h1 := (toQ (a := a - 360000000) (by omega) (by omega)).2
      have h2 := (toW (a := a - 360000000) (by omega) (by omega)).1
      rw [show a - 360000000 + 360000000 = a by omega] at h2
      have h3 := h1.sub h2
      rw [show Sa (a - 360000000 + 90000000) - Ca (a - 360000000) - (Ca a - Ca (a - 360000000)) = Sa (a - 360000000 + 90000000) - Ca a by clear h1 h2 h3; grind] at h3
      exact h3
  have h := c2.add ((show Ab (10000000000000000000000000000000000000000 : Rat) 10000000000000000000000000000000000000000 from ⟨by decide +kernel, by decide +kernel⟩).mul s)
  rw [show (n : Rat) - 10000000000000000000000000000000000000000 * Sa ((a + 90000000).fmod 360000000) + 10000000000000000000000000000000000000000 * (Sa ((a + 90000000).fmod 360000000) - Ca a) = (n : Rat) - 10000000000000000000000000000000000000000 * Ca a by clear h s c2; grind] at h
  exact h.mono near_num
theorem along_pos {n f h v Ct St q : Rat} (q1 : 1 ≤ q) (B : q/2 - q * (0 + 2 * (1/10^37) + 2 * (1/10^37) + 2 * (1/10^37)) ≤ v * Ct + h * St) (k : Ab (v * (n - 10000000000000000000000000000000000000000 * Ct) + h * (f - 10000000000000000000000000000000000000000 * St)) (q * (2 * 300000))) : 0 < n * v + f * h := by
  have al := along_num
  have m := mul_nn (show (0:Rat) ≤ 10000000000000000000000000000000000000000 by decide +kernel) (show 0 ≤ v * Ct + h * St - (q/2 - q * (0 + 2 * (1/10^37) + 2 * (1/10^37) + 2 * (1/10^37))) by grind)
  have m2 := Rat.mul_pos (show 0 < q by grind) al
  unfold Ab at k
  grind
theorem across_le {n f h v Ct St q R : Rat} (R0 : 0 ≤ R) (qR : q * q ≤ R) (A : Le R (v * St - h * Ct) (hh/2 + 1/10^23 + (0 + 2 * (1/10^37) + 2 * (1/10^37) + 2 * (1/10^37)))) (k : Ab (h * (n - 10000000000000000000000000000000000000000 * Ct) + -v * (f - 10000000000000000000000000000000000000000 * St)) (q * (2 * 300000))) :
    Le R (n * h - f * v) (10000000000000000000000000000000000000000 * (hh/2 + 1/10^23 + (0 + 2 * (1/10^37) + 2 * (1/10^37) + 2 * (1/10^37))) + 2 * 300000) := by
  have L1 := (A.mul (show Ab (10000000000000000000000000000000000000000 : Rat) 10000000000000000000000000000000000000000 from ⟨by decide +kernel, by decide +kernel⟩)).neg
  have L := L1.add R0 (by decide +kernel) (by decide +kernel) (Le.of_ab k qR)
  rw [show -(10000000000000000000000000000000000000000 * (v * St - h * Ct)) + (h * (n - 10000000000000000000000000000000000000000 * Ct) + -v * (f - 10000000000000000000000000000000000000000 * St)) = n * h - f * v by clear L L1 A k; grind] at L
  exact L
theorem isangle_main {h v a n f : Int} (hz : h ≠ 0 ∨ v ≠ 0) (ha : arctR h v a) (hf : lawR a f) (hn : lawR (a + 90000000) n) :
    (0 ≤ a ∧ a < 360000000) ∧ n * v + f * h > 0 ∧ (n * h - f * v) * (n * h - f * v) ≤ (h * h + v * v) * (Int.fdiv 31415926535897932384626433832795028841971 360000000 + Int.fdiv 10000000000000000000000000000000000000000 100000000000000000000) * (Int.fdiv 31415926535897932384626433832795028841971 360000000 + Int.fdiv 10000000000000000000000000000000000000000 100000000000000000000) := by
  obtain ⟨ar, q, T⟩ := tan_good hz ha
  have c1 := law_close hf
  rw [show a.fmod 360000000 = a by rw [Int.fmod_eq_emod_of_nonneg _ (by decide)]; clear T; omega] at c1
  have cn := law_cos ar (law_close hn)
  have cf := c1.mono (show (256000 : Rat) ≤ 300000 by decide +kernel)
  refine ⟨ar, ?_, ?_⟩
  · have r := along_pos T.q1 T.B (ab_pair T.uq T.nq cn cf)
    have r2 : ((0 : Int) : Rat) < ((n * v + f * h : Int) : Rat) := by
      rw [Rat.intCast_add, Rat.intCast_mul, Rat.intCast_mul]; exact r
    exact lt_of_q r2
  · have L := (across_le T.R0 T.qR T.A (ab_pair T.nq T.uq.neg cn cf)).mono T.R0 (by decide +kernel) most_num
    unfold Le at L
    generalize Int.fdiv 31415926535897932384626433832795028841971 360000000 + Int.fdiv 10000000000000000000000000000000000000000 100000000000000000000 = M at *
    refine of_q ?_
    rw [Int.mul_assoc]
    simp only [Rat.intCast_mul, Rat.intCast_add, Rat.intCast_sub]
    exact L
end Mine
end
section
open PySem PySem.W PyProof.Rows PySem.Challenge
set_option maxRecDepth 100000
set_option maxHeartbeats 8000000
namespace Mine
namespace Hd
-- the top's run in pieces of our own: the states between them stand written out; the library's pieces bear twins that are too large
noncomputable abbrev PG : Program := pw_nt0484_01
noncomputable def a0 : Arguments := { posonlyargs := [], args := [], vararg := none, kwonlyargs := [], kw_defaults := [], kwarg := none, defaults := [] }
noncomputable def s0 : Scope := { kind := .module, names := [], isGenerator := false, isCoroutine := false, more := [] }
noncomputable def fA (k : Nat) : Arguments := match PG.main.body.drop k with | .FunctionDef _ a _ _ _ _ _ _ _ _ :: _ => a | _ => a0
noncomputable def fB (k : Nat) : List Stmt := match PG.main.body.drop k with | .FunctionDef _ _ b _ _ _ _ _ _ _ :: _ => b | _ => []
noncomputable def fS (k : Nat) : Scope := match PG.main.body.drop k with | .FunctionDef _ _ _ _ _ _ s _ _ _ :: _ => s | _ => s0
noncomputable def cIn (k : Nat) : List Stmt := match PG.main.body.drop k with | .ClassDef _ _ _ b _ _ _ _ _ _ _ :: _ => b | _ => []
noncomputable def cA (k : Nat) : Arguments := match cIn k with | .FunctionDef _ a _ _ _ _ _ _ _ _ :: _ => a | _ => a0
noncomputable def cB (k : Nat) : List Stmt := match cIn k with | .FunctionDef _ _ b _ _ _ _ _ _ _ :: _ => b | _ => []
noncomputable def cS (k : Nat) : Scope := match cIn k with | .FunctionDef _ _ _ _ _ _ s _ _ _ :: _ => s | _ => s0
noncomputable def sg (a n : Nat) : List Stmt := (PG.main.body.drop a).take n
noncomputable abbrev life0 : Life := (Life.mk [] [] [] 0 [] [] Bool.false (List.toArray []) [] 0 Bool.false Bool.false Bool.false 0 [2000, 10, 10] Bool.false 0 Bool.true [] [] 0 Bool.false)-- Fast.te10110043849684766642, Fast.te14364793385576792824: the library's quick twins of segRunT and treeTable (Fast.quick names them)
noncomputable abbrev o0 : Params → Obj := fun _ => (Obj.mk (Value.type "tuple") none (Data.seq (List.toArray []) 0) (List.toArray []))
noncomputable abbrev o1 : Params → Obj := fun _ => (Obj.mk Value.none none (Data.fields (List.toArray [])) (List.toArray []))
noncomputable abbrev o2 : Params → Obj := fun _ => (Obj.mk (Value.type "code") none (Data.fields (List.toArray [(Value.str (Str.ofString "<module>") 182), (Value.str (Str.ofString "<module>") 183), (Value.str (Str.ofString "/claim/cut.py") 184), (Value.int 1 0), (Value.int 0 0), (Value.int 0 0), (Value.int 0 0), (Value.int 0 0), (Value.ref 11), (Value.bool Bool.false), (Value.int 181 0), (Value.ref 12), Value.none, Value.none, Value.none, Value.none, (Value.int 185 0), (Value.int 1 0), (Value.str (Str.ofString "/claim/cut.py") 186)])) (List.toArray []))
noncomputable abbrev o3 : Params → Obj := fun _ => (Obj.mk (Value.type "frame") none Data.plain (List.toArray [(some (Value.ref 13)), (some (Value.ref 3)), (some (Value.ref 3)), none, (some (Value.str (Str.ofString "__main__") 164)), none, (some (Value.ref 0))]))
noncomputable abbrev o4 : Params → Obj := fun P => (Obj.mk (Value.type "dict") none (Data.dict (List.toArray [(DictEntry.mk (PyData.keyHash P (Str.ofString "__name__")) (Value.str (Str.ofString "__name__") 165) (Value.str (Str.ofString "postcore.base") 187)), (DictEntry.mk (PyData.keyHash P (Str.ofString "__doc__")) (Value.str (Str.ofString "__doc__") 166) Value.none), (DictEntry.mk (PyData.keyHash P (Str.ofString "__package__")) (Value.str (Str.ofString "__package__") 167) Value.none), (DictEntry.mk (PyData.keyHash P (Str.ofString "__loader__")) (Value.str (Str.ofString "__loader__") 168) (Value.builtin "__main__.__loader__#opaque")), (DictEntry.mk (PyData.keyHash P (Str.ofString "__spec__")) (Value.str (Str.ofString "__spec__") 169) Value.none), (DictEntry.mk (PyData.keyHash P (Str.ofString "__annotations__")) (Value.str (Str.ofString "__annotations__") 170) (Value.ref 6)), (DictEntry.mk (PyData.keyHash P (Str.ofString "__builtins__")) (Value.str (Str.ofString "__builtins__") 171) (Value.ref 4)), (DictEntry.mk (PyData.keyHash P (Str.ofString "__file__")) (Value.str (Str.ofString "__file__") 173) (Value.str (Str.ofString "/claim/cut.py") 172)), (DictEntry.mk (PyData.keyHash P (Str.ofString "__cached__")) (Value.str (Str.ofString "__cached__") 174) Value.none), (DictEntry.mk (PyData.keyHash P (Str.ofString "GRAIN")) (Value.str (Str.ofString "GRAIN") 190) (Value.int 1000000 189))]) 10) (List.toArray []))
noncomputable abbrev o5 : Params → Obj := fun P => (Obj.mk Value.none none (Data.dict (List.toArray [(DictEntry.mk (PyData.keyHash P (Str.ofString "type.__subclasses__.Exception.0")) (Value.str (Str.ofString "type.__subclasses__.Exception.0") 216) (Value.int 32 0)), (DictEntry.mk (PyData.keyHash P (Str.ofString "type.__subclasses__.Exception.n")) (Value.str (Str.ofString "type.__subclasses__.Exception.n") 217) (Value.int 1 0))]) 2) (List.toArray []))
noncomputable abbrev o6 : Params → Obj := fun P => (Obj.mk (Value.type "dict") none (Data.dict (List.toArray [(DictEntry.mk (PyData.keyHash P (Str.ofString "__name__")) (Value.str (Str.ofString "__name__") 165) (Value.str (Str.ofString "postcore.base") 187)), (DictEntry.mk (PyData.keyHash P (Str.ofString "__doc__")) (Value.str (Str.ofString "__doc__") 166) Value.none), (DictEntry.mk (PyData.keyHash P (Str.ofString "__package__")) (Value.str (Str.ofString "__package__") 167) Value.none), (DictEntry.mk (PyData.keyHash P (Str.ofString "__loader__")) (Value.str (Str.ofString "__loader__") 168) (Value.builtin "__main__.__loader__#opaque")), (DictEntry.mk (PyData.keyHash P (Str.ofString "__spec__")) (Value.str (Str.ofString "__spec__") 169) Value.none), (DictEntry.mk (PyData.keyHash P (Str.ofString "__annotations__")) (Value.str (Str.ofString "__annotations__") 170) (Value.ref 6)), (DictEntry.mk (PyData.keyHash P (Str.ofString "__builtins__")) (Value.str (Str.ofString "__builtins__") 171) (Value.ref 4)), (DictEntry.mk (PyData.keyHash P (Str.ofString "__file__")) (Value.str (Str.ofString "__file__") 173) (Value.str (Str.ofString "/claim/cut.py") 172)), (DictEntry.mk (PyData.keyHash P (Str.ofString "__cached__")) (Value.str (Str.ofString "__cached__") 174) Value.none), (DictEntry.mk (PyData.keyHash P (Str.ofString "GRAIN")) (Value.str (Str.ofString "GRAIN") 190) (Value.int 1000000 189)), (DictEntry.mk (PyData.keyHash P (Str.ofString "PostError")) (Value.str (Str.ofString "PostError") 219) (Value.ref 32))]) 11) (List.toArray []))
noncomputable abbrev o7 : Params → Obj := fun _ => (Obj.mk Value.none none (Data.fields (List.toArray [(Value.int 3 0), (Value.int 0 0), (Value.ref 20)])) (List.toArray []))
noncomputable abbrev o8 : Params → Obj := fun _ => (Obj.mk (Value.type "tuple") none (Data.seq (List.toArray [(Value.type "Exception")]) 0) (List.toArray []))
noncomputable abbrev o9 : Params → Obj := fun _ => (Obj.mk (Value.type "builtin_function_or_method") none (Data.fields (List.toArray [(Value.builtin "type.__prepare__"), (Value.type "type")])) (List.toArray []))
noncomputable abbrev o10 : Params → Obj := fun P => (Obj.mk (Value.type "dict") none (Data.dict (List.toArray [(DictEntry.mk (PyData.keyHash P (Str.ofString "__module__")) (Value.str (Str.ofString "__module__") 198) (Value.str (Str.ofString "postcore.base") 187)), (DictEntry.mk (PyData.keyHash P (Str.ofString "__qualname__")) (Value.str (Str.ofString "__qualname__") 200) (Value.str (Str.ofString "PostError") 199)), (DictEntry.mk (PyData.keyHash P (Str.ofString "__firstlineno__")) (Value.str (Str.ofString "__firstlineno__") 202) (Value.int 3 201)), (DictEntry.mk (PyData.keyHash P (Str.ofString "__init__")) (Value.str (Str.ofString "__init__") 210) (Value.ref 29)), (DictEntry.mk (PyData.keyHash P (Str.ofString "__static_attributes__")) (Value.str (Str.ofString "__static_attributes__") 212) (Value.ref 30))]) 5) (List.toArray []))
noncomputable abbrev o11 : Params → Obj := fun _ => (Obj.mk Value.none none (Data.fields (List.toArray [(Value.int 5 0), (Value.int 4 0), (Value.ref 28)])) (List.toArray []))
noncomputable abbrev o12 : Params → Obj := fun _ => (Obj.mk (Value.type "code") none (Data.fields (List.toArray [(Value.str (Str.ofString "PostError") 193), (Value.str (Str.ofString "PostError") 194), (Value.str (Str.ofString "/claim/cut.py") 195), (Value.int 3 0), (Value.int 0 0), (Value.int 0 0), (Value.int 0 0), (Value.int 0 0), (Value.ref 18), (Value.bool Bool.false), (Value.int 181 0), (Value.ref 19), Value.none, Value.none, Value.none, Value.none, (Value.int 196 0), (Value.int 3 0), (Value.str (Str.ofString "/claim/cut.py") 197)])) (List.toArray []))
noncomputable abbrev o13 : Params → Obj := fun _ => (Obj.mk (Value.type "frame") none Data.plain (List.toArray [(some (Value.ref 20)), (some (Value.ref 3)), (some (Value.ref 17)), none, (some (Value.str (Str.ofString "postcore.base") 187)), none, (some (Value.ref 0))]))
noncomputable abbrev o14 : Params → Obj := fun _ => (Obj.mk (Value.type "tuple") none (Data.seq (List.toArray [Value.none]) 0) (List.toArray []))
noncomputable abbrev o15 : Params → Obj := fun _ => (Obj.mk (Value.type "tuple") none (Data.seq (List.toArray [(Value.str (Str.ofString "self") 206), (Value.str (Str.ofString "told") 207)]) 0) (List.toArray []))
noncomputable abbrev o16 : Params → Obj := fun _ => (Obj.mk Value.none none (Data.func (FuncData.mk (Str.ofString "__init__") (Str.ofString "PostError.__init__") (cA 2) (FuncBody.stmts (cB 2)) (cS 2) 0 [] Value.none Value.none Value.none Value.none none Value.none Value.none 0)) (List.toArray []))
noncomputable abbrev o17 : Params → Obj := fun _ => (Obj.mk (Value.type "code") none (Data.fields (List.toArray [(Value.str (Str.ofString "__init__") 203), (Value.str (Str.ofString "PostError.__init__") 204), (Value.str (Str.ofString "/claim/cut.py") 205), (Value.int 5 0), (Value.int 2 0), (Value.int 0 0), (Value.int 0 0), (Value.int 3 0), (Value.ref 23), (Value.bool Bool.true), (Value.int 181 0), (Value.ref 24), Value.none, (Value.ref 25), (Value.ref 26), (Value.ref 27), (Value.int 208 0), (Value.int 5 0), (Value.str (Str.ofString "/claim/cut.py") 209)])) (List.toArray []))
noncomputable abbrev o18 : Params → Obj := fun _ => (Obj.mk (Value.type "function") none (Data.func (FuncData.mk (Str.ofString "__init__") (Str.ofString "PostError.__init__") (cA 2) (FuncBody.stmts (cB 2)) (cS 2) 3 [] (Value.ref 22) Value.none Value.none (Value.str (Str.ofString "postcore.base") 187) none (Value.ref 28) Value.none 0)) (List.toArray []))
noncomputable abbrev o19 : Params → Obj := fun _ => (Obj.mk (Value.type "tuple") none (Data.seq (List.toArray [(Value.str (Str.ofString "told") 211)]) 0) (List.toArray []))
noncomputable abbrev o20 : Params → Obj := fun P => (Obj.mk (Value.type "dict") none (Data.dict (List.toArray [(DictEntry.mk (PyData.keyHash P (Str.ofString "__module__")) (Value.str (Str.ofString "__module__") 198) (Value.str (Str.ofString "postcore.base") 187)), (DictEntry.mk (PyData.keyHash P (Str.ofString "__firstlineno__")) (Value.str (Str.ofString "__firstlineno__") 202) (Value.int 3 201)), (DictEntry.mk (PyData.keyHash P (Str.ofString "__init__")) (Value.str (Str.ofString "__init__") 210) (Value.ref 29)), (DictEntry.mk (PyData.keyHash P (Str.ofString "__static_attributes__")) (Value.str (Str.ofString "__static_attributes__") 212) (Value.ref 30)), (DictEntry.mk (PyData.keyHash P (Str.ofString "__weakref__")) (Value.str (Str.ofString "__weakref__") 214) (Value.ref 33)), (DictEntry.mk (PyData.keyHash P (Str.ofString "__doc__")) (Value.str (Str.ofString "__doc__") 215) Value.none)]) 3) (List.toArray []))
noncomputable abbrev o21 : Params → Obj := fun _ => (Obj.mk (Value.type "type") none (Data.cls (ClassData.mk (Str.ofString "PostError") [(Value.type "Exception")] [(Value.ref 32), (Value.type "Exception"), (Value.type "BaseException"), (Value.type "object")] 31 (Str.ofString "PostError") Bool.true [] [] Bool.false none Bool.false)) (List.toArray [(some (Value.ref 15)), none, (some (Value.str (Str.ofString "PostError") 191)), (some (Value.str (Str.ofString "PostError") 199)), (some (Value.builtin "Exception.__new__")), (some (Value.bool Bool.true))]))
noncomputable abbrev o22 : Params → Obj := fun _ => (Obj.mk (Value.type "getset_descriptor") none (Data.fields (List.toArray [(Value.str (Str.ofString "__weakref__") 213), (Value.ref 32), (Value.builtin "ExceptionGroup.__weakref__"), Value.none])) (List.toArray []))
noncomputable abbrev o23 : Params → Obj := fun _ => (Obj.mk (Value.type "super") none (Data.fields (List.toArray [(Value.ref 32), (Value.ref 32), (Value.ref 32)])) (List.toArray []))
noncomputable abbrev o24 : Params → Obj := fun _ => (Obj.mk (Value.type "builtin_function_or_method") none (Data.fields (List.toArray [(Value.builtin "object.__init_subclass__"), (Value.ref 32)])) (List.toArray []))
noncomputable abbrev o25 : Params → Obj := fun P => (Obj.mk (Value.type "dict") none (Data.dict (List.toArray [(DictEntry.mk (PyData.keyHash P (Str.ofString "__name__")) (Value.str (Str.ofString "__name__") 165) (Value.str (Str.ofString "postcore.base") 187)), (DictEntry.mk (PyData.keyHash P (Str.ofString "__doc__")) (Value.str (Str.ofString "__doc__") 166) Value.none), (DictEntry.mk (PyData.keyHash P (Str.ofString "__package__")) (Value.str (Str.ofString "__package__") 167) Value.none), (DictEntry.mk (PyData.keyHash P (Str.ofString "__loader__")) (Value.str (Str.ofString "__loader__") 168) (Value.builtin "__main__.__loader__#opaque")), (DictEntry.mk (PyData.keyHash P (Str.ofString "__spec__")) (Value.str (Str.ofString "__spec__") 169) Value.none), (DictEntry.mk (PyData.keyHash P (Str.ofString "__annotations__")) (Value.str (Str.ofString "__annotations__") 170) (Value.ref 6)), (DictEntry.mk (PyData.keyHash P (Str.ofString "__builtins__")) (Value.str (Str.ofString "__builtins__") 171) (Value.ref 4)), (DictEntry.mk (PyData.keyHash P (Str.ofString "__file__")) (Value.str (Str.ofString "__file__") 173) (Value.str (Str.ofString "/claim/cut.py") 172)), (DictEntry.mk (PyData.keyHash P (Str.ofString "__cached__")) (Value.str (Str.ofString "__cached__") 174) Value.none), (DictEntry.mk (PyData.keyHash P (Str.ofString "GRAIN")) (Value.str (Str.ofString "GRAIN") 190) (Value.int 1000000 189)), (DictEntry.mk (PyData.keyHash P (Str.ofString "PostError")) (Value.str (Str.ofString "PostError") 219) (Value.ref 32)), (DictEntry.mk (PyData.keyHash P (Str.ofString "PsError")) (Value.str (Str.ofString "PsError") 235) (Value.ref 45))]) 12) (List.toArray []))
noncomputable abbrev o26 : Params → Obj := fun _ => (Obj.mk Value.none none (Data.fields (List.toArray [(Value.int 3 0), (Value.int 0 0), (Value.ref 20), (Value.int 7 0), (Value.int 0 0), (Value.ref 41)])) (List.toArray []))
noncomputable abbrev o27 : Params → Obj := fun _ => (Obj.mk (Value.type "type") none (Data.cls (ClassData.mk (Str.ofString "PostError") [(Value.type "Exception")] [(Value.ref 32), (Value.type "Exception"), (Value.type "BaseException"), (Value.type "object")] 31 (Str.ofString "PostError") Bool.true [] [(Value.ref 45)] Bool.false none Bool.false)) (List.toArray [(some (Value.ref 15)), none, (some (Value.str (Str.ofString "PostError") 191)), (some (Value.str (Str.ofString "PostError") 199)), (some (Value.builtin "Exception.__new__")), (some (Value.bool Bool.true))]))
noncomputable abbrev o28 : Params → Obj := fun _ => (Obj.mk (Value.type "tuple") none (Data.seq (List.toArray [(Value.ref 32)]) 0) (List.toArray []))
noncomputable abbrev o29 : Params → Obj := fun P => (Obj.mk (Value.type "dict") none (Data.dict (List.toArray [(DictEntry.mk (PyData.keyHash P (Str.ofString "__module__")) (Value.str (Str.ofString "__module__") 227) (Value.str (Str.ofString "postcore.base") 187)), (DictEntry.mk (PyData.keyHash P (Str.ofString "__qualname__")) (Value.str (Str.ofString "__qualname__") 229) (Value.str (Str.ofString "PsError") 228)), (DictEntry.mk (PyData.keyHash P (Str.ofString "__firstlineno__")) (Value.str (Str.ofString "__firstlineno__") 231) (Value.int 7 230)), (DictEntry.mk (PyData.keyHash P (Str.ofString "__static_attributes__")) (Value.str (Str.ofString "__static_attributes__") 232) (Value.ref 43))]) 4) (List.toArray []))
noncomputable abbrev o30 : Params → Obj := fun _ => (Obj.mk (Value.type "code") none (Data.fields (List.toArray [(Value.str (Str.ofString "PsError") 222), (Value.str (Str.ofString "PsError") 223), (Value.str (Str.ofString "/claim/cut.py") 224), (Value.int 7 0), (Value.int 0 0), (Value.int 0 0), (Value.int 0 0), (Value.int 0 0), (Value.ref 39), (Value.bool Bool.false), (Value.int 181 0), (Value.ref 40), Value.none, Value.none, Value.none, Value.none, (Value.int 225 0), (Value.int 7 0), (Value.str (Str.ofString "/claim/cut.py") 226)])) (List.toArray []))
noncomputable abbrev o31 : Params → Obj := fun _ => (Obj.mk (Value.type "frame") none Data.plain (List.toArray [(some (Value.ref 41)), (some (Value.ref 3)), (some (Value.ref 38)), none, (some (Value.str (Str.ofString "postcore.base") 187)), none, (some (Value.ref 0))]))
noncomputable abbrev o32 : Params → Obj := fun P => (Obj.mk (Value.type "dict") none (Data.dict (List.toArray [(DictEntry.mk (PyData.keyHash P (Str.ofString "__module__")) (Value.str (Str.ofString "__module__") 227) (Value.str (Str.ofString "postcore.base") 187)), (DictEntry.mk (PyData.keyHash P (Str.ofString "__firstlineno__")) (Value.str (Str.ofString "__firstlineno__") 231) (Value.int 7 230)), (DictEntry.mk (PyData.keyHash P (Str.ofString "__static_attributes__")) (Value.str (Str.ofString "__static_attributes__") 232) (Value.ref 43)), (DictEntry.mk (PyData.keyHash P (Str.ofString "__doc__")) (Value.str (Str.ofString "__doc__") 233) Value.none)]) 2) (List.toArray []))
noncomputable abbrev o33 : Params → Obj := fun _ => (Obj.mk (Value.type "type") none (Data.cls (ClassData.mk (Str.ofString "PsError") [(Value.ref 32)] [(Value.ref 45), (Value.ref 32), (Value.type "Exception"), (Value.type "BaseException"), (Value.type "object")] 44 (Str.ofString "PsError") Bool.true [] [] Bool.false none Bool.false)) (List.toArray [(some (Value.ref 36)), none, (some (Value.str (Str.ofString "PsError") 220)), (some (Value.str (Str.ofString "PsError") 228)), (some (Value.builtin "Exception.__new__")), (some (Value.bool Bool.true))]))
noncomputable abbrev o34 : Params → Obj := fun _ => (Obj.mk (Value.type "super") none (Data.fields (List.toArray [(Value.ref 45), (Value.ref 45), (Value.ref 45)])) (List.toArray []))
noncomputable abbrev o35 : Params → Obj := fun _ => (Obj.mk (Value.type "builtin_function_or_method") none (Data.fields (List.toArray [(Value.builtin "object.__init_subclass__"), (Value.ref 45)])) (List.toArray []))
noncomputable abbrev o36 : Params → Obj := fun P => (Obj.mk (Value.type "dict") none (Data.dict (List.toArray [(DictEntry.mk (PyData.keyHash P (Str.ofString "__name__")) (Value.str (Str.ofString "__name__") 165) (Value.str (Str.ofString "postcore.numbers") 236)), (DictEntry.mk (PyData.keyHash P (Str.ofString "__doc__")) (Value.str (Str.ofString "__doc__") 166) Value.none), (DictEntry.mk (PyData.keyHash P (Str.ofString "__package__")) (Value.str (Str.ofString "__package__") 167) Value.none), (DictEntry.mk (PyData.keyHash P (Str.ofString "__loader__")) (Value.str (Str.ofString "__loader__") 168) (Value.builtin "__main__.__loader__#opaque")), (DictEntry.mk (PyData.keyHash P (Str.ofString "__spec__")) (Value.str (Str.ofString "__spec__") 169) Value.none), (DictEntry.mk (PyData.keyHash P (Str.ofString "__annotations__")) (Value.str (Str.ofString "__annotations__") 170) (Value.ref 6)), (DictEntry.mk (PyData.keyHash P (Str.ofString "__builtins__")) (Value.str (Str.ofString "__builtins__") 171) (Value.ref 4)), (DictEntry.mk (PyData.keyHash P (Str.ofString "__file__")) (Value.str (Str.ofString "__file__") 173) (Value.str (Str.ofString "/claim/cut.py") 172)), (DictEntry.mk (PyData.keyHash P (Str.ofString "__cached__")) (Value.str (Str.ofString "__cached__") 174) Value.none), (DictEntry.mk (PyData.keyHash P (Str.ofString "GRAIN")) (Value.str (Str.ofString "GRAIN") 190) (Value.int 1000000 189)), (DictEntry.mk (PyData.keyHash P (Str.ofString "PostError")) (Value.str (Str.ofString "PostError") 219) (Value.ref 32)), (DictEntry.mk (PyData.keyHash P (Str.ofString "PsError")) (Value.str (Str.ofString "PsError") 235) (Value.ref 45)), (DictEntry.mk (PyData.keyHash P (Str.ofString "FINE")) (Value.str (Str.ofString "FINE") 241) (Value.int 1000000000000000000000000000000000000 240)), (DictEntry.mk (PyData.keyHash P (Str.ofString "PI_FINE")) (Value.str (Str.ofString "PI_FINE") 243) (Value.int 3141592653589793238462643383279502884 242)), (DictEntry.mk (PyData.keyHash P (Str.ofString "QUARTER")) (Value.str (Str.ofString "QUARTER") 246) (Value.int 90000000 245))]) 15) (List.toArray []))
noncomputable abbrev o37 : Params → Obj := fun P => (Obj.mk (Value.type "dict") none (Data.dict (List.toArray [(DictEntry.mk (PyData.keyHash P (Str.ofString "__name__")) (Value.str (Str.ofString "__name__") 165) (Value.str (Str.ofString "postcore.numbers") 236)), (DictEntry.mk (PyData.keyHash P (Str.ofString "__doc__")) (Value.str (Str.ofString "__doc__") 166) Value.none), (DictEntry.mk (PyData.keyHash P (Str.ofString "__package__")) (Value.str (Str.ofString "__package__") 167) Value.none), (DictEntry.mk (PyData.keyHash P (Str.ofString "__loader__")) (Value.str (Str.ofString "__loader__") 168) (Value.builtin "__main__.__loader__#opaque")), (DictEntry.mk (PyData.keyHash P (Str.ofString "__spec__")) (Value.str (Str.ofString "__spec__") 169) Value.none), (DictEntry.mk (PyData.keyHash P (Str.ofString "__annotations__")) (Value.str (Str.ofString "__annotations__") 170) (Value.ref 6)), (DictEntry.mk (PyData.keyHash P (Str.ofString "__builtins__")) (Value.str (Str.ofString "__builtins__") 171) (Value.ref 4)), (DictEntry.mk (PyData.keyHash P (Str.ofString "__file__")) (Value.str (Str.ofString "__file__") 173) (Value.str (Str.ofString "/claim/cut.py") 172)), (DictEntry.mk (PyData.keyHash P (Str.ofString "__cached__")) (Value.str (Str.ofString "__cached__") 174) Value.none), (DictEntry.mk (PyData.keyHash P (Str.ofString "GRAIN")) (Value.str (Str.ofString "GRAIN") 190) (Value.int 1000000 189)), (DictEntry.mk (PyData.keyHash P (Str.ofString "PostError")) (Value.str (Str.ofString "PostError") 219) (Value.ref 32)), (DictEntry.mk (PyData.keyHash P (Str.ofString "PsError")) (Value.str (Str.ofString "PsError") 235) (Value.ref 45)), (DictEntry.mk (PyData.keyHash P (Str.ofString "FINE")) (Value.str (Str.ofString "FINE") 241) (Value.int 1000000000000000000000000000000000000 240)), (DictEntry.mk (PyData.keyHash P (Str.ofString "PI_FINE")) (Value.str (Str.ofString "PI_FINE") 243) (Value.int 3141592653589793238462643383279502884 242)), (DictEntry.mk (PyData.keyHash P (Str.ofString "QUARTER")) (Value.str (Str.ofString "QUARTER") 246) (Value.int 90000000 245)), (DictEntry.mk (PyData.keyHash P (Str.ofString "HALF_TURN")) (Value.str (Str.ofString "HALF_TURN") 249) (Value.int 180000000 248)), (DictEntry.mk (PyData.keyHash P (Str.ofString "WHOLE_TURN")) (Value.str (Str.ofString "WHOLE_TURN") 252) (Value.int 360000000 251)), (DictEntry.mk (PyData.keyHash P (Str.ofString "divided")) (Value.str (Str.ofString "divided") 263) (Value.ref 54))]) 18) (List.toArray []))
noncomputable abbrev o38 : Params → Obj := fun _ => (Obj.mk Value.none none (Data.fields (List.toArray [(Value.int 3 0), (Value.int 0 0), (Value.ref 20), (Value.int 7 0), (Value.int 0 0), (Value.ref 41), (Value.int 15 0), (Value.int 0 0), (Value.ref 53)])) (List.toArray []))
noncomputable abbrev o39 : Params → Obj := fun _ => (Obj.mk (Value.type "tuple") none (Data.seq (List.toArray [(Value.str (Str.ofString "number") 256), (Value.str (Str.ofString "by") 257), (Value.str (Str.ofString "size") 258), (Value.str (Str.ofString "parts") 259), (Value.str (Str.ofString "found") 260)]) 0) (List.toArray []))
noncomputable abbrev o40 : Params → Obj := fun _ => (Obj.mk Value.none none (Data.func (FuncData.mk (Str.ofString "divided") (Str.ofString "divided") (fA 10) (FuncBody.stmts (fB 10)) (fS 10) 0 [] Value.none Value.none Value.none Value.none none Value.none Value.none 0)) (List.toArray []))
noncomputable abbrev o41 : Params → Obj := fun _ => (Obj.mk (Value.type "code") none (Data.fields (List.toArray [(Value.str (Str.ofString "divided") 253), (Value.str (Str.ofString "divided") 254), (Value.str (Str.ofString "/claim/cut.py") 255), (Value.int 15 0), (Value.int 2 0), (Value.int 0 0), (Value.int 0 0), (Value.int 3 0), (Value.ref 48), (Value.bool Bool.true), (Value.int 181 0), (Value.ref 49), Value.none, (Value.ref 50), (Value.ref 51), (Value.ref 52), (Value.int 261 0), (Value.int 15 0), (Value.str (Str.ofString "/claim/cut.py") 262)])) (List.toArray []))
noncomputable abbrev o42 : Params → Obj := fun _ => (Obj.mk (Value.type "function") none (Data.func (FuncData.mk (Str.ofString "divided") (Str.ofString "divided") (fA 10) (FuncBody.stmts (fB 10)) (fS 10) 3 [] Value.none Value.none Value.none (Value.str (Str.ofString "postcore.numbers") 236) none (Value.ref 53) Value.none 0)) (List.toArray []))
noncomputable abbrev o43 : Params → Obj := fun P => (Obj.mk (Value.type "dict") none (Data.dict (List.toArray [(DictEntry.mk (PyData.keyHash P (Str.ofString "__name__")) (Value.str (Str.ofString "__name__") 165) (Value.str (Str.ofString "postcore.numbers") 236)), (DictEntry.mk (PyData.keyHash P (Str.ofString "__doc__")) (Value.str (Str.ofString "__doc__") 166) Value.none), (DictEntry.mk (PyData.keyHash P (Str.ofString "__package__")) (Value.str (Str.ofString "__package__") 167) Value.none), (DictEntry.mk (PyData.keyHash P (Str.ofString "__loader__")) (Value.str (Str.ofString "__loader__") 168) (Value.builtin "__main__.__loader__#opaque")), (DictEntry.mk (PyData.keyHash P (Str.ofString "__spec__")) (Value.str (Str.ofString "__spec__") 169) Value.none), (DictEntry.mk (PyData.keyHash P (Str.ofString "__annotations__")) (Value.str (Str.ofString "__annotations__") 170) (Value.ref 6)), (DictEntry.mk (PyData.keyHash P (Str.ofString "__builtins__")) (Value.str (Str.ofString "__builtins__") 171) (Value.ref 4)), (DictEntry.mk (PyData.keyHash P (Str.ofString "__file__")) (Value.str (Str.ofString "__file__") 173) (Value.str (Str.ofString "/claim/cut.py") 172)), (DictEntry.mk (PyData.keyHash P (Str.ofString "__cached__")) (Value.str (Str.ofString "__cached__") 174) Value.none), (DictEntry.mk (PyData.keyHash P (Str.ofString "GRAIN")) (Value.str (Str.ofString "GRAIN") 190) (Value.int 1000000 189)), (DictEntry.mk (PyData.keyHash P (Str.ofString "PostError")) (Value.str (Str.ofString "PostError") 219) (Value.ref 32)), (DictEntry.mk (PyData.keyHash P (Str.ofString "PsError")) (Value.str (Str.ofString "PsError") 235) (Value.ref 45)), (DictEntry.mk (PyData.keyHash P (Str.ofString "FINE")) (Value.str (Str.ofString "FINE") 241) (Value.int 1000000000000000000000000000000000000 240)), (DictEntry.mk (PyData.keyHash P (Str.ofString "PI_FINE")) (Value.str (Str.ofString "PI_FINE") 243) (Value.int 3141592653589793238462643383279502884 242)), (DictEntry.mk (PyData.keyHash P (Str.ofString "QUARTER")) (Value.str (Str.ofString "QUARTER") 246) (Value.int 90000000 245)), (DictEntry.mk (PyData.keyHash P (Str.ofString "HALF_TURN")) (Value.str (Str.ofString "HALF_TURN") 249) (Value.int 180000000 248)), (DictEntry.mk (PyData.keyHash P (Str.ofString "WHOLE_TURN")) (Value.str (Str.ofString "WHOLE_TURN") 252) (Value.int 360000000 251)), (DictEntry.mk (PyData.keyHash P (Str.ofString "divided")) (Value.str (Str.ofString "divided") 263) (Value.ref 54)), (DictEntry.mk (PyData.keyHash P (Str.ofString "whole_root")) (Value.str (Str.ofString "whole_root") 272) (Value.ref 61)), (DictEntry.mk (PyData.keyHash P (Str.ofString "root")) (Value.str (Str.ofString "root") 281) (Value.ref 68)), (DictEntry.mk (PyData.keyHash P (Str.ofString "fine_product")) (Value.str (Str.ofString "fine_product") 289) (Value.ref 75))]) 21) (List.toArray []))
noncomputable abbrev o44 : Params → Obj := fun _ => (Obj.mk Value.none none (Data.fields (List.toArray [(Value.int 3 0), (Value.int 0 0), (Value.ref 20), (Value.int 7 0), (Value.int 0 0), (Value.ref 41), (Value.int 15 0), (Value.int 0 0), (Value.ref 53), (Value.int 19 0), (Value.int 0 0), (Value.ref 60), (Value.int 28 0), (Value.int 0 0), (Value.ref 67), (Value.int 34 0), (Value.int 0 0), (Value.ref 74)])) (List.toArray []))
noncomputable abbrev o45 : Params → Obj := fun _ => (Obj.mk (Value.type "tuple") none (Data.seq (List.toArray [(Value.str (Str.ofString "number") 267), (Value.str (Str.ofString "found") 268), (Value.str (Str.ofString "better") 269)]) 0) (List.toArray []))
noncomputable abbrev o46 : Params → Obj := fun _ => (Obj.mk Value.none none (Data.func (FuncData.mk (Str.ofString "whole_root") (Str.ofString "whole_root") (fA 11) (FuncBody.stmts (fB 11)) (fS 11) 0 [] Value.none Value.none Value.none Value.none none Value.none Value.none 0)) (List.toArray []))
noncomputable abbrev o47 : Params → Obj := fun _ => (Obj.mk (Value.type "code") none (Data.fields (List.toArray [(Value.str (Str.ofString "whole_root") 264), (Value.str (Str.ofString "whole_root") 265), (Value.str (Str.ofString "/claim/cut.py") 266), (Value.int 19 0), (Value.int 1 0), (Value.int 0 0), (Value.int 0 0), (Value.int 3 0), (Value.ref 55), (Value.bool Bool.true), (Value.int 181 0), (Value.ref 56), Value.none, (Value.ref 57), (Value.ref 58), (Value.ref 59), (Value.int 270 0), (Value.int 19 0), (Value.str (Str.ofString "/claim/cut.py") 271)])) (List.toArray []))
noncomputable abbrev o48 : Params → Obj := fun _ => (Obj.mk (Value.type "function") none (Data.func (FuncData.mk (Str.ofString "whole_root") (Str.ofString "whole_root") (fA 11) (FuncBody.stmts (fB 11)) (fS 11) 3 [] Value.none Value.none Value.none (Value.str (Str.ofString "postcore.numbers") 236) none (Value.ref 60) Value.none 0)) (List.toArray []))
noncomputable abbrev o49 : Params → Obj := fun _ => (Obj.mk (Value.type "tuple") none (Data.seq (List.toArray [(Value.str (Str.ofString "value") 276), (Value.str (Str.ofString "number") 277), (Value.str (Str.ofString "found") 278)]) 0) (List.toArray []))
noncomputable abbrev o50 : Params → Obj := fun _ => (Obj.mk Value.none none (Data.func (FuncData.mk (Str.ofString "root") (Str.ofString "root") (fA 12) (FuncBody.stmts (fB 12)) (fS 12) 0 [] Value.none Value.none Value.none Value.none none Value.none Value.none 0)) (List.toArray []))
noncomputable abbrev o51 : Params → Obj := fun _ => (Obj.mk (Value.type "code") none (Data.fields (List.toArray [(Value.str (Str.ofString "root") 273), (Value.str (Str.ofString "root") 274), (Value.str (Str.ofString "/claim/cut.py") 275), (Value.int 28 0), (Value.int 1 0), (Value.int 0 0), (Value.int 0 0), (Value.int 3 0), (Value.ref 62), (Value.bool Bool.true), (Value.int 181 0), (Value.ref 63), Value.none, (Value.ref 64), (Value.ref 65), (Value.ref 66), (Value.int 279 0), (Value.int 28 0), (Value.str (Str.ofString "/claim/cut.py") 280)])) (List.toArray []))
noncomputable abbrev o52 : Params → Obj := fun _ => (Obj.mk (Value.type "function") none (Data.func (FuncData.mk (Str.ofString "root") (Str.ofString "root") (fA 12) (FuncBody.stmts (fB 12)) (fS 12) 3 [] Value.none Value.none Value.none (Value.str (Str.ofString "postcore.numbers") 236) none (Value.ref 67) Value.none 0)) (List.toArray []))
noncomputable abbrev o53 : Params → Obj := fun _ => (Obj.mk (Value.type "tuple") none (Data.seq (List.toArray [(Value.str (Str.ofString "one") 285), (Value.str (Str.ofString "other") 286)]) 0) (List.toArray []))
noncomputable abbrev o54 : Params → Obj := fun _ => (Obj.mk Value.none none (Data.func (FuncData.mk (Str.ofString "fine_product") (Str.ofString "fine_product") (fA 13) (FuncBody.stmts (fB 13)) (fS 13) 0 [] Value.none Value.none Value.none Value.none none Value.none Value.none 0)) (List.toArray []))
noncomputable abbrev o55 : Params → Obj := fun _ => (Obj.mk (Value.type "code") none (Data.fields (List.toArray [(Value.str (Str.ofString "fine_product") 282), (Value.str (Str.ofString "fine_product") 283), (Value.str (Str.ofString "/claim/cut.py") 284), (Value.int 34 0), (Value.int 2 0), (Value.int 0 0), (Value.int 0 0), (Value.int 3 0), (Value.ref 69), (Value.bool Bool.true), (Value.int 181 0), (Value.ref 70), Value.none, (Value.ref 71), (Value.ref 72), (Value.ref 73), (Value.int 287 0), (Value.int 34 0), (Value.str (Str.ofString "/claim/cut.py") 288)])) (List.toArray []))
noncomputable abbrev o56 : Params → Obj := fun _ => (Obj.mk (Value.type "function") none (Data.func (FuncData.mk (Str.ofString "fine_product") (Str.ofString "fine_product") (fA 13) (FuncBody.stmts (fB 13)) (fS 13) 3 [] Value.none Value.none Value.none (Value.str (Str.ofString "postcore.numbers") 236) none (Value.ref 74) Value.none 0)) (List.toArray []))
noncomputable abbrev o57 : Params → Obj := fun P => (Obj.mk (Value.type "dict") none (Data.dict (List.toArray [(DictEntry.mk (PyData.keyHash P (Str.ofString "__name__")) (Value.str (Str.ofString "__name__") 165) (Value.str (Str.ofString "postcore.numbers") 236)), (DictEntry.mk (PyData.keyHash P (Str.ofString "__doc__")) (Value.str (Str.ofString "__doc__") 166) Value.none), (DictEntry.mk (PyData.keyHash P (Str.ofString "__package__")) (Value.str (Str.ofString "__package__") 167) Value.none), (DictEntry.mk (PyData.keyHash P (Str.ofString "__loader__")) (Value.str (Str.ofString "__loader__") 168) (Value.builtin "__main__.__loader__#opaque")), (DictEntry.mk (PyData.keyHash P (Str.ofString "__spec__")) (Value.str (Str.ofString "__spec__") 169) Value.none), (DictEntry.mk (PyData.keyHash P (Str.ofString "__annotations__")) (Value.str (Str.ofString "__annotations__") 170) (Value.ref 6)), (DictEntry.mk (PyData.keyHash P (Str.ofString "__builtins__")) (Value.str (Str.ofString "__builtins__") 171) (Value.ref 4)), (DictEntry.mk (PyData.keyHash P (Str.ofString "__file__")) (Value.str (Str.ofString "__file__") 173) (Value.str (Str.ofString "/claim/cut.py") 172)), (DictEntry.mk (PyData.keyHash P (Str.ofString "__cached__")) (Value.str (Str.ofString "__cached__") 174) Value.none), (DictEntry.mk (PyData.keyHash P (Str.ofString "GRAIN")) (Value.str (Str.ofString "GRAIN") 190) (Value.int 1000000 189)), (DictEntry.mk (PyData.keyHash P (Str.ofString "PostError")) (Value.str (Str.ofString "PostError") 219) (Value.ref 32)), (DictEntry.mk (PyData.keyHash P (Str.ofString "PsError")) (Value.str (Str.ofString "PsError") 235) (Value.ref 45)), (DictEntry.mk (PyData.keyHash P (Str.ofString "FINE")) (Value.str (Str.ofString "FINE") 241) (Value.int 1000000000000000000000000000000000000 240)), (DictEntry.mk (PyData.keyHash P (Str.ofString "PI_FINE")) (Value.str (Str.ofString "PI_FINE") 243) (Value.int 3141592653589793238462643383279502884 242)), (DictEntry.mk (PyData.keyHash P (Str.ofString "QUARTER")) (Value.str (Str.ofString "QUARTER") 246) (Value.int 90000000 245)), (DictEntry.mk (PyData.keyHash P (Str.ofString "HALF_TURN")) (Value.str (Str.ofString "HALF_TURN") 249) (Value.int 180000000 248)), (DictEntry.mk (PyData.keyHash P (Str.ofString "WHOLE_TURN")) (Value.str (Str.ofString "WHOLE_TURN") 252) (Value.int 360000000 251)), (DictEntry.mk (PyData.keyHash P (Str.ofString "divided")) (Value.str (Str.ofString "divided") 263) (Value.ref 54)), (DictEntry.mk (PyData.keyHash P (Str.ofString "whole_root")) (Value.str (Str.ofString "whole_root") 272) (Value.ref 61)), (DictEntry.mk (PyData.keyHash P (Str.ofString "root")) (Value.str (Str.ofString "root") 281) (Value.ref 68)), (DictEntry.mk (PyData.keyHash P (Str.ofString "fine_product")) (Value.str (Str.ofString "fine_product") 289) (Value.ref 75)), (DictEntry.mk (PyData.keyHash P (Str.ofString "fine_odd_series")) (Value.str (Str.ofString "fine_odd_series") 301) (Value.ref 82)), (DictEntry.mk (PyData.keyHash P (Str.ofString "fine_sine_near")) (Value.str (Str.ofString "fine_sine_near") 312) (Value.ref 89)), (DictEntry.mk (PyData.keyHash P (Str.ofString "fine_cosine_near")) (Value.str (Str.ofString "fine_cosine_near") 324) (Value.ref 96))]) 24) (List.toArray []))
noncomputable abbrev o58 : Params → Obj := fun _ => (Obj.mk Value.none none (Data.fields (List.toArray [(Value.int 3 0), (Value.int 0 0), (Value.ref 20), (Value.int 7 0), (Value.int 0 0), (Value.ref 41), (Value.int 15 0), (Value.int 0 0), (Value.ref 53), (Value.int 19 0), (Value.int 0 0), (Value.ref 60), (Value.int 28 0), (Value.int 0 0), (Value.ref 67), (Value.int 34 0), (Value.int 0 0), (Value.ref 74), (Value.int 36 0), (Value.int 0 0), (Value.ref 81), (Value.int 46 0), (Value.int 0 0), (Value.ref 88), (Value.int 55 0), (Value.int 0 0), (Value.ref 95)])) (List.toArray []))
noncomputable abbrev o59 : Params → Obj := fun _ => (Obj.mk (Value.type "tuple") none (Data.seq (List.toArray [(Value.str (Str.ofString "part") 293), (Value.str (Str.ofString "is_turning") 294), (Value.str (Str.ofString "square") 295), (Value.str (Str.ofString "found") 296), (Value.str (Str.ofString "power") 297), (Value.str (Str.ofString "number") 298)]) 0) (List.toArray []))
noncomputable abbrev o60 : Params → Obj := fun _ => (Obj.mk Value.none none (Data.func (FuncData.mk (Str.ofString "fine_odd_series") (Str.ofString "fine_odd_series") (fA 14) (FuncBody.stmts (fB 14)) (fS 14) 0 [] Value.none Value.none Value.none Value.none none Value.none Value.none 0)) (List.toArray []))
noncomputable abbrev o61 : Params → Obj := fun _ => (Obj.mk (Value.type "code") none (Data.fields (List.toArray [(Value.str (Str.ofString "fine_odd_series") 290), (Value.str (Str.ofString "fine_odd_series") 291), (Value.str (Str.ofString "/claim/cut.py") 292), (Value.int 36 0), (Value.int 2 0), (Value.int 0 0), (Value.int 0 0), (Value.int 3 0), (Value.ref 76), (Value.bool Bool.true), (Value.int 181 0), (Value.ref 77), Value.none, (Value.ref 78), (Value.ref 79), (Value.ref 80), (Value.int 299 0), (Value.int 36 0), (Value.str (Str.ofString "/claim/cut.py") 300)])) (List.toArray []))
noncomputable abbrev o62 : Params → Obj := fun _ => (Obj.mk (Value.type "function") none (Data.func (FuncData.mk (Str.ofString "fine_odd_series") (Str.ofString "fine_odd_series") (fA 14) (FuncBody.stmts (fB 14)) (fS 14) 3 [] Value.none Value.none Value.none (Value.str (Str.ofString "postcore.numbers") 236) none (Value.ref 81) Value.none 0)) (List.toArray []))
noncomputable abbrev o63 : Params → Obj := fun _ => (Obj.mk (Value.type "tuple") none (Data.seq (List.toArray [(Value.str (Str.ofString "angle") 305), (Value.str (Str.ofString "part") 306), (Value.str (Str.ofString "square") 307), (Value.str (Str.ofString "found") 308), (Value.str (Str.ofString "count") 309)]) 0) (List.toArray []))
noncomputable abbrev o64 : Params → Obj := fun _ => (Obj.mk Value.none none (Data.func (FuncData.mk (Str.ofString "fine_sine_near") (Str.ofString "fine_sine_near") (fA 15) (FuncBody.stmts (fB 15)) (fS 15) 0 [] Value.none Value.none Value.none Value.none none Value.none Value.none 0)) (List.toArray []))
noncomputable abbrev o65 : Params → Obj := fun _ => (Obj.mk (Value.type "code") none (Data.fields (List.toArray [(Value.str (Str.ofString "fine_sine_near") 302), (Value.str (Str.ofString "fine_sine_near") 303), (Value.str (Str.ofString "/claim/cut.py") 304), (Value.int 46 0), (Value.int 1 0), (Value.int 0 0), (Value.int 0 0), (Value.int 3 0), (Value.ref 83), (Value.bool Bool.true), (Value.int 181 0), (Value.ref 84), Value.none, (Value.ref 85), (Value.ref 86), (Value.ref 87), (Value.int 310 0), (Value.int 46 0), (Value.str (Str.ofString "/claim/cut.py") 311)])) (List.toArray []))
noncomputable abbrev o66 : Params → Obj := fun _ => (Obj.mk (Value.type "function") none (Data.func (FuncData.mk (Str.ofString "fine_sine_near") (Str.ofString "fine_sine_near") (fA 15) (FuncBody.stmts (fB 15)) (fS 15) 3 [] Value.none Value.none Value.none (Value.str (Str.ofString "postcore.numbers") 236) none (Value.ref 88) Value.none 0)) (List.toArray []))
noncomputable abbrev o67 : Params → Obj := fun _ => (Obj.mk (Value.type "tuple") none (Data.seq (List.toArray [(Value.str (Str.ofString "angle") 316), (Value.str (Str.ofString "turned") 317), (Value.str (Str.ofString "square") 318), (Value.str (Str.ofString "found") 319), (Value.str (Str.ofString "part") 320), (Value.str (Str.ofString "count") 321)]) 0) (List.toArray []))
noncomputable abbrev o68 : Params → Obj := fun _ => (Obj.mk Value.none none (Data.func (FuncData.mk (Str.ofString "fine_cosine_near") (Str.ofString "fine_cosine_near") (fA 16) (FuncBody.stmts (fB 16)) (fS 16) 0 [] Value.none Value.none Value.none Value.none none Value.none Value.none 0)) (List.toArray []))
noncomputable abbrev o69 : Params → Obj := fun _ => (Obj.mk (Value.type "code") none (Data.fields (List.toArray [(Value.str (Str.ofString "fine_cosine_near") 313), (Value.str (Str.ofString "fine_cosine_near") 314), (Value.str (Str.ofString "/claim/cut.py") 315), (Value.int 55 0), (Value.int 1 0), (Value.int 0 0), (Value.int 0 0), (Value.int 3 0), (Value.ref 90), (Value.bool Bool.true), (Value.int 181 0), (Value.ref 91), Value.none, (Value.ref 92), (Value.ref 93), (Value.ref 94), (Value.int 322 0), (Value.int 55 0), (Value.str (Str.ofString "/claim/cut.py") 323)])) (List.toArray []))
noncomputable abbrev o70 : Params → Obj := fun _ => (Obj.mk (Value.type "function") none (Data.func (FuncData.mk (Str.ofString "fine_cosine_near") (Str.ofString "fine_cosine_near") (fA 16) (FuncBody.stmts (fB 16)) (fS 16) 3 [] Value.none Value.none Value.none (Value.str (Str.ofString "postcore.numbers") 236) none (Value.ref 95) Value.none 0)) (List.toArray []))
noncomputable abbrev o71 : Params → Obj := fun P => (Obj.mk (Value.type "dict") none (Data.dict (List.toArray [(DictEntry.mk (PyData.keyHash P (Str.ofString "__name__")) (Value.str (Str.ofString "__name__") 165) (Value.str (Str.ofString "postcore.numbers") 236)), (DictEntry.mk (PyData.keyHash P (Str.ofString "__doc__")) (Value.str (Str.ofString "__doc__") 166) Value.none), (DictEntry.mk (PyData.keyHash P (Str.ofString "__package__")) (Value.str (Str.ofString "__package__") 167) Value.none), (DictEntry.mk (PyData.keyHash P (Str.ofString "__loader__")) (Value.str (Str.ofString "__loader__") 168) (Value.builtin "__main__.__loader__#opaque")), (DictEntry.mk (PyData.keyHash P (Str.ofString "__spec__")) (Value.str (Str.ofString "__spec__") 169) Value.none), (DictEntry.mk (PyData.keyHash P (Str.ofString "__annotations__")) (Value.str (Str.ofString "__annotations__") 170) (Value.ref 6)), (DictEntry.mk (PyData.keyHash P (Str.ofString "__builtins__")) (Value.str (Str.ofString "__builtins__") 171) (Value.ref 4)), (DictEntry.mk (PyData.keyHash P (Str.ofString "__file__")) (Value.str (Str.ofString "__file__") 173) (Value.str (Str.ofString "/claim/cut.py") 172)), (DictEntry.mk (PyData.keyHash P (Str.ofString "__cached__")) (Value.str (Str.ofString "__cached__") 174) Value.none), (DictEntry.mk (PyData.keyHash P (Str.ofString "GRAIN")) (Value.str (Str.ofString "GRAIN") 190) (Value.int 1000000 189)), (DictEntry.mk (PyData.keyHash P (Str.ofString "PostError")) (Value.str (Str.ofString "PostError") 219) (Value.ref 32)), (DictEntry.mk (PyData.keyHash P (Str.ofString "PsError")) (Value.str (Str.ofString "PsError") 235) (Value.ref 45)), (DictEntry.mk (PyData.keyHash P (Str.ofString "FINE")) (Value.str (Str.ofString "FINE") 241) (Value.int 1000000000000000000000000000000000000 240)), (DictEntry.mk (PyData.keyHash P (Str.ofString "PI_FINE")) (Value.str (Str.ofString "PI_FINE") 243) (Value.int 3141592653589793238462643383279502884 242)), (DictEntry.mk (PyData.keyHash P (Str.ofString "QUARTER")) (Value.str (Str.ofString "QUARTER") 246) (Value.int 90000000 245)), (DictEntry.mk (PyData.keyHash P (Str.ofString "HALF_TURN")) (Value.str (Str.ofString "HALF_TURN") 249) (Value.int 180000000 248)), (DictEntry.mk (PyData.keyHash P (Str.ofString "WHOLE_TURN")) (Value.str (Str.ofString "WHOLE_TURN") 252) (Value.int 360000000 251)), (DictEntry.mk (PyData.keyHash P (Str.ofString "divided")) (Value.str (Str.ofString "divided") 263) (Value.ref 54)), (DictEntry.mk (PyData.keyHash P (Str.ofString "whole_root")) (Value.str (Str.ofString "whole_root") 272) (Value.ref 61)), (DictEntry.mk (PyData.keyHash P (Str.ofString "root")) (Value.str (Str.ofString "root") 281) (Value.ref 68)), (DictEntry.mk (PyData.keyHash P (Str.ofString "fine_product")) (Value.str (Str.ofString "fine_product") 289) (Value.ref 75)), (DictEntry.mk (PyData.keyHash P (Str.ofString "fine_odd_series")) (Value.str (Str.ofString "fine_odd_series") 301) (Value.ref 82)), (DictEntry.mk (PyData.keyHash P (Str.ofString "fine_sine_near")) (Value.str (Str.ofString "fine_sine_near") 312) (Value.ref 89)), (DictEntry.mk (PyData.keyHash P (Str.ofString "fine_cosine_near")) (Value.str (Str.ofString "fine_cosine_near") 324) (Value.ref 96)), (DictEntry.mk (PyData.keyHash P (Str.ofString "sine")) (Value.str (Str.ofString "sine") 334) (Value.ref 103)), (DictEntry.mk (PyData.keyHash P (Str.ofString "cosine")) (Value.str (Str.ofString "cosine") 341) (Value.ref 110)), (DictEntry.mk (PyData.keyHash P (Str.ofString "fine_arc")) (Value.str (Str.ofString "fine_arc") 351) (Value.ref 117))]) 27) (List.toArray []))
noncomputable abbrev o72 : Params → Obj := fun _ => (Obj.mk Value.none none (Data.fields (List.toArray [(Value.int 3 0), (Value.int 0 0), (Value.ref 20), (Value.int 7 0), (Value.int 0 0), (Value.ref 41), (Value.int 15 0), (Value.int 0 0), (Value.ref 53), (Value.int 19 0), (Value.int 0 0), (Value.ref 60), (Value.int 28 0), (Value.int 0 0), (Value.ref 67), (Value.int 34 0), (Value.int 0 0), (Value.ref 74), (Value.int 36 0), (Value.int 0 0), (Value.ref 81), (Value.int 46 0), (Value.int 0 0), (Value.ref 88), (Value.int 55 0), (Value.int 0 0), (Value.ref 95), (Value.int 64 0), (Value.int 0 0), (Value.ref 102), (Value.int 73 0), (Value.int 0 0), (Value.ref 109), (Value.int 75 0), (Value.int 0 0), (Value.ref 116)])) (List.toArray []))
noncomputable abbrev o73 : Params → Obj := fun _ => (Obj.mk (Value.type "tuple") none (Data.seq (List.toArray [(Value.str (Str.ofString "angle") 328), (Value.str (Str.ofString "left") 329), (Value.str (Str.ofString "is_below") 330), (Value.str (Str.ofString "found") 331)]) 0) (List.toArray []))
noncomputable abbrev o74 : Params → Obj := fun _ => (Obj.mk Value.none none (Data.func (FuncData.mk (Str.ofString "sine") (Str.ofString "sine") (fA 17) (FuncBody.stmts (fB 17)) (fS 17) 0 [] Value.none Value.none Value.none Value.none none Value.none Value.none 0)) (List.toArray []))
noncomputable abbrev o75 : Params → Obj := fun _ => (Obj.mk (Value.type "code") none (Data.fields (List.toArray [(Value.str (Str.ofString "sine") 325), (Value.str (Str.ofString "sine") 326), (Value.str (Str.ofString "/claim/cut.py") 327), (Value.int 64 0), (Value.int 1 0), (Value.int 0 0), (Value.int 0 0), (Value.int 3 0), (Value.ref 97), (Value.bool Bool.true), (Value.int 181 0), (Value.ref 98), Value.none, (Value.ref 99), (Value.ref 100), (Value.ref 101), (Value.int 332 0), (Value.int 64 0), (Value.str (Str.ofString "/claim/cut.py") 333)])) (List.toArray []))
noncomputable abbrev o76 : Params → Obj := fun _ => (Obj.mk (Value.type "function") none (Data.func (FuncData.mk (Str.ofString "sine") (Str.ofString "sine") (fA 17) (FuncBody.stmts (fB 17)) (fS 17) 3 [] Value.none Value.none Value.none (Value.str (Str.ofString "postcore.numbers") 236) none (Value.ref 102) Value.none 0)) (List.toArray []))
noncomputable abbrev o77 : Params → Obj := fun _ => (Obj.mk (Value.type "tuple") none (Data.seq (List.toArray [(Value.str (Str.ofString "angle") 338)]) 0) (List.toArray []))
noncomputable abbrev o78 : Params → Obj := fun _ => (Obj.mk Value.none none (Data.func (FuncData.mk (Str.ofString "cosine") (Str.ofString "cosine") (fA 18) (FuncBody.stmts (fB 18)) (fS 18) 0 [] Value.none Value.none Value.none Value.none none Value.none Value.none 0)) (List.toArray []))
noncomputable abbrev o79 : Params → Obj := fun _ => (Obj.mk (Value.type "code") none (Data.fields (List.toArray [(Value.str (Str.ofString "cosine") 335), (Value.str (Str.ofString "cosine") 336), (Value.str (Str.ofString "/claim/cut.py") 337), (Value.int 73 0), (Value.int 1 0), (Value.int 0 0), (Value.int 0 0), (Value.int 3 0), (Value.ref 104), (Value.bool Bool.true), (Value.int 181 0), (Value.ref 105), Value.none, (Value.ref 106), (Value.ref 107), (Value.ref 108), (Value.int 339 0), (Value.int 73 0), (Value.str (Str.ofString "/claim/cut.py") 340)])) (List.toArray []))
noncomputable abbrev o80 : Params → Obj := fun _ => (Obj.mk (Value.type "function") none (Data.func (FuncData.mk (Str.ofString "cosine") (Str.ofString "cosine") (fA 18) (FuncBody.stmts (fB 18)) (fS 18) 3 [] Value.none Value.none Value.none (Value.str (Str.ofString "postcore.numbers") 236) none (Value.ref 109) Value.none 0)) (List.toArray []))
noncomputable abbrev o81 : Params → Obj := fun _ => (Obj.mk (Value.type "tuple") none (Data.seq (List.toArray [(Value.str (Str.ofString "number") 345), (Value.str (Str.ofString "under") 346), (Value.str (Str.ofString "part") 347), (Value.str (Str.ofString "turn") 348)]) 0) (List.toArray []))
noncomputable abbrev o82 : Params → Obj := fun _ => (Obj.mk Value.none none (Data.func (FuncData.mk (Str.ofString "fine_arc") (Str.ofString "fine_arc") (fA 19) (FuncBody.stmts (fB 19)) (fS 19) 0 [] Value.none Value.none Value.none Value.none none Value.none Value.none 0)) (List.toArray []))
noncomputable abbrev o83 : Params → Obj := fun _ => (Obj.mk (Value.type "code") none (Data.fields (List.toArray [(Value.str (Str.ofString "fine_arc") 342), (Value.str (Str.ofString "fine_arc") 343), (Value.str (Str.ofString "/claim/cut.py") 344), (Value.int 75 0), (Value.int 2 0), (Value.int 0 0), (Value.int 0 0), (Value.int 3 0), (Value.ref 111), (Value.bool Bool.true), (Value.int 181 0), (Value.ref 112), Value.none, (Value.ref 113), (Value.ref 114), (Value.ref 115), (Value.int 349 0), (Value.int 75 0), (Value.str (Str.ofString "/claim/cut.py") 350)])) (List.toArray []))
noncomputable abbrev o84 : Params → Obj := fun _ => (Obj.mk (Value.type "function") none (Data.func (FuncData.mk (Str.ofString "fine_arc") (Str.ofString "fine_arc") (fA 19) (FuncBody.stmts (fB 19)) (fS 19) 3 [] Value.none Value.none Value.none (Value.str (Str.ofString "postcore.numbers") 236) none (Value.ref 116) Value.none 0)) (List.toArray []))
noncomputable abbrev o85 : Params → Obj := fun P => (Obj.mk (Value.type "dict") none (Data.dict (List.toArray [(DictEntry.mk (PyData.keyHash P (Str.ofString "__name__")) (Value.str (Str.ofString "__name__") 165) (Value.str (Str.ofString "law_nt0484_01") 363)), (DictEntry.mk (PyData.keyHash P (Str.ofString "__doc__")) (Value.str (Str.ofString "__doc__") 166) Value.none), (DictEntry.mk (PyData.keyHash P (Str.ofString "__package__")) (Value.str (Str.ofString "__package__") 167) Value.none), (DictEntry.mk (PyData.keyHash P (Str.ofString "__loader__")) (Value.str (Str.ofString "__loader__") 168) (Value.builtin "__main__.__loader__#opaque")), (DictEntry.mk (PyData.keyHash P (Str.ofString "__spec__")) (Value.str (Str.ofString "__spec__") 169) Value.none), (DictEntry.mk (PyData.keyHash P (Str.ofString "__annotations__")) (Value.str (Str.ofString "__annotations__") 170) (Value.ref 6)), (DictEntry.mk (PyData.keyHash P (Str.ofString "__builtins__")) (Value.str (Str.ofString "__builtins__") 171) (Value.ref 4)), (DictEntry.mk (PyData.keyHash P (Str.ofString "__file__")) (Value.str (Str.ofString "__file__") 173) (Value.str (Str.ofString "/claim/cut.py") 172)), (DictEntry.mk (PyData.keyHash P (Str.ofString "__cached__")) (Value.str (Str.ofString "__cached__") 174) Value.none), (DictEntry.mk (PyData.keyHash P (Str.ofString "GRAIN")) (Value.str (Str.ofString "GRAIN") 190) (Value.int 1000000 189)), (DictEntry.mk (PyData.keyHash P (Str.ofString "PostError")) (Value.str (Str.ofString "PostError") 219) (Value.ref 32)), (DictEntry.mk (PyData.keyHash P (Str.ofString "PsError")) (Value.str (Str.ofString "PsError") 235) (Value.ref 45)), (DictEntry.mk (PyData.keyHash P (Str.ofString "FINE")) (Value.str (Str.ofString "FINE") 241) (Value.int 1000000000000000000000000000000000000 240)), (DictEntry.mk (PyData.keyHash P (Str.ofString "PI_FINE")) (Value.str (Str.ofString "PI_FINE") 243) (Value.int 3141592653589793238462643383279502884 242)), (DictEntry.mk (PyData.keyHash P (Str.ofString "QUARTER")) (Value.str (Str.ofString "QUARTER") 246) (Value.int 90000000 245)), (DictEntry.mk (PyData.keyHash P (Str.ofString "HALF_TURN")) (Value.str (Str.ofString "HALF_TURN") 249) (Value.int 180000000 248)), (DictEntry.mk (PyData.keyHash P (Str.ofString "WHOLE_TURN")) (Value.str (Str.ofString "WHOLE_TURN") 252) (Value.int 360000000 251)), (DictEntry.mk (PyData.keyHash P (Str.ofString "divided")) (Value.str (Str.ofString "divided") 263) (Value.ref 54)), (DictEntry.mk (PyData.keyHash P (Str.ofString "whole_root")) (Value.str (Str.ofString "whole_root") 272) (Value.ref 61)), (DictEntry.mk (PyData.keyHash P (Str.ofString "root")) (Value.str (Str.ofString "root") 281) (Value.ref 68)), (DictEntry.mk (PyData.keyHash P (Str.ofString "fine_product")) (Value.str (Str.ofString "fine_product") 289) (Value.ref 75)), (DictEntry.mk (PyData.keyHash P (Str.ofString "fine_odd_series")) (Value.str (Str.ofString "fine_odd_series") 301) (Value.ref 82)), (DictEntry.mk (PyData.keyHash P (Str.ofString "fine_sine_near")) (Value.str (Str.ofString "fine_sine_near") 312) (Value.ref 89)), (DictEntry.mk (PyData.keyHash P (Str.ofString "fine_cosine_near")) (Value.str (Str.ofString "fine_cosine_near") 324) (Value.ref 96)), (DictEntry.mk (PyData.keyHash P (Str.ofString "sine")) (Value.str (Str.ofString "sine") 334) (Value.ref 103)), (DictEntry.mk (PyData.keyHash P (Str.ofString "cosine")) (Value.str (Str.ofString "cosine") 341) (Value.ref 110)), (DictEntry.mk (PyData.keyHash P (Str.ofString "fine_arc")) (Value.str (Str.ofString "fine_arc") 351) (Value.ref 117)), (DictEntry.mk (PyData.keyHash P (Str.ofString "arc_tangent")) (Value.str (Str.ofString "arc_tangent") 362) (Value.ref 124)), (DictEntry.mk (PyData.keyHash P (Str.ofString "_law_draw")) (Value.str (Str.ofString "_law_draw") 376) (Value.ref 131))]) 29) (List.toArray []))
noncomputable abbrev o86 : Params → Obj := fun _ => (Obj.mk Value.none none (Data.fields (List.toArray [(Value.int 3 0), (Value.int 0 0), (Value.ref 20), (Value.int 7 0), (Value.int 0 0), (Value.ref 41), (Value.int 15 0), (Value.int 0 0), (Value.ref 53), (Value.int 19 0), (Value.int 0 0), (Value.ref 60), (Value.int 28 0), (Value.int 0 0), (Value.ref 67), (Value.int 34 0), (Value.int 0 0), (Value.ref 74), (Value.int 36 0), (Value.int 0 0), (Value.ref 81), (Value.int 46 0), (Value.int 0 0), (Value.ref 88), (Value.int 55 0), (Value.int 0 0), (Value.ref 95), (Value.int 64 0), (Value.int 0 0), (Value.ref 102), (Value.int 73 0), (Value.int 0 0), (Value.ref 109), (Value.int 75 0), (Value.int 0 0), (Value.ref 116), (Value.int 80 0), (Value.int 0 0), (Value.ref 123), (Value.int 92 0), (Value.int 0 0), (Value.ref 130)])) (List.toArray []))
noncomputable abbrev o87 : Params → Obj := fun _ => (Obj.mk (Value.type "tuple") none (Data.seq (List.toArray [(Value.str (Str.ofString "number") 355), (Value.str (Str.ofString "under") 356), (Value.str (Str.ofString "tall") 357), (Value.str (Str.ofString "wide") 358), (Value.str (Str.ofString "angle") 359)]) 0) (List.toArray []))
noncomputable abbrev o88 : Params → Obj := fun _ => (Obj.mk Value.none none (Data.func (FuncData.mk (Str.ofString "arc_tangent") (Str.ofString "arc_tangent") (fA 20) (FuncBody.stmts (fB 20)) (fS 20) 0 [] Value.none Value.none Value.none Value.none none Value.none Value.none 0)) (List.toArray []))
noncomputable abbrev o89 : Params → Obj := fun _ => (Obj.mk (Value.type "code") none (Data.fields (List.toArray [(Value.str (Str.ofString "arc_tangent") 352), (Value.str (Str.ofString "arc_tangent") 353), (Value.str (Str.ofString "/claim/cut.py") 354), (Value.int 80 0), (Value.int 2 0), (Value.int 0 0), (Value.int 0 0), (Value.int 3 0), (Value.ref 118), (Value.bool Bool.true), (Value.int 181 0), (Value.ref 119), Value.none, (Value.ref 120), (Value.ref 121), (Value.ref 122), (Value.int 360 0), (Value.int 80 0), (Value.str (Str.ofString "/claim/cut.py") 361)])) (List.toArray []))
noncomputable abbrev o90 : Params → Obj := fun _ => (Obj.mk (Value.type "function") none (Data.func (FuncData.mk (Str.ofString "arc_tangent") (Str.ofString "arc_tangent") (fA 20) (FuncBody.stmts (fB 20)) (fS 20) 3 [] Value.none Value.none Value.none (Value.str (Str.ofString "postcore.numbers") 236) none (Value.ref 123) Value.none 0)) (List.toArray []))
noncomputable abbrev o91 : Params → Obj := fun _ => (Obj.mk (Value.type "tuple") none (Data.seq (List.toArray [(Value.str (Str.ofString "deck") 368), (Value.str (Str.ofString "below") 369), (Value.str (Str.ofString "turn") 370), (Value.str (Str.ofString "cells") 371), (Value.str (Str.ofString "cell") 372), (Value.str (Str.ofString "mixed") 373)]) 0) (List.toArray []))
noncomputable abbrev o92 : Params → Obj := fun _ => (Obj.mk Value.none none (Data.func (FuncData.mk (Str.ofString "_law_draw") (Str.ofString "_law_draw") (fA 22) (FuncBody.stmts (fB 22)) (fS 22) 0 [] Value.none Value.none Value.none Value.none none Value.none Value.none 0)) (List.toArray []))
noncomputable abbrev o93 : Params → Obj := fun _ => (Obj.mk (Value.type "code") none (Data.fields (List.toArray [(Value.str (Str.ofString "_law_draw") 365), (Value.str (Str.ofString "_law_draw") 366), (Value.str (Str.ofString "/claim/cut.py") 367), (Value.int 92 0), (Value.int 2 0), (Value.int 0 0), (Value.int 0 0), (Value.int 3 0), (Value.ref 125), (Value.bool Bool.true), (Value.int 181 0), (Value.ref 126), Value.none, (Value.ref 127), (Value.ref 128), (Value.ref 129), (Value.int 374 0), (Value.int 92 0), (Value.str (Str.ofString "/claim/cut.py") 375)])) (List.toArray []))
noncomputable abbrev o94 : Params → Obj := fun _ => (Obj.mk (Value.type "function") none (Data.func (FuncData.mk (Str.ofString "_law_draw") (Str.ofString "_law_draw") (fA 22) (FuncBody.stmts (fB 22)) (fS 22) 3 [] Value.none Value.none Value.none (Value.str (Str.ofString "law_nt0484_01") 363) none (Value.ref 130) Value.none 0)) (List.toArray []))
noncomputable abbrev o95 : Params → Obj := fun P => (Obj.mk (Value.type "dict") none (Data.dict (List.toArray [(DictEntry.mk (PyData.keyHash P (Str.ofString "__name__")) (Value.str (Str.ofString "__name__") 165) (Value.str (Str.ofString "law_nt0484_01") 363)), (DictEntry.mk (PyData.keyHash P (Str.ofString "__doc__")) (Value.str (Str.ofString "__doc__") 166) Value.none), (DictEntry.mk (PyData.keyHash P (Str.ofString "__package__")) (Value.str (Str.ofString "__package__") 167) Value.none), (DictEntry.mk (PyData.keyHash P (Str.ofString "__loader__")) (Value.str (Str.ofString "__loader__") 168) (Value.builtin "__main__.__loader__#opaque")), (DictEntry.mk (PyData.keyHash P (Str.ofString "__spec__")) (Value.str (Str.ofString "__spec__") 169) Value.none), (DictEntry.mk (PyData.keyHash P (Str.ofString "__annotations__")) (Value.str (Str.ofString "__annotations__") 170) (Value.ref 6)), (DictEntry.mk (PyData.keyHash P (Str.ofString "__builtins__")) (Value.str (Str.ofString "__builtins__") 171) (Value.ref 4)), (DictEntry.mk (PyData.keyHash P (Str.ofString "__file__")) (Value.str (Str.ofString "__file__") 173) (Value.str (Str.ofString "/claim/cut.py") 172)), (DictEntry.mk (PyData.keyHash P (Str.ofString "__cached__")) (Value.str (Str.ofString "__cached__") 174) Value.none), (DictEntry.mk (PyData.keyHash P (Str.ofString "GRAIN")) (Value.str (Str.ofString "GRAIN") 190) (Value.int 1000000 189)), (DictEntry.mk (PyData.keyHash P (Str.ofString "PostError")) (Value.str (Str.ofString "PostError") 219) (Value.ref 32)), (DictEntry.mk (PyData.keyHash P (Str.ofString "PsError")) (Value.str (Str.ofString "PsError") 235) (Value.ref 45)), (DictEntry.mk (PyData.keyHash P (Str.ofString "FINE")) (Value.str (Str.ofString "FINE") 241) (Value.int 1000000000000000000000000000000000000 240)), (DictEntry.mk (PyData.keyHash P (Str.ofString "PI_FINE")) (Value.str (Str.ofString "PI_FINE") 243) (Value.int 3141592653589793238462643383279502884 242)), (DictEntry.mk (PyData.keyHash P (Str.ofString "QUARTER")) (Value.str (Str.ofString "QUARTER") 246) (Value.int 90000000 245)), (DictEntry.mk (PyData.keyHash P (Str.ofString "HALF_TURN")) (Value.str (Str.ofString "HALF_TURN") 249) (Value.int 180000000 248)), (DictEntry.mk (PyData.keyHash P (Str.ofString "WHOLE_TURN")) (Value.str (Str.ofString "WHOLE_TURN") 252) (Value.int 360000000 251)), (DictEntry.mk (PyData.keyHash P (Str.ofString "divided")) (Value.str (Str.ofString "divided") 263) (Value.ref 54)), (DictEntry.mk (PyData.keyHash P (Str.ofString "whole_root")) (Value.str (Str.ofString "whole_root") 272) (Value.ref 61)), (DictEntry.mk (PyData.keyHash P (Str.ofString "root")) (Value.str (Str.ofString "root") 281) (Value.ref 68)), (DictEntry.mk (PyData.keyHash P (Str.ofString "fine_product")) (Value.str (Str.ofString "fine_product") 289) (Value.ref 75)), (DictEntry.mk (PyData.keyHash P (Str.ofString "fine_odd_series")) (Value.str (Str.ofString "fine_odd_series") 301) (Value.ref 82)), (DictEntry.mk (PyData.keyHash P (Str.ofString "fine_sine_near")) (Value.str (Str.ofString "fine_sine_near") 312) (Value.ref 89)), (DictEntry.mk (PyData.keyHash P (Str.ofString "fine_cosine_near")) (Value.str (Str.ofString "fine_cosine_near") 324) (Value.ref 96)), (DictEntry.mk (PyData.keyHash P (Str.ofString "sine")) (Value.str (Str.ofString "sine") 334) (Value.ref 103)), (DictEntry.mk (PyData.keyHash P (Str.ofString "cosine")) (Value.str (Str.ofString "cosine") 341) (Value.ref 110)), (DictEntry.mk (PyData.keyHash P (Str.ofString "fine_arc")) (Value.str (Str.ofString "fine_arc") 351) (Value.ref 117)), (DictEntry.mk (PyData.keyHash P (Str.ofString "arc_tangent")) (Value.str (Str.ofString "arc_tangent") 362) (Value.ref 124)), (DictEntry.mk (PyData.keyHash P (Str.ofString "_law_draw")) (Value.str (Str.ofString "_law_draw") 376) (Value.ref 131)), (DictEntry.mk (PyData.keyHash P (Str.ofString "_law_grain")) (Value.str (Str.ofString "_law_grain") 382) (Value.ref 138)), (DictEntry.mk (PyData.keyHash P (Str.ofString "_law_sine")) (Value.str (Str.ofString "_law_sine") 395) (Value.ref 145)), (DictEntry.mk (PyData.keyHash P (Str.ofString "_law_near")) (Value.str (Str.ofString "_law_near") 403) (Value.ref 152))]) 32) (List.toArray []))
noncomputable abbrev o96 : Params → Obj := fun _ => (Obj.mk Value.none none (Data.fields (List.toArray [(Value.int 3 0), (Value.int 0 0), (Value.ref 20), (Value.int 7 0), (Value.int 0 0), (Value.ref 41), (Value.int 15 0), (Value.int 0 0), (Value.ref 53), (Value.int 19 0), (Value.int 0 0), (Value.ref 60), (Value.int 28 0), (Value.int 0 0), (Value.ref 67), (Value.int 34 0), (Value.int 0 0), (Value.ref 74), (Value.int 36 0), (Value.int 0 0), (Value.ref 81), (Value.int 46 0), (Value.int 0 0), (Value.ref 88), (Value.int 55 0), (Value.int 0 0), (Value.ref 95), (Value.int 64 0), (Value.int 0 0), (Value.ref 102), (Value.int 73 0), (Value.int 0 0), (Value.ref 109), (Value.int 75 0), (Value.int 0 0), (Value.ref 116), (Value.int 80 0), (Value.int 0 0), (Value.ref 123), (Value.int 92 0), (Value.int 0 0), (Value.ref 130), (Value.int 101 0), (Value.int 0 0), (Value.ref 137), (Value.int 103 0), (Value.int 0 0), (Value.ref 144), (Value.int 112 0), (Value.int 0 0), (Value.ref 151)])) (List.toArray []))
noncomputable abbrev o97 : Params → Obj := fun _ => (Obj.mk Value.none none (Data.func (FuncData.mk (Str.ofString "_law_grain") (Str.ofString "_law_grain") (fA 23) (FuncBody.stmts (fB 23)) (fS 23) 0 [] Value.none Value.none Value.none Value.none none Value.none Value.none 0)) (List.toArray []))
noncomputable abbrev o98 : Params → Obj := fun _ => (Obj.mk (Value.type "code") none (Data.fields (List.toArray [(Value.str (Str.ofString "_law_grain") 377), (Value.str (Str.ofString "_law_grain") 378), (Value.str (Str.ofString "/claim/cut.py") 379), (Value.int 101 0), (Value.int 0 0), (Value.int 0 0), (Value.int 0 0), (Value.int 3 0), (Value.ref 132), (Value.bool Bool.true), (Value.int 181 0), (Value.ref 133), Value.none, (Value.ref 134), (Value.ref 135), (Value.ref 136), (Value.int 380 0), (Value.int 101 0), (Value.str (Str.ofString "/claim/cut.py") 381)])) (List.toArray []))
noncomputable abbrev o99 : Params → Obj := fun _ => (Obj.mk (Value.type "function") none (Data.func (FuncData.mk (Str.ofString "_law_grain") (Str.ofString "_law_grain") (fA 23) (FuncBody.stmts (fB 23)) (fS 23) 3 [] Value.none Value.none Value.none (Value.str (Str.ofString "law_nt0484_01") 363) none (Value.ref 137) Value.none 0)) (List.toArray []))
noncomputable abbrev o100 : Params → Obj := fun _ => (Obj.mk (Value.type "tuple") none (Data.seq (List.toArray [(Value.str (Str.ofString "angle") 386), (Value.str (Str.ofString "grain") 387), (Value.str (Str.ofString "half") 388), (Value.str (Str.ofString "part") 389), (Value.str (Str.ofString "square") 390), (Value.str (Str.ofString "total") 391), (Value.str (Str.ofString "k") 392)]) 0) (List.toArray []))
noncomputable abbrev o101 : Params → Obj := fun _ => (Obj.mk Value.none none (Data.func (FuncData.mk (Str.ofString "_law_sine") (Str.ofString "_law_sine") (fA 24) (FuncBody.stmts (fB 24)) (fS 24) 0 [] Value.none Value.none Value.none Value.none none Value.none Value.none 0)) (List.toArray []))
noncomputable abbrev o102 : Params → Obj := fun _ => (Obj.mk (Value.type "code") none (Data.fields (List.toArray [(Value.str (Str.ofString "_law_sine") 383), (Value.str (Str.ofString "_law_sine") 384), (Value.str (Str.ofString "/claim/cut.py") 385), (Value.int 103 0), (Value.int 1 0), (Value.int 0 0), (Value.int 0 0), (Value.int 3 0), (Value.ref 139), (Value.bool Bool.true), (Value.int 181 0), (Value.ref 140), Value.none, (Value.ref 141), (Value.ref 142), (Value.ref 143), (Value.int 393 0), (Value.int 103 0), (Value.str (Str.ofString "/claim/cut.py") 394)])) (List.toArray []))
noncomputable abbrev o103 : Params → Obj := fun _ => (Obj.mk (Value.type "function") none (Data.func (FuncData.mk (Str.ofString "_law_sine") (Str.ofString "_law_sine") (fA 24) (FuncBody.stmts (fB 24)) (fS 24) 3 [] Value.none Value.none Value.none (Value.str (Str.ofString "law_nt0484_01") 363) none (Value.ref 144) Value.none 0)) (List.toArray []))
noncomputable abbrev o104 : Params → Obj := fun _ => (Obj.mk (Value.type "tuple") none (Data.seq (List.toArray [(Value.str (Str.ofString "fine") 399), (Value.str (Str.ofString "grain") 400)]) 0) (List.toArray []))
noncomputable abbrev o105 : Params → Obj := fun _ => (Obj.mk Value.none none (Data.func (FuncData.mk (Str.ofString "_law_near") (Str.ofString "_law_near") (fA 25) (FuncBody.stmts (fB 25)) (fS 25) 0 [] Value.none Value.none Value.none Value.none none Value.none Value.none 0)) (List.toArray []))
noncomputable abbrev o106 : Params → Obj := fun _ => (Obj.mk (Value.type "code") none (Data.fields (List.toArray [(Value.str (Str.ofString "_law_near") 396), (Value.str (Str.ofString "_law_near") 397), (Value.str (Str.ofString "/claim/cut.py") 398), (Value.int 112 0), (Value.int 1 0), (Value.int 0 0), (Value.int 0 0), (Value.int 3 0), (Value.ref 146), (Value.bool Bool.true), (Value.int 181 0), (Value.ref 147), Value.none, (Value.ref 148), (Value.ref 149), (Value.ref 150), (Value.int 401 0), (Value.int 112 0), (Value.str (Str.ofString "/claim/cut.py") 402)])) (List.toArray []))
noncomputable abbrev o107 : Params → Obj := fun _ => (Obj.mk (Value.type "function") none (Data.func (FuncData.mk (Str.ofString "_law_near") (Str.ofString "_law_near") (fA 25) (FuncBody.stmts (fB 25)) (fS 25) 3 [] Value.none Value.none Value.none (Value.str (Str.ofString "law_nt0484_01") 363) none (Value.ref 151) Value.none 0)) (List.toArray []))
noncomputable abbrev o108 : Params → Obj := fun P => (Obj.mk (Value.type "dict") none (Data.dict (List.toArray [(DictEntry.mk (PyData.keyHash P (Str.ofString "__name__")) (Value.str (Str.ofString "__name__") 165) (Value.str (Str.ofString "law_nt0484_01") 363)), (DictEntry.mk (PyData.keyHash P (Str.ofString "__doc__")) (Value.str (Str.ofString "__doc__") 166) Value.none), (DictEntry.mk (PyData.keyHash P (Str.ofString "__package__")) (Value.str (Str.ofString "__package__") 167) Value.none), (DictEntry.mk (PyData.keyHash P (Str.ofString "__loader__")) (Value.str (Str.ofString "__loader__") 168) (Value.builtin "__main__.__loader__#opaque")), (DictEntry.mk (PyData.keyHash P (Str.ofString "__spec__")) (Value.str (Str.ofString "__spec__") 169) Value.none), (DictEntry.mk (PyData.keyHash P (Str.ofString "__annotations__")) (Value.str (Str.ofString "__annotations__") 170) (Value.ref 6)), (DictEntry.mk (PyData.keyHash P (Str.ofString "__builtins__")) (Value.str (Str.ofString "__builtins__") 171) (Value.ref 4)), (DictEntry.mk (PyData.keyHash P (Str.ofString "__file__")) (Value.str (Str.ofString "__file__") 173) (Value.str (Str.ofString "/claim/cut.py") 172)), (DictEntry.mk (PyData.keyHash P (Str.ofString "__cached__")) (Value.str (Str.ofString "__cached__") 174) Value.none), (DictEntry.mk (PyData.keyHash P (Str.ofString "GRAIN")) (Value.str (Str.ofString "GRAIN") 190) (Value.int 1000000 189)), (DictEntry.mk (PyData.keyHash P (Str.ofString "PostError")) (Value.str (Str.ofString "PostError") 219) (Value.ref 32)), (DictEntry.mk (PyData.keyHash P (Str.ofString "PsError")) (Value.str (Str.ofString "PsError") 235) (Value.ref 45)), (DictEntry.mk (PyData.keyHash P (Str.ofString "FINE")) (Value.str (Str.ofString "FINE") 241) (Value.int 1000000000000000000000000000000000000 240)), (DictEntry.mk (PyData.keyHash P (Str.ofString "PI_FINE")) (Value.str (Str.ofString "PI_FINE") 243) (Value.int 3141592653589793238462643383279502884 242)), (DictEntry.mk (PyData.keyHash P (Str.ofString "QUARTER")) (Value.str (Str.ofString "QUARTER") 246) (Value.int 90000000 245)), (DictEntry.mk (PyData.keyHash P (Str.ofString "HALF_TURN")) (Value.str (Str.ofString "HALF_TURN") 249) (Value.int 180000000 248)), (DictEntry.mk (PyData.keyHash P (Str.ofString "WHOLE_TURN")) (Value.str (Str.ofString "WHOLE_TURN") 252) (Value.int 360000000 251)), (DictEntry.mk (PyData.keyHash P (Str.ofString "divided")) (Value.str (Str.ofString "divided") 263) (Value.ref 54)), (DictEntry.mk (PyData.keyHash P (Str.ofString "whole_root")) (Value.str (Str.ofString "whole_root") 272) (Value.ref 61)), (DictEntry.mk (PyData.keyHash P (Str.ofString "root")) (Value.str (Str.ofString "root") 281) (Value.ref 68)), (DictEntry.mk (PyData.keyHash P (Str.ofString "fine_product")) (Value.str (Str.ofString "fine_product") 289) (Value.ref 75)), (DictEntry.mk (PyData.keyHash P (Str.ofString "fine_odd_series")) (Value.str (Str.ofString "fine_odd_series") 301) (Value.ref 82)), (DictEntry.mk (PyData.keyHash P (Str.ofString "fine_sine_near")) (Value.str (Str.ofString "fine_sine_near") 312) (Value.ref 89)), (DictEntry.mk (PyData.keyHash P (Str.ofString "fine_cosine_near")) (Value.str (Str.ofString "fine_cosine_near") 324) (Value.ref 96)), (DictEntry.mk (PyData.keyHash P (Str.ofString "sine")) (Value.str (Str.ofString "sine") 334) (Value.ref 103)), (DictEntry.mk (PyData.keyHash P (Str.ofString "cosine")) (Value.str (Str.ofString "cosine") 341) (Value.ref 110)), (DictEntry.mk (PyData.keyHash P (Str.ofString "fine_arc")) (Value.str (Str.ofString "fine_arc") 351) (Value.ref 117)), (DictEntry.mk (PyData.keyHash P (Str.ofString "arc_tangent")) (Value.str (Str.ofString "arc_tangent") 362) (Value.ref 124)), (DictEntry.mk (PyData.keyHash P (Str.ofString "_law_draw")) (Value.str (Str.ofString "_law_draw") 376) (Value.ref 131)), (DictEntry.mk (PyData.keyHash P (Str.ofString "_law_grain")) (Value.str (Str.ofString "_law_grain") 382) (Value.ref 138)), (DictEntry.mk (PyData.keyHash P (Str.ofString "_law_sine")) (Value.str (Str.ofString "_law_sine") 395) (Value.ref 145)), (DictEntry.mk (PyData.keyHash P (Str.ofString "_law_near")) (Value.str (Str.ofString "_law_near") 403) (Value.ref 152)), (DictEntry.mk (PyData.keyHash P (Str.ofString "_law_angle")) (Value.str (Str.ofString "_law_angle") 412) (Value.ref 159)), (DictEntry.mk (PyData.keyHash P (Str.ofString "_law_size")) (Value.str (Str.ofString "_law_size") 421) (Value.ref 166))]) 34) (List.toArray []))
noncomputable abbrev o109 : Params → Obj := fun _ => (Obj.mk Value.none none (Data.fields (List.toArray [(Value.int 3 0), (Value.int 0 0), (Value.ref 20), (Value.int 7 0), (Value.int 0 0), (Value.ref 41), (Value.int 15 0), (Value.int 0 0), (Value.ref 53), (Value.int 19 0), (Value.int 0 0), (Value.ref 60), (Value.int 28 0), (Value.int 0 0), (Value.ref 67), (Value.int 34 0), (Value.int 0 0), (Value.ref 74), (Value.int 36 0), (Value.int 0 0), (Value.ref 81), (Value.int 46 0), (Value.int 0 0), (Value.ref 88), (Value.int 55 0), (Value.int 0 0), (Value.ref 95), (Value.int 64 0), (Value.int 0 0), (Value.ref 102), (Value.int 73 0), (Value.int 0 0), (Value.ref 109), (Value.int 75 0), (Value.int 0 0), (Value.ref 116), (Value.int 80 0), (Value.int 0 0), (Value.ref 123), (Value.int 92 0), (Value.int 0 0), (Value.ref 130), (Value.int 101 0), (Value.int 0 0), (Value.ref 137), (Value.int 103 0), (Value.int 0 0), (Value.ref 144), (Value.int 112 0), (Value.int 0 0), (Value.ref 151), (Value.int 115 0), (Value.int 0 0), (Value.ref 158), (Value.int 119 0), (Value.int 0 0), (Value.ref 165)])) (List.toArray []))
noncomputable abbrev o110 : Params → Obj := fun _ => (Obj.mk (Value.type "tuple") none (Data.seq (List.toArray [(Value.str (Str.ofString "deck") 407), (Value.str (Str.ofString "angle") 408), (Value.str (Str.ofString "k") 409)]) 0) (List.toArray []))
noncomputable abbrev o111 : Params → Obj := fun _ => (Obj.mk Value.none none (Data.func (FuncData.mk (Str.ofString "_law_angle") (Str.ofString "_law_angle") (fA 26) (FuncBody.stmts (fB 26)) (fS 26) 0 [] Value.none Value.none Value.none Value.none none Value.none Value.none 0)) (List.toArray []))
noncomputable abbrev o112 : Params → Obj := fun _ => (Obj.mk (Value.type "code") none (Data.fields (List.toArray [(Value.str (Str.ofString "_law_angle") 404), (Value.str (Str.ofString "_law_angle") 405), (Value.str (Str.ofString "/claim/cut.py") 406), (Value.int 115 0), (Value.int 1 0), (Value.int 0 0), (Value.int 0 0), (Value.int 3 0), (Value.ref 153), (Value.bool Bool.true), (Value.int 181 0), (Value.ref 154), Value.none, (Value.ref 155), (Value.ref 156), (Value.ref 157), (Value.int 410 0), (Value.int 115 0), (Value.str (Str.ofString "/claim/cut.py") 411)])) (List.toArray []))
noncomputable abbrev o113 : Params → Obj := fun _ => (Obj.mk (Value.type "function") none (Data.func (FuncData.mk (Str.ofString "_law_angle") (Str.ofString "_law_angle") (fA 26) (FuncBody.stmts (fB 26)) (fS 26) 3 [] Value.none Value.none Value.none (Value.str (Str.ofString "law_nt0484_01") 363) none (Value.ref 158) Value.none 0)) (List.toArray []))
noncomputable abbrev o114 : Params → Obj := fun _ => (Obj.mk (Value.type "tuple") none (Data.seq (List.toArray [(Value.str (Str.ofString "deck") 416), (Value.str (Str.ofString "great") 417), (Value.str (Str.ofString "k") 418)]) 0) (List.toArray []))
noncomputable abbrev o115 : Params → Obj := fun _ => (Obj.mk Value.none none (Data.func (FuncData.mk (Str.ofString "_law_size") (Str.ofString "_law_size") (fA 27) (FuncBody.stmts (fB 27)) (fS 27) 0 [] Value.none Value.none Value.none Value.none none Value.none Value.none 0)) (List.toArray []))
noncomputable abbrev o116 : Params → Obj := fun _ => (Obj.mk (Value.type "code") none (Data.fields (List.toArray [(Value.str (Str.ofString "_law_size") 413), (Value.str (Str.ofString "_law_size") 414), (Value.str (Str.ofString "/claim/cut.py") 415), (Value.int 119 0), (Value.int 2 0), (Value.int 0 0), (Value.int 0 0), (Value.int 3 0), (Value.ref 160), (Value.bool Bool.true), (Value.int 181 0), (Value.ref 161), Value.none, (Value.ref 162), (Value.ref 163), (Value.ref 164), (Value.int 419 0), (Value.int 119 0), (Value.str (Str.ofString "/claim/cut.py") 420)])) (List.toArray []))
noncomputable abbrev o117 : Params → Obj := fun _ => (Obj.mk (Value.type "function") none (Data.func (FuncData.mk (Str.ofString "_law_size") (Str.ofString "_law_size") (fA 27) (FuncBody.stmts (fB 27)) (fS 27) 3 [] Value.none Value.none Value.none (Value.str (Str.ofString "law_nt0484_01") 363) none (Value.ref 165) Value.none 0)) (List.toArray []))
noncomputable abbrev o118 : Params → Obj := fun P => (Obj.mk (Value.type "dict") none (Data.dict (List.toArray [(DictEntry.mk (PyData.keyHash P (Str.ofString "__name__")) (Value.str (Str.ofString "__name__") 165) (Value.str (Str.ofString "law_nt0484_01") 363)), (DictEntry.mk (PyData.keyHash P (Str.ofString "__doc__")) (Value.str (Str.ofString "__doc__") 166) Value.none), (DictEntry.mk (PyData.keyHash P (Str.ofString "__package__")) (Value.str (Str.ofString "__package__") 167) Value.none), (DictEntry.mk (PyData.keyHash P (Str.ofString "__loader__")) (Value.str (Str.ofString "__loader__") 168) (Value.builtin "__main__.__loader__#opaque")), (DictEntry.mk (PyData.keyHash P (Str.ofString "__spec__")) (Value.str (Str.ofString "__spec__") 169) Value.none), (DictEntry.mk (PyData.keyHash P (Str.ofString "__annotations__")) (Value.str (Str.ofString "__annotations__") 170) (Value.ref 6)), (DictEntry.mk (PyData.keyHash P (Str.ofString "__builtins__")) (Value.str (Str.ofString "__builtins__") 171) (Value.ref 4)), (DictEntry.mk (PyData.keyHash P (Str.ofString "__file__")) (Value.str (Str.ofString "__file__") 173) (Value.str (Str.ofString "/claim/cut.py") 172)), (DictEntry.mk (PyData.keyHash P (Str.ofString "__cached__")) (Value.str (Str.ofString "__cached__") 174) Value.none), (DictEntry.mk (PyData.keyHash P (Str.ofString "GRAIN")) (Value.str (Str.ofString "GRAIN") 190) (Value.int 1000000 189)), (DictEntry.mk (PyData.keyHash P (Str.ofString "PostError")) (Value.str (Str.ofString "PostError") 219) (Value.ref 32)), (DictEntry.mk (PyData.keyHash P (Str.ofString "PsError")) (Value.str (Str.ofString "PsError") 235) (Value.ref 45)), (DictEntry.mk (PyData.keyHash P (Str.ofString "FINE")) (Value.str (Str.ofString "FINE") 241) (Value.int 1000000000000000000000000000000000000 240)), (DictEntry.mk (PyData.keyHash P (Str.ofString "PI_FINE")) (Value.str (Str.ofString "PI_FINE") 243) (Value.int 3141592653589793238462643383279502884 242)), (DictEntry.mk (PyData.keyHash P (Str.ofString "QUARTER")) (Value.str (Str.ofString "QUARTER") 246) (Value.int 90000000 245)), (DictEntry.mk (PyData.keyHash P (Str.ofString "HALF_TURN")) (Value.str (Str.ofString "HALF_TURN") 249) (Value.int 180000000 248)), (DictEntry.mk (PyData.keyHash P (Str.ofString "WHOLE_TURN")) (Value.str (Str.ofString "WHOLE_TURN") 252) (Value.int 360000000 251)), (DictEntry.mk (PyData.keyHash P (Str.ofString "divided")) (Value.str (Str.ofString "divided") 263) (Value.ref 54)), (DictEntry.mk (PyData.keyHash P (Str.ofString "whole_root")) (Value.str (Str.ofString "whole_root") 272) (Value.ref 61)), (DictEntry.mk (PyData.keyHash P (Str.ofString "root")) (Value.str (Str.ofString "root") 281) (Value.ref 68)), (DictEntry.mk (PyData.keyHash P (Str.ofString "fine_product")) (Value.str (Str.ofString "fine_product") 289) (Value.ref 75)), (DictEntry.mk (PyData.keyHash P (Str.ofString "fine_odd_series")) (Value.str (Str.ofString "fine_odd_series") 301) (Value.ref 82)), (DictEntry.mk (PyData.keyHash P (Str.ofString "fine_sine_near")) (Value.str (Str.ofString "fine_sine_near") 312) (Value.ref 89)), (DictEntry.mk (PyData.keyHash P (Str.ofString "fine_cosine_near")) (Value.str (Str.ofString "fine_cosine_near") 324) (Value.ref 96)), (DictEntry.mk (PyData.keyHash P (Str.ofString "sine")) (Value.str (Str.ofString "sine") 334) (Value.ref 103)), (DictEntry.mk (PyData.keyHash P (Str.ofString "cosine")) (Value.str (Str.ofString "cosine") 341) (Value.ref 110)), (DictEntry.mk (PyData.keyHash P (Str.ofString "fine_arc")) (Value.str (Str.ofString "fine_arc") 351) (Value.ref 117)), (DictEntry.mk (PyData.keyHash P (Str.ofString "arc_tangent")) (Value.str (Str.ofString "arc_tangent") 362) (Value.ref 124)), (DictEntry.mk (PyData.keyHash P (Str.ofString "_law_draw")) (Value.str (Str.ofString "_law_draw") 376) (Value.ref 131)), (DictEntry.mk (PyData.keyHash P (Str.ofString "_law_grain")) (Value.str (Str.ofString "_law_grain") 382) (Value.ref 138)), (DictEntry.mk (PyData.keyHash P (Str.ofString "_law_sine")) (Value.str (Str.ofString "_law_sine") 395) (Value.ref 145)), (DictEntry.mk (PyData.keyHash P (Str.ofString "_law_near")) (Value.str (Str.ofString "_law_near") 403) (Value.ref 152)), (DictEntry.mk (PyData.keyHash P (Str.ofString "_law_angle")) (Value.str (Str.ofString "_law_angle") 412) (Value.ref 159)), (DictEntry.mk (PyData.keyHash P (Str.ofString "_law_size")) (Value.str (Str.ofString "_law_size") 421) (Value.ref 166)), (DictEntry.mk (PyData.keyHash P (Str.ofString "_law_told")) (Value.str (Str.ofString "_law_told") 432) (Value.ref 173)), (DictEntry.mk (PyData.keyHash P (Str.ofString "_law_is_angle")) (Value.str (Str.ofString "_law_is_angle") 448) (Value.ref 180)), (DictEntry.mk (PyData.keyHash P (Str.ofString "law")) (Value.str (Str.ofString "law") 464) (Value.ref 187))]) 37) (List.toArray []))
noncomputable abbrev o119 : Params → Obj := fun _ => (Obj.mk Value.none none (Data.fields (List.toArray [(Value.int 3 0), (Value.int 0 0), (Value.ref 20), (Value.int 7 0), (Value.int 0 0), (Value.ref 41), (Value.int 15 0), (Value.int 0 0), (Value.ref 53), (Value.int 19 0), (Value.int 0 0), (Value.ref 60), (Value.int 28 0), (Value.int 0 0), (Value.ref 67), (Value.int 34 0), (Value.int 0 0), (Value.ref 74), (Value.int 36 0), (Value.int 0 0), (Value.ref 81), (Value.int 46 0), (Value.int 0 0), (Value.ref 88), (Value.int 55 0), (Value.int 0 0), (Value.ref 95), (Value.int 64 0), (Value.int 0 0), (Value.ref 102), (Value.int 73 0), (Value.int 0 0), (Value.ref 109), (Value.int 75 0), (Value.int 0 0), (Value.ref 116), (Value.int 80 0), (Value.int 0 0), (Value.ref 123), (Value.int 92 0), (Value.int 0 0), (Value.ref 130), (Value.int 101 0), (Value.int 0 0), (Value.ref 137), (Value.int 103 0), (Value.int 0 0), (Value.ref 144), (Value.int 112 0), (Value.int 0 0), (Value.ref 151), (Value.int 115 0), (Value.int 0 0), (Value.ref 158), (Value.int 119 0), (Value.int 0 0), (Value.ref 165), (Value.int 122 0), (Value.int 0 0), (Value.ref 172), (Value.int 129 0), (Value.int 0 0), (Value.ref 179), (Value.int 135 0), (Value.int 0 0), (Value.ref 186)])) (List.toArray []))
noncomputable abbrev o120 : Params → Obj := fun _ => (Obj.mk (Value.type "tuple") none (Data.seq (List.toArray [(Value.str (Str.ofString "way") 425), (Value.str (Str.ofString "one") 426), (Value.str (Str.ofString "other") 427), (Value.str (Str.ofString "found") 428), (Value.str (Str.ofString "e") 429)]) 0) (List.toArray []))
noncomputable abbrev o121 : Params → Obj := fun _ => (Obj.mk Value.none none (Data.func (FuncData.mk (Str.ofString "_law_told") (Str.ofString "_law_told") (fA 28) (FuncBody.stmts (fB 28)) (fS 28) 0 [] Value.none Value.none Value.none Value.none none Value.none Value.none 0)) (List.toArray []))
noncomputable abbrev o122 : Params → Obj := fun _ => (Obj.mk (Value.type "code") none (Data.fields (List.toArray [(Value.str (Str.ofString "_law_told") 422), (Value.str (Str.ofString "_law_told") 423), (Value.str (Str.ofString "/claim/cut.py") 424), (Value.int 122 0), (Value.int 3 0), (Value.int 0 0), (Value.int 0 0), (Value.int 3 0), (Value.ref 167), (Value.bool Bool.true), (Value.int 181 0), (Value.ref 168), Value.none, (Value.ref 169), (Value.ref 170), (Value.ref 171), (Value.int 430 0), (Value.int 122 0), (Value.str (Str.ofString "/claim/cut.py") 431)])) (List.toArray []))
noncomputable abbrev o123 : Params → Obj := fun _ => (Obj.mk (Value.type "function") none (Data.func (FuncData.mk (Str.ofString "_law_told") (Str.ofString "_law_told") (fA 28) (FuncBody.stmts (fB 28)) (fS 28) 3 [] Value.none Value.none Value.none (Value.str (Str.ofString "law_nt0484_01") 363) none (Value.ref 172) Value.none 0)) (List.toArray []))
noncomputable abbrev o124 : Params → Obj := fun _ => (Obj.mk (Value.type "tuple") none (Data.seq (List.toArray [(Value.str (Str.ofString "angle") 436), (Value.str (Str.ofString "high") 437), (Value.str (Str.ofString "wide") 438), (Value.str (Str.ofString "grain") 439), (Value.str (Str.ofString "half") 440), (Value.str (Str.ofString "near") 441), (Value.str (Str.ofString "far") 442), (Value.str (Str.ofString "across") 443), (Value.str (Str.ofString "along") 444), (Value.str (Str.ofString "most") 445)]) 0) (List.toArray []))
noncomputable abbrev o125 : Params → Obj := fun _ => (Obj.mk Value.none none (Data.func (FuncData.mk (Str.ofString "_law_is_angle") (Str.ofString "_law_is_angle") (fA 29) (FuncBody.stmts (fB 29)) (fS 29) 0 [] Value.none Value.none Value.none Value.none none Value.none Value.none 0)) (List.toArray []))
noncomputable abbrev o126 : Params → Obj := fun _ => (Obj.mk (Value.type "code") none (Data.fields (List.toArray [(Value.str (Str.ofString "_law_is_angle") 433), (Value.str (Str.ofString "_law_is_angle") 434), (Value.str (Str.ofString "/claim/cut.py") 435), (Value.int 129 0), (Value.int 3 0), (Value.int 0 0), (Value.int 0 0), (Value.int 3 0), (Value.ref 174), (Value.bool Bool.true), (Value.int 181 0), (Value.ref 175), Value.none, (Value.ref 176), (Value.ref 177), (Value.ref 178), (Value.int 446 0), (Value.int 129 0), (Value.str (Str.ofString "/claim/cut.py") 447)])) (List.toArray []))
noncomputable abbrev o127 : Params → Obj := fun _ => (Obj.mk (Value.type "function") none (Data.func (FuncData.mk (Str.ofString "_law_is_angle") (Str.ofString "_law_is_angle") (fA 29) (FuncBody.stmts (fB 29)) (fS 29) 3 [] Value.none Value.none Value.none (Value.str (Str.ofString "law_nt0484_01") 363) none (Value.ref 179) Value.none 0)) (List.toArray []))
noncomputable abbrev o128 : Params → Obj := fun _ => (Obj.mk (Value.type "tuple") none (Data.seq (List.toArray [(Value.str (Str.ofString "script") 452), (Value.str (Str.ofString "deck") 453), (Value.str (Str.ofString "go") 454), (Value.str (Str.ofString "angle") 455), (Value.str (Str.ofString "high") 456), (Value.str (Str.ofString "wide") 457), (Value.str (Str.ofString "told") 458), (Value.str (Str.ofString "number") 459), (Value.str (Str.ofString "near") 460), (Value.str (Str.ofString "square") 461)]) 0) (List.toArray []))
noncomputable abbrev o129 : Params → Obj := fun _ => (Obj.mk Value.none none (Data.func (FuncData.mk (Str.ofString "law") (Str.ofString "law") (fA 30) (FuncBody.stmts (fB 30)) (fS 30) 0 [] Value.none Value.none Value.none Value.none none Value.none Value.none 0)) (List.toArray []))
noncomputable abbrev o130 : Params → Obj := fun _ => (Obj.mk (Value.type "code") none (Data.fields (List.toArray [(Value.str (Str.ofString "law") 449), (Value.str (Str.ofString "law") 450), (Value.str (Str.ofString "/claim/cut.py") 451), (Value.int 135 0), (Value.int 1 0), (Value.int 0 0), (Value.int 0 0), (Value.int 3 0), (Value.ref 181), (Value.bool Bool.true), (Value.int 181 0), (Value.ref 182), Value.none, (Value.ref 183), (Value.ref 184), (Value.ref 185), (Value.int 462 0), (Value.int 135 0), (Value.str (Str.ofString "/claim/cut.py") 463)])) (List.toArray []))
noncomputable abbrev o131 : Params → Obj := fun _ => (Obj.mk (Value.type "function") none (Data.func (FuncData.mk (Str.ofString "law") (Str.ofString "law") (fA 30) (FuncBody.stmts (fB 30)) (fS 30) 3 [] Value.none Value.none Value.none (Value.str (Str.ofString "law_nt0484_01") 363) none (Value.ref 186) Value.none 0)) (List.toArray []))
noncomputable abbrev HA : Params → Heap := fun P => ⟨⟨[boot_o_0 P, boot_o_1 P, boot_o_2 P, boot_o_3 P, boot_o_4 P, boot_o_5 P, boot_o_6 P, boot_o_7 P, boot_o_8 P, boot_o_9 P, boot_o_10 P, o0 P, o1 P, o2 P, o3 P]⟩, life0⟩
noncomputable abbrev T0 : Params → BT := fun P => (.node (boot_o_0 P) (.node (boot_o_1 P) (.node (boot_o_3 P) (.node (boot_o_7 P) .nil .nil) (.node (o0 P) .nil .nil)) (.node (boot_o_5 P) (.node (boot_o_9 P) .nil .nil) (.node (o2 P) .nil .nil))) (.node (boot_o_2 P) (.node (boot_o_4 P) (.node (boot_o_8 P) .nil .nil) (.node (o1 P) .nil .nil)) (.node (boot_o_6 P) (.node (boot_o_10 P) .nil .nil) (.node (o3 P) .nil .nil))))
noncomputable abbrev T2 : Params → BT := fun P => (.node (boot_o_0 P) (.node (boot_o_1 P) (.node (o4 P) (.node (boot_o_7 P) .nil .nil) (.node (o0 P) .nil .nil)) (.node (boot_o_5 P) (.node (boot_o_9 P) .nil .nil) (.node (o2 P) .nil .nil))) (.node (boot_o_2 P) (.node (boot_o_4 P) (.node (boot_o_8 P) .nil .nil) (.node (o1 P) .nil .nil)) (.node (boot_o_6 P) (.node (boot_o_10 P) .nil .nil) (.node (o3 P) .nil .nil))))
noncomputable abbrev T3 : Params → BT := fun P => (.node (boot_o_0 P) (.node (boot_o_1 P) (.node (o6 P) (.node (boot_o_7 P) (.node (o8 P) (.node (o20 P) .nil .nil) .nil) (.node (o0 P) .nil .nil)) (.node (o0 P) (.node (o11 P) (.node (o24 P) .nil .nil) .nil) (.node (o16 P) .nil .nil))) (.node (boot_o_5 P) (.node (boot_o_9 P) (.node (o10 P) (.node (o22 P) .nil .nil) .nil) (.node (o15 P) .nil .nil)) (.node (o2 P) (.node (o13 P) .nil .nil) (.node (o18 P) .nil .nil)))) (.node (o5 P) (.node (boot_o_4 P) (.node (boot_o_8 P) (.node (o9 P) (.node (o21 P) .nil .nil) .nil) (.node (o1 P) .nil .nil)) (.node (o7 P) (.node (o12 P) .nil .nil) (.node (o17 P) .nil .nil))) (.node (boot_o_6 P) (.node (boot_o_10 P) (.node (o0 P) (.node (o23 P) .nil .nil) .nil) (.node (o0 P) .nil .nil)) (.node (o3 P) (.node (o14 P) .nil .nil) (.node (o19 P) .nil .nil)))))
noncomputable abbrev T4 : Params → BT := fun P => (.node (boot_o_0 P) (.node (boot_o_1 P) (.node (o25 P) (.node (boot_o_7 P) (.node (o8 P) (.node (o20 P) .nil .nil) (.node (o35 P) .nil .nil)) (.node (o0 P) (.node (o0 P) .nil .nil) .nil)) (.node (o0 P) (.node (o11 P) (.node (o24 P) .nil .nil) .nil) (.node (o16 P) (.node (o0 P) .nil .nil) .nil))) (.node (boot_o_5 P) (.node (boot_o_9 P) (.node (o10 P) (.node (o22 P) .nil .nil) .nil) (.node (o15 P) (.node (o30 P) .nil .nil) .nil)) (.node (o2 P) (.node (o13 P) (.node (o9 P) .nil .nil) .nil) (.node (o18 P) (.node (o33 P) .nil .nil) .nil)))) (.node (o5 P) (.node (boot_o_4 P) (.node (boot_o_8 P) (.node (o9 P) (.node (o27 P) .nil .nil) .nil) (.node (o1 P) (.node (o1 P) .nil .nil) .nil)) (.node (o26 P) (.node (o12 P) (.node (o28 P) .nil .nil) .nil) (.node (o17 P) (.node (o32 P) .nil .nil) .nil))) (.node (boot_o_6 P) (.node (boot_o_10 P) (.node (o0 P) (.node (o23 P) .nil .nil) .nil) (.node (o0 P) (.node (o31 P) .nil .nil) .nil)) (.node (o3 P) (.node (o14 P) (.node (o29 P) .nil .nil) .nil) (.node (o19 P) (.node (o34 P) .nil .nil) .nil)))))
noncomputable abbrev T8 : Params → BT := fun P => (.node (boot_o_0 P) (.node (boot_o_1 P) (.node (o36 P) (.node (boot_o_7 P) (.node (o8 P) (.node (o20 P) .nil .nil) (.node (o35 P) .nil .nil)) (.node (o0 P) (.node (o0 P) .nil .nil) .nil)) (.node (o0 P) (.node (o11 P) (.node (o24 P) .nil .nil) .nil) (.node (o16 P) (.node (o0 P) .nil .nil) .nil))) (.node (boot_o_5 P) (.node (boot_o_9 P) (.node (o10 P) (.node (o22 P) .nil .nil) .nil) (.node (o15 P) (.node (o30 P) .nil .nil) .nil)) (.node (o2 P) (.node (o13 P) (.node (o9 P) .nil .nil) .nil) (.node (o18 P) (.node (o33 P) .nil .nil) .nil)))) (.node (o5 P) (.node (boot_o_4 P) (.node (boot_o_8 P) (.node (o9 P) (.node (o27 P) .nil .nil) .nil) (.node (o1 P) (.node (o1 P) .nil .nil) .nil)) (.node (o26 P) (.node (o12 P) (.node (o28 P) .nil .nil) .nil) (.node (o17 P) (.node (o32 P) .nil .nil) .nil))) (.node (boot_o_6 P) (.node (boot_o_10 P) (.node (o0 P) (.node (o23 P) .nil .nil) .nil) (.node (o0 P) (.node (o31 P) .nil .nil) .nil)) (.node (o3 P) (.node (o14 P) (.node (o29 P) .nil .nil) .nil) (.node (o19 P) (.node (o34 P) .nil .nil) .nil)))))
noncomputable abbrev T11 : Params → BT := fun P => (.node (boot_o_0 P) (.node (boot_o_1 P) (.node (o37 P) (.node (boot_o_7 P) (.node (o8 P) (.node (o20 P) .nil .nil) (.node (o35 P) .nil .nil)) (.node (o0 P) (.node (o0 P) .nil .nil) .nil)) (.node (o0 P) (.node (o11 P) (.node (o24 P) .nil .nil) (.node (o0 P) .nil .nil)) (.node (o16 P) (.node (o0 P) .nil .nil) .nil))) (.node (boot_o_5 P) (.node (boot_o_9 P) (.node (o10 P) (.node (o22 P) .nil .nil) (.node (o1 P) .nil .nil)) (.node (o15 P) (.node (o30 P) .nil .nil) .nil)) (.node (o2 P) (.node (o13 P) (.node (o9 P) .nil .nil) (.node (o41 P) .nil .nil)) (.node (o18 P) (.node (o33 P) .nil .nil) .nil)))) (.node (o5 P) (.node (boot_o_4 P) (.node (boot_o_8 P) (.node (o9 P) (.node (o27 P) .nil .nil) (.node (o0 P) .nil .nil)) (.node (o1 P) (.node (o1 P) .nil .nil) .nil)) (.node (o38 P) (.node (o12 P) (.node (o28 P) .nil .nil) (.node (o40 P) .nil .nil)) (.node (o17 P) (.node (o32 P) .nil .nil) .nil))) (.node (boot_o_6 P) (.node (boot_o_10 P) (.node (o0 P) (.node (o23 P) .nil .nil) (.node (o39 P) .nil .nil)) (.node (o0 P) (.node (o31 P) .nil .nil) .nil)) (.node (o3 P) (.node (o14 P) (.node (o29 P) .nil .nil) (.node (o42 P) .nil .nil)) (.node (o19 P) (.node (o34 P) .nil .nil) .nil)))))
noncomputable abbrev T14 : Params → BT := fun P => (.node (boot_o_0 P) (.node (boot_o_1 P) (.node (o43 P) (.node (boot_o_7 P) (.node (o8 P) (.node (o20 P) (.node (o1 P) .nil .nil) .nil) (.node (o35 P) .nil .nil)) (.node (o0 P) (.node (o0 P) (.node (o53 P) .nil .nil) .nil) (.node (o0 P) .nil .nil))) (.node (o0 P) (.node (o11 P) (.node (o24 P) (.node (o51 P) .nil .nil) .nil) (.node (o0 P) .nil .nil)) (.node (o16 P) (.node (o0 P) (.node (o56 P) .nil .nil) .nil) (.node (o46 P) .nil .nil)))) (.node (boot_o_5 P) (.node (boot_o_9 P) (.node (o10 P) (.node (o22 P) (.node (o0 P) .nil .nil) .nil) (.node (o1 P) .nil .nil)) (.node (o15 P) (.node (o30 P) (.node (o54 P) .nil .nil) .nil) (.node (o45 P) .nil .nil))) (.node (o2 P) (.node (o13 P) (.node (o9 P) (.node (o0 P) .nil .nil) .nil) (.node (o41 P) .nil .nil)) (.node (o18 P) (.node (o33 P) .nil .nil) (.node (o48 P) .nil .nil))))) (.node (o5 P) (.node (boot_o_4 P) (.node (boot_o_8 P) (.node (o9 P) (.node (o27 P) (.node (o49 P) .nil .nil) .nil) (.node (o0 P) .nil .nil)) (.node (o1 P) (.node (o1 P) (.node (o0 P) .nil .nil) .nil) (.node (o1 P) .nil .nil))) (.node (o44 P) (.node (o12 P) (.node (o28 P) (.node (o52 P) .nil .nil) .nil) (.node (o40 P) .nil .nil)) (.node (o17 P) (.node (o32 P) .nil .nil) (.node (o47 P) .nil .nil)))) (.node (boot_o_6 P) (.node (boot_o_10 P) (.node (o0 P) (.node (o23 P) (.node (o50 P) .nil .nil) .nil) (.node (o39 P) .nil .nil)) (.node (o0 P) (.node (o31 P) (.node (o55 P) .nil .nil) .nil) (.node (o0 P) .nil .nil))) (.node (o3 P) (.node (o14 P) (.node (o29 P) (.node (o1 P) .nil .nil) .nil) (.node (o42 P) .nil .nil)) (.node (o19 P) (.node (o34 P) .nil .nil) (.node (o0 P) .nil .nil))))))
noncomputable abbrev T17 : Params → BT := fun P => (.node (boot_o_0 P) (.node (boot_o_1 P) (.node (o57 P) (.node (boot_o_7 P) (.node (o8 P) (.node (o20 P) (.node (o1 P) .nil .nil) (.node (o69 P) .nil .nil)) (.node (o35 P) (.node (o0 P) .nil .nil) .nil)) (.node (o0 P) (.node (o0 P) (.node (o53 P) .nil .nil) .nil) (.node (o0 P) (.node (o64 P) .nil .nil) .nil))) (.node (o0 P) (.node (o11 P) (.node (o24 P) (.node (o51 P) .nil .nil) .nil) (.node (o0 P) (.node (o0 P) .nil .nil) .nil)) (.node (o16 P) (.node (o0 P) (.node (o56 P) .nil .nil) .nil) (.node (o46 P) (.node (o1 P) .nil .nil) .nil)))) (.node (boot_o_5 P) (.node (boot_o_9 P) (.node (o10 P) (.node (o22 P) (.node (o0 P) .nil .nil) .nil) (.node (o1 P) (.node (o61 P) .nil .nil) .nil)) (.node (o15 P) (.node (o30 P) (.node (o54 P) .nil .nil) .nil) (.node (o45 P) (.node (o66 P) .nil .nil) .nil))) (.node (o2 P) (.node (o13 P) (.node (o9 P) (.node (o0 P) .nil .nil) .nil) (.node (o41 P) (.node (o63 P) .nil .nil) .nil)) (.node (o18 P) (.node (o33 P) (.node (o1 P) .nil .nil) .nil) (.node (o48 P) (.node (o0 P) .nil .nil) .nil))))) (.node (o5 P) (.node (boot_o_4 P) (.node (boot_o_8 P) (.node (o9 P) (.node (o27 P) (.node (o49 P) .nil .nil) (.node (o70 P) .nil .nil)) (.node (o0 P) (.node (o60 P) .nil .nil) .nil)) (.node (o1 P) (.node (o1 P) (.node (o0 P) .nil .nil) .nil) (.node (o1 P) (.node (o65 P) .nil .nil) .nil))) (.node (o58 P) (.node (o12 P) (.node (o28 P) (.node (o52 P) .nil .nil) .nil) (.node (o40 P) (.node (o1 P) .nil .nil) .nil)) (.node (o17 P) (.node (o32 P) (.node (o0 P) .nil .nil) .nil) (.node (o47 P) (.node (o67 P) .nil .nil) .nil)))) (.node (boot_o_6 P) (.node (boot_o_10 P) (.node (o0 P) (.node (o23 P) (.node (o50 P) .nil .nil) .nil) (.node (o39 P) (.node (o62 P) .nil .nil) .nil)) (.node (o0 P) (.node (o31 P) (.node (o55 P) .nil .nil) .nil) (.node (o0 P) (.node (o0 P) .nil .nil) .nil))) (.node (o3 P) (.node (o14 P) (.node (o29 P) (.node (o1 P) .nil .nil) .nil) (.node (o42 P) (.node (o0 P) .nil .nil) .nil)) (.node (o19 P) (.node (o34 P) (.node (o59 P) .nil .nil) .nil) (.node (o0 P) (.node (o68 P) .nil .nil) .nil))))))
noncomputable abbrev T20 : Params → BT := fun P => (.node (boot_o_0 P) (.node (boot_o_1 P) (.node (o71 P) (.node (boot_o_7 P) (.node (o8 P) (.node (o20 P) (.node (o1 P) .nil .nil) (.node (o69 P) .nil .nil)) (.node (o35 P) (.node (o0 P) .nil .nil) (.node (o0 P) .nil .nil))) (.node (o0 P) (.node (o0 P) (.node (o53 P) .nil .nil) (.node (o76 P) .nil .nil)) (.node (o0 P) (.node (o64 P) .nil .nil) .nil))) (.node (o0 P) (.node (o11 P) (.node (o24 P) (.node (o51 P) .nil .nil) (.node (o73 P) .nil .nil)) (.node (o0 P) (.node (o0 P) .nil .nil) (.node (o82 P) .nil .nil))) (.node (o16 P) (.node (o0 P) (.node (o56 P) .nil .nil) (.node (o0 P) .nil .nil)) (.node (o46 P) (.node (o1 P) .nil .nil) .nil)))) (.node (boot_o_5 P) (.node (boot_o_9 P) (.node (o10 P) (.node (o22 P) (.node (o0 P) .nil .nil) (.node (o0 P) .nil .nil)) (.node (o1 P) (.node (o61 P) .nil .nil) (.node (o81 P) .nil .nil))) (.node (o15 P) (.node (o30 P) (.node (o54 P) .nil .nil) (.node (o1 P) .nil .nil)) (.node (o45 P) (.node (o66 P) .nil .nil) .nil))) (.node (o2 P) (.node (o13 P) (.node (o9 P) (.node (o0 P) .nil .nil) (.node (o74 P) .nil .nil)) (.node (o41 P) (.node (o63 P) .nil .nil) (.node (o84 P) .nil .nil))) (.node (o18 P) (.node (o33 P) (.node (o1 P) .nil .nil) (.node (o79 P) .nil .nil)) (.node (o48 P) (.node (o0 P) .nil .nil) .nil))))) (.node (o5 P) (.node (boot_o_4 P) (.node (boot_o_8 P) (.node (o9 P) (.node (o27 P) (.node (o49 P) .nil .nil) (.node (o70 P) .nil .nil)) (.node (o0 P) (.node (o60 P) .nil .nil) (.node (o1 P) .nil .nil))) (.node (o1 P) (.node (o1 P) (.node (o0 P) .nil .nil) (.node (o0 P) .nil .nil)) (.node (o1 P) (.node (o65 P) .nil .nil) .nil))) (.node (o72 P) (.node (o12 P) (.node (o28 P) (.node (o52 P) .nil .nil) (.node (o0 P) .nil .nil)) (.node (o40 P) (.node (o1 P) .nil .nil) (.node (o83 P) .nil .nil))) (.node (o17 P) (.node (o32 P) (.node (o0 P) .nil .nil) (.node (o78 P) .nil .nil)) (.node (o47 P) (.node (o67 P) .nil .nil) .nil)))) (.node (boot_o_6 P) (.node (boot_o_10 P) (.node (o0 P) (.node (o23 P) (.node (o50 P) .nil .nil) (.node (o1 P) .nil .nil)) (.node (o39 P) (.node (o62 P) .nil .nil) (.node (o0 P) .nil .nil))) (.node (o0 P) (.node (o31 P) (.node (o55 P) .nil .nil) (.node (o77 P) .nil .nil)) (.node (o0 P) (.node (o0 P) .nil .nil) .nil))) (.node (o3 P) (.node (o14 P) (.node (o29 P) (.node (o1 P) .nil .nil) (.node (o75 P) .nil .nil)) (.node (o42 P) (.node (o0 P) .nil .nil) .nil)) (.node (o19 P) (.node (o34 P) (.node (o59 P) .nil .nil) (.node (o80 P) .nil .nil)) (.node (o0 P) (.node (o68 P) .nil .nil) .nil))))))
noncomputable abbrev T23 : Params → BT := fun P => (.node (boot_o_0 P) (.node (boot_o_1 P) (.node (o85 P) (.node (boot_o_7 P) (.node (o8 P) (.node (o20 P) (.node (o1 P) (.node (o91 P) .nil .nil) .nil) (.node (o69 P) .nil .nil)) (.node (o35 P) (.node (o0 P) .nil .nil) (.node (o0 P) .nil .nil))) (.node (o0 P) (.node (o0 P) (.node (o53 P) .nil .nil) (.node (o76 P) .nil .nil)) (.node (o0 P) (.node (o64 P) .nil .nil) (.node (o1 P) .nil .nil)))) (.node (o0 P) (.node (o11 P) (.node (o24 P) (.node (o51 P) (.node (o94 P) .nil .nil) .nil) (.node (o73 P) .nil .nil)) (.node (o0 P) (.node (o0 P) .nil .nil) (.node (o82 P) .nil .nil))) (.node (o16 P) (.node (o0 P) (.node (o56 P) .nil .nil) (.node (o0 P) .nil .nil)) (.node (o46 P) (.node (o1 P) .nil .nil) (.node (o89 P) .nil .nil))))) (.node (boot_o_5 P) (.node (boot_o_9 P) (.node (o10 P) (.node (o22 P) (.node (o0 P) (.node (o92 P) .nil .nil) .nil) (.node (o0 P) .nil .nil)) (.node (o1 P) (.node (o61 P) .nil .nil) (.node (o81 P) .nil .nil))) (.node (o15 P) (.node (o30 P) (.node (o54 P) .nil .nil) (.node (o1 P) .nil .nil)) (.node (o45 P) (.node (o66 P) .nil .nil) (.node (o0 P) .nil .nil)))) (.node (o2 P) (.node (o13 P) (.node (o9 P) (.node (o0 P) .nil .nil) (.node (o74 P) .nil .nil)) (.node (o41 P) (.node (o63 P) .nil .nil) (.node (o84 P) .nil .nil))) (.node (o18 P) (.node (o33 P) (.node (o1 P) .nil .nil) (.node (o79 P) .nil .nil)) (.node (o48 P) (.node (o0 P) .nil .nil) (.node (o0 P) .nil .nil)))))) (.node (o5 P) (.node (boot_o_4 P) (.node (boot_o_8 P) (.node (o9 P) (.node (o27 P) (.node (o49 P) (.node (o0 P) .nil .nil) .nil) (.node (o70 P) .nil .nil)) (.node (o0 P) (.node (o60 P) .nil .nil) (.node (o1 P) .nil .nil))) (.node (o1 P) (.node (o1 P) (.node (o0 P) .nil .nil) (.node (o0 P) .nil .nil)) (.node (o1 P) (.node (o65 P) .nil .nil) (.node (o87 P) .nil .nil)))) (.node (o86 P) (.node (o12 P) (.node (o28 P) (.node (o52 P) .nil .nil) (.node (o0 P) .nil .nil)) (.node (o40 P) (.node (o1 P) .nil .nil) (.node (o83 P) .nil .nil))) (.node (o17 P) (.node (o32 P) (.node (o0 P) .nil .nil) (.node (o78 P) .nil .nil)) (.node (o47 P) (.node (o67 P) .nil .nil) (.node (o90 P) .nil .nil))))) (.node (boot_o_6 P) (.node (boot_o_10 P) (.node (o0 P) (.node (o23 P) (.node (o50 P) (.node (o93 P) .nil .nil) .nil) (.node (o1 P) .nil .nil)) (.node (o39 P) (.node (o62 P) .nil .nil) (.node (o0 P) .nil .nil))) (.node (o0 P) (.node (o31 P) (.node (o55 P) .nil .nil) (.node (o77 P) .nil .nil)) (.node (o0 P) (.node (o0 P) .nil .nil) (.node (o88 P) .nil .nil)))) (.node (o3 P) (.node (o14 P) (.node (o29 P) (.node (o1 P) .nil .nil) (.node (o75 P) .nil .nil)) (.node (o42 P) (.node (o0 P) .nil .nil) (.node (o0 P) .nil .nil))) (.node (o19 P) (.node (o34 P) (.node (o59 P) .nil .nil) (.node (o80 P) .nil .nil)) (.node (o0 P) (.node (o68 P) .nil .nil) (.node (o1 P) .nil .nil)))))))
noncomputable abbrev T26 : Params → BT := fun P => (.node (boot_o_0 P) (.node (boot_o_1 P) (.node (o95 P) (.node (boot_o_7 P) (.node (o8 P) (.node (o20 P) (.node (o1 P) (.node (o91 P) .nil .nil) .nil) (.node (o69 P) .nil .nil)) (.node (o35 P) (.node (o0 P) (.node (o101 P) .nil .nil) .nil) (.node (o0 P) .nil .nil))) (.node (o0 P) (.node (o0 P) (.node (o53 P) (.node (o0 P) .nil .nil) .nil) (.node (o76 P) .nil .nil)) (.node (o0 P) (.node (o64 P) (.node (o106 P) .nil .nil) .nil) (.node (o1 P) .nil .nil)))) (.node (o0 P) (.node (o11 P) (.node (o24 P) (.node (o51 P) (.node (o94 P) .nil .nil) .nil) (.node (o73 P) .nil .nil)) (.node (o0 P) (.node (o0 P) (.node (o1 P) .nil .nil) .nil) (.node (o82 P) .nil .nil))) (.node (o16 P) (.node (o0 P) (.node (o56 P) (.node (o0 P) .nil .nil) .nil) (.node (o0 P) .nil .nil)) (.node (o46 P) (.node (o1 P) .nil .nil) (.node (o89 P) .nil .nil))))) (.node (boot_o_5 P) (.node (boot_o_9 P) (.node (o10 P) (.node (o22 P) (.node (o0 P) (.node (o92 P) .nil .nil) .nil) (.node (o0 P) .nil .nil)) (.node (o1 P) (.node (o61 P) (.node (o103 P) .nil .nil) .nil) (.node (o81 P) .nil .nil))) (.node (o15 P) (.node (o30 P) (.node (o54 P) (.node (o98 P) .nil .nil) .nil) (.node (o1 P) .nil .nil)) (.node (o45 P) (.node (o66 P) .nil .nil) (.node (o0 P) .nil .nil)))) (.node (o2 P) (.node (o13 P) (.node (o9 P) (.node (o0 P) (.node (o1 P) .nil .nil) .nil) (.node (o74 P) .nil .nil)) (.node (o41 P) (.node (o63 P) (.node (o0 P) .nil .nil) .nil) (.node (o84 P) .nil .nil))) (.node (o18 P) (.node (o33 P) (.node (o1 P) (.node (o100 P) .nil .nil) .nil) (.node (o79 P) .nil .nil)) (.node (o48 P) (.node (o0 P) .nil .nil) (.node (o0 P) .nil .nil)))))) (.node (o5 P) (.node (boot_o_4 P) (.node (boot_o_8 P) (.node (o9 P) (.node (o27 P) (.node (o49 P) (.node (o0 P) .nil .nil) .nil) (.node (o70 P) .nil .nil)) (.node (o0 P) (.node (o60 P) (.node (o102 P) .nil .nil) .nil) (.node (o1 P) .nil .nil))) (.node (o1 P) (.node (o1 P) (.node (o0 P) (.node (o97 P) .nil .nil) .nil) (.node (o0 P) .nil .nil)) (.node (o1 P) (.node (o65 P) (.node (o107 P) .nil .nil) .nil) (.node (o87 P) .nil .nil)))) (.node (o96 P) (.node (o12 P) (.node (o28 P) (.node (o52 P) (.node (o0 P) .nil .nil) .nil) (.node (o0 P) .nil .nil)) (.node (o40 P) (.node (o1 P) (.node (o104 P) .nil .nil) .nil) (.node (o83 P) .nil .nil))) (.node (o17 P) (.node (o32 P) (.node (o0 P) (.node (o1 P) .nil .nil) .nil) (.node (o78 P) .nil .nil)) (.node (o47 P) (.node (o67 P) .nil .nil) (.node (o90 P) .nil .nil))))) (.node (boot_o_6 P) (.node (boot_o_10 P) (.node (o0 P) (.node (o23 P) (.node (o50 P) (.node (o93 P) .nil .nil) .nil) (.node (o1 P) .nil .nil)) (.node (o39 P) (.node (o62 P) (.node (o0 P) .nil .nil) .nil) (.node (o0 P) .nil .nil))) (.node (o0 P) (.node (o31 P) (.node (o55 P) (.node (o99 P) .nil .nil) .nil) (.node (o77 P) .nil .nil)) (.node (o0 P) (.node (o0 P) .nil .nil) (.node (o88 P) .nil .nil)))) (.node (o3 P) (.node (o14 P) (.node (o29 P) (.node (o1 P) (.node (o0 P) .nil .nil) .nil) (.node (o75 P) .nil .nil)) (.node (o42 P) (.node (o0 P) (.node (o105 P) .nil .nil) .nil) (.node (o0 P) .nil .nil))) (.node (o19 P) (.node (o34 P) (.node (o59 P) (.node (o0 P) .nil .nil) .nil) (.node (o80 P) .nil .nil)) (.node (o0 P) (.node (o68 P) .nil .nil) (.node (o1 P) .nil .nil)))))))
noncomputable abbrev T28 : Params → BT := fun P => (.node (boot_o_0 P) (.node (boot_o_1 P) (.node (o108 P) (.node (boot_o_7 P) (.node (o8 P) (.node (o20 P) (.node (o1 P) (.node (o91 P) .nil .nil) .nil) (.node (o69 P) (.node (o113 P) .nil .nil) .nil)) (.node (o35 P) (.node (o0 P) (.node (o101 P) .nil .nil) .nil) (.node (o0 P) .nil .nil))) (.node (o0 P) (.node (o0 P) (.node (o53 P) (.node (o0 P) .nil .nil) .nil) (.node (o76 P) .nil .nil)) (.node (o0 P) (.node (o64 P) (.node (o106 P) .nil .nil) .nil) (.node (o1 P) .nil .nil)))) (.node (o0 P) (.node (o11 P) (.node (o24 P) (.node (o51 P) (.node (o94 P) .nil .nil) .nil) (.node (o73 P) (.node (o0 P) .nil .nil) .nil)) (.node (o0 P) (.node (o0 P) (.node (o1 P) .nil .nil) .nil) (.node (o82 P) .nil .nil))) (.node (o16 P) (.node (o0 P) (.node (o56 P) (.node (o0 P) .nil .nil) .nil) (.node (o0 P) .nil .nil)) (.node (o46 P) (.node (o1 P) (.node (o110 P) .nil .nil) .nil) (.node (o89 P) .nil .nil))))) (.node (boot_o_5 P) (.node (boot_o_9 P) (.node (o10 P) (.node (o22 P) (.node (o0 P) (.node (o92 P) .nil .nil) .nil) (.node (o0 P) (.node (o1 P) .nil .nil) .nil)) (.node (o1 P) (.node (o61 P) (.node (o103 P) .nil .nil) .nil) (.node (o81 P) .nil .nil))) (.node (o15 P) (.node (o30 P) (.node (o54 P) (.node (o98 P) .nil .nil) .nil) (.node (o1 P) .nil .nil)) (.node (o45 P) (.node (o66 P) (.node (o0 P) .nil .nil) .nil) (.node (o0 P) .nil .nil)))) (.node (o2 P) (.node (o13 P) (.node (o9 P) (.node (o0 P) (.node (o1 P) .nil .nil) .nil) (.node (o74 P) (.node (o116 P) .nil .nil) .nil)) (.node (o41 P) (.node (o63 P) (.node (o0 P) .nil .nil) .nil) (.node (o84 P) .nil .nil))) (.node (o18 P) (.node (o33 P) (.node (o1 P) (.node (o100 P) .nil .nil) .nil) (.node (o79 P) .nil .nil)) (.node (o48 P) (.node (o0 P) (.node (o111 P) .nil .nil) .nil) (.node (o0 P) .nil .nil)))))) (.node (o5 P) (.node (boot_o_4 P) (.node (boot_o_8 P) (.node (o9 P) (.node (o27 P) (.node (o49 P) (.node (o0 P) .nil .nil) .nil) (.node (o70 P) (.node (o0 P) .nil .nil) .nil)) (.node (o0 P) (.node (o60 P) (.node (o102 P) .nil .nil) .nil) (.node (o1 P) .nil .nil))) (.node (o1 P) (.node (o1 P) (.node (o0 P) (.node (o97 P) .nil .nil) .nil) (.node (o0 P) .nil .nil)) (.node (o1 P) (.node (o65 P) (.node (o107 P) .nil .nil) .nil) (.node (o87 P) .nil .nil)))) (.node (o109 P) (.node (o12 P) (.node (o28 P) (.node (o52 P) (.node (o0 P) .nil .nil) .nil) (.node (o0 P) (.node (o115 P) .nil .nil) .nil)) (.node (o40 P) (.node (o1 P) (.node (o104 P) .nil .nil) .nil) (.node (o83 P) .nil .nil))) (.node (o17 P) (.node (o32 P) (.node (o0 P) (.node (o1 P) .nil .nil) .nil) (.node (o78 P) .nil .nil)) (.node (o47 P) (.node (o67 P) (.node (o0 P) .nil .nil) .nil) (.node (o90 P) .nil .nil))))) (.node (boot_o_6 P) (.node (boot_o_10 P) (.node (o0 P) (.node (o23 P) (.node (o50 P) (.node (o93 P) .nil .nil) .nil) (.node (o1 P) (.node (o114 P) .nil .nil) .nil)) (.node (o39 P) (.node (o62 P) (.node (o0 P) .nil .nil) .nil) (.node (o0 P) .nil .nil))) (.node (o0 P) (.node (o31 P) (.node (o55 P) (.node (o99 P) .nil .nil) .nil) (.node (o77 P) .nil .nil)) (.node (o0 P) (.node (o0 P) (.node (o1 P) .nil .nil) .nil) (.node (o88 P) .nil .nil)))) (.node (o3 P) (.node (o14 P) (.node (o29 P) (.node (o1 P) (.node (o0 P) .nil .nil) .nil) (.node (o75 P) (.node (o117 P) .nil .nil) .nil)) (.node (o42 P) (.node (o0 P) (.node (o105 P) .nil .nil) .nil) (.node (o0 P) .nil .nil))) (.node (o19 P) (.node (o34 P) (.node (o59 P) (.node (o0 P) .nil .nil) .nil) (.node (o80 P) .nil .nil)) (.node (o0 P) (.node (o68 P) (.node (o112 P) .nil .nil) .nil) (.node (o1 P) .nil .nil)))))))
noncomputable abbrev T31 : Params → BT := fun P => (.node (boot_o_0 P) (.node (boot_o_1 P) (.node (o118 P) (.node (boot_o_7 P) (.node (o8 P) (.node (o20 P) (.node (o1 P) (.node (o91 P) .nil .nil) .nil) (.node (o69 P) (.node (o113 P) .nil .nil) .nil)) (.node (o35 P) (.node (o0 P) (.node (o101 P) .nil .nil) .nil) (.node (o0 P) (.node (o1 P) .nil .nil) .nil))) (.node (o0 P) (.node (o0 P) (.node (o53 P) (.node (o0 P) .nil .nil) .nil) (.node (o76 P) (.node (o0 P) .nil .nil) .nil)) (.node (o0 P) (.node (o64 P) (.node (o106 P) .nil .nil) .nil) (.node (o1 P) (.node (o128 P) .nil .nil) .nil)))) (.node (o0 P) (.node (o11 P) (.node (o24 P) (.node (o51 P) (.node (o94 P) .nil .nil) .nil) (.node (o73 P) (.node (o0 P) .nil .nil) .nil)) (.node (o0 P) (.node (o0 P) (.node (o1 P) .nil .nil) .nil) (.node (o82 P) (.node (o126 P) .nil .nil) .nil))) (.node (o16 P) (.node (o0 P) (.node (o56 P) (.node (o0 P) .nil .nil) .nil) (.node (o0 P) (.node (o121 P) .nil .nil) .nil)) (.node (o46 P) (.node (o1 P) (.node (o110 P) .nil .nil) .nil) (.node (o89 P) (.node (o131 P) .nil .nil) .nil))))) (.node (boot_o_5 P) (.node (boot_o_9 P) (.node (o10 P) (.node (o22 P) (.node (o0 P) (.node (o92 P) .nil .nil) .nil) (.node (o0 P) (.node (o1 P) .nil .nil) .nil)) (.node (o1 P) (.node (o61 P) (.node (o103 P) .nil .nil) .nil) (.node (o81 P) (.node (o0 P) .nil .nil) .nil))) (.node (o15 P) (.node (o30 P) (.node (o54 P) (.node (o98 P) .nil .nil) .nil) (.node (o1 P) (.node (o120 P) .nil .nil) .nil)) (.node (o45 P) (.node (o66 P) (.node (o0 P) .nil .nil) .nil) (.node (o0 P) (.node (o129 P) .nil .nil) .nil)))) (.node (o2 P) (.node (o13 P) (.node (o9 P) (.node (o0 P) (.node (o1 P) .nil .nil) .nil) (.node (o74 P) (.node (o116 P) .nil .nil) .nil)) (.node (o41 P) (.node (o63 P) (.node (o0 P) .nil .nil) .nil) (.node (o84 P) (.node (o0 P) .nil .nil) .nil))) (.node (o18 P) (.node (o33 P) (.node (o1 P) (.node (o100 P) .nil .nil) .nil) (.node (o79 P) (.node (o123 P) .nil .nil) .nil)) (.node (o48 P) (.node (o0 P) (.node (o111 P) .nil .nil) .nil) (.node (o0 P) .nil .nil)))))) (.node (o5 P) (.node (boot_o_4 P) (.node (boot_o_8 P) (.node (o9 P) (.node (o27 P) (.node (o49 P) (.node (o0 P) .nil .nil) .nil) (.node (o70 P) (.node (o0 P) .nil .nil) .nil)) (.node (o0 P) (.node (o60 P) (.node (o102 P) .nil .nil) .nil) (.node (o1 P) (.node (o124 P) .nil .nil) .nil))) (.node (o1 P) (.node (o1 P) (.node (o0 P) (.node (o97 P) .nil .nil) .nil) (.node (o0 P) (.node (o1 P) .nil .nil) .nil)) (.node (o1 P) (.node (o65 P) (.node (o107 P) .nil .nil) .nil) (.node (o87 P) (.node (o0 P) .nil .nil) .nil)))) (.node (o119 P) (.node (o12 P) (.node (o28 P) (.node (o52 P) (.node (o0 P) .nil .nil) .nil) (.node (o0 P) (.node (o115 P) .nil .nil) .nil)) (.node (o40 P) (.node (o1 P) (.node (o104 P) .nil .nil) .nil) (.node (o83 P) (.node (o127 P) .nil .nil) .nil))) (.node (o17 P) (.node (o32 P) (.node (o0 P) (.node (o1 P) .nil .nil) .nil) (.node (o78 P) (.node (o122 P) .nil .nil) .nil)) (.node (o47 P) (.node (o67 P) (.node (o0 P) .nil .nil) .nil) (.node (o90 P) .nil .nil))))) (.node (boot_o_6 P) (.node (boot_o_10 P) (.node (o0 P) (.node (o23 P) (.node (o50 P) (.node (o93 P) .nil .nil) .nil) (.node (o1 P) (.node (o114 P) .nil .nil) .nil)) (.node (o39 P) (.node (o62 P) (.node (o0 P) .nil .nil) .nil) (.node (o0 P) (.node (o125 P) .nil .nil) .nil))) (.node (o0 P) (.node (o31 P) (.node (o55 P) (.node (o99 P) .nil .nil) .nil) (.node (o77 P) (.node (o0 P) .nil .nil) .nil)) (.node (o0 P) (.node (o0 P) (.node (o1 P) .nil .nil) .nil) (.node (o88 P) (.node (o130 P) .nil .nil) .nil)))) (.node (o3 P) (.node (o14 P) (.node (o29 P) (.node (o1 P) (.node (o0 P) .nil .nil) .nil) (.node (o75 P) (.node (o117 P) .nil .nil) .nil)) (.node (o42 P) (.node (o0 P) (.node (o105 P) .nil .nil) .nil) (.node (o0 P) (.node (o1 P) .nil .nil) .nil))) (.node (o19 P) (.node (o34 P) (.node (o59 P) (.node (o0 P) .nil .nil) .nil) (.node (o80 P) (.node (o0 P) .nil .nil) .nil)) (.node (o0 P) (.node (o68 P) (.node (o112 P) .nil .nil) .nil) (.node (o1 P) .nil .nil)))))))
noncomputable abbrev HF : Params → Heap := fun P => ⟨⟨[boot_o_0 P, boot_o_1 P, o5 P, o118 P, boot_o_4 P, boot_o_5 P, boot_o_6 P, boot_o_7 P, boot_o_8 P, boot_o_9 P, boot_o_10 P, o0 P, o119 P, o2 P, o3 P, o8 P, o9 P, o10 P, o0 P, o11 P, o12 P, o13 P, o14 P, o0 P, o1 P, o15 P, o0 P, o16 P, o17 P, o18 P, o19 P, o20 P, o27 P, o22 P, o23 P, o24 P, o28 P, o9 P, o29 P, o0 P, o1 P, o30 P, o31 P, o0 P, o32 P, o33 P, o34 P, o35 P, o0 P, o1 P, o39 P, o0 P, o40 P, o41 P, o42 P, o0 P, o1 P, o45 P, o0 P, o46 P, o47 P, o48 P, o0 P, o1 P, o49 P, o0 P, o50 P, o51 P, o52 P, o0 P, o1 P, o53 P, o0 P, o54 P, o55 P, o56 P, o0 P, o1 P, o59 P, o0 P, o60 P, o61 P, o62 P, o0 P, o1 P, o63 P, o0 P, o64 P, o65 P, o66 P, o0 P, o1 P, o67 P, o0 P, o68 P, o69 P, o70 P, o0 P, o1 P, o73 P, o0 P, o74 P, o75 P, o76 P, o0 P, o1 P, o77 P, o0 P, o78 P, o79 P, o80 P, o0 P, o1 P, o81 P, o0 P, o82 P, o83 P, o84 P, o0 P, o1 P, o87 P, o0 P, o88 P, o89 P, o90 P, o0 P, o1 P, o91 P, o0 P, o92 P, o93 P, o94 P, o0 P, o1 P, o0 P, o0 P, o97 P, o98 P, o99 P, o0 P, o1 P, o100 P, o0 P, o101 P, o102 P, o103 P, o0 P, o1 P, o104 P, o0 P, o105 P, o106 P, o107 P, o0 P, o1 P, o110 P, o0 P, o111 P, o112 P, o113 P, o0 P, o1 P, o114 P, o0 P, o115 P, o116 P, o117 P, o0 P, o1 P, o120 P, o0 P, o121 P, o122 P, o123 P, o0 P, o1 P, o124 P, o0 P, o125 P, o126 P, o127 P, o0 P, o1 P, o128 P, o0 P, o129 P, o130 P, o131 P]⟩, life0⟩
noncomputable abbrev BODY : List Stmt := (sg 0 2 ++ (sg 2 1 ++ (sg 3 1 ++ (sg 4 4 ++ (sg 8 3 ++ (sg 11 3 ++ (sg 14 3 ++ (sg 17 3 ++ (sg 20 3 ++ (sg 23 3 ++ (sg 26 2 ++ (sg 28 3 ++ ([] : List Stmt)))))))))))))
noncomputable abbrev env0 : Env := { scope := PG.main.scope, locals := mainNs, globals := mainNs, cells := [], code := .ref 13, frame := some 14 }
noncomputable abbrev cE : Code := .body BODY env0
noncomputable abbrev B0 : List Frame := [topFrame (Pos.mk 0 0 0 0)]
noncomputable abbrev SA (w : World) (os : OsState) : Shared := ⟨HA w.params, Array.mk [], Drawn.mk 0 0 0 0, 187, os⟩
noncomputable abbrev SF (w : World) (os : OsState) : Shared := ⟨HF w.params, Array.mk [], Drawn.mk 0 0 0 0, 465, os⟩
noncomputable abbrev S0 (w : World) (os : OsState) : SharedT := ⟨T0 w.params, 15, life0, Array.mk [], Drawn.mk 0 0 0 0, 187, os⟩
noncomputable abbrev S2 (w : World) (os : OsState) : SharedT := ⟨T2 w.params, 15, life0, Array.mk [], Drawn.mk 0 0 0 0, 191, os⟩
noncomputable abbrev S3 (w : World) (os : OsState) : SharedT := ⟨T3 w.params, 36, life0, Array.mk [], Drawn.mk 0 0 0 0, 220, os⟩
noncomputable abbrev S4 (w : World) (os : OsState) : SharedT := ⟨T4 w.params, 48, life0, Array.mk [], Drawn.mk 0 0 0 0, 236, os⟩
noncomputable abbrev S8 (w : World) (os : OsState) : SharedT := ⟨T8 w.params, 48, life0, Array.mk [], Drawn.mk 0 0 0 0, 247, os⟩
noncomputable abbrev S11 (w : World) (os : OsState) : SharedT := ⟨T11 w.params, 55, life0, Array.mk [], Drawn.mk 0 0 0 0, 264, os⟩
noncomputable abbrev S14 (w : World) (os : OsState) : SharedT := ⟨T14 w.params, 76, life0, Array.mk [], Drawn.mk 0 0 0 0, 290, os⟩
noncomputable abbrev S17 (w : World) (os : OsState) : SharedT := ⟨T17 w.params, 97, life0, Array.mk [], Drawn.mk 0 0 0 0, 325, os⟩
noncomputable abbrev S20 (w : World) (os : OsState) : SharedT := ⟨T20 w.params, 118, life0, Array.mk [], Drawn.mk 0 0 0 0, 352, os⟩
noncomputable abbrev S23 (w : World) (os : OsState) : SharedT := ⟨T23 w.params, 132, life0, Array.mk [], Drawn.mk 0 0 0 0, 377, os⟩
noncomputable abbrev S26 (w : World) (os : OsState) : SharedT := ⟨T26 w.params, 153, life0, Array.mk [], Drawn.mk 0 0 0 0, 404, os⟩
noncomputable abbrev S28 (w : World) (os : OsState) : SharedT := ⟨T28 w.params, 167, life0, Array.mk [], Drawn.mk 0 0 0 0, 422, os⟩
noncomputable abbrev S31 (w : World) (os : OsState) : SharedT := ⟨T31 w.params, 188, life0, Array.mk [], Drawn.mk 0 0 0 0, 465, os⟩
theorem pre (w : World) (os : OsState) : topGo treeTable PG w 11 (some (Value.ref 6)) 12 ⟨boot_heap w.params, Array.mk [], boot_drawn, boot_toks, os⟩ (topStub PG) = some (SA w os, ⟨denote treeTable cE, cE, (Pos.mk 0 0 0 0), B0⟩) := by kernel_rfl
theorem blk (w : World) (os : OsState) : segRun treeTable PG w 11 (some (Value.ref 6)) 1 1 (SA w os) (blockOf BODY env0 cE (Pos.mk 0 0 0 0) B0) = some (.next, (S0 w os).abs, cE, (Pos.mk 0 0 0 0)) := by kernel_rfl
theorem g0 (w : World) (os : OsState) : segRunT treeTable PG w 11 (some (Value.ref 6)) 1 19 (S0 w os) (piecesOf (sg 0 2) env0 cE (Pos.mk 0 0 0 0) B0) = some (.next, S2 w os, cE, (Pos.mk 2 0 2 5)) := by rewrite [Fast.te10110043849684766642, Fast.te14364793385576792824]; kernel_rfl
theorem g2 (w : World) (os : OsState) : segRunT treeTable PG w 11 (some (Value.ref 6)) 1 230 (S2 w os) (piecesOf (sg 2 1) env0 cE (Pos.mk 2 0 2 5) B0) = some (.next, S3 w os, cE, (Pos.mk 3 0 6 24)) := by rewrite [Fast.te10110043849684766642, Fast.te14364793385576792824]; kernel_rfl
theorem g3 (w : World) (os : OsState) : segRunT treeTable PG w 11 (some (Value.ref 6)) 1 214 (S3 w os) (piecesOf (sg 3 1) env0 cE (Pos.mk 3 0 6 24) B0) = some (.next, S4 w os, cE, (Pos.mk 7 0 8 8)) := by rewrite [Fast.te10110043849684766642, Fast.te14364793385576792824]; kernel_rfl
theorem g4 (w : World) (os : OsState) : segRunT treeTable PG w 11 (some (Value.ref 6)) 1 50 (S4 w os) (piecesOf (sg 4 4) env0 cE (Pos.mk 7 0 8 8) B0) = some (.next, S8 w os, cE, (Pos.mk 12 0 12 7)) := by rewrite [Fast.te10110043849684766642, Fast.te14364793385576792824]; kernel_rfl
theorem g8 (w : World) (os : OsState) : segRunT treeTable PG w 11 (some (Value.ref 6)) 1 66 (S8 w os) (piecesOf (sg 8 3) env0 cE (Pos.mk 12 0 12 7) B0) = some (.next, S11 w os, cE, (Pos.mk 15 0 18 56)) := by rewrite [Fast.te10110043849684766642, Fast.te14364793385576792824]; kernel_rfl
theorem g11 (w : World) (os : OsState) : segRunT treeTable PG w 11 (some (Value.ref 6)) 1 93 (S11 w os) (piecesOf (sg 11 3) env0 cE (Pos.mk 15 0 18 56) B0) = some (.next, S14 w os, cE, (Pos.mk 34 0 35 37)) := by rewrite [Fast.te10110043849684766642, Fast.te14364793385576792824]; kernel_rfl
theorem g14 (w : World) (os : OsState) : segRunT treeTable PG w 11 (some (Value.ref 6)) 1 102 (S14 w os) (piecesOf (sg 14 3) env0 cE (Pos.mk 34 0 35 37) B0) = some (.next, S17 w os, cE, (Pos.mk 55 0 63 16)) := by rewrite [Fast.te10110043849684766642, Fast.te14364793385576792824]; kernel_rfl
theorem g17 (w : World) (os : OsState) : segRunT treeTable PG w 11 (some (Value.ref 6)) 1 94 (S17 w os) (piecesOf (sg 17 3) env0 cE (Pos.mk 55 0 63 16) B0) = some (.next, S20 w os, cE, (Pos.mk 75 0 79 42)) := by rewrite [Fast.te10110043849684766642, Fast.te14364793385576792824]; kernel_rfl
theorem g20 (w : World) (os : OsState) : segRunT treeTable PG w 11 (some (Value.ref 6)) 1 77 (S20 w os) (piecesOf (sg 20 3) env0 cE (Pos.mk 75 0 79 42) B0) = some (.next, S23 w os, cE, (Pos.mk 92 0 100 30)) := by rewrite [Fast.te10110043849684766642, Fast.te14364793385576792824]; kernel_rfl
theorem g23 (w : World) (os : OsState) : segRunT treeTable PG w 11 (some (Value.ref 6)) 1 94 (S23 w os) (piecesOf (sg 23 3) env0 cE (Pos.mk 92 0 100 30) B0) = some (.next, S26 w os, cE, (Pos.mk 112 0 114 54)) := by rewrite [Fast.te10110043849684766642, Fast.te14364793385576792824]; kernel_rfl
theorem g26 (w : World) (os : OsState) : segRunT treeTable PG w 11 (some (Value.ref 6)) 1 63 (S26 w os) (piecesOf (sg 26 2) env0 cE (Pos.mk 112 0 114 54) B0) = some (.next, S28 w os, cE, (Pos.mk 119 0 121 110)) := by rewrite [Fast.te10110043849684766642, Fast.te14364793385576792824]; kernel_rfl
theorem g28 (w : World) (os : OsState) : segRunT treeTable PG w 11 (some (Value.ref 6)) 1 110 (S28 w os) (piecesOf (sg 28 3) env0 cE (Pos.mk 119 0 121 110) B0) = some (.next, S31 w os, cE, (Pos.mk 135 0 152 71)) := by rewrite [Fast.te10110043849684766642, Fast.te14364793385576792824]; kernel_rfl
theorem c31 (w : World) (os : OsState) : topRun treeTable PG w 11 (some (Value.ref 6)) 2 (S31 w os).abs (restOf [] env0 cE (Pos.mk 135 0 152 71) B0) = some (SF w os) := by kernel_rfl
theorem c28 (w : World) (os : OsState) : topRun treeTable PG w 11 (some (Value.ref 6)) (110 + 2) (S28 w os).abs (restOf (sg 28 3 ++ ([] : List Stmt)) env0 cE (Pos.mk 119 0 121 110) B0) = some (SF w os) := piece_app (segRun_of (g28 w os)) (c31 w os)
theorem c26 (w : World) (os : OsState) : topRun treeTable PG w 11 (some (Value.ref 6)) (63 + (110 + 2)) (S26 w os).abs (restOf (sg 26 2 ++ (sg 28 3 ++ ([] : List Stmt))) env0 cE (Pos.mk 112 0 114 54) B0) = some (SF w os) := piece_app (segRun_of (g26 w os)) (c28 w os)
theorem c23 (w : World) (os : OsState) : topRun treeTable PG w 11 (some (Value.ref 6)) (94 + (63 + (110 + 2))) (S23 w os).abs (restOf (sg 23 3 ++ (sg 26 2 ++ (sg 28 3 ++ ([] : List Stmt)))) env0 cE (Pos.mk 92 0 100 30) B0) = some (SF w os) := piece_app (segRun_of (g23 w os)) (c26 w os)
theorem c20 (w : World) (os : OsState) : topRun treeTable PG w 11 (some (Value.ref 6)) (77 + (94 + (63 + (110 + 2)))) (S20 w os).abs (restOf (sg 20 3 ++ (sg 23 3 ++ (sg 26 2 ++ (sg 28 3 ++ ([] : List Stmt))))) env0 cE (Pos.mk 75 0 79 42) B0) = some (SF w os) := piece_app (segRun_of (g20 w os)) (c23 w os)
theorem c17 (w : World) (os : OsState) : topRun treeTable PG w 11 (some (Value.ref 6)) (94 + (77 + (94 + (63 + (110 + 2))))) (S17 w os).abs (restOf (sg 17 3 ++ (sg 20 3 ++ (sg 23 3 ++ (sg 26 2 ++ (sg 28 3 ++ ([] : List Stmt)))))) env0 cE (Pos.mk 55 0 63 16) B0) = some (SF w os) := piece_app (segRun_of (g17 w os)) (c20 w os)
theorem c14 (w : World) (os : OsState) : topRun treeTable PG w 11 (some (Value.ref 6)) (102 + (94 + (77 + (94 + (63 + (110 + 2)))))) (S14 w os).abs (restOf (sg 14 3 ++ (sg 17 3 ++ (sg 20 3 ++ (sg 23 3 ++ (sg 26 2 ++ (sg 28 3 ++ ([] : List Stmt))))))) env0 cE (Pos.mk 34 0 35 37) B0) = some (SF w os) := piece_app (segRun_of (g14 w os)) (c17 w os)
theorem c11 (w : World) (os : OsState) : topRun treeTable PG w 11 (some (Value.ref 6)) (93 + (102 + (94 + (77 + (94 + (63 + (110 + 2))))))) (S11 w os).abs (restOf (sg 11 3 ++ (sg 14 3 ++ (sg 17 3 ++ (sg 20 3 ++ (sg 23 3 ++ (sg 26 2 ++ (sg 28 3 ++ ([] : List Stmt)))))))) env0 cE (Pos.mk 15 0 18 56) B0) = some (SF w os) := piece_app (segRun_of (g11 w os)) (c14 w os)
theorem c8 (w : World) (os : OsState) : topRun treeTable PG w 11 (some (Value.ref 6)) (66 + (93 + (102 + (94 + (77 + (94 + (63 + (110 + 2)))))))) (S8 w os).abs (restOf (sg 8 3 ++ (sg 11 3 ++ (sg 14 3 ++ (sg 17 3 ++ (sg 20 3 ++ (sg 23 3 ++ (sg 26 2 ++ (sg 28 3 ++ ([] : List Stmt))))))))) env0 cE (Pos.mk 12 0 12 7) B0) = some (SF w os) := piece_app (segRun_of (g8 w os)) (c11 w os)
theorem c4 (w : World) (os : OsState) : topRun treeTable PG w 11 (some (Value.ref 6)) (50 + (66 + (93 + (102 + (94 + (77 + (94 + (63 + (110 + 2))))))))) (S4 w os).abs (restOf (sg 4 4 ++ (sg 8 3 ++ (sg 11 3 ++ (sg 14 3 ++ (sg 17 3 ++ (sg 20 3 ++ (sg 23 3 ++ (sg 26 2 ++ (sg 28 3 ++ ([] : List Stmt)))))))))) env0 cE (Pos.mk 7 0 8 8) B0) = some (SF w os) := piece_app (segRun_of (g4 w os)) (c8 w os)
theorem c3 (w : World) (os : OsState) : topRun treeTable PG w 11 (some (Value.ref 6)) (214 + (50 + (66 + (93 + (102 + (94 + (77 + (94 + (63 + (110 + 2)))))))))) (S3 w os).abs (restOf (sg 3 1 ++ (sg 4 4 ++ (sg 8 3 ++ (sg 11 3 ++ (sg 14 3 ++ (sg 17 3 ++ (sg 20 3 ++ (sg 23 3 ++ (sg 26 2 ++ (sg 28 3 ++ ([] : List Stmt))))))))))) env0 cE (Pos.mk 3 0 6 24) B0) = some (SF w os) := piece_app (segRun_of (g3 w os)) (c4 w os)
theorem c2 (w : World) (os : OsState) : topRun treeTable PG w 11 (some (Value.ref 6)) (230 + (214 + (50 + (66 + (93 + (102 + (94 + (77 + (94 + (63 + (110 + 2))))))))))) (S2 w os).abs (restOf (sg 2 1 ++ (sg 3 1 ++ (sg 4 4 ++ (sg 8 3 ++ (sg 11 3 ++ (sg 14 3 ++ (sg 17 3 ++ (sg 20 3 ++ (sg 23 3 ++ (sg 26 2 ++ (sg 28 3 ++ ([] : List Stmt)))))))))))) env0 cE (Pos.mk 2 0 2 5) B0) = some (SF w os) := piece_app (segRun_of (g2 w os)) (c3 w os)
theorem c0 (w : World) (os : OsState) : topRun treeTable PG w 11 (some (Value.ref 6)) (19 + (230 + (214 + (50 + (66 + (93 + (102 + (94 + (77 + (94 + (63 + (110 + 2)))))))))))) (S0 w os).abs (restOf (sg 0 2 ++ (sg 2 1 ++ (sg 3 1 ++ (sg 4 4 ++ (sg 8 3 ++ (sg 11 3 ++ (sg 14 3 ++ (sg 17 3 ++ (sg 20 3 ++ (sg 23 3 ++ (sg 26 2 ++ (sg 28 3 ++ ([] : List Stmt))))))))))))) env0 cE (Pos.mk 0 0 0 0) B0) = some (SF w os) := piece_app (segRun_of (g0 w os)) (c2 w os)
theorem cB0 (w : World) (os : OsState) : topRun treeTable PG w 11 (some (Value.ref 6)) (1 + (19 + (230 + (214 + (50 + (66 + (93 + (102 + (94 + (77 + (94 + (63 + (110 + 2))))))))))))) (SA w os) ⟨denote treeTable cE, cE, (Pos.mk 0 0 0 0), B0⟩ = some (SF w os) := piece_block (blk w os) (c0 w os)
theorem run0 (w : World) (os : OsState) : topRun treeTable PG w 11 (some (Value.ref 6)) (12 + (1 + (19 + (230 + (214 + (50 + (66 + (93 + (102 + (94 + (77 + (94 + (63 + (110 + 2)))))))))))))) ⟨boot_heap w.params, Array.mk [], boot_drawn, boot_toks, os⟩ (topStub PG) = some (SF w os) := go_top (pre w os) (cB0 w os)
theorem open0 (w : World) : (fencedOpening treeTable PG w 2526).map (fun s => (s.heap, s.gens, s.drawn, s.toks)) = some (boot_heap w.params, Array.mk [], boot_drawn, boot_toks) := boot_open rfl rfl (fun _ => rfl) w
theorem size0 (w : World) : ((boot_heap w.params).isNs mainGlobals && (Array.mk [] : Array GenState).size == 0, (boot_heap w.params).objs.size, (boot_heap w.params).nsMap mainGlobals "__annotations__") = (true, 11, (some (Value.ref 6))) := by kernel_rfl
noncomputable def Q : Program := view pw_nt0484_01 [1, 2, 3, 5, 6, 7, 8, 9, 10, 11, 12, 13, 14, 15, 16, 17, 18, 19, 20, 22, 23, 24, 25, 26, 27, 28, 29, 30]
noncomputable def LV : List (Str × WData) := [("FINE", .int 1000000000000000000000000000000000000), ("QUARTER", .int 90000000), ("HALF_TURN", .int 180000000), ("WHOLE_TURN", .int 360000000)]
noncomputable abbrev LO : List Str := ["PostError", "FINE", "QUARTER", "HALF_TURN", "WHOLE_TURN"]
noncomputable abbrev XT : Shared → Bool := fun s => xlAt Q LV s && recOk (RowW.records (OpenRow.toRowW rw_nt0484_01.row)) s
theorem l1 (w : World) (os : OsState) : (staticsOk (importedModules PG.main.body) (boot_heap w.params) (HF w.params) && namesBound PG (HF w.params) && gensDone (SF w os) && laidKept (boot_heap w.params) (HF w.params)) = true := by kernel_rfl
theorem m0 (w : World) (os : OsState) : seen ((recsOf Q).map (·.name)) (ownsOf Q) [] { SF w os with gens := #[] } = expectedOf Q := by kernel_rfl
theorem m1 (w : World) (os : OsState) : (SF w os).heap.bltView = bltViewBooted := by kernel_rfl
theorem m2 (w : World) (os : OsState) : ((SF w os).heap.keysOk (looseW Q LO) ((recsOf Q).map (·.name)) ((litsOf Q).map (·.1)) ((clssOf Q (looseW Q LO)).map (·.name)) && (SF w os).heap.accountedOkI (importedModules PG.main.body) && (SF w os).heap.isNs mainGlobals && (SF w os).heap.isNs builtinsNs && tablesOk Q (SF w os).heap && XT (SF w os) && (if true then (SF w os).gens.size == 0 else !leftWithCleanup (SF w os).gens)) = true := by kernel_rfl
theorem m3 (w : World) (os : OsState) : tabsOk Q (SF w os) = true := by kernel_rfl
theorem m4 (w : World) (os : OsState) : pinSeenD Q (drecsOf Q) (SF w os) = pinGoodD (drecsOf Q) := by kernel_rfl
theorem m5 (w : World) (os : OsState) : plainSeenE Q (looseW Q LO) (SF w os) = plainGoodE Q (looseW Q LO) := by kernel_rfl
theorem m6 (w : World) (os : OsState) : plainSeenD Q LO (SF w os) = plainGoodD Q LO := by kernel_rfl
theorem m7 (w : World) (os : OsState) : wideSeen Q (SF w os) = wideGood Q := by kernel_rfl
theorem m8 (w : World) (os : OsState) : clsSeenW Q LO (SF w os) = clsGoodW Q LO := by kernel_rfl
theorem look (w : World) (os : OsState) : openSeen Q LO (importedModules PG.main.body) XT true (SF w os) = openGood Q LO := Prod.ext (m0 w os) (Prod.ext (m1 w os) (Prod.ext (m2 w os) (Prod.ext (m3 w os) (Prod.ext (m4 w os) (Prod.ext (m5 w os) (Prod.ext (m6 w os) (Prod.ext (m7 w os) (m8 w os))))))))
theorem hl_of {α : Type} {Yf : Shared → α} {Ya : World → α} (h : ∀ (w : World) (os : OsState), Yf (SF w os) = Ya w) : LeftO PG Q LO XT Yf Ya 2526 :=
  LeftO.of_pieces open0 size0 run0 (by rfl) (fun w => funext fun os => Prod.ext (l1 w os) (Prod.ext (look w os) (h w os)))
end Hd
local macro_rules | `(tactic| o_head $H) => `(tactic| (
  refine holds_open (r := rw_nt0484_01.row) (q := Hd.Q) (loose := Hd.LO) (Xt := Hd.XT) (XP := XL Hd.Q Hd.LV) (Yf := Hook.obs $H) (Ya := Hook.val $H) (YP := Hook.says $H) (N := 2526) ?hl (Hook.of $H) (Hook.keeps $H) (fun s e => xl_of s (Bool.and_eq_true_iff.mp e).1) XL.keeps (by rfl) (by rfl) (by rfl) (fun s e => recFacts_of (Bool.and_eq_true_iff.mp e).2) (by rfl) (by first | assumption | decide +kernel) (by decide +kernel) ⟨rfl, rfl, rfl, rfl, rfl, by decide +kernel⟩ ?hw ?hc
  (case hl => (refine Hd.hl_of ?_; intro w os; kernel_rfl))))
open_top hd for PySem.Challenge.rw_nt0484_01
end Mine
end
section
open PySem PySem.W PyProof.Rows PySem.Spec PySem.Calls
set_option maxRecDepth 100000
set_option maxHeartbeats 8000000
namespace Mine
local macro_rules | `(tactic| walk_at $s:str) => `(tactic| k_extra $s)
noncomputable abbrev prg : Program := Challenge.rw_nt0484_01.row.prog

noncomputable def PT (w : World) (loose : List Str) (mean : ExcName → Option Value) (mg mb : Str → Option Value) (f : Addr) (d : Nat) (pre : Prop) (vs : List Value) (R : Tok → Value) : Prop :=
  ∀ (dp un : Nat) (gd : Option (List Code)) (cn : Str) (cs : Scope) (a : Addr) (ccd : Value) (cl : List (Str × Addr)) (outer : List Env) (A₀ : Around) (base h₀ : Heap) (L : Addr) (m : Str → Option Value) (news : List (Addr × Obj)) (s : Shared) (Q E : Value → Shared → Prop),
    Below A₀ base outer h₀ → Fr h₀ L s.heap m → (hd.heap_39 w.params).In h₀ → News h₀ L s.heap news → Top Hd.Q loose mean mg mb h₀ → cs.kind = .function → pre → dp + d < recursionLimit → un + 8 * d < cLine →
    (∀ (t : Tok) (h' : Heap) (tk' : Nat), Fr h₀ L h' m → News h₀ L h' news → Q (R t) { s with heap := h', toks := tk' }) →
      wpAny (model prg w) (ktrTop dp un gd cn cs L a ccd cl outer) (call (.ref f) vs) Q E s

theorem PT.use {w : World} {loose : List Str} {mean : ExcName → Option Value} {mg mb : Str → Option Value} {f : Addr} {d : Nat} {pre : Prop} {vs : List Value} {R : Tok → Value}
    {dp un : Nat} {gd : Option (List Code)} {cn : Str} {cs : Scope} {a : Addr} {ccd : Value} {cl : List (Str × Addr)} {outer : List Env} {A₀ : Around} {base h₀ : Heap} {L : Addr} {m : Str → Option Value} {news : List (Addr × Obj)} {s : Shared} {Q E : Value → Shared → Prop}
    (C : PT w loose mean mg mb f d pre vs R) (hp : pre) (B : Below A₀ base outer h₀) (F : Fr h₀ L s.heap m) (X : (hd.heap_39 w.params).In h₀) (N : News h₀ L s.heap news) (T : Top Hd.Q loose mean mg mb h₀) (hk : cs.kind = .function) (h1 : dp + d < recursionLimit) (h2 : un + 8 * d < cLine)
    (ret : ∀ (t : Tok) (h' : Heap) (tk' : Nat), Fr h₀ L h' m → News h₀ L h' news → Q (R t) { s with heap := h', toks := tk' }) :
    wpAny (model prg w) (ktrTop dp un gd cn cs L a ccd cl outer) (call (.ref f) vs) Q E s := C _ _ _ _ _ _ _ _ _ _ _ _ _ _ _ _ _ _ B F X N T hk hp h1 h2 ret

/-- a call whose answer is an int of which Post holds -/
noncomputable def PR (w : World) (loose : List Str) (mean : ExcName → Option Value) (mg mb : Str → Option Value) (f : Addr) (d : Nat) (pre : Prop) (vs : List Value) (Post : Int → Prop) : Prop :=
  ∀ (dp un : Nat) (gd : Option (List Code)) (cn : Str) (cs : Scope) (a : Addr) (ccd : Value) (cl : List (Str × Addr)) (outer : List Env) (A₀ : Around) (base h₀ : Heap) (L : Addr) (m : Str → Option Value) (news : List (Addr × Obj)) (s : Shared) (Q E : Value → Shared → Prop),
    Below A₀ base outer h₀ → Fr h₀ L s.heap m → (hd.heap_39 w.params).In h₀ → News h₀ L s.heap news → Top Hd.Q loose mean mg mb h₀ → cs.kind = .function → pre → dp + d < recursionLimit → un + 8 * d < cLine →
    (∀ (r : Int) (t : Tok) (h' : Heap) (tk' : Nat), Post r → Fr h₀ L h' m → News h₀ L h' news → Q (.int r t) { s with heap := h', toks := tk' }) →
      wpAny (model prg w) (ktrTop dp un gd cn cs L a ccd cl outer) (call (.ref f) vs) Q E s

theorem PR.use {w : World} {loose : List Str} {mean : ExcName → Option Value} {mg mb : Str → Option Value} {f : Addr} {d : Nat} {pre : Prop} {vs : List Value} {Post : Int → Prop}
    {dp un : Nat} {gd : Option (List Code)} {cn : Str} {cs : Scope} {a : Addr} {ccd : Value} {cl : List (Str × Addr)} {outer : List Env} {A₀ : Around} {base h₀ : Heap} {L : Addr} {m : Str → Option Value} {news : List (Addr × Obj)} {s : Shared} {Q E : Value → Shared → Prop}
    (C : PR w loose mean mg mb f d pre vs Post) (hp : pre) (B : Below A₀ base outer h₀) (F : Fr h₀ L s.heap m) (X : (hd.heap_39 w.params).In h₀) (N : News h₀ L s.heap news) (T : Top Hd.Q loose mean mg mb h₀) (hk : cs.kind = .function) (h1 : dp + d < recursionLimit) (h2 : un + 8 * d < cLine)
    (ret : ∀ (r : Int) (t : Tok) (h' : Heap) (tk' : Nat), Post r → Fr h₀ L h' m → News h₀ L h' news → Q (.int r t) { s with heap := h', toks := tk' }) :
    wpAny (model prg w) (ktrTop dp un gd cn cs L a ccd cl outer) (call (.ref f) vs) Q E s := C _ _ _ _ _ _ _ _ _ _ _ _ _ _ _ _ _ _ B F X N T hk hp h1 h2 ret

theorem ret_post {h₀ h' : Heap} {L : Addr} {m : Str → Option Value} {news : List (Addr × Obj)} {s : Shared} {Q : Value → Shared → Prop} {Post : Int → Prop} {y : Int} {t : Tok} {tk' : Nat}
    (hret : ∀ r t h' tk', Post r → Fr h₀ L h' m → News h₀ L h' news → Q (.int r t) { s with heap := h', toks := tk' }) (e : Post y) (F : Fr h₀ L h' m) (N : News h₀ L h' news) : Q (.int y t) { s with heap := h', toks := tk' } :=
  hret y t h' tk' e F N

theorem ret_int {h₀ h' : Heap} {L : Addr} {m : Str → Option Value} {news : List (Addr × Obj)} {s : Shared} {Q : Value → Shared → Prop} {x y : Int} {t : Tok} {tk' : Nat}
    (hret : ∀ t h' tk', Fr h₀ L h' m → News h₀ L h' news → Q (.int x t) { s with heap := h', toks := tk' }) (e : y = x) (F : Fr h₀ L h' m) (N : News h₀ L h' news) : Q (.int y t) { s with heap := h', toks := tk' } := by
  subst e
  exact hret t h' tk' F N



theorem log_small {y : Int} (h1 : -1000000000000000000000000000000000000000000000000000000000000000000000000000000000000000000000000000000000000000000000000000000000000000000000000000000000000000000000000000000000000000000000000000000000000000000000000000000000000000000000000000000000000000000000000000000000000000000000000000000000000 ≤ y) (h2 : y ≤ 1000000000000000000000000000000000000000000000000000000000000000000000000000000000000000000000000000000000000000000000000000000000000000000000000000000000000000000000000000000000000000000000000000000000000000000000000000000000000000000000000000000000000000000000000000000000000000000000000000000000000) : y.natAbs.log2 < 9000 := by
  have h : y.natAbs < 2 ^ 1000 := by
    have e : (2:Nat) ^ 1000 > 1000000000000000000000000000000000000000000000000000000000000000000000000000000000000000000000000000000000000000000000000000000000000000000000000000000000000000000000000000000000000000000000000000000000000000000000000000000000000000000000000000000000000000000000000000000000000000000000000000000000000 := by decide +kernel
    omega
  by_cases h0 : y.natAbs = 0
  · rw [h0]; decide
  · have := (Nat.log2_lt h0).mpr h
    omega

theorem bits_small {y : Int} (h1 : -1000000000000000000000000000000000000000000000000000000000000000000000000000000000000000000000000000000000000000000000000000000000000000000000000000000000000000000000000000000000000000000000000000000000000000000000000000000000000000000000000000000000000000000000000000000000000000000000000000000000000 ≤ y) (h2 : y ≤ 1000000000000000000000000000000000000000000000000000000000000000000000000000000000000000000000000000000000000000000000000000000000000000000000000000000000000000000000000000000000000000000000000000000000000000000000000000000000000000000000000000000000000000000000000000000000000000000000000000000000000) : Builtin.Int.intBits y ≤ 1000 := by
  refine intBits_le ?_
  have e : (2:Nat) ^ 1000 > 1000000000000000000000000000000000000000000000000000000000000000000000000000000000000000000000000000000000000000000000000000000000000000000000000000000000000000000000000000000000000000000000000000000000000000000000000000000000000000000000000000000000000000000000000000000000000000000000000000000000000 := by decide +kernel
  omega

theorem mul_small {x y : Int} (h1 : -1000000000000000000000000000000000000000000000000000000000000000000000000000000000000000000000000000000000000000000000000000000000000000000000000000000000000000000000000000000000000000000000000000000000000000000000000000000000000000000000000000000000000000000000000000000000000000000000000000000000000 ≤ x) (h2 : x ≤ 1000000000000000000000000000000000000000000000000000000000000000000000000000000000000000000000000000000000000000000000000000000000000000000000000000000000000000000000000000000000000000000000000000000000000000000000000000000000000000000000000000000000000000000000000000000000000000000000000000000000000) (h3 : -1000000000000000000000000000000000000000000000000000000000000000000000000000000000000000000000000000000000000000000000000000000000000000000000000000000000000000000000000000000000000000000000000000000000000000000000000000000000000000000000000000000000000000000000000000000000000000000000000000000000000 ≤ y) (h4 : y ≤ 1000000000000000000000000000000000000000000000000000000000000000000000000000000000000000000000000000000000000000000000000000000000000000000000000000000000000000000000000000000000000000000000000000000000000000000000000000000000000000000000000000000000000000000000000000000000000000000000000000000000000) : IntMulOk x y :=
  mulOk_of_bits (bits_small h1 h2) (bits_small h3 h4) (by decide)


theorem sinn_small9 {n : Int} (h0 : 0 ≤ n) (h1 : n ≤ 1000) : 0 < (n + 1) * (n + 2) ∧ (n + 1) * (n + 2) ≤ 1000000000000000000000000000000000000000000000000000000000000000000000000000000000000000000000000000000000000000000000000000000000000000000000000000000 := by
  have e := Int.mul_le_mul (show n + 1 ≤ 1001 by omega) (show n + 2 ≤ 1002 by omega) (by omega) (by omega)
  have e2 := Int.mul_pos (show 0 < n + 1 by omega) (show 0 < n + 2 by omega)
  omega

theorem floordiv_int2 {prog : Program} {w : World} {A : Around} {E : Value → Shared → Prop} {s : Shared} {a b : Int} {t u : Tok} {Q : Value → Shared → Prop} (hb : 0 < b ∧ b ≤ 1000000000000000000000000000000000000000000000000000000000000000000000000000000000000000000000000000000000000000000000000000000000000000000000000000000) (h : Q (.int (a.fdiv b) s.toks) { s with toks := s.toks + 1 }) : wpAny (model prog w) A (binaryOp .FloorDiv (.int a t) (.int b u)) Q E s :=
  floordiv_int (by omega) h (Or.inl (PyProof.noPylong_of_log2 (log_small (by omega) (by omega))))

theorem pow_lit {prog : Program} {w : World} {A : Around} {E : Value → Shared → Prop} {s : Shared} {a n r : Int} {t u : Tok} {Q : Value → Shared → Prop} (e : a ^ n.toNat = r) (hn : 0 ≤ n) (hn2 : n ≤ 1000000) (ha : a.natAbs < 2 ^ 64) (h : Q (.int r s.toks) { s with toks := s.toks + 1 }) : wpAny (model prog w) A (binaryOp .Pow (.int a t) (.int n u)) Q E s :=
  pow_int_small hn hn2 ha (by rw [e]; exact h)

theorem unr_end {h₀ : Heap} {L I : Addr} {it : Obj} {rest : (Str → Option Value) → List (Addr × Obj) → Prop} {s₁ : Shared} {h' : Heap} {tk : Nat} {m' : Str → Option Value} {news : List (Addr × Obj)} (F : Fr h₀ L h' m') (l1 : ∀ (p : Addr × Obj), p ∈ news → p.1 < I) (N : News h₀ L h' ((I, it) :: news))
    (r : rest m' news) : UnrEnd h₀ L s₁ I it rest { s₁ with heap := h', toks := tk } :=
  UnrEnd.intro F N news (fun _ hp => hp) (fun p hp e => absurd (l1 p hp) (by rw [e]; exact Nat.lt_irrefl _)) r

theorem pdiv_eq1 {a b : Int} (hb : 0 < b) (hc : (decide (a < 0) == decide (b < 0)) = true) : ((2 * if a < 0 then -a else a) + if b < 0 then -b else b).fdiv (2 * if b < 0 then -b else b) = pdiv a b := by
  have h1 : ¬ b < 0 := by omega
  simp only [h1, decide_false, if_false] at hc ⊢
  have h2 : ¬ a < 0 := by simpa using hc
  simp only [h2, if_false, pdiv]
  exact Int.fdiv_eq_ediv_of_nonneg _ (by omega)
theorem pdiv_eq2 {a b : Int} (hb : 0 < b) (hc : (decide (a < 0) == decide (b < 0)) = false) : -(((2 * if a < 0 then -a else a) + if b < 0 then -b else b).fdiv (2 * if b < 0 then -b else b)) = pdiv a b := by
  have h1 : ¬ b < 0 := by omega
  simp only [h1, decide_false, if_false] at hc ⊢
  have h2 : a < 0 := by simpa using hc
  simp only [h2, if_true, pdiv]
  rw [Int.fdiv_eq_ediv_of_nonneg _ (by omega)]
theorem pdiv_eq2' {a b : Int} (hb : 0 < b) (hc : ¬ (decide (a < 0) == decide (b < 0)) = true) : -(((2 * if a < 0 then -a else a) + if b < 0 then -b else b).fdiv (2 * if b < 0 then -b else b)) = pdiv a b := pdiv_eq2 hb (by simpa using hc)

theorem fr_put {h₀ h : Heap} {L : Addr} {m m1 : Str → Option Value} {x : Str} {v : Value} (F : Fr h₀ L h m1) (h1 : m1 x = some v) (h2 : ∀ y, y ≠ x → m1 y = m y) : Fr h₀ L h (fun y => if y = x then some v else m y) := by
  have e : m1 = fun y => if y = x then some v else m y := funext fun y => by
    by_cases q : y = x
    · subst q; rw [if_pos rfl]; exact h1
    · rw [if_neg q]; exact h2 y q
  rw [← e]; exact F
/-- behind a statement that gave one name an int of which P holds -/
noncomputable def oneMid (h₀ : Heap) (L : Addr) (m : Str → Option Value) (x : Str) (P : Int → Prop) (news : List (Addr × Obj)) (s s'' : Shared) : Prop :=
  ∃ h' tk c t, s'' = { s with heap := h', toks := tk } ∧ P c ∧ Fr h₀ L h' (fun y => if y = x then some (.int c t) else m y) ∧ News h₀ L h' news
theorem one_join {prog : Program} {w : World} {A : Around} {E : Value → Shared → Prop} {s : Shared} {env : Env} {h₀ : Heap} {L : Addr} {Q : Flow → Shared → Prop} {m : Str → Option Value} {news : List (Addr × Obj)} {s1 : Stmt} {rest : List Stmt} (x : Str) (P : Int → Prop)
    (_ : Fr h₀ L s.heap m) (_ : News h₀ L s.heap news)
    (h : wpAny (model prog w) A (exec s1 env) (fun f s' => match f with | .next => oneMid h₀ L m x P news s s' | f => Q f s') E s)
    (k : ∀ h' tk c t, P c → Fr h₀ L h' (fun y => if y = x then some (.int c t) else m y) → News h₀ L h' news → wpAny (model prog w) A (execs rest env) Q E { s with heap := h', toks := tk }) : wpAny (model prog w) A (execs (s1 :: rest) env) Q E s := by
  refine wpAny_execs_cons (wpAny_mono h (fun f s' p => ?_) fun _ _ e => e)
  cases f with
  | next =>
    obtain ⟨h', tk, c, t, rfl, p, F, N⟩ := p
    exact k h' tk c t p F N
  | _ => exact p
/-- plus or minus, by the names' values -/
noncomputable def totP (m : Str → Option Value) (c : Int) : Prop := ∀ f p n tf tp tn, m (Str.ofString "total") = some (.int f tf) → m (Str.ofString "part") = some (.int p tp) → m (Str.ofString "k") = some (.int n tn) → c = if n.fmod 4 = 1 then f + p else f - p
theorem totP_1 {m : Str → Option Value} {f p n : Int} {tf tp tn : Tok} (h1 : m (Str.ofString "total") = some (.int f tf)) (h2 : m (Str.ofString "part") = some (.int p tp)) (h3 : m (Str.ofString "k") = some (.int n tn)) (hc : n.fmod 4 = 1) : totP m (f + p) := by
  intro f' p' n' _ _ _ e1 e2 e3
  rw [h1] at e1; rw [h2] at e2; rw [h3] at e3
  cases e1; cases e2; cases e3
  rw [if_pos hc]
theorem totP_2 {m : Str → Option Value} {f p n : Int} {tf tp tn : Tok} (h1 : m (Str.ofString "total") = some (.int f tf)) (h2 : m (Str.ofString "part") = some (.int p tp)) (h3 : m (Str.ofString "k") = some (.int n tn)) (hc : n.fmod 4 ≠ 1) : totP m (f - p) := by
  intro f' p' n' _ _ _ e1 e2 e3
  rw [h1] at e1; rw [h2] at e2; rw [h3] at e3
  cases e1; cases e2; cases e3
  rw [if_neg hc]
theorem tot_join {prog : Program} {w : World} {A : Around} {E : Value → Shared → Prop} {s : Shared} {env : Env} {h₀ : Heap} {L : Addr} {Q : Flow → Shared → Prop} {m : Str → Option Value} {news : List (Addr × Obj)} {s1 : Stmt} {rest : List Stmt}
    (F : Fr h₀ L s.heap m) (N : News h₀ L s.heap news)
    (h : wpAny (model prog w) A (exec s1 env) (fun f s' => match f with | .next => oneMid h₀ L m (Str.ofString "total") (totP m) news s s' | f => Q f s') E s)
    (k : ∀ h' tk c t, totP m c → Fr h₀ L h' (fun y => if y = (Str.ofString "total") then some (.int c t) else m y) → News h₀ L h' news → wpAny (model prog w) A (execs rest env) Q E { s with heap := h', toks := tk }) : wpAny (model prog w) A (execs (s1 :: rest) env) Q E s :=
  one_join _ (totP m) F N h k
theorem pdiv_ret {a b : Int} (h : 0 < b) (h1 : (2 * (if b < 0 then -b else b)) ≠ 0) : pdiv a b = pdiv a b := rfl


theorem divided_tells (w : World) (loose mean mg mb) (a b : Int) (ta tb : Tok) : PT w loose mean mg mb 54 1 (0 < b ∧ b ≤ 1000000000000000000000000000000000000000000000000000000000000000000000000000000000000000000000000000000000000000000000000000000000000000000000000000000) [.int a ta, .int b tb] (fun t => .int (pdiv a b) t) := by
  k_with_none
  k_with "storeName" => (k_here; (dsimp only); (try k_gentoks))
  k_with "binaryOp FloorDiv int int" => (k_here; refine floordiv_int ?kbe ?_ (Or.inl (PyProof.noPylong_of_log2 (log_small ?kb1 ?kb2))); (case kbe => ((repeat' split) <;> omega)); (case kb1 => ((repeat' split) <;> omega)); (case kb2 => ((repeat' split) <;> omega)))
  unfold PT prg; k_fill
  intro dp un gd cn cs ad ccd cl outer A₀ base h₀ L m news s Q E B F X N T hk hpre hd hu hret
  obtain ⟨hb1, hb2⟩ := hpre
  refine wpAny_call ?_
  k_dflt cell_enter
  k_steps
  all_goals (refine' ret_int (Q := Q) (s := s) hret ?e1 ?e2 ?e3; (case e2 => k_asm); (case e3 => first | k_asm | (refine' cb_drop ?cbN ?cbS; (case cbN => assumption); (case cbS => (intro p hp; repeat (first | exact hp | refine List.Mem.tail _ ?_))))); (case e1 => first | exact pdiv_eq1 hb1 (by assumption) | exact pdiv_eq2 hb1 (by assumption) | exact pdiv_eq2' hb1 (by assumption)))

theorem product_tells (w : World) (loose mean mg mb) (a b : Int) (ta tb : Tok) : PT w loose mean mg mb 75 2 (-1000000000000000000000000000000000000000000000000000000000000000000000000000000000000000000000000000000000000000000000000000000000000000000000000000000 ≤ a ∧ a ≤ 1000000000000000000000000000000000000000000000000000000000000000000000000000000000000000000000000000000000000000000000000000000000000000000000000000000 ∧ -1000000000000000000000000000000000000000000000000000000000000000000000000000000000000000000000000000000000000000000000000000000000000000000000000000000 ≤ b ∧ b ≤ 1000000000000000000000000000000000000000000000000000000000000000000000000000000000000000000000000000000000000000000000000000000000000000000000000000000) [.int a ta, .int b tb] (fun t => .int (fprod a b) t) := by
  k_with_none
  k_with "storeName" => (k_here; (dsimp only); (try k_gentoks))
  k_with "call ref" => (k_here; (with_reducible show wpAny _ _ (call (Value.ref 54) [Value.int _ _, Value.int _ _]) _ _ _); k_dflt (refine' PT.use (divided_tells _ _ _ _ _ _ _ _ _) ?kp ?k1 ?k2 ?k3 ?k4 ?k5 ?kK ?kd ?ku ?_; (case k1 => k_asm); (case k2 => k_asm); (case k3 => k_asm); (case k4 => k_asm); (case k5 => k_asm); (case kK => first | exact rfl | assumption); (case kd => ktr_room); (case ku => ktr_units); (case kp => (refine ⟨?_, ?_⟩ <;> first | decide | omega))); intro t9 h9 tk9 F9 N9; (try dsimp only); (try k_fold))
  k_with "binaryOp Mult int int" => (k_here; with_reducible refine mul_int ?_ (mul_small (by omega) (by omega) (by omega) (by omega)))
  unfold PT prg; k_fill
  intro dp un gd cn cs ad ccd cl outer A₀ base h₀ L m news s Q E B F X N T hk hpre hd hu hret
  obtain ⟨hb1, hb2, hb3, hb4⟩ := hpre
  refine wpAny_call ?_
  k_dflt cell_enter
  k_steps
  all_goals (refine' ret_int (Q := Q) (s := s) hret ?e1 ?e2 ?e3; (case e2 => k_asm); (case e3 => first | k_asm | (refine' cb_drop ?cbN ?cbS; (case cbN => assumption); (case cbS => (intro p hp; repeat (first | exact hp | refine List.Mem.tail _ ?_))))); (case e1 => rfl))
noncomputable def oddP (part : Int) (f p n : Int) : Prop := 1 ≤ n ∧ n ≤ 245 ∧ -1000000000000000000000000000000000000 ≤ p ∧ p ≤ 1000000000000000000000000000000000000 ∧ ∃ j : Nat, n = 2 * (j : Int) + 1 ∧ j ≤ 120 ∧ f = fndAt part (fprod part part) j ∧ p = powAt part (fprod part part) j

theorem oddP_end {part f p n : Int} (h : oddP part f p n) (hp : p = 0) : ∃ j : Nat, j ≤ 120 ∧ f = fndAt part (fprod part part) j ∧ powAt part (fprod part part) j = 0 := by
  obtain ⟨a1, a2, a3, a4, j, e1, e2, e3, e4⟩ := h
  exact ⟨j, e2, e3, by rw [← e4]; exact hp⟩

theorem oddP_start (part : Int) (h0 : 0 ≤ part) (h1 : part ≤ 500000000000000000000000000000000000) : oddP part 0 part 1 :=
  ⟨by omega, by omega, by omega, by omega, 0, rfl, by omega, rfl, rfl⟩
theorem oddP_step {part f p n : Int} (h0 : 0 ≤ part) (h1 : part ≤ 500000000000000000000000000000000000) (h : oddP part f p n) (hp : p ≠ 0) : oddP part (f + pdiv p n) (-(fprod p (fprod part part))) (n + 2) := by
  obtain ⟨a1, a2, a3, a4, j, e1, e2, e3, e4⟩ := h
  have hj : j < 120 := by
    rcases Nat.lt_or_ge j 120 with h | h
    · exact h
    · exact absurd (e4.trans ((pow_small part h0 h1 j).2.2 h)) hp
  have h9 := pow_small part h0 h1 (j+1)
  have e5 : -(fprod p (fprod part part)) = powAt part (fprod part part) (j+1) := by rw [e4]; rfl
  refine ⟨by omega, by omega, by rw [e5]; exact h9.1, by rw [e5]; exact h9.2.1, j+1, by push_cast; omega, by omega, ?_, e5⟩
  rw [e3, e4, e1]; rfl

theorem oddP_meas {part f p n : Int} (h0 : 0 ≤ part) (h1 : part ≤ 500000000000000000000000000000000000) (h : oddP part f p n) (hp : p ≠ 0) : (245 - (n + 2)).toNat < (245 - n).toNat := by
  obtain ⟨a1, a2, a3, a4, j, e1, e2, e3, e4⟩ := h
  have hj : j < 120 := by
    rcases Nat.lt_or_ge j 120 with h | h
    · exact h
    · exact absurd (e4.trans ((pow_small part h0 h1 j).2.2 h)) hp
  omega


theorem odd_tells (w : World) (loose mean mg mb) (part : Int) (ta : Tok) : PR w loose mean mg mb 82 3 (0 ≤ part ∧ part ≤ 500000000000000000000000000000000000) [.int part ta, .bool true] (fun r => ∃ j : Nat, j ≤ 120 ∧ r = fndAt part (fprod part part) j ∧ powAt part (fprod part part) j = 0) := by
  k_with_none
  k_with "storeName" => (k_here; (dsimp only); (try k_gentoks))
  k_with "call ref" => (k_here; (with_reducible show wpAny _ _ (call (Value.ref 54) [Value.int _ _, Value.int _ _]) _ _ _); k_dflt (refine' PT.use (divided_tells _ _ _ _ _ _ _ _ _) ?kp ?k1 ?k2 ?k3 ?k4 ?k5 ?kK ?kd ?ku ?_; (case k1 => k_asm); (case k2 => k_asm); (case k3 => k_asm); (case k4 => k_asm); (case k5 => k_asm); (case kK => first | exact rfl | assumption); (case kd => ktr_room); (case ku => ktr_units); (case kp => (refine ⟨?_, ?_⟩ <;> first | decide | omega | ((rename oddP _ _ _ _ => hP9); (obtain ⟨a91, a92, a93, a94, _⟩ := hP9); omega)))); intro t9 h9 tk9 F9 N9; (try dsimp only); (try k_fold))
  k_with "call ref" => (k_here; (with_reducible show wpAny _ _ (call (Value.ref 75) [Value.int _ _, Value.int _ _]) _ _ _); k_dflt (refine' PT.use (product_tells _ _ _ _ _ _ _ _ _) ?kp ?k1 ?k2 ?k3 ?k4 ?k5 ?kK ?kd ?ku ?_; (case k1 => k_asm); (case k2 => k_asm); (case k3 => k_asm); (case k4 => k_asm); (case k5 => k_asm); (case kK => first | exact rfl | assumption); (case kd => ktr_room); (case ku => ktr_units); (case kp => (refine ⟨?_, ?_, ?_, ?_⟩ <;> first | decide | omega | ((rename oddP _ _ _ _ => hP9); (obtain ⟨a91, a92, a93, a94, _⟩ := hP9); omega)))); intro t9 h9 tk9 F9 N9; (try dsimp only); (try k_fold))
  unfold PR prg; k_fill
  intro dp un gd cn cs ad ccd cl outer A₀ base h₀ L m news s Q E B F X N T hk hpre hd hu hret
  obtain ⟨hb1, hb2⟩ := hpre
  have hsq := sq_small part hb1 hb2
  k_with "exec While Compare cons nil" => k_while (fun _ f p n => oddP part f p n) (fun _ f p n => (245 - n).toNat) "found" "power" "number"
  k_with "state" => first | exact oddP_start part hb1 hb2 | exact oddP_step hb1 hb2 (by assumption) (by assumption)
  k_with "measure" => exact oddP_meas hb1 hb2 (by assumption) (by assumption)
  refine wpAny_call ?_
  k_dflt cell_enter
  k_steps
  all_goals (refine' ret_post (Q := Q) (s := s) hret ?e1 ?e2 ?e3; (case e2 => k_asm); (case e3 => first | k_asm | (refine' cb_drop ?cbN ?cbS; (case cbN => assumption); (case cbS => (intro p hp; repeat (first | exact hp | refine List.Mem.tail _ ?_))))); (case e1 => exact oddP_end (by assumption) (by assumption)))
noncomputable def sinP (a : Int) (f p n : Int) : Prop := 1 ≤ n ∧ n ≤ 265 ∧ -1000000000000000000000000000000000000 ≤ p ∧ p ≤ 1000000000000000000000000000000000000 ∧ ∃ j : Nat, n = 2 * (j : Int) + 1 ∧ j ≤ 130 ∧ f = sinfnd (sinx a) (fprod (sinx a) (sinx a)) j ∧ p = sinpart (sinx a) (fprod (sinx a) (sinx a)) j
theorem sinP_start (a : Int) (h0 : 0 ≤ a) (h1 : a ≤ 45000000) : sinP a 0 (sinpart (sinx a) 0 0) 1 := by
  have h := sinpart_small a h0 h1 0
  exact ⟨by omega, by omega, h.1, h.2.1, 0, by omega, by omega, rfl, rfl⟩
theorem sinP_lt {a f p n : Int} (h0 : 0 ≤ a) (h1 : a ≤ 45000000) (h : sinP a f p n) (hp : p ≠ 0) : n ≤ 259 := by
  obtain ⟨a1, a2, a3, a4, j, e1, e2, e3, e4⟩ := h
  have hj : j < 130 := by
    rcases Nat.lt_or_ge j 130 with h | h
    · exact h
    · exact absurd (e4.trans ((sinpart_small a h0 h1 j).2.2 h)) hp
  omega
theorem sinP_step {a f p n : Int} (h0 : 0 ≤ a) (h1 : a ≤ 45000000) (h : sinP a f p n) (hp : p ≠ 0) : sinP a (f + p) (-(pdiv (fprod p (fprod (sinx a) (sinx a))) ((n + 1) * (n + 2)))) (n + 2) := by
  have hn := sinP_lt h0 h1 h hp
  obtain ⟨a1, a2, a3, a4, j, e1, e2, e3, e4⟩ := h
  have h9 := sinpart_small a h0 h1 (j+1)
  have e5 : -(pdiv (fprod p (fprod (sinx a) (sinx a))) ((n + 1) * (n + 2))) = sinpart (sinx a) (fprod (sinx a) (sinx a)) (j+1) := by rw [e4, e1]; rfl
  refine ⟨by omega, by omega, by rw [e5]; exact h9.1, by rw [e5]; exact h9.2.1, j+1, by omega, by omega, ?_, e5⟩
  rw [e3, e4]; rfl
theorem sinP_meas {a f p n : Int} (h0 : 0 ≤ a) (h1 : a ≤ 45000000) (h : sinP a f p n) (hp : p ≠ 0) : (265 - (n + 2)).toNat < (265 - n).toNat := by
  have hn := sinP_lt h0 h1 h hp
  omega
theorem sinP_end {a f p n : Int} (h : sinP a f p n) (hp : p = 0) : sinR a f := by
  obtain ⟨a1, a2, a3, a4, j, e1, e2, e3, e4⟩ := h
  exact ⟨j, e2, e3, by rw [← e4]; exact hp⟩
theorem sinn_small {n : Int} (h0 : 0 ≤ n) (h1 : n ≤ 265) : 0 < (n + 1) * (n + 2) ∧ (n + 1) * (n + 2) ≤ 100000 := by
  have e := Int.mul_le_mul (show n + 1 ≤ 266 by omega) (show n + 2 ≤ 267 by omega) (by omega) (by omega)
  have e2 := Int.mul_pos (show 0 < n + 1 by omega) (show 0 < n + 2 by omega)
  omega
theorem sin_tells (w : World) (loose mean mg mb) (a : Int) (ta : Tok) : PR w loose mean mg mb 89 3 (0 ≤ a ∧ a ≤ 45000000) [.int a ta] (fun r => sinR a r) := by
  k_with_none
  k_with "storeName" => (k_here; (dsimp only); (try k_gentoks))
  k_with "binaryOp Mult int int" => (k_here; with_reducible refine mul_int ?_ (mul_small (by first | decide | omega) (by first | decide | omega) (by first | decide | omega) (by first | decide | omega)))
  k_with "binaryOp Mult int int" => (k_here; k_dflt (refine' mul_int ?_ ?kok; (case kok => (((rename sinP _ _ _ _ => hP9); (have hQ9 := hP9); (obtain ⟨a91, a92, a93, a94, _⟩ := hQ9)); exact mul_small (by first | decide | omega) (by first | decide | omega) (by first | decide | omega) (by first | decide | omega)))))
  k_with "call ref" => (k_here; (with_reducible show wpAny _ _ (call (Value.ref 54) [Value.int _ _, Value.int _ _]) _ _ _); k_dflt (refine' PT.use (divided_tells _ _ _ _ _ _ _ _ _) ?kp ?k1 ?k2 ?k3 ?k4 ?k5 ?kK ?kd ?ku ?_; (case k1 => k_asm); (case k2 => k_asm); (case k3 => k_asm); (case k4 => k_asm); (case k5 => k_asm); (case kK => first | exact rfl | assumption); (case kd => first | exact room_in (by assumption) (by decide) | ktr_room); (case ku => first | exact units_in (by assumption) (by decide) | ktr_units); (case kp => first | decide | exact wide_in (by assumption) (by decide) | (first | omega | (((rename sinP _ _ _ _ => hP9); (have hQ9 := hP9); (obtain ⟨a91, a92, a93, a94, _⟩ := hQ9)); omega) | (((rename sinP _ _ _ _ => hP9); (have hQ9 := hP9); (obtain ⟨a91, a92, a93, a94, _⟩ := hQ9)); (refine sinn_small9 ?_ ?_ <;> omega))))); intro t9 h9 tk9 F9 N9; (try dsimp only); (try k_fold))
  k_with "call ref" => (k_here; (with_reducible show wpAny _ _ (call (Value.ref 75) [Value.int _ _, Value.int _ _]) _ _ _); k_dflt (refine' PT.use (product_tells _ _ _ _ _ _ _ _ _) ?kp ?k1 ?k2 ?k3 ?k4 ?k5 ?kK ?kd ?ku ?_; (case k1 => k_asm); (case k2 => k_asm); (case k3 => k_asm); (case k4 => k_asm); (case k5 => k_asm); (case kK => first | exact rfl | assumption); (case kd => first | exact room_in (by assumption) (by decide) | ktr_room); (case ku => first | exact units_in (by assumption) (by decide) | ktr_units); (case kp => first | decide | exact wide_in (by assumption) (by decide) | (first | omega | (((rename sinP _ _ _ _ => hP9); (have hQ9 := hP9); (obtain ⟨a91, a92, a93, a94, _⟩ := hQ9)); omega) | (((rename sinP _ _ _ _ => hP9); (have hQ9 := hP9); (obtain ⟨a91, a92, a93, a94, _⟩ := hQ9)); (refine sinn_small9 ?_ ?_ <;> omega))))); intro t9 h9 tk9 F9 N9; (try dsimp only); (try k_fold))
  unfold PR prg; k_fill
  intro dp un gd cn cs ad ccd cl outer A₀ base h₀ L m news s Q E B F X N T hk hpre hd hu hret
  have hx := sinx_small a hpre.1 hpre.2
  unfold sinx at hx
  k_with "exec While Compare cons nil" => k_while (fun _ f p n => sinP a f p n) (fun _ f p n => (265 - n).toNat) "found" "part" "count"
  k_with "state" => first | exact sinP_start a hpre.1 hpre.2 | exact sinP_step hpre.1 hpre.2 (by assumption) (by assumption)
  k_with "measure" => exact sinP_meas hpre.1 hpre.2 (by assumption) (by assumption)
  refine wpAny_call ?_
  k_dflt cell_enter
  k_steps
  all_goals (refine' ret_post (Q := Q) (s := s) hret ?e1 ?e2 ?e3; (case e2 => k_asm); (case e3 => first | k_asm | (refine' cb_drop ?cbN ?cbS; (case cbN => assumption); (case cbS => (intro p hp; repeat (first | exact hp | refine List.Mem.tail _ ?_))))); (case e1 => exact sinP_end (by assumption) (by assumption)))
noncomputable def cosP (a : Int) (f p n : Int) : Prop := 0 ≤ n ∧ n ≤ 265 ∧ -1000000000000000000000000000000000000 ≤ p ∧ p ≤ 1000000000000000000000000000000000000 ∧ ∃ j : Nat, n = 2 * (j : Int) + 0 ∧ j ≤ 130 ∧ f = cosfnd (cosx a) (fprod (cosx a) (cosx a)) j ∧ p = cospart (cosx a) (fprod (cosx a) (cosx a)) j
theorem cosP_start (a : Int) (h0 : 0 ≤ a) (h1 : a ≤ 45000000) : cosP a 0 (cospart (cosx a) 0 0) 0 := by
  have h := cospart_small a h0 h1 0
  exact ⟨by omega, by omega, h.1, h.2.1, 0, by omega, by omega, rfl, rfl⟩
theorem cosP_lt {a f p n : Int} (h0 : 0 ≤ a) (h1 : a ≤ 45000000) (h : cosP a f p n) (hp : p ≠ 0) : n ≤ 259 := by
  obtain ⟨a1, a2, a3, a4, j, e1, e2, e3, e4⟩ := h
  have hj : j < 130 := by
    rcases Nat.lt_or_ge j 130 with h | h
    · exact h
    · exact absurd (e4.trans ((cospart_small a h0 h1 j).2.2 h)) hp
  omega
theorem cosP_step {a f p n : Int} (h0 : 0 ≤ a) (h1 : a ≤ 45000000) (h : cosP a f p n) (hp : p ≠ 0) : cosP a (f + p) (-(pdiv (fprod p (fprod (cosx a) (cosx a))) ((n + 1) * (n + 2)))) (n + 2) := by
  have hn := cosP_lt h0 h1 h hp
  obtain ⟨a1, a2, a3, a4, j, e1, e2, e3, e4⟩ := h
  have h9 := cospart_small a h0 h1 (j+1)
  have e5 : -(pdiv (fprod p (fprod (cosx a) (cosx a))) ((n + 1) * (n + 2))) = cospart (cosx a) (fprod (cosx a) (cosx a)) (j+1) := by rw [e4, e1]; rfl
  refine ⟨by omega, by omega, by rw [e5]; exact h9.1, by rw [e5]; exact h9.2.1, j+1, by omega, by omega, ?_, e5⟩
  rw [e3, e4]; rfl
theorem cosP_meas {a f p n : Int} (h0 : 0 ≤ a) (h1 : a ≤ 45000000) (h : cosP a f p n) (hp : p ≠ 0) : (265 - (n + 2)).toNat < (265 - n).toNat := by
  have hn := cosP_lt h0 h1 h hp
  omega
theorem cosP_end {a f p n : Int} (h : cosP a f p n) (hp : p = 0) : cosR a f := by
  obtain ⟨a1, a2, a3, a4, j, e1, e2, e3, e4⟩ := h
  exact ⟨j, e2, e3, by rw [← e4]; exact hp⟩
theorem cosn_small {n : Int} (h0 : 0 ≤ n) (h1 : n ≤ 265) : 0 < (n + 1) * (n + 2) ∧ (n + 1) * (n + 2) ≤ 100000 := by
  have e := Int.mul_le_mul (show n + 1 ≤ 266 by omega) (show n + 2 ≤ 267 by omega) (by omega) (by omega)
  have e2 := Int.mul_pos (show 0 < n + 1 by omega) (show 0 < n + 2 by omega)
  omega
theorem cos_tells (w : World) (loose mean mg mb) (a : Int) (ta : Tok) : PR w loose mean mg mb 96 3 (0 ≤ a ∧ a ≤ 45000000) [.int a ta] (fun r => cosR a r) := by
  k_with_none
  k_with "storeName" => (k_here; (dsimp only); (try k_gentoks))
  k_with "binaryOp Mult int int" => (k_here; with_reducible refine mul_int ?_ (mul_small (by first | decide | omega) (by first | decide | omega) (by first | decide | omega) (by first | decide | omega)))
  k_with "binaryOp Mult int int" => (k_here; k_dflt (refine' mul_int ?_ ?kok; (case kok => (((rename cosP _ _ _ _ => hP9); (have hQ9 := hP9); (obtain ⟨a91, a92, a93, a94, _⟩ := hQ9)); exact mul_small (by first | decide | omega) (by first | decide | omega) (by first | decide | omega) (by first | decide | omega)))))
  k_with "call ref" => (k_here; (with_reducible show wpAny _ _ (call (Value.ref 54) [Value.int _ _, Value.int _ _]) _ _ _); k_dflt (refine' PT.use (divided_tells _ _ _ _ _ _ _ _ _) ?kp ?k1 ?k2 ?k3 ?k4 ?k5 ?kK ?kd ?ku ?_; (case k1 => k_asm); (case k2 => k_asm); (case k3 => k_asm); (case k4 => k_asm); (case k5 => k_asm); (case kK => first | exact rfl | assumption); (case kd => first | exact room_in (by assumption) (by decide) | ktr_room); (case ku => first | exact units_in (by assumption) (by decide) | ktr_units); (case kp => first | decide | exact wide_in (by assumption) (by decide) | (first | omega | (((rename cosP _ _ _ _ => hP9); (have hQ9 := hP9); (obtain ⟨a91, a92, a93, a94, _⟩ := hQ9)); omega) | (((rename cosP _ _ _ _ => hP9); (have hQ9 := hP9); (obtain ⟨a91, a92, a93, a94, _⟩ := hQ9)); (refine sinn_small9 ?_ ?_ <;> omega))))); intro t9 h9 tk9 F9 N9; (try dsimp only); (try k_fold))
  k_with "call ref" => (k_here; (with_reducible show wpAny _ _ (call (Value.ref 75) [Value.int _ _, Value.int _ _]) _ _ _); k_dflt (refine' PT.use (product_tells _ _ _ _ _ _ _ _ _) ?kp ?k1 ?k2 ?k3 ?k4 ?k5 ?kK ?kd ?ku ?_; (case k1 => k_asm); (case k2 => k_asm); (case k3 => k_asm); (case k4 => k_asm); (case k5 => k_asm); (case kK => first | exact rfl | assumption); (case kd => first | exact room_in (by assumption) (by decide) | ktr_room); (case ku => first | exact units_in (by assumption) (by decide) | ktr_units); (case kp => first | decide | exact wide_in (by assumption) (by decide) | (first | omega | (((rename cosP _ _ _ _ => hP9); (have hQ9 := hP9); (obtain ⟨a91, a92, a93, a94, _⟩ := hQ9)); omega) | (((rename cosP _ _ _ _ => hP9); (have hQ9 := hP9); (obtain ⟨a91, a92, a93, a94, _⟩ := hQ9)); (refine sinn_small9 ?_ ?_ <;> omega))))); intro t9 h9 tk9 F9 N9; (try dsimp only); (try k_fold))
  unfold PR prg; k_fill
  intro dp un gd cn cs ad ccd cl outer A₀ base h₀ L m news s Q E B F X N T hk hpre hd hu hret
  have hx := cosx_small a hpre.1 hpre.2
  unfold cosx at hx
  k_with "exec While Compare cons nil" => k_while (fun _ f p n => cosP a f p n) (fun _ f p n => (265 - n).toNat) "found" "part" "count"
  k_with "state" => first | exact cosP_start a hpre.1 hpre.2 | exact cosP_step hpre.1 hpre.2 (by assumption) (by assumption)
  k_with "measure" => exact cosP_meas hpre.1 hpre.2 (by assumption) (by assumption)
  refine wpAny_call ?_
  k_dflt cell_enter
  k_steps
  all_goals (refine' ret_post (Q := Q) (s := s) hret ?e1 ?e2 ?e3; (case e2 => k_asm); (case e3 => first | k_asm | (refine' cb_drop ?cbN ?cbS; (case cbN => assumption); (case cbS => (intro p hp; repeat (first | exact hp | refine List.Mem.tail _ ?_))))); (case e1 => exact cosP_end (by assumption) (by assumption)))
noncomputable def lawP (a : Int) (f p n : Int) : Prop := 1 ≤ n ∧ n ≤ 265 ∧ 0 ≤ p ∧ p ≤ 10000000000000000000000000000000000000000000 ∧ ∃ j : Nat, n = 2 * (j : Int) + 1 ∧ j ≤ 130 ∧ f = ltot (lx a) (lsq a) j ∧ p = lpart (lx a) (lsq a) j

theorem lawP_start (a : Int) : lawP a 0 (lx a) 1 := by
  have h := lpart_small a 0
  exact ⟨by omega, by omega, h.1, h.2.1, 0, by omega, by omega, rfl, rfl⟩
theorem lawP_lt {a f p n : Int} (h : lawP a f p n) (hp : p ≠ 0) : n ≤ 259 := by
  obtain ⟨a1, a2, a3, a4, j, e1, e2, e3, e4⟩ := h
  have hj : j < 130 := by
    rcases Nat.lt_or_ge j 130 with h | h
    · exact h
    · exact absurd (e4.trans ((lpart_small a j).2.2 h)) hp
  omega
theorem lawP_step {a f p n : Int} (h : lawP a f p n) (hp : p > 0) : lawP a (if n.fmod 4 = 1 then f + p else f - p) (((p * lsq a).fdiv 10000000000000000000000000000000000000000).fdiv ((n + 1) * (n + 2))) (n + 2) := by
  have hn := lawP_lt h (by omega)
  obtain ⟨a1, a2, a3, a4, j, e1, e2, e3, e4⟩ := h
  have h9 := lpart_small a (j+1)
  have e5 : ((p * lsq a).fdiv 10000000000000000000000000000000000000000).fdiv ((n + 1) * (n + 2)) = lpart (lx a) (lsq a) (j+1) := by rw [e4, e1]; rfl
  refine ⟨by omega, by omega, by rw [e5]; exact h9.1, by rw [e5]; exact h9.2.1, j+1, by omega, by omega, ?_, e5⟩
  rw [e3, e4, e1]; rfl
theorem lawP_step1 {a f p n : Int} (h : lawP a f p n) (hp : p > 0) (hc : n.fmod 4 = 1) : lawP a (f + p) (((p * lsq a).fdiv 10000000000000000000000000000000000000000).fdiv ((n + 1) * (n + 2))) (n + 2) := by
  have := lawP_step h hp
  rw [if_pos hc] at this
  exact this
theorem lawP_step2 {a f p n : Int} (h : lawP a f p n) (hp : p > 0) (hc : n.fmod 4 ≠ 1) : lawP a (f - p) (((p * lsq a).fdiv 10000000000000000000000000000000000000000).fdiv ((n + 1) * (n + 2))) (n + 2) := by
  have := lawP_step h hp
  rw [if_neg hc] at this
  exact this
theorem lawP_meas {a f p n : Int} (h : lawP a f p n) (hp : p > 0) : (265 - (n + 2)).toNat < (265 - n).toNat := by
  have hn := lawP_lt h (by omega)
  omega
theorem lawP_end {a f p n : Int} (h : lawP a f p n) (hp : ¬ p > 0) : lawR a f := by
  obtain ⟨a1, a2, a3, a4, j, e1, e2, e3, e4⟩ := h
  exact ⟨j, e2, e3, by rw [← e4]; omega⟩
theorem lawP_end' {a f p n : Int} (h : lawP a f p n) (hp : p ≤ 0) : lawR a f := lawP_end h (by omega)
theorem lawsine_tells (w : World) (loose mean mg mb) (a : Int) (ta : Tok) : PR w loose mean mg mb 145 3 (-1000000000000000000000000000000000000000000000000000000000000000000000000000000000000000000000000000000000000000000000000000000000000000000000000000000 ≤ a ∧ a ≤ 1000000000000000000000000000000000000000000000000000000000000000000000000000000000000000000000000000000000000000000000000000000000000000000000000000000) [.int a ta] (fun r => lawR a r) := by
  k_with_none
  k_with "storeName" => (k_here; (dsimp only); (try k_gentoks))
  k_with "binaryOp Pow int int" => (k_here; (with_reducible show wpAny _ _ (binaryOp Operator.Pow (Value.int 10 _) (Value.int 40 _)) _ _ _); refine pow_lit (by decide +kernel : (10:Int) ^ Int.toNat 40 = 10000000000000000000000000000000000000000) (by decide) (by decide) (by decide) ?_)
  k_with "binaryOp Mult int int" => (k_here; with_reducible refine mul_int ?_ (mul_small (by first | decide | omega) (by first | decide | omega) (by first | decide | omega) (by first | decide | omega)))
  k_with "binaryOp Mult int int" => (k_here; k_dflt (refine' mul_int ?_ ?kok; (case kok => (((rename lawP _ _ _ _ => hP9); (have hQ9 := hP9); (obtain ⟨a91, a92, a93, a94, _⟩ := hQ9)); exact mul_small (by first | decide | omega) (by first | decide | omega) (by first | decide | omega) (by first | decide | omega)))))
  k_with "binaryOp FloorDiv int int" => (k_here; refine floordiv_int ?kbe ?_ (Or.inl (PyProof.noPylong_of_log2 (log_small ?kb1 ?kb2))); (case kbe => first | decide | assumption | omega); (case kb1 => first | decide | assumption | omega); (case kb2 => first | decide | assumption | omega))
  k_with "binaryOp FloorDiv int int" => (k_here; k_dflt (refine' floordiv_int2 ?kbe ?_; (case kbe => (((rename lawP _ _ _ _ => hP9); (have hQ9 := hP9); (obtain ⟨a91, a92, a93, a94, _⟩ := hQ9)); (refine sinn_small9 ?_ ?_ <;> omega)))))
  k_with "execs cons" => (k_here; (with_reducible show wpAny _ _ (execs (Stmt.Assign [Expr.Name (Str.ofString "total") _] _ _ :: _) _) _ _ _); k_dflt (refine' tot_join ?F ?N ?_ ?_; (case F => assumption); (case N => assumption)); rotate_left; (intro h9 tk9 c9 t9 p9 F9 N9); k_dflt (have hT9 := p9 _ _ _ _ _ _ rfl rfl rfl; subst hT9); rotate_right; (all_goals try dsimp only); (all_goals try k_fold))
  k_with "oneMid" => (k_dflt (refine' ⟨_, _, _, _, rfl, ?P, ?F, ?N⟩; (case F => first | assumption | exact fr_put (by assumption) rfl (by intro y hy; simp only [if_neg hy])); (case P => first | exact totP_1 rfl rfl rfl (by assumption) | exact totP_2 rfl rfl rfl (by assumption)); (case N => first | assumption | (refine' cb_drop ?cbN ?cbS; (case cbN => assumption); (case cbS => (intro p hp; repeat (first | exact hp | refine List.Mem.tail _ ?_)))))))
  k_with "call ref" => (k_here; (with_reducible show wpAny _ _ (call (Value.ref 138) _) _ _ _); refine wpAny_call ?_; k_dflt (refine' code_def ?k1 ?k2 ?k3 ?k4 ?k5 ?kA ?kF ?kK ?k6 ?k7 ?k8 ?k9 ?kB ?_ ?c2 ?c3 ?c4 ?c5; (case kA => exact rfl); (case kF => exact rfl); (case kK => first | exact rfl | assumption); (case k1 => k_asm); (case k2 => k_asm); (case k3 => k_asm); (case k4 => k_asm); (case k5 => k_asm); (case k6 => k_is); (case k7 => k_is); (case k8 => ktr_room); (case k9 => exact BindsTo.of_eq rfl); (case c5 => decide); (case kB => exact locs rfl); (case c2 => exact rfl); (case c3 => exact rfl); (case c4 => exact rfl)); intro g8 L8 h8 FG8 F8 N8 B8 X8 T8; (try dsimp only); (try k_lift B8); (try k_fold))
  unfold PR prg; k_fill
  intro dp un gd cn cs ad ccd cl outer A₀ base h₀ L m news s Q E B F X N T hk hpre hd hu hret
  have hx := lx_small a
  unfold lsq lx at hx
  k_with "exec While Compare cons nil" => k_while (fun _ f p n => lawP a f p n) (fun _ f p n => (265 - n).toNat) "total" "part" "k"
  k_with "state" => first | exact lawP_start a | exact lawP_step (by assumption) (by assumption) | exact lawP_step1 (by assumption) (by assumption) (by assumption) | exact lawP_step2 (by assumption) (by assumption) (by assumption)
  k_with "measure" => exact lawP_meas (by assumption) (by assumption)
  refine wpAny_call ?_
  k_dflt cell_enter
  k_steps
  all_goals (refine' ret_post (Q := Q) (s := s) hret ?e1 ?e2 ?e3; (case e2 => k_asm); (case e3 => first | k_asm | (refine' cb_drop ?cbN ?cbS; (case cbN => assumption); (case cbS => (intro p hp; repeat (first | exact hp | refine List.Mem.tail _ ?_))))); (case e1 => first | exact lawP_end (by assumption) (by assumption) | exact lawP_end' (by assumption) (by assumption)))
noncomputable def wrP (n f : Int) : Prop := 1 ≤ f ∧ f ≤ 1000000000000000000000000000000000000000000000000000000000000000000000000000000000000000000000000000000000000000000000000000000000000000000000000000000 ∧ n < (f + 1) * (f + 1) ∧ 2 ≤ n
theorem wr_pow {k : Nat} {n : Int} (h0 : 0 ≤ n) (hk : Builtin.Int.intBits n ≤ 2 * k) : n < 2 ^ k * 2 ^ k := by
  have h1 := natAbs_lt_pow_bits n
  have h2 : (2:Nat) ^ Builtin.Int.intBits n ≤ 2 ^ (2 * k) := Nat.pow_le_pow_right (by decide) hk
  have h3 : (2:Nat) ^ (2 * k) = 2 ^ k * 2 ^ k := by rw [← Nat.pow_add]; congr 1; omega
  have h4 : n.natAbs < 2 ^ k * 2 ^ k := by omega
  have h5 : ((n.natAbs : Nat) : Int) < ((2 ^ k * 2 ^ k : Nat) : Int) := by exact_mod_cast h4
  rw [Int.natCast_mul, Int.natCast_pow] at h5
  have h6 : ((n.natAbs : Nat) : Int) = n := by omega
  rw [h6] at h5
  exact h5
theorem wr_start {n : Int} (h0 : 2 ≤ n) (h1 : n ≤ 1000000000000000000000000000000000000000000000000000000000000000000000000000000000000000000000000000000000000000000000000000000000000000000000000000000) : wrP n (1 * 2 ^ ((((Builtin.Int.intBits n : Nat) : Int) + 1).fdiv 2).toNat) := by
  have hb := Builtin.Int.intBits n
  have hb2 : Builtin.Int.intBits n ≤ 500 := by
    refine intBits_le ?_
    have e : (2:Nat) ^ 500 > 1000000000000000000000000000000000000000000000000000000000000000000000000000000000000000000000000000000000000000000000000000000000000000000000000000000 := by decide +kernel
    omega
  have ee : ((((Builtin.Int.intBits n : Nat) : Int) + 1).fdiv 2).toNat = (Builtin.Int.intBits n + 1) / 2 := by
    rw [Int.fdiv_eq_ediv_of_nonneg _ (by omega)]
    omega
  rw [ee, Int.one_mul]
  generalize hk : (Builtin.Int.intBits n + 1) / 2 = k
  have h3 := wr_pow (k := k) (n := n) (by omega) (by omega)
  have h4 : (0:Int) < 2 ^ k := Int.pow_pos (by decide)
  have h5 : (2:Nat) ^ k ≤ 2 ^ 250 := Nat.pow_le_pow_right (by decide) (by omega)
  have h6 : ((2 ^ k : Nat) : Int) ≤ ((2 ^ 250 : Nat) : Int) := by exact_mod_cast h5
  rw [Int.natCast_pow] at h6
  have h6' : (2:Int) ^ k ≤ ((2 ^ 250 : Nat) : Int) := h6
  have h7 : ((2 ^ 250 : Nat) : Int) ≤ 1000000000000000000000000000000000000000000000000000000000000000000000000000000000000000000000000000000000000000000000000000000000000000000000000000000 := by decide +kernel
  generalize (2:Int) ^ k = x at *
  refine ⟨by omega, by omega, ?_, h0⟩
  have : (x + 1) * (x + 1) = x * x + 2 * x + 1 := by grind
  omega
theorem wr_shift {n : Int} (h : 0 ≤ n ∧ n ≤ 1000000000000000000000000000000000000000000000000000000000000000000000000000000000000000000000000000000000000000000000000000000000000000000000000000000) : 0 ≤ (((Builtin.Int.intBits n : Nat) : Int) + 1).fdiv 2 ∧ ((Builtin.Int.intBits 1 : Nat) : Int) + (((Builtin.Int.intBits n : Nat) : Int) + 1).fdiv 2 ≤ 2 ^ 27 := by
  have hb2 : Builtin.Int.intBits n ≤ 500 := by
    refine intBits_le ?_
    have e : (2:Nat) ^ 500 > 1000000000000000000000000000000000000000000000000000000000000000000000000000000000000000000000000000000000000000000000000000000000000000000000000000000 := by decide +kernel
    omega
  have e1 : Builtin.Int.intBits 1 ≤ 1 := by decide +kernel
  have e2 : (2:Int) ^ 27 = 134217728 := by decide
  rw [Int.fdiv_eq_ediv_of_nonneg _ (by omega), e2]
  omega
theorem wr_q {n f : Int} (hf : 1 ≤ f) : n.fdiv f * f ≤ n ∧ n < (n.fdiv f + 1) * f := by
  rw [Int.fdiv_eq_ediv_of_nonneg _ (by omega)]
  have h1 := Int.mul_ediv_add_emod n f
  have h2 := Int.emod_nonneg n (show f ≠ 0 by omega)
  have h3 := Int.emod_lt_of_pos n (show 0 < f by omega)
  have h4 : (n / f + 1) * f = f * (n / f) + f := by grind
  have h5 : n / f * f = f * (n / f) := by grind
  omega
theorem wr_end {n f : Int} (h : wrP n f) (hb : f ≤ (f + n.fdiv f).fdiv 2) : 0 ≤ f ∧ f * f ≤ n ∧ n < (f + 1) * (f + 1) := by
  obtain ⟨h1, h2, h3, h4⟩ := h
  have hq := wr_q (n := n) h1
  refine ⟨by omega, ?_, h3⟩
  rw [Int.fdiv_eq_ediv_of_nonneg _ (by omega)] at hb
  have h5 : f ≤ n.fdiv f := by omega
  have h6 := Int.mul_le_mul_of_nonneg_right h5 (show 0 ≤ f by omega)
  omega
theorem wr_step {n f : Int} (h : wrP n f) (hb : (f + n.fdiv f).fdiv 2 < f) : wrP n ((f + n.fdiv f).fdiv 2) := by
  obtain ⟨h1, h2, h3, h4⟩ := h
  have hq := wr_q (n := n) h1
  rw [Int.fdiv_eq_ediv_of_nonneg _ (by omega)] at hb ⊢
  have hq0 : 0 ≤ n.fdiv f := by
    rw [Int.fdiv_eq_ediv_of_nonneg _ (by omega)]
    exact Int.ediv_nonneg (by omega) (by omega)
  generalize n.fdiv f = q at *
  generalize hbb : (f + q) / 2 = b at *
  have hb1 : f + q ≤ 2 * b + 1 := by omega
  have hb0 : 1 ≤ b := by
    rcases Int.lt_or_le b 1 with hl | hl
    · have : f = 1 := by omega
      have : q = 0 := by omega
      subst f; subst q
      omega
    · exact hl
  refine ⟨hb0, by omega, ?_, h4⟩
  have k1 : 0 ≤ (f - (q + 1)) * (f - (q + 1)) := by
    rcases Int.le_total 0 (f - (q + 1)) with h | h
    · exact Int.mul_nonneg h h
    · exact Int.mul_nonneg_of_nonpos_of_nonpos h h
  have k2 : (f - (q+1)) * (f - (q+1)) + 4 * ((q + 1) * f) = (f + q + 1) * (f + q + 1) := by grind
  have k3 := Int.mul_le_mul (show f + q + 1 ≤ 2 * b + 2 by omega) (show f + q + 1 ≤ 2 * b + 2 by omega) (by omega) (by omega)
  have k4 : (2 * b + 2) * (2 * b + 2) = 4 * ((b + 1) * (b + 1)) := by grind
  omega
theorem wr_meas {n f : Int} (h : wrP n f) (hb : (f + n.fdiv f).fdiv 2 < f) : ((f + n.fdiv f).fdiv 2).toNat < f.toNat := by
  have h2 := (wr_step h hb).1
  omega
theorem wr_small {n : Int} (h0 : 0 ≤ n) (h : n < 2) : 0 ≤ n ∧ n * n ≤ n ∧ n < (n + 1) * (n + 1) := by
  rcases (show n = 0 ∨ n = 1 by omega) with h | h <;> subst h <;> decide
theorem wroot_tells (w : World) (loose mean mg mb) (a : Int) (ta : Tok) : PR w loose mean mg mb 61 1 (0 ≤ a ∧ a ≤ 1000000000000000000000000000000000000000000000000000000000000000000000000000000000000000000000000000000000000000000000000000000000000000000000000000000) [.int a ta] (fun r => wrR a r) := by
  k_with_none
  k_with "storeName" => (k_here; (dsimp only); (try k_gentoks))
  k_with "binaryOp LShift int int" => (k_here; refine lshift_int ?kla ?klb ?_; (case kla => exact (wr_shift (by omega)).1); (case klb => exact (wr_shift (by omega)).2))
  k_with "binaryOp Mult int int" => (k_here; with_reducible refine mul_int ?_ (mul_small (by first | decide | omega) (by first | decide | omega) (by first | decide | omega) (by first | decide | omega)))
  k_with "binaryOp FloorDiv int int" => (k_here; refine floordiv_int ?kbe ?_ (Or.inl (PyProof.noPylong_of_log2 (log_small ?kb1 ?kb2))); (case kbe => first | decide | assumption | omega); (case kb1 => first | decide | assumption | omega); (case kb2 => first | decide | assumption | omega))
  k_with "binaryOp FloorDiv int int" => (k_here; k_dflt (refine' floordiv_int2 ?kbe ?_; (case kbe => ((rename wrP _ _  => hP9); (have hQ9 := hP9); (obtain ⟨a91, a92, _⟩ := hQ9); (first | decide | assumption | omega)))))
  unfold PR prg; k_fill
  intro dp un gd cn cs ad ccd cl outer A₀ base h₀ L m news s Q E B F X N T hk hpre hd hu hret
  k_with "exec While Constant" => k_while (fun _ f => wrP a f) (fun _ f => f.toNat) "found"
  k_with "exec While Constant cons nil" => k_while (fun _ f => wrP a f) (fun _ f => f.toNat) "found"
  k_with "exec While" => k_while (fun _ f => wrP a f) (fun _ f => f.toNat) "found"
  k_with "state" => first | exact wr_start (by omega) hpre.2 | exact wr_step (by assumption) (by omega)
  k_with "measure" => exact wr_meas (by assumption) (by omega)
  refine wpAny_call ?_
  k_dflt cell_enter
  k_steps
  all_goals (refine' ret_post (Q := Q) (s := s) hret ?e1 ?e2 ?e3; (case e2 => k_asm); (case e3 => first | k_asm | (refine' cb_drop ?cbN ?cbS; (case cbN => assumption); (case cbS => (intro p hp; repeat (first | exact hp | refine List.Mem.tail _ ?_))))); (case e1 => first | exact wr_small hpre.1 (by omega) | exact wr_end (by assumption) (by omega)))
theorem fmod_in (a : Int) : 0 ≤ a.fmod 360000000 ∧ a.fmod 360000000 < 360000000 ∧ 0 ≤ (a.fmod 360000000).fmod 180000000 ∧ (a.fmod 360000000).fmod 180000000 < 180000000 := by
  rw [Int.fmod_eq_emod_of_nonneg _ (by decide), Int.fmod_eq_emod_of_nonneg _ (by decide)]
  omega
theorem sineR_mk000 {a f : Int} (h1 : 90000000 < (a.fmod 360000000).fmod 180000000) (h2 : 90000000 < 2 * (180000000 - (a.fmod 360000000).fmod 180000000)) (hf : cosR (90000000 - (180000000 - (a.fmod 360000000).fmod 180000000)) f) (h3 : 180000000 ≤ a.fmod 360000000) : sineR a (-(pdiv (f * 1000000) 1000000000000000000000000000000000000)) :=
  ⟨_, f, _, Or.inl ⟨h1, rfl⟩, Or.inl ⟨h2, hf⟩, Or.inl ⟨h3, rfl⟩, rfl⟩
theorem sineR_mk001 {a f : Int} (h1 : 90000000 < (a.fmod 360000000).fmod 180000000) (h2 : 90000000 < 2 * (180000000 - (a.fmod 360000000).fmod 180000000)) (hf : cosR (90000000 - (180000000 - (a.fmod 360000000).fmod 180000000)) f) (h3 : ¬ 180000000 ≤ a.fmod 360000000) : sineR a ((pdiv (f * 1000000) 1000000000000000000000000000000000000)) :=
  ⟨_, f, _, Or.inl ⟨h1, rfl⟩, Or.inl ⟨h2, hf⟩, Or.inr ⟨h3, rfl⟩, rfl⟩
theorem sineR_mk010 {a f : Int} (h1 : 90000000 < (a.fmod 360000000).fmod 180000000) (h2 : ¬ 90000000 < 2 * (180000000 - (a.fmod 360000000).fmod 180000000)) (hf : sinR (180000000 - (a.fmod 360000000).fmod 180000000) f) (h3 : 180000000 ≤ a.fmod 360000000) : sineR a (-(pdiv (f * 1000000) 1000000000000000000000000000000000000)) :=
  ⟨_, f, _, Or.inl ⟨h1, rfl⟩, Or.inr ⟨h2, hf⟩, Or.inl ⟨h3, rfl⟩, rfl⟩
theorem sineR_mk011 {a f : Int} (h1 : 90000000 < (a.fmod 360000000).fmod 180000000) (h2 : ¬ 90000000 < 2 * (180000000 - (a.fmod 360000000).fmod 180000000)) (hf : sinR (180000000 - (a.fmod 360000000).fmod 180000000) f) (h3 : ¬ 180000000 ≤ a.fmod 360000000) : sineR a ((pdiv (f * 1000000) 1000000000000000000000000000000000000)) :=
  ⟨_, f, _, Or.inl ⟨h1, rfl⟩, Or.inr ⟨h2, hf⟩, Or.inr ⟨h3, rfl⟩, rfl⟩
theorem sineR_mk100 {a f : Int} (h1 : ¬ 90000000 < (a.fmod 360000000).fmod 180000000) (h2 : 90000000 < 2 * ((a.fmod 360000000).fmod 180000000)) (hf : cosR (90000000 - ((a.fmod 360000000).fmod 180000000)) f) (h3 : 180000000 ≤ a.fmod 360000000) : sineR a (-(pdiv (f * 1000000) 1000000000000000000000000000000000000)) :=
  ⟨_, f, _, Or.inr ⟨h1, rfl⟩, Or.inl ⟨h2, hf⟩, Or.inl ⟨h3, rfl⟩, rfl⟩
theorem sineR_mk101 {a f : Int} (h1 : ¬ 90000000 < (a.fmod 360000000).fmod 180000000) (h2 : 90000000 < 2 * ((a.fmod 360000000).fmod 180000000)) (hf : cosR (90000000 - ((a.fmod 360000000).fmod 180000000)) f) (h3 : ¬ 180000000 ≤ a.fmod 360000000) : sineR a ((pdiv (f * 1000000) 1000000000000000000000000000000000000)) :=
  ⟨_, f, _, Or.inr ⟨h1, rfl⟩, Or.inl ⟨h2, hf⟩, Or.inr ⟨h3, rfl⟩, rfl⟩
theorem sineR_mk110 {a f : Int} (h1 : ¬ 90000000 < (a.fmod 360000000).fmod 180000000) (h2 : ¬ 90000000 < 2 * ((a.fmod 360000000).fmod 180000000)) (hf : sinR ((a.fmod 360000000).fmod 180000000) f) (h3 : 180000000 ≤ a.fmod 360000000) : sineR a (-(pdiv (f * 1000000) 1000000000000000000000000000000000000)) :=
  ⟨_, f, _, Or.inr ⟨h1, rfl⟩, Or.inr ⟨h2, hf⟩, Or.inl ⟨h3, rfl⟩, rfl⟩
theorem sineR_mk111 {a f : Int} (h1 : ¬ 90000000 < (a.fmod 360000000).fmod 180000000) (h2 : ¬ 90000000 < 2 * ((a.fmod 360000000).fmod 180000000)) (hf : sinR ((a.fmod 360000000).fmod 180000000) f) (h3 : ¬ 180000000 ≤ a.fmod 360000000) : sineR a ((pdiv (f * 1000000) 1000000000000000000000000000000000000)) :=
  ⟨_, f, _, Or.inr ⟨h1, rfl⟩, Or.inr ⟨h2, hf⟩, Or.inr ⟨h3, rfl⟩, rfl⟩
theorem sine_tells (w : World) (loose mean mg mb) (a : Int) (ta : Tok) : PR w loose mean mg mb 103 4 (-1000000000000000000000000000000000000000000000000000000000000000000000000000000000000000000000000000000000000000000000000000000000000000000000000000000 ≤ a ∧ a ≤ 1000000000000000000000000000000000000000000000000000000000000000000000000000000000000000000000000000000000000000000000000000000000000000000000000000000) [.int a ta] (fun r => sineR a r) := by
  k_with_none
  k_with "storeName" => (k_here; (dsimp only); (try k_gentoks))
  k_with "binaryOp Mult int int" => (k_here; with_reducible refine mul_int ?_ (mul_small (by first | decide | omega) (by first | decide | omega) (by first | decide | omega) (by first | decide | omega)))
  k_with "binaryOp FloorDiv int int" => (k_here; refine floordiv_int ?kbe ?_ (Or.inl (PyProof.noPylong_of_log2 (log_small ?kb1 ?kb2))); (case kbe => first | decide | assumption | omega); (case kb1 => first | decide | assumption | omega); (case kb2 => first | decide | assumption | omega))
  k_with "binaryOp Mod int int" => (k_here; refine mod_int' ?kbe ?_; (case kbe => first | decide | assumption | omega))
  k_with "call ref" => (k_here; (with_reducible show wpAny _ _ (call (Value.ref 54) [Value.int _ _, Value.int _ _]) _ _ _); k_dflt (refine' PT.use (divided_tells _ _ _ _ _ _ _ _ _) ?kp ?k1 ?k2 ?k3 ?k4 ?k5 ?kK ?kd ?ku ?_; (case k1 => k_asm); (case k2 => k_asm); (case k3 => k_asm); (case k4 => k_asm); (case k5 => k_asm); (case kK => first | exact rfl | assumption); (case kd => first | exact room_in (by assumption) (by decide) | ktr_room); (case ku => first | exact units_in (by assumption) (by decide) | ktr_units); (case kp => first | decide | exact wide_in (by assumption) (by decide) | (omega))); intro t9 h9 tk9 F9 N9; (try dsimp only); (try k_fold))
  k_with "call ref" => (k_here; (with_reducible show wpAny _ _ (call (Value.ref 89) [Value.int _ _]) _ _ _); k_dflt (refine' PR.use (sin_tells _ _ _ _ _ _ _) ?kp ?k1 ?k2 ?k3 ?k4 ?k5 ?kK ?kd ?ku ?_; (case k1 => k_asm); (case k2 => k_asm); (case k3 => k_asm); (case k4 => k_asm); (case k5 => k_asm); (case kK => first | exact rfl | assumption); (case kd => first | exact room_in (by assumption) (by decide) | ktr_room); (case ku => first | exact units_in (by assumption) (by decide) | ktr_units); (case kp => first | decide | exact wide_in (by assumption) (by decide) | (omega))); intro r9 t9 h9 tk9 hr9 F9 N9; (try dsimp only); (try k_fold))
  k_with "call ref" => (k_here; (with_reducible show wpAny _ _ (call (Value.ref 96) [Value.int _ _]) _ _ _); k_dflt (refine' PR.use (cos_tells _ _ _ _ _ _ _) ?kp ?k1 ?k2 ?k3 ?k4 ?k5 ?kK ?kd ?ku ?_; (case k1 => k_asm); (case k2 => k_asm); (case k3 => k_asm); (case k4 => k_asm); (case k5 => k_asm); (case kK => first | exact rfl | assumption); (case kd => first | exact room_in (by assumption) (by decide) | ktr_room); (case ku => first | exact units_in (by assumption) (by decide) | ktr_units); (case kp => first | decide | exact wide_in (by assumption) (by decide) | (omega))); intro r9 t9 h9 tk9 hr9 F9 N9; (try dsimp only); (try k_fold))
  unfold PR prg; k_fill
  intro dp un gd cn cs ad ccd cl outer A₀ base h₀ L m news s Q E B F X N T hk hpre hd hu hret
  have hx := fmod_in a
  refine wpAny_call ?_
  k_dflt cell_enter
  k_steps
  all_goals (refine' ret_post (Q := Q) (s := s) hret ?e1 ?e2 ?e3; (case e2 => k_asm); (case e3 => first | k_asm | (refine' cb_drop ?cbN ?cbS; (case cbN => assumption); (case cbS => (intro p hp; repeat (first | exact hp | refine List.Mem.tail _ ?_))))); (case e1 => first | exact sineR_mk000 (by omega) (by omega) (by assumption) (by omega) | exact sineR_mk001 (by omega) (by omega) (by assumption) (by omega) | exact sineR_mk010 (by omega) (by omega) (by assumption) (by omega) | exact sineR_mk011 (by omega) (by omega) (by assumption) (by omega) | exact sineR_mk100 (by omega) (by omega) (by assumption) (by omega) | exact sineR_mk101 (by omega) (by omega) (by assumption) (by omega) | exact sineR_mk110 (by omega) (by omega) (by assumption) (by omega) | exact sineR_mk111 (by omega) (by omega) (by assumption) (by omega)))
theorem cosine_tells (w : World) (loose mean mg mb) (a : Int) (ta : Tok) : PR w loose mean mg mb 110 5 (-1000000000000000000000000000000000000 ≤ a ∧ a ≤ 1000000000000000000000000000000000000) [.int a ta] (fun r => sineR (a + 90000000) r) := by
  k_with_none
  k_with "storeName" => (k_here; (dsimp only); (try k_gentoks))
  k_with "binaryOp Mult int int" => (k_here; with_reducible refine mul_int ?_ (mul_small (by first | decide | omega) (by first | decide | omega) (by first | decide | omega) (by first | decide | omega)))
  k_with "binaryOp FloorDiv int int" => (k_here; refine floordiv_int ?kbe ?_ (Or.inl (PyProof.noPylong_of_log2 (log_small ?kb1 ?kb2))); (case kbe => first | decide | assumption | omega); (case kb1 => first | decide | assumption | omega); (case kb2 => first | decide | assumption | omega))
  k_with "binaryOp Mod int int" => (k_here; refine mod_int' ?kbe ?_; (case kbe => first | decide | assumption | omega))
  k_with "call ref" => (k_here; (with_reducible show wpAny _ _ (call (Value.ref 54) [Value.int _ _, Value.int _ _]) _ _ _); k_dflt (refine' PT.use (divided_tells _ _ _ _ _ _ _ _ _) ?kp ?k1 ?k2 ?k3 ?k4 ?k5 ?kK ?kd ?ku ?_; (case k1 => k_asm); (case k2 => k_asm); (case k3 => k_asm); (case k4 => k_asm); (case k5 => k_asm); (case kK => first | exact rfl | assumption); (case kd => first | exact room_in (by assumption) (by decide) | ktr_room); (case ku => first | exact units_in (by assumption) (by decide) | ktr_units); (case kp => first | decide | exact wide_in (by assumption) (by decide) | (omega))); intro t9 h9 tk9 F9 N9; (try dsimp only); (try k_fold))
  k_with "call ref" => (k_here; (with_reducible show wpAny _ _ (call (Value.ref 89) [Value.int _ _]) _ _ _); k_dflt (refine' PR.use (sin_tells _ _ _ _ _ _ _) ?kp ?k1 ?k2 ?k3 ?k4 ?k5 ?kK ?kd ?ku ?_; (case k1 => k_asm); (case k2 => k_asm); (case k3 => k_asm); (case k4 => k_asm); (case k5 => k_asm); (case kK => first | exact rfl | assumption); (case kd => first | exact room_in (by assumption) (by decide) | ktr_room); (case ku => first | exact units_in (by assumption) (by decide) | ktr_units); (case kp => first | decide | exact wide_in (by assumption) (by decide) | (omega))); intro r9 t9 h9 tk9 hr9 F9 N9; (try dsimp only); (try k_fold))
  k_with "call ref" => (k_here; (with_reducible show wpAny _ _ (call (Value.ref 96) [Value.int _ _]) _ _ _); k_dflt (refine' PR.use (cos_tells _ _ _ _ _ _ _) ?kp ?k1 ?k2 ?k3 ?k4 ?k5 ?kK ?kd ?ku ?_; (case k1 => k_asm); (case k2 => k_asm); (case k3 => k_asm); (case k4 => k_asm); (case k5 => k_asm); (case kK => first | exact rfl | assumption); (case kd => first | exact room_in (by assumption) (by decide) | ktr_room); (case ku => first | exact units_in (by assumption) (by decide) | ktr_units); (case kp => first | decide | exact wide_in (by assumption) (by decide) | (omega))); intro r9 t9 h9 tk9 hr9 F9 N9; (try dsimp only); (try k_fold))
  k_with "call ref" => (k_here; (with_reducible show wpAny _ _ (call (Value.ref 103) [Value.int _ _]) _ _ _); k_dflt (refine' PR.use (sine_tells _ _ _ _ _ _ _) ?kp ?k1 ?k2 ?k3 ?k4 ?k5 ?kK ?kd ?ku ?_; (case k1 => k_asm); (case k2 => k_asm); (case k3 => k_asm); (case k4 => k_asm); (case k5 => k_asm); (case kK => first | exact rfl | assumption); (case kd => first | exact room_in (by assumption) (by decide) | ktr_room); (case ku => first | exact units_in (by assumption) (by decide) | ktr_units); (case kp => first | decide | exact wide_in (by assumption) (by decide) | (omega))); intro r9 t9 h9 tk9 hr9 F9 N9; (try dsimp only); (try k_fold))
  unfold PR prg; k_fill
  intro dp un gd cn cs ad ccd cl outer A₀ base h₀ L m news s Q E B F X N T hk hpre hd hu hret
  refine wpAny_call ?_
  k_dflt cell_enter
  k_steps
  all_goals (refine' ret_post (Q := Q) (s := s) hret ?e1 ?e2 ?e3; (case e2 => k_asm); (case e3 => first | k_asm | (refine' cb_drop ?cbN ?cbS; (case cbN => assumption); (case cbS => (intro p hp; repeat (first | exact hp | refine List.Mem.tail _ ?_))))); (case e1 => assumption))
theorem arc_tells (w : World) (loose mean mg mb) (a : Int) (ta : Tok) (b : Int) (tb : Tok) : PR w loose mean mg mb 117 5 (0 ≤ a ∧ a ≤ b ∧ 0 < b ∧ b ≤ 100000000000000000000) [.int a ta, .int b tb] (fun r => arcR a b r) := by
  k_with_none
  k_with "storeName" => (k_here; (dsimp only); (try k_gentoks))
  k_with "UnrEnd" => (k_here; k_dflt (refine unr_end (by assumption) (by assumption) (by assumption) ?_))
  k_with "binaryOp Mult int int" => (k_here; with_reducible refine mul_int ?_ (mul_small (by first | decide | omega) (by first | decide | omega) (by first | decide | omega) (by first | decide | omega)))
  k_with "call ref" => (k_here; (with_reducible show wpAny _ _ (call (Value.ref 54) [Value.int _ _, Value.int _ _]) _ _ _); k_dflt (refine' PT.use (divided_tells _ _ _ _ _ _ _ _ _) ?kp ?k1 ?k2 ?k3 ?k4 ?k5 ?kK ?kd ?ku ?_; (case k1 => k_asm); (case k2 => k_asm); (case k3 => k_asm); (case k4 => k_asm); (case k5 => k_asm); (case kK => first | exact rfl | assumption); (case kd => first | exact room_in (by assumption) (by decide) | ktr_room); (case ku => first | exact units_in (by assumption) (by decide) | ktr_units); (case kp => first | decide | exact wide_in (by assumption) (by decide) | (omega))); intro t9 h9 tk9 F9 N9; (try dsimp only); (try k_fold))
  k_with "call ref" => (k_here; (with_reducible show wpAny _ _ (call (Value.ref 61) [Value.int _ _]) _ _ _); k_dflt (refine' PR.use (wroot_tells _ _ _ _ _ _ _) ?kp ?k1 ?k2 ?k3 ?k4 ?k5 ?kK ?kd ?ku ?_; (case k1 => k_asm); (case k2 => k_asm); (case k3 => k_asm); (case k4 => k_asm); (case k5 => k_asm); (case kK => first | exact rfl | assumption); (case kd => first | exact room_in (by assumption) (by decide) | ktr_room); (case ku => first | exact units_in (by assumption) (by decide) | ktr_units); (case kp => first | decide | exact wide_in (by assumption) (by decide) | (omega))); intro r9 t9 h9 tk9 hr9 F9 N9; (have hA9 := arc_w hr9 (by omega) (by omega)); (try dsimp only); (try k_fold))
  k_with "call ref" => (k_here; (with_reducible show wpAny _ _ (call (Value.ref 82) [Value.int _ _, Value.bool true]) _ _ _); k_dflt (refine' PR.use (odd_tells _ _ _ _ _ _ _) ?kp ?k1 ?k2 ?k3 ?k4 ?k5 ?kK ?kd ?ku ?_; (case k1 => k_asm); (case k2 => k_asm); (case k3 => k_asm); (case k4 => k_asm); (case k5 => k_asm); (case kK => first | exact rfl | assumption); (case kd => first | exact room_in (by assumption) (by decide) | ktr_room); (case ku => first | exact units_in (by assumption) (by decide) | ktr_units); (case kp => first | decide | exact wide_in (by assumption) (by decide) | (omega))); intro r9 t9 h9 tk9 hr9 F9 N9; (try dsimp only); (try k_fold))
  unfold PR prg; k_fill
  intro dp un gd cn cs ad ccd cl outer A₀ base h₀ L m news s Q E B F X N T hk hpre hd hu hret
  have hx := arc_first hpre.1 hpre.2.1 hpre.2.2.1
  refine wpAny_call ?_
  k_dflt cell_enter
  k_steps
  all_goals (refine' ret_post (Q := Q) (s := s) hret ?e1 ?e2 ?e3; (case e2 => k_asm); (case e3 => first | k_asm | (refine' cb_drop ?cbN ?cbS; (case cbN => assumption); (case cbS => (intro p hp; repeat (first | exact hp | refine List.Mem.tail _ ?_))))); (case e1 => exact ⟨_, _, _, by assumption, by assumption, by assumption, rfl⟩))
theorem abs_p {prog : Program} {w : World} {A : Around} {E : Value → Shared → Prop} {s : Shared} {a : Int} {t : Tok} {Q : Value → Shared → Prop} (ha : 0 ≤ a) (h : ∀ u tk, Q (.int a u) { s with toks := tk }) : wpAny (model prog w) A (call (.builtin "abs") [.int a t]) Q E s :=
  call_abs_int (by rw [if_neg (by omega)]; exact h)
theorem abs_n {prog : Program} {w : World} {A : Around} {E : Value → Shared → Prop} {s : Shared} {a : Int} {t : Tok} {Q : Value → Shared → Prop} (ha : a < 0) (h : ∀ u tk, Q (.int (-a) u) { s with toks := tk }) : wpAny (model prog w) A (call (.builtin "abs") [.int a t]) Q E s :=
  call_abs_int (by rw [if_pos ha]; exact h)

noncomputable def AbsR (a t : Int) : Prop := (0 ≤ a ∧ t = a) ∨ (a < 0 ∧ t = -a)
theorem abs_any {prog : Program} {w : World} {A : Around} {E : Value → Shared → Prop} {s : Shared} {a : Int} {t : Tok} {Q : Value → Shared → Prop} (h1 : -100000000000000000000 ≤ a) (h2 : a ≤ 100000000000000000000) (h : ∀ x u tk, AbsR a x → 0 ≤ x → x ≤ 100000000000000000000 → Q (.int x u) { s with toks := tk }) : wpAny (model prog w) A (call (.builtin "abs") [.int a t]) Q E s := by
  rcases Int.lt_or_le a 0 with h0 | h0
  · exact abs_n h0 fun u tk => h _ u tk (Or.inr ⟨h0, rfl⟩) (by omega) (by omega)
  · exact abs_p h0 fun u tk => h _ u tk (Or.inl ⟨h0, rfl⟩) h0 h2
theorem abs_zero {a b t v : Int} (h : a ≠ 0 ∨ b ≠ 0) (ha : AbsR a t) (hb : AbsR b v) (h1 : t = 0) (h2 : v = 0) : False := by
  unfold AbsR at ha hb
  omega
theorem arctR_mk000 {a b t v o : Int} (ha : AbsR a t) (hb : AbsR b v) (h3 : t ≤ v) (h1 : 0 ≤ a) (h2 : 0 ≤ b) (h4 : arcR t v o) : arctR a b (pdiv (o * 180000000) 3141592653589793238462643383279502884) :=
  ⟨t, v, o, _, _, ha, hb, Or.inl ⟨h3, h4, rfl⟩, Or.inl ⟨h2, rfl⟩, Or.inl ⟨h1, rfl⟩⟩
theorem arctR_mk001 {a b t v o : Int} (ha : AbsR a t) (hb : AbsR b v) (h3 : v < t) (h1 : 0 ≤ a) (h2 : 0 ≤ b) (h4 : arcR v t o) : arctR a b ((90000000 - pdiv (o * 180000000) 3141592653589793238462643383279502884)) :=
  ⟨t, v, o, _, _, ha, hb, Or.inr ⟨h3, h4, rfl⟩, Or.inl ⟨h2, rfl⟩, Or.inl ⟨h1, rfl⟩⟩
theorem arctR_mk010 {a b t v o : Int} (ha : AbsR a t) (hb : AbsR b v) (h3 : t ≤ v) (h1 : 0 ≤ a) (h2 : b < 0) (h4 : arcR t v o) : arctR a b ((180000000 - pdiv (o * 180000000) 3141592653589793238462643383279502884)) :=
  ⟨t, v, o, _, _, ha, hb, Or.inl ⟨h3, h4, rfl⟩, Or.inr ⟨h2, rfl⟩, Or.inl ⟨h1, rfl⟩⟩
theorem arctR_mk011 {a b t v o : Int} (ha : AbsR a t) (hb : AbsR b v) (h3 : v < t) (h1 : 0 ≤ a) (h2 : b < 0) (h4 : arcR v t o) : arctR a b ((180000000 - (90000000 - pdiv (o * 180000000) 3141592653589793238462643383279502884))) :=
  ⟨t, v, o, _, _, ha, hb, Or.inr ⟨h3, h4, rfl⟩, Or.inr ⟨h2, rfl⟩, Or.inl ⟨h1, rfl⟩⟩
theorem arctR_mk100 {a b t v o : Int} (ha : AbsR a t) (hb : AbsR b v) (h3 : t ≤ v) (h1 : a < 0) (h2 : 0 ≤ b) (h4 : arcR t v o) : arctR a b ((360000000 - pdiv (o * 180000000) 3141592653589793238462643383279502884).fmod 360000000) :=
  ⟨t, v, o, _, _, ha, hb, Or.inl ⟨h3, h4, rfl⟩, Or.inl ⟨h2, rfl⟩, Or.inr ⟨h1, rfl⟩⟩
theorem arctR_mk101 {a b t v o : Int} (ha : AbsR a t) (hb : AbsR b v) (h3 : v < t) (h1 : a < 0) (h2 : 0 ≤ b) (h4 : arcR v t o) : arctR a b ((360000000 - (90000000 - pdiv (o * 180000000) 3141592653589793238462643383279502884)).fmod 360000000) :=
  ⟨t, v, o, _, _, ha, hb, Or.inr ⟨h3, h4, rfl⟩, Or.inl ⟨h2, rfl⟩, Or.inr ⟨h1, rfl⟩⟩
theorem arctR_mk110 {a b t v o : Int} (ha : AbsR a t) (hb : AbsR b v) (h3 : t ≤ v) (h1 : a < 0) (h2 : b < 0) (h4 : arcR t v o) : arctR a b ((360000000 - (180000000 - pdiv (o * 180000000) 3141592653589793238462643383279502884)).fmod 360000000) :=
  ⟨t, v, o, _, _, ha, hb, Or.inl ⟨h3, h4, rfl⟩, Or.inr ⟨h2, rfl⟩, Or.inr ⟨h1, rfl⟩⟩
theorem arctR_mk111 {a b t v o : Int} (ha : AbsR a t) (hb : AbsR b v) (h3 : v < t) (h1 : a < 0) (h2 : b < 0) (h4 : arcR v t o) : arctR a b ((360000000 - (180000000 - (90000000 - pdiv (o * 180000000) 3141592653589793238462643383279502884))).fmod 360000000) :=
  ⟨t, v, o, _, _, ha, hb, Or.inr ⟨h3, h4, rfl⟩, Or.inr ⟨h2, rfl⟩, Or.inr ⟨h1, rfl⟩⟩
theorem arct_tells (w : World) (loose mean mg mb) (a : Int) (ta : Tok) (b : Int) (tb : Tok) : PR w loose mean mg mb 124 6 (-100000000000000000000 ≤ a ∧ a ≤ 100000000000000000000 ∧ -100000000000000000000 ≤ b ∧ b ≤ 100000000000000000000 ∧ (a ≠ 0 ∨ b ≠ 0)) [.int a ta, .int b tb] (fun r => arctR a b r) := by
  k_with_none
  k_with "storeName" => (k_here; (dsimp only); (try k_gentoks))
  k_with "call ref" => (k_here; (with_reducible show wpAny _ _ (call (Value.ref 45) _) _ _ _); exfalso; k_dflt (exact abs_zero (by assumption) (by assumption) (by assumption) (by omega) (by omega)))
  k_with "binaryOp Mult int int" => (k_here; with_reducible refine mul_int ?_ (mul_small (by first | decide | omega) (by first | decide | omega) (by first | decide | omega) (by first | decide | omega)))
  k_with "binaryOp FloorDiv int int" => (k_here; refine floordiv_int ?kbe ?_ (Or.inl (PyProof.noPylong_of_log2 (log_small ?kb1 ?kb2))); (case kbe => first | decide | assumption | omega); (case kb1 => first | decide | assumption | omega); (case kb2 => first | decide | assumption | omega))
  k_with "binaryOp Mod int int" => (k_here; refine mod_int' ?kbe ?_; (case kbe => first | decide | assumption | omega))
  k_with "call builtin:abs" => (k_here; (refine abs_any (by assumption) (by assumption) ?_); intro t9 u9 tk9 ha9 hb9 hc9)
  k_with "call ref" => (k_here; (with_reducible show wpAny _ _ (call (Value.ref 54) [Value.int _ _, Value.int _ _]) _ _ _); k_dflt (refine' PT.use (divided_tells _ _ _ _ _ _ _ _ _) ?kp ?k1 ?k2 ?k3 ?k4 ?k5 ?kK ?kd ?ku ?_; (case k1 => k_asm); (case k2 => k_asm); (case k3 => k_asm); (case k4 => k_asm); (case k5 => k_asm); (case kK => first | exact rfl | assumption); (case kd => first | exact room_in (by assumption) (by decide) | ktr_room); (case ku => first | exact units_in (by assumption) (by decide) | ktr_units); (case kp => first | decide | exact wide_in (by assumption) (by decide) | (omega))); intro t9 h9 tk9 F9 N9; (try dsimp only); (try k_fold))
  k_with "call ref" => (k_here; (with_reducible show wpAny _ _ (call (Value.ref 117) [Value.int _ _, Value.int _ _]) _ _ _); k_dflt (refine' PR.use (arc_tells _ _ _ _ _ _ _ _ _) ?kp ?k1 ?k2 ?k3 ?k4 ?k5 ?kK ?kd ?ku ?_; (case k1 => k_asm); (case k2 => k_asm); (case k3 => k_asm); (case k4 => k_asm); (case k5 => k_asm); (case kK => first | exact rfl | assumption); (case kd => first | exact room_in (by assumption) (by decide) | ktr_room); (case ku => first | exact units_in (by assumption) (by decide) | ktr_units); (case kp => first | decide | exact wide_in (by assumption) (by decide) | (omega))); intro r9 t9 h9 tk9 hr9 F9 N9; (try dsimp only); (try k_fold))
  unfold PR prg; k_fill
  intro dp un gd cn cs ad ccd cl outer A₀ base h₀ L m news s Q E B F X N T hk hpre hd hu hret
  obtain ⟨hp1, hp2, hp3, hp4, hz⟩ := hpre
  refine wpAny_call ?_
  k_dflt cell_enter
  k_steps
  all_goals (refine' ret_post (Q := Q) (s := s) hret ?e1 ?e2 ?e3; (case e2 => k_asm); (case e3 => first | k_asm | (refine' cb_drop ?cbN ?cbS; (case cbN => assumption); (case cbS => (intro p hp; repeat (first | exact hp | refine List.Mem.tail _ ?_))))); (case e1 => first | exact arctR_mk000 (by assumption) (by assumption) (by omega) (by omega) (by omega) (by assumption) | exact arctR_mk001 (by assumption) (by assumption) (by omega) (by omega) (by omega) (by assumption) | exact arctR_mk010 (by assumption) (by assumption) (by omega) (by omega) (by omega) (by assumption) | exact arctR_mk011 (by assumption) (by assumption) (by omega) (by omega) (by omega) (by assumption) | exact arctR_mk100 (by assumption) (by assumption) (by omega) (by omega) (by omega) (by assumption) | exact arctR_mk101 (by assumption) (by assumption) (by omega) (by omega) (by omega) (by assumption) | exact arctR_mk110 (by assumption) (by assumption) (by omega) (by omega) (by omega) (by assumption) | exact arctR_mk111 (by assumption) (by assumption) (by omega) (by omega) (by omega) (by assumption)))
theorem wr_bd {n r : Int} (h : wrR n r) (h1 : n ≤ 10000000000000000000000000000000000000000000000000000000000000000000000000000000000000000000000000000) : 0 ≤ r ∧ r ≤ 100000000000000000000000000000000000000000000000000 := by
  obtain ⟨a1, a2, a3⟩ := h
  refine ⟨a1, ?_⟩
  rcases Int.lt_or_le 100000000000000000000000000000000000000000000000000 r with h | h
  · have := Int.mul_le_mul (show (100000000000000000000000000000000000000000000000001:Int) ≤ r by omega) (show (100000000000000000000000000000000000000000000000001:Int) ≤ r by omega) (by omega) (by omega)
    omega
  · exact h
theorem root_1 {v r : Int} (h : wrR (v * 1000000) r) (hc : v * 1000000 - r * r ≤ r) : rootR v r := by
  obtain ⟨a1, a2, a3⟩ := h
  have e1 : (2 * r + 1) * (2 * r + 1) = 4 * (r * r) + 4 * r + 1 := by grind
  have e2 : (2 * r - 1) * (2 * r - 1) = 4 * (r * r) - 4 * r + 1 := by grind
  refine ⟨a1, by omega, fun _ => by omega⟩
theorem root_2 {v r : Int} (h : wrR (v * 1000000) r) (hc : ¬ v * 1000000 - r * r ≤ r) : rootR v (r + 1) := by
  obtain ⟨a1, a2, a3⟩ := h
  have e1 : (2 * (r + 1) + 1) * (2 * (r + 1) + 1) = 4 * (r * r) + 12 * r + 9 := by grind
  have e2 : (2 * (r + 1) - 1) * (2 * (r + 1) - 1) = 4 * (r * r) + 4 * r + 1 := by grind
  have e3 : (r + 1) * (r + 1) = r * r + 2 * r + 1 := by grind
  refine ⟨by omega, by omega, fun _ => by omega⟩
theorem near_tells (w : World) (loose mean mg mb) (a : Int) (ta : Tok) : PR w loose mean mg mb 152 3 (-100000000000000000000000000000000000000000000000000 ≤ a ∧ a ≤ 100000000000000000000000000000000000000000000000000) [.int a ta] (fun r => r = (2 * a * 1000000 + 10000000000000000000000000000000000000000).fdiv (2 * 10000000000000000000000000000000000000000)) := by
  k_with_none
  k_with "storeName" => (k_here; (dsimp only); (try k_gentoks))
  k_with "binaryOp Pow int int" => (k_here; (with_reducible show wpAny _ _ (binaryOp Operator.Pow (Value.int 10 _) (Value.int 40 _)) _ _ _); refine pow_lit (by decide +kernel : (10:Int) ^ Int.toNat 40 = 10000000000000000000000000000000000000000) (by decide) (by decide) (by decide) ?_)
  k_with "binaryOp Mult int int" => (k_here; with_reducible refine mul_int ?_ (mul_small (by first | decide | omega) (by first | decide | omega) (by first | decide | omega) (by first | decide | omega)))
  k_with "binaryOp FloorDiv int int" => (k_here; refine floordiv_int ?kbe ?_ (Or.inl (PyProof.noPylong_of_log2 (log_small ?kb1 ?kb2))); (case kbe => first | decide | assumption | omega); (case kb1 => first | decide | assumption | omega); (case kb2 => first | decide | assumption | omega))
  k_with "call ref" => (k_here; (with_reducible show wpAny _ _ (call (Value.ref 45) _) _ _ _); exfalso; k_dflt omega)
  k_with "call ref" => (k_here; (with_reducible show wpAny _ _ (call (Value.ref 138) _) _ _ _); refine wpAny_call ?_; k_dflt (refine' code_def ?k1 ?k2 ?k3 ?k4 ?k5 ?kA ?kF ?kK ?k6 ?k7 ?k8 ?k9 ?kB ?_ ?c2 ?c3 ?c4 ?c5; (case kA => exact rfl); (case kF => exact rfl); (case kK => first | exact rfl | assumption); (case k1 => k_asm); (case k2 => k_asm); (case k3 => k_asm); (case k4 => k_asm); (case k5 => k_asm); (case k6 => k_is); (case k7 => k_is); (case k8 => ktr_room); (case k9 => exact BindsTo.of_eq rfl); (case c5 => decide); (case kB => exact locs rfl); (case c2 => exact rfl); (case c3 => exact rfl); (case c4 => exact rfl)); intro g8 L8 h8 FG8 F8 N8 B8 X8 T8; (try dsimp only); (try k_lift B8); (try k_fold))
  k_with "call ref" => (k_here; (with_reducible show wpAny _ _ (call (Value.ref 61) [Value.int _ _]) _ _ _); k_dflt (refine' PR.use (wroot_tells _ _ _ _ _ _ _) ?kp ?k1 ?k2 ?k3 ?k4 ?k5 ?kK ?kd ?ku ?_; (case k1 => k_asm); (case k2 => k_asm); (case k3 => k_asm); (case k4 => k_asm); (case k5 => k_asm); (case kK => first | exact rfl | assumption); (case kd => first | exact room_in (by assumption) (by decide) | ktr_room); (case ku => first | exact units_in (by assumption) (by decide) | ktr_units); (case kp => first | decide | exact wide_in (by assumption) (by decide) | (omega))); intro r9 t9 h9 tk9 hr9 F9 N9; (have hA9 := wr_bd hr9 (by omega)); (try dsimp only); (try k_fold))
  unfold PR prg; k_fill
  intro dp un gd cn cs ad ccd cl outer A₀ base h₀ L m news s Q E B F X N T hk hpre hd hu hret
  refine wpAny_call ?_
  k_dflt cell_enter
  k_steps
  all_goals (refine' ret_post (Q := Q) (s := s) hret ?e1 ?e2 ?e3; (case e2 => k_asm); (case e3 => first | k_asm | (refine' cb_drop ?cbN ?cbS; (case cbN => assumption); (case cbS => (intro p hp; repeat (first | exact hp | refine List.Mem.tail _ ?_))))); (case e1 => rfl))
theorem root_tells (w : World) (loose mean mg mb) (a : Int) (ta : Tok) : PR w loose mean mg mb 68 3 (0 ≤ a ∧ a ≤ 1000000000000000000000000000000) [.int a ta] (fun r => rootR a r) := by
  k_with_none
  k_with "storeName" => (k_here; (dsimp only); (try k_gentoks))
  k_with "binaryOp Pow int int" => (k_here; (with_reducible show wpAny _ _ (binaryOp Operator.Pow (Value.int 10 _) (Value.int 40 _)) _ _ _); refine pow_lit (by decide +kernel : (10:Int) ^ Int.toNat 40 = 10000000000000000000000000000000000000000) (by decide) (by decide) (by decide) ?_)
  k_with "binaryOp Mult int int" => (k_here; with_reducible refine mul_int ?_ (mul_small (by first | decide | omega) (by first | decide | omega) (by first | decide | omega) (by first | decide | omega)))
  k_with "binaryOp FloorDiv int int" => (k_here; refine floordiv_int ?kbe ?_ (Or.inl (PyProof.noPylong_of_log2 (log_small ?kb1 ?kb2))); (case kbe => first | decide | assumption | omega); (case kb1 => first | decide | assumption | omega); (case kb2 => first | decide | assumption | omega))
  k_with "call ref" => (k_here; (with_reducible show wpAny _ _ (call (Value.ref 45) _) _ _ _); exfalso; k_dflt omega)
  k_with "call ref" => (k_here; (with_reducible show wpAny _ _ (call (Value.ref 138) _) _ _ _); refine wpAny_call ?_; k_dflt (refine' code_def ?k1 ?k2 ?k3 ?k4 ?k5 ?kA ?kF ?kK ?k6 ?k7 ?k8 ?k9 ?kB ?_ ?c2 ?c3 ?c4 ?c5; (case kA => exact rfl); (case kF => exact rfl); (case kK => first | exact rfl | assumption); (case k1 => k_asm); (case k2 => k_asm); (case k3 => k_asm); (case k4 => k_asm); (case k5 => k_asm); (case k6 => k_is); (case k7 => k_is); (case k8 => ktr_room); (case k9 => exact BindsTo.of_eq rfl); (case c5 => decide); (case kB => exact locs rfl); (case c2 => exact rfl); (case c3 => exact rfl); (case c4 => exact rfl)); intro g8 L8 h8 FG8 F8 N8 B8 X8 T8; (try dsimp only); (try k_lift B8); (try k_fold))
  k_with "call ref" => (k_here; (with_reducible show wpAny _ _ (call (Value.ref 61) [Value.int _ _]) _ _ _); k_dflt (refine' PR.use (wroot_tells _ _ _ _ _ _ _) ?kp ?k1 ?k2 ?k3 ?k4 ?k5 ?kK ?kd ?ku ?_; (case k1 => k_asm); (case k2 => k_asm); (case k3 => k_asm); (case k4 => k_asm); (case k5 => k_asm); (case kK => first | exact rfl | assumption); (case kd => first | exact room_in (by assumption) (by decide) | ktr_room); (case ku => first | exact units_in (by assumption) (by decide) | ktr_units); (case kp => first | decide | exact wide_in (by assumption) (by decide) | (omega))); intro r9 t9 h9 tk9 hr9 F9 N9; (have hA9 := wr_bd hr9 (by omega)); (try dsimp only); (try k_fold))
  unfold PR prg; k_fill
  intro dp un gd cn cs ad ccd cl outer A₀ base h₀ L m news s Q E B F X N T hk hpre hd hu hret
  refine wpAny_call ?_
  k_dflt cell_enter
  k_steps
  all_goals (refine' ret_post (Q := Q) (s := s) hret ?e1 ?e2 ?e3; (case e2 => k_asm); (case e3 => first | k_asm | (refine' cb_drop ?cbN ?cbS; (case cbN => assumption); (case cbS => (intro p hp; repeat (first | exact hp | refine List.Mem.tail _ ?_))))); (case e1 => first | exact root_1 (by assumption) (by omega) | exact root_2 (by assumption) (by omega)))
theorem toldA_tells (w : World) (loose mean mg mb) (tw : Tok) (a : Int) (ta : Tok) (b : Int) (tb : Tok) : PR w loose mean mg mb 173 7 (-100000000000000000000 ≤ a ∧ a ≤ 100000000000000000000 ∧ -100000000000000000000 ≤ b ∧ b ≤ 100000000000000000000 ∧ (a ≠ 0 ∨ b ≠ 0)) [.int 0 tw, .int a ta, .int b tb] (fun r => arctR a b r) := by
  k_with_none
  k_with "storeName" => (k_here; (dsimp only); (try k_gentoks))
  k_with "call ref" => (k_here; (with_reducible show wpAny _ _ (call (Value.ref 124) [Value.int _ _, Value.int _ _]) _ _ _); k_dflt (refine' PR.use (arct_tells _ _ _ _ _ _ _ _ _) ?kp ?k1 ?k2 ?k3 ?k4 ?k5 ?kK ?kd ?ku ?_; (case k1 => k_asm); (case k2 => k_asm); (case k3 => k_asm); (case k4 => k_asm); (case k5 => k_asm); (case kK => first | exact rfl | assumption); (case kd => first | exact room_in (by assumption) (by decide) | ktr_room); (case ku => first | exact units_in (by assumption) (by decide) | ktr_units); (case kp => first | decide | exact wide_in (by assumption) (by decide) | (omega))); intro r9 t9 h9 tk9 hr9 F9 N9; (try dsimp only); (try k_fold))
  unfold PR prg; k_fill
  intro dp un gd cn cs ad ccd cl outer A₀ base h₀ L m news s Q E B F X N T hk hpre hd hu hret
  refine wpAny_call ?_
  k_dflt cell_enter
  k_steps
  all_goals (refine' ret_post (Q := Q) (s := s) hret ?e1 ?e2 ?e3; (case e2 => k_asm); (case e3 => first | k_asm | (refine' cb_drop ?cbN ?cbS; (case cbN => assumption); (case cbS => (intro p hp; repeat (first | exact hp | refine List.Mem.tail _ ?_))))); (case e1 => assumption))
noncomputable def DR (w : World) (loose : List Str) (mean : ExcName → Option Value) (mg mb : Str → Option Value) (f : Addr) (d : Nat) (lim grow : Int) (pre : Prop) (more : List Value) (Post : Int → Prop) : Prop :=
  ∀ (dp un : Nat) (gd : Option (List Code)) (cn : Str) (cs : Scope) (a : Addr) (ccd : Value) (cl : List (Str × Addr)) (outer : List Env) (A₀ : Around) (base h₀ : Heap) (L : Addr) (m : Str → Option Value) (D C : Nat) (ws : List Value) (ns : List Int) (c k : Nat) (n : Int) (u : Tok) (rest : List (Addr × Obj)) (s : Shared) (Q E : Value → Shared → Prop),
    Below A₀ base outer h₀ → Fr h₀ L s.heap m → (hd.heap_39 w.params).In h₀ → News h₀ L s.heap ((D, W.listOf #[Value.ref C, Value.int n u] k) :: (C, W.listOf ws.toArray c) :: rest) → IntsAre ws ns → ns.length ≤ 20 → 0 ≤ n → n ≤ lim → C ≠ D → (∀ p ∈ rest, p.1 ≠ D) →
    Top Hd.Q loose mean mg mb h₀ → cs.kind = .function → pre → dp + d < recursionLimit → un + 8 * d < cLine →
    (∀ (r : Int) (t : Tok) (n' : Int) (u' : Tok) (k' : Nat) (h' : Heap) (tk' : Nat), Post r → n ≤ n' → n' ≤ n + grow → Fr h₀ L h' m → News h₀ L h' ((D, W.listOf #[Value.ref C, Value.int n' u'] k') :: (C, W.listOf ws.toArray c) :: rest) → Q (.int r t) { s with heap := h', toks := tk' }) →
      wpAny (model prg w) (ktrTop dp un gd cn cs L a ccd cl outer) (call (.ref f) (.ref D :: more)) Q E s
theorem DR.use0 {w : World} {loose : List Str} {mean : ExcName → Option Value} {mg mb : Str → Option Value} {f : Addr} {d : Nat} {lim grow : Int} {pre : Prop} {more : List Value} {Post : Int → Prop}
    {dp un : Nat} {gd : Option (List Code)} {cn : Str} {cs : Scope} {a : Addr} {ccd : Value} {cl : List (Str × Addr)} {outer : List Env} {A₀ : Around} {base h₀ : Heap} {L : Addr} {m : Str → Option Value} {D C : Nat} {ws : List Value} {ns : List Int} {c k : Nat} {n : Int} {u : Tok} {rest : List (Addr × Obj)} {s : Shared} {Q E : Value → Shared → Prop}
    (R : DR w loose mean mg mb f d lim grow pre more Post) (hp : pre) (B : Below A₀ base outer h₀) (F : Fr h₀ L s.heap m) (X : (hd.heap_39 w.params).In h₀) (N : News h₀ L s.heap ((D, W.listOf #[Value.ref C, Value.int n u] k) :: (C, W.listOf ws.toArray c) :: rest)) (hI : IntsAre ws ns) (hl : ns.length ≤ 20) {lo bd : Int} (ha : 0 ≤ lo) (hn0 : lo ≤ n) (hn1 : n ≤ bd) (hbd : bd ≤ lim) (hDC : C ≠ D) (hr : ∀ p ∈ rest, p.1 ≠ D)
    (T : Top Hd.Q loose mean mg mb h₀) (hk : cs.kind = .function) (h1 : dp + d < recursionLimit) (h2 : un + 8 * d < cLine)
    (ret : ∀ (r : Int) (t : Tok) (n' : Int) (u' : Tok) (k' : Nat) (h' : Heap) (tk' : Nat), Post r → lo ≤ n' → n' ≤ bd + grow → Fr h₀ L h' m → News h₀ L h' ((D, W.listOf #[Value.ref C, Value.int n' u'] k') :: (C, W.listOf ws.toArray c) :: rest) → Q (.int r t) { s with heap := h', toks := tk' }) :
    wpAny (model prg w) (ktrTop dp un gd cn cs L a ccd cl outer) (call (.ref f) (.ref D :: more)) Q E s := R _ _ _ _ _ _ _ _ _ _ _ _ _ _ _ _ _ _ _ _ _ _ _ _ _ _ B F X (fun p hp => N p hp) hI hl (Int.le_trans ha hn0) (Int.le_trans hn1 hbd) hDC hr T hk hp h1 h2 (fun r t n' u' k' h' tk' p q1 q2 F' N' => ret r t n' u' k' h' tk' p (Int.le_trans hn0 q1) (Int.le_trans q2 (Int.add_le_add_right hn1 grow)) F' N')
theorem drN1 {h₀ h : Heap} {L : Addr} {x0 : Addr × Obj} {d c : Addr × Obj} {rest : List (Addr × Obj)} (N : News h₀ L h (x0 :: d :: c :: rest)) : News h₀ L h (d :: c :: x0 :: rest) := fun p hp => N p (by
  simp only [List.mem_cons] at hp ⊢
  rcases hp with h | h | h | h <;> simp [h])
theorem DR.use1 {w : World} {loose : List Str} {mean : ExcName → Option Value} {mg mb : Str → Option Value} {f : Addr} {d : Nat} {lim grow : Int} {pre : Prop} {more : List Value} {Post : Int → Prop}
    {dp un : Nat} {gd : Option (List Code)} {cn : Str} {cs : Scope} {a : Addr} {ccd : Value} {cl : List (Str × Addr)} {outer : List Env} {A₀ : Around} {base h₀ : Heap} {L : Addr} {m : Str → Option Value} {D C : Nat} {ws : List Value} {ns : List Int} {c k : Nat} {n : Int} {u : Tok} {x0 : Addr × Obj} {rest : List (Addr × Obj)} {s : Shared} {Q E : Value → Shared → Prop}
    (R : DR w loose mean mg mb f d lim grow pre more Post) (hp : pre) (B : Below A₀ base outer h₀) (F : Fr h₀ L s.heap m) (X : (hd.heap_39 w.params).In h₀) (N : News h₀ L s.heap (x0 :: (D, W.listOf #[Value.ref C, Value.int n u] k) :: (C, W.listOf ws.toArray c) :: rest)) (hI : IntsAre ws ns) (hl : ns.length ≤ 20) {lo bd : Int} (ha : 0 ≤ lo) (hn0 : lo ≤ n) (hn1 : n ≤ bd) (hbd : bd ≤ lim) (hDC : C ≠ D) (hr : ∀ p ∈ x0 :: rest, p.1 ≠ D)
    (T : Top Hd.Q loose mean mg mb h₀) (hk : cs.kind = .function) (h1 : dp + d < recursionLimit) (h2 : un + 8 * d < cLine)
    (ret : ∀ (r : Int) (t : Tok) (n' : Int) (u' : Tok) (k' : Nat) (h' : Heap) (tk' : Nat), Post r → lo ≤ n' → n' ≤ bd + grow → Fr h₀ L h' m → News h₀ L h' ((D, W.listOf #[Value.ref C, Value.int n' u'] k') :: (C, W.listOf ws.toArray c) :: x0 :: rest) → Q (.int r t) { s with heap := h', toks := tk' }) :
    wpAny (model prg w) (ktrTop dp un gd cn cs L a ccd cl outer) (call (.ref f) (.ref D :: more)) Q E s := R _ _ _ _ _ _ _ _ _ _ _ _ _ _ _ _ _ _ _ _ _ _ _ _ _ _ B F X (drN1 N) hI hl (Int.le_trans ha hn0) (Int.le_trans hn1 hbd) hDC hr T hk hp h1 h2 (fun r t n' u' k' h' tk' p q1 q2 F' N' => ret r t n' u' k' h' tk' p (Int.le_trans hn0 q1) (Int.le_trans q2 (Int.add_le_add_right hn1 grow)) F' N')
theorem drN2 {h₀ h : Heap} {L : Addr} {x0 x1 : Addr × Obj} {d c : Addr × Obj} {rest : List (Addr × Obj)} (N : News h₀ L h (x0 :: x1 :: d :: c :: rest)) : News h₀ L h (d :: c :: x0 :: x1 :: rest) := fun p hp => N p (by
  simp only [List.mem_cons] at hp ⊢
  rcases hp with h | h | h | h | h <;> simp [h])
theorem DR.use2 {w : World} {loose : List Str} {mean : ExcName → Option Value} {mg mb : Str → Option Value} {f : Addr} {d : Nat} {lim grow : Int} {pre : Prop} {more : List Value} {Post : Int → Prop}
    {dp un : Nat} {gd : Option (List Code)} {cn : Str} {cs : Scope} {a : Addr} {ccd : Value} {cl : List (Str × Addr)} {outer : List Env} {A₀ : Around} {base h₀ : Heap} {L : Addr} {m : Str → Option Value} {D C : Nat} {ws : List Value} {ns : List Int} {c k : Nat} {n : Int} {u : Tok} {x0 x1 : Addr × Obj} {rest : List (Addr × Obj)} {s : Shared} {Q E : Value → Shared → Prop}
    (R : DR w loose mean mg mb f d lim grow pre more Post) (hp : pre) (B : Below A₀ base outer h₀) (F : Fr h₀ L s.heap m) (X : (hd.heap_39 w.params).In h₀) (N : News h₀ L s.heap (x0 :: x1 :: (D, W.listOf #[Value.ref C, Value.int n u] k) :: (C, W.listOf ws.toArray c) :: rest)) (hI : IntsAre ws ns) (hl : ns.length ≤ 20) {lo bd : Int} (ha : 0 ≤ lo) (hn0 : lo ≤ n) (hn1 : n ≤ bd) (hbd : bd ≤ lim) (hDC : C ≠ D) (hr : ∀ p ∈ x0 :: x1 :: rest, p.1 ≠ D)
    (T : Top Hd.Q loose mean mg mb h₀) (hk : cs.kind = .function) (h1 : dp + d < recursionLimit) (h2 : un + 8 * d < cLine)
    (ret : ∀ (r : Int) (t : Tok) (n' : Int) (u' : Tok) (k' : Nat) (h' : Heap) (tk' : Nat), Post r → lo ≤ n' → n' ≤ bd + grow → Fr h₀ L h' m → News h₀ L h' ((D, W.listOf #[Value.ref C, Value.int n' u'] k') :: (C, W.listOf ws.toArray c) :: x0 :: x1 :: rest) → Q (.int r t) { s with heap := h', toks := tk' }) :
    wpAny (model prg w) (ktrTop dp un gd cn cs L a ccd cl outer) (call (.ref f) (.ref D :: more)) Q E s := R _ _ _ _ _ _ _ _ _ _ _ _ _ _ _ _ _ _ _ _ _ _ _ _ _ _ B F X (drN2 N) hI hl (Int.le_trans ha hn0) (Int.le_trans hn1 hbd) hDC hr T hk hp h1 h2 (fun r t n' u' k' h' tk' p q1 q2 F' N' => ret r t n' u' k' h' tk' p (Int.le_trans hn0 q1) (Int.le_trans q2 (Int.add_le_add_right hn1 grow)) F' N')
theorem drN3 {h₀ h : Heap} {L : Addr} {x0 x1 x2 : Addr × Obj} {d c : Addr × Obj} {rest : List (Addr × Obj)} (N : News h₀ L h (x0 :: x1 :: x2 :: d :: c :: rest)) : News h₀ L h (d :: c :: x0 :: x1 :: x2 :: rest) := fun p hp => N p (by
  simp only [List.mem_cons] at hp ⊢
  rcases hp with h | h | h | h | h | h <;> simp [h])
theorem DR.use3 {w : World} {loose : List Str} {mean : ExcName → Option Value} {mg mb : Str → Option Value} {f : Addr} {d : Nat} {lim grow : Int} {pre : Prop} {more : List Value} {Post : Int → Prop}
    {dp un : Nat} {gd : Option (List Code)} {cn : Str} {cs : Scope} {a : Addr} {ccd : Value} {cl : List (Str × Addr)} {outer : List Env} {A₀ : Around} {base h₀ : Heap} {L : Addr} {m : Str → Option Value} {D C : Nat} {ws : List Value} {ns : List Int} {c k : Nat} {n : Int} {u : Tok} {x0 x1 x2 : Addr × Obj} {rest : List (Addr × Obj)} {s : Shared} {Q E : Value → Shared → Prop}
    (R : DR w loose mean mg mb f d lim grow pre more Post) (hp : pre) (B : Below A₀ base outer h₀) (F : Fr h₀ L s.heap m) (X : (hd.heap_39 w.params).In h₀) (N : News h₀ L s.heap (x0 :: x1 :: x2 :: (D, W.listOf #[Value.ref C, Value.int n u] k) :: (C, W.listOf ws.toArray c) :: rest)) (hI : IntsAre ws ns) (hl : ns.length ≤ 20) {lo bd : Int} (ha : 0 ≤ lo) (hn0 : lo ≤ n) (hn1 : n ≤ bd) (hbd : bd ≤ lim) (hDC : C ≠ D) (hr : ∀ p ∈ x0 :: x1 :: x2 :: rest, p.1 ≠ D)
    (T : Top Hd.Q loose mean mg mb h₀) (hk : cs.kind = .function) (h1 : dp + d < recursionLimit) (h2 : un + 8 * d < cLine)
    (ret : ∀ (r : Int) (t : Tok) (n' : Int) (u' : Tok) (k' : Nat) (h' : Heap) (tk' : Nat), Post r → lo ≤ n' → n' ≤ bd + grow → Fr h₀ L h' m → News h₀ L h' ((D, W.listOf #[Value.ref C, Value.int n' u'] k') :: (C, W.listOf ws.toArray c) :: x0 :: x1 :: x2 :: rest) → Q (.int r t) { s with heap := h', toks := tk' }) :
    wpAny (model prg w) (ktrTop dp un gd cn cs L a ccd cl outer) (call (.ref f) (.ref D :: more)) Q E s := R _ _ _ _ _ _ _ _ _ _ _ _ _ _ _ _ _ _ _ _ _ _ _ _ _ _ B F X (drN3 N) hI hl (Int.le_trans ha hn0) (Int.le_trans hn1 hbd) hDC hr T hk hp h1 h2 (fun r t n' u' k' h' tk' p q1 q2 F' N' => ret r t n' u' k' h' tk' p (Int.le_trans hn0 q1) (Int.le_trans q2 (Int.add_le_add_right hn1 grow)) F' N')
theorem bs1 {n c l : Int} (L : Int) (h : n ≤ L) (k : L + c ≤ l) : n + c ≤ l := by omega
theorem bs2 {n c d l : Int} (L : Int) (h : n ≤ L) (k : L + c + d ≤ l) : n + c + d ≤ l := by omega
theorem bs3 {n c d e l : Int} (L : Int) (h : n ≤ L) (k : L + c + d + e ≤ l) : n + c + d + e ≤ l := by omega
theorem bs4 {n c d e f l : Int} (L : Int) (h : n ≤ L) (k : L + c + d + e + f ≤ l) : n + c + d + e + f ≤ l := by omega
theorem up2 {n m : Int} (h : m ≤ n + 1 + 1) : m ≤ n + 5 := by omega
theorem up3 {n m : Int} (h : m ≤ n + 1 + 1 + 1) : m ≤ n + 5 := by omega
theorem up4 {n m : Int} (h : m ≤ n + 1 + 1 + 1 + 1) : m ≤ n + 5 := by omega
theorem upJ {n b X : Int} (h : n ≤ b + 5 + 5 + 5 + 1 + 1) (k : b + 17 ≤ X) : n ≤ X := by omega
local macro_rules | `(tactic| k_all) => `(tactic| assumption)
local macro_rules | `(tactic| units_room) => `(tactic| ktr_units)
theorem sub3 {α : Type} {P : α → Prop} {x y : α} {rest : List α} (hx : P x) (hy : P y) (hr : ∀ p ∈ rest, P p) : ∀ p ∈ x :: y :: rest, P p := by
  intro p hp
  rcases List.mem_cons.mp hp with h | hp
  · exact h ▸ hx
  · rcases List.mem_cons.mp hp with h | hp
    · exact h ▸ hy
    · exact hr p hp
theorem fmod_post (x : Int) {b : Int} (hb : 0 < b) : 0 ≤ x.fmod b ∧ x.fmod b < b := by
  rw [Int.fmod_eq_emod_of_nonneg _ (by omega)]
  exact ⟨Int.emod_nonneg _ (by omega), Int.emod_lt_of_pos _ hb⟩
theorem draw_tells (w : World) (loose mean mg mb) (b : Int) (tb : Tok) : DR w loose mean mg mb 131 20 100000 1 (0 < b ∧ b ≤ 100000000000000000000) [.int b tb] (fun r => 0 ≤ r ∧ r < b) := by
  k_with_none
  k_with "storeName" => (k_here; (dsimp only); (try k_gentoks))
  k_with "execs cons" => (k_here; (with_reducible show wpAny _ _ (execs (Stmt.Assign [Expr.Name (Str.ofString "cell") _] _ _ :: _) _) _ _ _); k_dflt (refine' one_join (Str.ofString "cell") (fun _ => True) ?F ?N ?_ ?_; (case F => assumption); (case N => assumption)); rotate_left; (intro h9 tk9 c9 t9 p9 F9 N9); rotate_right; (all_goals try dsimp only); (all_goals try k_fold))
  k_with "oneMid" => (k_dflt (refine' ⟨_, _, _, _, rfl, trivial, ?F, ?N⟩; (case F => assumption); (case N => first | assumption | (refine' cb_drop ?cbN ?cbS; (case cbN => assumption); (case cbS => (intro p hp; repeat (first | exact hp | refine List.Mem.tail _ ?_)))))))
  unfold DR prg; k_fill
  intro dp un gd cn cs ad ccd cl outer A₀ base h₀ L m D C ws ns c k n u rest s Q E B F X N hI hlen hn0 hn1 hDC hrest T hk hpre hd hu hret
  refine wpAny_call ?_
  k_dflt cell_enter
  k_steps
  all_goals (first
    | (refine' hret _ _ (n + 1) _ _ _ _ ?e1 (by omega) (by omega) ?e2 ?e3; (case e2 => k_asm); (case e1 => exact fmod_post _ hpre.1); (case e3 => (refine' cb_drop ?cbN (sub3 ?s1 ?s2 ?s3); (case cbN => assumption); (case s1 => k_mem); (case s2 => k_mem); (case s3 => (intro p hp; repeat (first | exact hp | refine List.Mem.tail _ ?_))))))
    | (exfalso; (rename decide (ns = []) = false => hq9); (rename ((ns.length : Nat) : Int) = 0 => hz9); exact of_decide_eq_false hq9 (List.eq_nil_of_length_eq_zero (by omega))))

theorem menu_bd {l : List Int} {lo hi : Int} (h : ∀ x ∈ l, lo ≤ x ∧ x ≤ hi) (h0 : lo ≤ 0 ∧ 0 ≤ hi) (j : Nat) : lo ≤ l.getD j 0 ∧ l.getD j 0 ≤ hi := by
  by_cases hj : j < l.length
  · have e : l.getD j 0 = l[j] := by simp [List.getD, hj]
    rw [e]
    exact h _ (List.getElem_mem hj)
  · have e : l.getD j 0 = 0 := by simp [List.getD, Nat.not_lt.mp hj]
    rw [e]
    exact h0
theorem angle_p1 (i j k : Nat) : -1000000000000000 ≤ [(0:Int), 30, 45, 60, 90, 123, 180, 270, 359].getD i 0 * 1000000 + [(0:Int), 1, -1, 500000, 123457].getD j 0 + 360000000 * [(0:Int), 1, -3, 1000].getD k 0 ∧ [(0:Int), 30, 45, 60, 90, 123, 180, 270, 359].getD i 0 * 1000000 + [(0:Int), 1, -1, 500000, 123457].getD j 0 + 360000000 * [(0:Int), 1, -3, 1000].getD k 0 ≤ 1000000000000000 := by
  have h1 := menu_bd (l := [(0:Int), 30, 45, 60, 90, 123, 180, 270, 359]) (lo := 0) (hi := 359) (by decide) (by decide) i
  have h2 := menu_bd (l := [(0:Int), 1, -1, 500000, 123457]) (lo := -1) (hi := 500000) (by decide) (by decide) j
  have h3 := menu_bd (l := [(0:Int), 1, -3, 1000]) (lo := -3) (hi := 1000) (by decide) (by decide) k
  omega
theorem angle_p2 (i k : Nat) {r : Int} (hr : 0 ≤ r ∧ r < 360000000) : -1000000000000000 ≤ [(0:Int), 30, 45, 60, 90, 123, 180, 270, 359].getD i 0 * 1000000 + r + 360000000 * [(0:Int), 1, -3, 1000].getD k 0 ∧ [(0:Int), 30, 45, 60, 90, 123, 180, 270, 359].getD i 0 * 1000000 + r + 360000000 * [(0:Int), 1, -3, 1000].getD k 0 ≤ 1000000000000000 := by
  have h1 := menu_bd (l := [(0:Int), 30, 45, 60, 90, 123, 180, 270, 359]) (lo := 0) (hi := 359) (by decide) (by decide) i
  have h3 := menu_bd (l := [(0:Int), 1, -3, 1000]) (lo := -3) (hi := 1000) (by decide) (by decide) k
  omega
theorem angle_tells (w : World) (loose mean mg mb)  : DR w loose mean mg mb 159 25 1000 5 (True) [] (fun r => -1000000000000000 ≤ r ∧ r ≤ 1000000000000000) := by
  k_with_none
  k_with "storeName" => (k_here; (dsimp only); (try k_gentoks))
  k_with "call ref" => (k_here; (with_reducible show wpAny _ _ (call (Value.ref 131) [Value.ref _, Value.int _ _]) _ _ _); k_dflt (first | (refine' DR.use0 (draw_tells _ _ _ _ _ _ _) ?kp ?k1 ?k2 ?k3 ?k4 ?kI ?kl ?kz ?kn ?km ?kb ?kc ?kr ?k5 ?kK ?kd ?ku ?_; (case k1 => k_asm); (case k2 => k_asm); (case k3 => k_asm); (case k4 => k_asm); (case kI => l_ints); (case kl => first | decide | assumption | omega); (case kn => assumption); (case km => assumption); (case kz => first | decide | assumption); (case kb => first | decide | assumption | exact Int.le_trans (b := 100) (by assumption) (by decide) | exact Int.le_trans (b := 1000) (by assumption) (by decide) | exact bs1 100 (by assumption) (by decide) | exact bs1 1000 (by assumption) (by decide) | exact bs2 100 (by assumption) (by decide) | exact bs2 1000 (by assumption) (by decide) | exact bs3 100 (by assumption) (by decide) | exact bs3 1000 (by assumption) (by decide) | exact bs4 100 (by assumption) (by decide) | exact bs4 1000 (by assumption) (by decide) | omega); (case kc => first | assumption | (refine neN ?_; omega)); (case kr => k_all); (case k5 => k_asm); (case kK => first | exact rfl | assumption); (case kd => first | exact room_in (by assumption) (by decide) | ktr_room); (case ku => first | exact units_in (by assumption) (by decide) | ktr_units); (case kp => omega)) | (refine' DR.use1 (draw_tells _ _ _ _ _ _ _) ?kp ?k1 ?k2 ?k3 ?k4 ?kI ?kl ?kz ?kn ?km ?kb ?kc ?kr ?k5 ?kK ?kd ?ku ?_; (case k1 => k_asm); (case k2 => k_asm); (case k3 => k_asm); (case k4 => k_asm); (case kI => l_ints); (case kl => first | decide | assumption | omega); (case kn => assumption); (case km => assumption); (case kz => first | decide | assumption); (case kb => first | decide | assumption | exact Int.le_trans (b := 100) (by assumption) (by decide) | exact Int.le_trans (b := 1000) (by assumption) (by decide) | exact bs1 100 (by assumption) (by decide) | exact bs1 1000 (by assumption) (by decide) | exact bs2 100 (by assumption) (by decide) | exact bs2 1000 (by assumption) (by decide) | exact bs3 100 (by assumption) (by decide) | exact bs3 1000 (by assumption) (by decide) | exact bs4 100 (by assumption) (by decide) | exact bs4 1000 (by assumption) (by decide) | omega); (case kc => first | assumption | (refine neN ?_; omega)); (case kr => k_all); (case k5 => k_asm); (case kK => first | exact rfl | assumption); (case kd => first | exact room_in (by assumption) (by decide) | ktr_room); (case ku => first | exact units_in (by assumption) (by decide) | ktr_units); (case kp => omega)) | (refine' DR.use2 (draw_tells _ _ _ _ _ _ _) ?kp ?k1 ?k2 ?k3 ?k4 ?kI ?kl ?kz ?kn ?km ?kb ?kc ?kr ?k5 ?kK ?kd ?ku ?_; (case k1 => k_asm); (case k2 => k_asm); (case k3 => k_asm); (case k4 => k_asm); (case kI => l_ints); (case kl => first | decide | assumption | omega); (case kn => assumption); (case km => assumption); (case kz => first | decide | assumption); (case kb => first | decide | assumption | exact Int.le_trans (b := 100) (by assumption) (by decide) | exact Int.le_trans (b := 1000) (by assumption) (by decide) | exact bs1 100 (by assumption) (by decide) | exact bs1 1000 (by assumption) (by decide) | exact bs2 100 (by assumption) (by decide) | exact bs2 1000 (by assumption) (by decide) | exact bs3 100 (by assumption) (by decide) | exact bs3 1000 (by assumption) (by decide) | exact bs4 100 (by assumption) (by decide) | exact bs4 1000 (by assumption) (by decide) | omega); (case kc => first | assumption | (refine neN ?_; omega)); (case kr => k_all); (case k5 => k_asm); (case kK => first | exact rfl | assumption); (case kd => first | exact room_in (by assumption) (by decide) | ktr_room); (case ku => first | exact units_in (by assumption) (by decide) | ktr_units); (case kp => omega)) | (refine' DR.use3 (draw_tells _ _ _ _ _ _ _) ?kp ?k1 ?k2 ?k3 ?k4 ?kI ?kl ?kz ?kn ?km ?kb ?kc ?kr ?k5 ?kK ?kd ?ku ?_; (case k1 => k_asm); (case k2 => k_asm); (case k3 => k_asm); (case k4 => k_asm); (case kI => l_ints); (case kl => first | decide | assumption | omega); (case kn => assumption); (case km => assumption); (case kz => first | decide | assumption); (case kb => first | decide | assumption | exact Int.le_trans (b := 100) (by assumption) (by decide) | exact Int.le_trans (b := 1000) (by assumption) (by decide) | exact bs1 100 (by assumption) (by decide) | exact bs1 1000 (by assumption) (by decide) | exact bs2 100 (by assumption) (by decide) | exact bs2 1000 (by assumption) (by decide) | exact bs3 100 (by assumption) (by decide) | exact bs3 1000 (by assumption) (by decide) | exact bs4 100 (by assumption) (by decide) | exact bs4 1000 (by assumption) (by decide) | omega); (case kc => first | assumption | (refine neN ?_; omega)); (case kr => k_all); (case k5 => k_asm); (case kK => first | exact rfl | assumption); (case kd => first | exact room_in (by assumption) (by decide) | ktr_room); (case ku => first | exact units_in (by assumption) (by decide) | ktr_units); (case kp => omega))); intro r9 t9 n9 u9 k9 h9 tk9 hr9 hn9 hm9 F9 N9; (try dsimp only); (try k_fold))
  unfold DR prg; k_fill
  intro dp un gd cn cs ad ccd cl outer A₀ base h₀ L m D C ws ns c k n u rest s Q E B F X N hI hlen hn0 hn1 hDC hrest T hk hpre hd hu hret
  have hA9 := Int.le_refl n
  refine wpAny_call ?_
  k_dflt cell_enter
  k_steps
  all_goals (refine' hret _ _ _ _ _ _ _ ?e1 ?e4 ?e5 ?e2 ?e3; (case e2 => k_asm); (case e3 => (refine' cb_drop ?cbN (sub3 ?s1 ?s2 ?s3); (case cbN => assumption); (case s1 => k_mem); (case s2 => k_mem); (case s3 => (intro p hp; repeat (first | exact hp | refine List.Mem.tail _ ?_))))); (case e4 => first | assumption | omega); (case e5 => first | exact up3 (by assumption) | exact up4 (by assumption) | exact up2 (by assumption) | omega); (case e1 => first | exact angle_p1 _ _ _ | exact angle_p2 _ _ (by assumption)))

theorem size_near {b r : Int} (h : (-b ≤ r ∧ r ≤ b) ∨ (-1000000000 ≤ r ∧ r ≤ 1000000000)) (hb : 0 ≤ b ∧ b ≤ 1000000000000000) : near20 r := by
  unfold near20
  omega
theorem sign_bd {x s c : Int} (hs : -1 ≤ s ∧ s ≤ 1) (h0 : 0 ≤ x) (h1 : x ≤ c) : -c ≤ x * s ∧ x * s ≤ c := by
  rcases (show s = -1 ∨ s = 0 ∨ s = 1 by omega) with h | h | h <;> subst h <;> omega
theorem size_p1 {b : Int} (hb : 0 ≤ b) (i j : Nat) : (-b ≤ [(0:Int), 1, 7, 1000000, b].getD i 0 * [(1:Int), -1].getD j 0 ∧ [(0:Int), 1, 7, 1000000, b].getD i 0 * [(1:Int), -1].getD j 0 ≤ b) ∨ (-1000000000 ≤ [(0:Int), 1, 7, 1000000, b].getD i 0 * [(1:Int), -1].getD j 0 ∧ [(0:Int), 1, 7, 1000000, b].getD i 0 * [(1:Int), -1].getD j 0 ≤ 1000000000) := by
  have hs := menu_bd (l := [(1:Int), -1]) (lo := -1) (hi := 1) (by decide) (by decide) j
  have hx : (0 ≤ [(0:Int), 1, 7, 1000000, b].getD i 0 ∧ [(0:Int), 1, 7, 1000000, b].getD i 0 ≤ 1000000) ∨ [(0:Int), 1, 7, 1000000, b].getD i 0 = b := by
    match i with
    | 0 => left; simp [List.getD]
    | 1 => left; simp [List.getD]
    | 2 => left; simp [List.getD]
    | 3 => left; simp [List.getD]
    | 4 => right; rfl
    | (n+5) => left; simp [List.getD]
  generalize [(1:Int), -1].getD j 0 = s at *
  generalize [(0:Int), 1, 7, 1000000, b].getD i 0 = x at *
  rcases hx with hx | hx
  · have := sign_bd hs hx.1 hx.2
    right; omega
  · subst hx
    left
    exact sign_bd hs hb (Int.le_refl _)
theorem size_p2 {b r : Int} (hr : 0 ≤ r ∧ r < 1000000000) (j : Nat) : (-b ≤ r * [(1:Int), -1].getD j 0 ∧ r * [(1:Int), -1].getD j 0 ≤ b) ∨ (-1000000000 ≤ r * [(1:Int), -1].getD j 0 ∧ r * [(1:Int), -1].getD j 0 ≤ 1000000000) := by
  have hs := menu_bd (l := [(1:Int), -1]) (lo := -1) (hi := 1) (by decide) (by decide) j
  generalize [(1:Int), -1].getD j 0 = s at *
  right
  exact sign_bd hs hr.1 (by omega)
theorem size_tells (w : World) (loose mean mg mb) (b : Int) (tb : Tok) : DR w loose mean mg mb 166 25 1000 5 (0 ≤ b ∧ b ≤ 1000000000000000) [.int b tb] (fun r => near20 r) := by
  k_with_none
  k_with "storeName" => (k_here; (dsimp only); (try k_gentoks))
  k_with "binaryOp Pow int int" => (k_here; (with_reducible show wpAny _ _ (binaryOp Operator.Pow (Value.int 10 _) (Value.int 40 _)) _ _ _); refine pow_lit (by decide +kernel : (10:Int) ^ Int.toNat 40 = 10000000000000000000000000000000000000000) (by decide) (by decide) (by decide) ?_)
  k_with "binaryOp Pow int int" => (k_here; (with_reducible show wpAny _ _ (binaryOp Operator.Pow (Value.int 10 _) (Value.int 9 _)) _ _ _); refine pow_lit (by decide +kernel : (10:Int) ^ Int.toNat 9 = 1000000000) (by decide) (by decide) (by decide) ?_)
  k_with "call ref" => (k_here; (with_reducible show wpAny _ _ (call (Value.ref 131) [Value.ref _, Value.int _ _]) _ _ _); k_dflt (first | (refine' DR.use0 (draw_tells _ _ _ _ _ _ _) ?kp ?k1 ?k2 ?k3 ?k4 ?kI ?kl ?kz ?kn ?km ?kb ?kc ?kr ?k5 ?kK ?kd ?ku ?_; (case k1 => k_asm); (case k2 => k_asm); (case k3 => k_asm); (case k4 => k_asm); (case kI => l_ints); (case kl => first | decide | assumption | omega); (case kn => assumption); (case km => assumption); (case kz => first | decide | assumption); (case kb => first | decide | assumption | exact Int.le_trans (b := 100) (by assumption) (by decide) | exact Int.le_trans (b := 1000) (by assumption) (by decide) | exact bs1 100 (by assumption) (by decide) | exact bs1 1000 (by assumption) (by decide) | exact bs2 100 (by assumption) (by decide) | exact bs2 1000 (by assumption) (by decide) | exact bs3 100 (by assumption) (by decide) | exact bs3 1000 (by assumption) (by decide) | exact bs4 100 (by assumption) (by decide) | exact bs4 1000 (by assumption) (by decide) | omega); (case kc => first | assumption | (refine neN ?_; omega)); (case kr => k_all); (case k5 => k_asm); (case kK => first | exact rfl | assumption); (case kd => first | exact room_in (by assumption) (by decide) | ktr_room); (case ku => first | exact units_in (by assumption) (by decide) | ktr_units); (case kp => omega)) | (refine' DR.use1 (draw_tells _ _ _ _ _ _ _) ?kp ?k1 ?k2 ?k3 ?k4 ?kI ?kl ?kz ?kn ?km ?kb ?kc ?kr ?k5 ?kK ?kd ?ku ?_; (case k1 => k_asm); (case k2 => k_asm); (case k3 => k_asm); (case k4 => k_asm); (case kI => l_ints); (case kl => first | decide | assumption | omega); (case kn => assumption); (case km => assumption); (case kz => first | decide | assumption); (case kb => first | decide | assumption | exact Int.le_trans (b := 100) (by assumption) (by decide) | exact Int.le_trans (b := 1000) (by assumption) (by decide) | exact bs1 100 (by assumption) (by decide) | exact bs1 1000 (by assumption) (by decide) | exact bs2 100 (by assumption) (by decide) | exact bs2 1000 (by assumption) (by decide) | exact bs3 100 (by assumption) (by decide) | exact bs3 1000 (by assumption) (by decide) | exact bs4 100 (by assumption) (by decide) | exact bs4 1000 (by assumption) (by decide) | omega); (case kc => first | assumption | (refine neN ?_; omega)); (case kr => k_all); (case k5 => k_asm); (case kK => first | exact rfl | assumption); (case kd => first | exact room_in (by assumption) (by decide) | ktr_room); (case ku => first | exact units_in (by assumption) (by decide) | ktr_units); (case kp => omega)) | (refine' DR.use2 (draw_tells _ _ _ _ _ _ _) ?kp ?k1 ?k2 ?k3 ?k4 ?kI ?kl ?kz ?kn ?km ?kb ?kc ?kr ?k5 ?kK ?kd ?ku ?_; (case k1 => k_asm); (case k2 => k_asm); (case k3 => k_asm); (case k4 => k_asm); (case kI => l_ints); (case kl => first | decide | assumption | omega); (case kn => assumption); (case km => assumption); (case kz => first | decide | assumption); (case kb => first | decide | assumption | exact Int.le_trans (b := 100) (by assumption) (by decide) | exact Int.le_trans (b := 1000) (by assumption) (by decide) | exact bs1 100 (by assumption) (by decide) | exact bs1 1000 (by assumption) (by decide) | exact bs2 100 (by assumption) (by decide) | exact bs2 1000 (by assumption) (by decide) | exact bs3 100 (by assumption) (by decide) | exact bs3 1000 (by assumption) (by decide) | exact bs4 100 (by assumption) (by decide) | exact bs4 1000 (by assumption) (by decide) | omega); (case kc => first | assumption | (refine neN ?_; omega)); (case kr => k_all); (case k5 => k_asm); (case kK => first | exact rfl | assumption); (case kd => first | exact room_in (by assumption) (by decide) | ktr_room); (case ku => first | exact units_in (by assumption) (by decide) | ktr_units); (case kp => omega)) | (refine' DR.use3 (draw_tells _ _ _ _ _ _ _) ?kp ?k1 ?k2 ?k3 ?k4 ?kI ?kl ?kz ?kn ?km ?kb ?kc ?kr ?k5 ?kK ?kd ?ku ?_; (case k1 => k_asm); (case k2 => k_asm); (case k3 => k_asm); (case k4 => k_asm); (case kI => l_ints); (case kl => first | decide | assumption | omega); (case kn => assumption); (case km => assumption); (case kz => first | decide | assumption); (case kb => first | decide | assumption | exact Int.le_trans (b := 100) (by assumption) (by decide) | exact Int.le_trans (b := 1000) (by assumption) (by decide) | exact bs1 100 (by assumption) (by decide) | exact bs1 1000 (by assumption) (by decide) | exact bs2 100 (by assumption) (by decide) | exact bs2 1000 (by assumption) (by decide) | exact bs3 100 (by assumption) (by decide) | exact bs3 1000 (by assumption) (by decide) | exact bs4 100 (by assumption) (by decide) | exact bs4 1000 (by assumption) (by decide) | omega); (case kc => first | assumption | (refine neN ?_; omega)); (case kr => k_all); (case k5 => k_asm); (case kK => first | exact rfl | assumption); (case kd => first | exact room_in (by assumption) (by decide) | ktr_room); (case ku => first | exact units_in (by assumption) (by decide) | ktr_units); (case kp => omega))); intro r9 t9 n9 u9 k9 h9 tk9 hr9 hn9 hm9 F9 N9; (try dsimp only); (try k_fold))
  unfold DR prg; k_fill
  intro dp un gd cn cs ad ccd cl outer A₀ base h₀ L m D C ws ns c k n u rest s Q E B F X N hI hlen hn0 hn1 hDC hrest T hk hpre hd hu hret
  have hA9 := Int.le_refl n
  refine wpAny_call ?_
  k_dflt cell_enter
  k_steps
  all_goals (refine' hret _ _ _ _ _ _ _ ?e1 ?e4 ?e5 ?e2 ?e3; (case e2 => k_asm); (case e3 => (refine' cb_drop ?cbN (sub3 ?s1 ?s2 ?s3); (case cbN => assumption); (case s1 => k_mem); (case s2 => k_mem); (case s3 => (intro p hp; repeat (first | exact hp | refine List.Mem.tail _ ?_))))); (case e4 => first | assumption | omega); (case e5 => first | exact up3 (by assumption) | exact up4 (by assumption) | exact up2 (by assumption) | omega); (case e1 => first | exact size_near (size_p1 hpre.1 _ _) hpre | exact size_near (size_p2 (by assumption) _) hpre))
theorem bool_true {h₀ h' : Heap} {L : Addr} {m : Str → Option Value} {news : List (Addr × Obj)} {s : Shared} {Q : Value → Shared → Prop} {y : Bool} {tk' : Nat}
    (hret : ∀ (t : Tok) h' tk', Fr h₀ L h' m → News h₀ L h' news → Q (.bool true) { s with heap := h', toks := tk' }) (e : y = true) (F : Fr h₀ L h' m) (N : News h₀ L h' news) : Q (.bool y) { s with heap := h', toks := tk' } := by
  subst e
  exact hret 0 h' tk' F N
local macro_rules | `(tactic| bits_by_make) => `(tactic| exact bits_small (by omega) (by omega))
theorem isangle_tells (w : World) (loose mean mg mb) (a : Int) (ta : Tok) (h : Int) (th : Tok) (v : Int) (tv : Tok) : PT w loose mean mg mb 180 6 (near20 h ∧ near20 v ∧ arctR h v a ∧ (h ≠ 0 ∨ v ≠ 0)) [.int a ta, .int h th, .int v tv] (fun _ => .bool true) := by
  k_with_none
  k_with "storeName" => (k_here; (dsimp only); (try k_gentoks))
  k_with "binaryOp Pow int int" => (k_here; (with_reducible show wpAny _ _ (binaryOp Operator.Pow (Value.int 10 _) (Value.int 40 _)) _ _ _); refine pow_lit (by decide +kernel : (10:Int) ^ Int.toNat 40 = 10000000000000000000000000000000000000000) (by decide) (by decide) (by decide) ?_)
  k_with "binaryOp Pow int int" => (k_here; (with_reducible show wpAny _ _ (binaryOp Operator.Pow (Value.int 10 _) (Value.int 20 _)) _ _ _); refine pow_lit (by decide +kernel : (10:Int) ^ Int.toNat 20 = 100000000000000000000) (by decide) (by decide) (by decide) ?_)
  k_with "call ref" => (k_here; (with_reducible show wpAny _ _ (call (Value.ref 138) _) _ _ _); refine wpAny_call ?_; k_dflt (refine' code_def ?k1 ?k2 ?k3 ?k4 ?k5 ?kA ?kF ?kK ?k6 ?k7 ?k8 ?k9 ?kB ?_ ?c2 ?c3 ?c4 ?c5; (case kA => exact rfl); (case kF => exact rfl); (case kK => first | exact rfl | assumption); (case k1 => k_asm); (case k2 => k_asm); (case k3 => k_asm); (case k4 => k_asm); (case k5 => k_asm); (case k6 => k_is); (case k7 => k_is); (case k8 => ktr_room); (case k9 => exact BindsTo.of_eq rfl); (case c5 => decide); (case kB => exact locs rfl); (case c2 => exact rfl); (case c3 => exact rfl); (case c4 => exact rfl)); intro g8 L8 h8 FG8 F8 N8 B8 X8 T8; (try dsimp only); (try k_lift B8); (try k_fold))
  k_with "call ref" => (k_here; (with_reducible show wpAny _ _ (call (Value.ref 145) [Value.int _ _]) _ _ _); k_dflt (refine' PR.use (lawsine_tells _ _ _ _ _ _ _) ?kp ?k1 ?k2 ?k3 ?k4 ?k5 ?kK ?kd ?ku ?_; (case k1 => k_asm); (case k2 => k_asm); (case k3 => k_asm); (case k4 => k_asm); (case k5 => k_asm); (case kK => first | exact rfl | assumption); (case kd => first | exact room_in (by assumption) (by decide) | ktr_room); (case ku => first | exact units_in (by assumption) (by decide) | ktr_units); (case kp => first | decide | exact wide_in (by assumption) (by decide) | (omega))); intro r9 t9 h9 tk9 hr9 F9 N9; (have hB9 := lawR_bd hr9); (try ((rename (_ ≠ 0 ∨ _ ≠ 0) => hz9); have hM9 := isangle_main hz9 (by assumption) hr9 (by assumption))); (try dsimp only); (try k_fold))
  unfold PT prg; k_fill
  intro dp un gd cn cs ad ccd cl outer A₀ base h₀ L m news s Q E B F X N T hk hpre hd hu hret
  obtain ⟨hh, hv, hA, hz⟩ := hpre
  have hx := arct_range hz hA
  have hh2 := hh
  have hv2 := hv
  unfold near20 at hh2 hv2
  refine wpAny_call ?_
  k_dflt cell_enter
  k_steps
  all_goals (refine' bool_true (Q := Q) (s := s) hret ?e1 ?e2 ?e3; (case e2 => k_asm); (case e3 => first | k_asm | (refine' cb_drop ?cbN ?cbS; (case cbN => assumption); (case cbS => (intro p hp; repeat (first | exact hp | refine List.Mem.tail _ ?_))))); (case e1 => first | rfl | exact decide_eq_true hM9.2.2 | ((rename (_ ∧ _ ∧ _ ≤ _) => hM9); exact decide_eq_true hM9.2.2)))
/-- every object keeps its dict -/
noncomputable def KD (h h' : Heap) : Prop := ∀ a o, h.get? a = some o → ∃ o', h'.get? a = some o' ∧ o'.dict = o.dict
theorem KD.refl (h : Heap) : KD h h := fun _ o e => ⟨o, e, rfl⟩
theorem KD.trans {h₁ h₂ h₃ : Heap} (x : KD h₁ h₂) (y : KD h₂ h₃) : KD h₁ h₃ := fun a o e =>
  let ⟨_, e₁, d₁⟩ := x a o e; let ⟨o₂, e₂, d₂⟩ := y a _ e₁; ⟨o₂, e₂, d₂.trans d₁⟩
theorem KD.push (h : Heap) (o : Obj) : KD h (h.push o) := fun _ o' e => ⟨o', Heap.get?_push_of_some o e, rfl⟩

noncomputable def Mild (f : Obj → Obj) : Prop := ∀ o, o.isFreed = false → (f o).dict = o.dict ∧ (f o).isFreed = false
theorem KD.update {h : Heap} {a : Addr} {f : Obj → Obj} (m : Mild f) : KD h (h.update a f) := fun b o e => by
  by_cases q : a = b
  · subst q
    have hf := (Heap.get?_some_iff.mp e).2
    exact ⟨f o, Heap.get?_update_self f e (m o hf).2, (m o hf).1⟩
  · exact ⟨o, (Heap.get?_update_other h f q).trans e, rfl⟩

/-- a tree that calls nothing and whose updates are mild -/
noncomputable def Tame {α : Type} : Sem α → Prop
  | .pure _ => True
  | .raise _ => True
  | .unsupported _ => True
  | .finish _ => True
  | .rule _ k => ∀ x, Tame (k x)
  | .at _ k => ∀ x, Tame (k x)
  | .load _ _ k => ∀ x, Tame (k x)
  | .update _ _ f k => Mild f ∧ ∀ x, Tame (k x)
  | .loadIfAlive _ k => ∀ x, Tame (k x)
  | .point _ k => ∀ x, Tame (k x)
  | .register _ _ => True
  | .alloc _ k => ∀ x, Tame (k x)
  | .fresh k => ∀ x, Tame (k x)
  | .ask k => ∀ x, Tame (k x)
  | .handled _ k => ∀ x, Tame (k x)
  | .stack k => ∀ x, Tame (k x)
  | _ => False

theorem Tame.bind {α β : Type} {m : Sem α} {f : α → Sem β} (h : Tame m) (k : ∀ x, Tame (f x)) : Tame (m.bind f) := by
  induction m with
  | pure a => exact k a
  | raise e => trivial
  | unsupported w => trivial
  | finish e => trivial
  | register a _ => trivial
  | update a p g q ih => exact ⟨h.1, fun x => ih x (h.2 x)⟩
  | rule _ _ ih | «at» _ _ ih | load _ _ _ ih | loadIfAlive _ _ ih | point _ _ ih | alloc _ _ ih | fresh _ ih | ask _ ih | handled _ _ ih | stack _ ih => exact fun x => ih x (h x)
  | _ => exact h.elim
theorem Tame.bind' {α β : Type} {m : Sem α} {f : α → Sem β} (h : Tame m) (k : ∀ x, Tame (f x)) : Tame (m >>= f) := Tame.bind h k

theorem wp_kd {α : Type} {M : Model} {Γ : PySem.Ctx} {t : Sem α} {Q : α → Pos → Shared → Prop} {E : Value → Pos → Shared → Prop} {p : Pos} {s : Shared} (T : Tame t)
    (h : Sem.wp M Γ t (fun a p' s' => KD s.heap s'.heap → Q a p' s') (fun e p' s' => KD s.heap s'.heap → E e p' s') p s) : Sem.wp M Γ t Q E p s := by
  induction t generalizing p s with
  | pure a => exact h (KD.refl _)
  | raise e => exact h (KD.refl _)
  | unsupported w => exact h
  | finish e => exact h
  | register a k ih => exact h
  | rule _ k ih => exact ih () (T ()) h
  | «at» _ k ih => exact ih () (T ()) h
  | load a _ k ih => obtain ⟨o, ho, h⟩ := h; exact ⟨o, ho, ih o (T o) h⟩
  | loadIfAlive a k ih => exact ih _ (T _) h
  | point _ k ih => exact ih () (T ()) h
  | ask k ih => exact ih _ (T _) h
  | handled _ k ih => exact ih _ (T _) h
  | stack k ih => exact ih _ (T _) h
  | fresh k ih => exact ih _ (T _) h
  | alloc o k ih =>
    refine ih _ (T _) (Sem.wp_mono M Γ _ (fun a p' s' q kd => q ((KD.push _ o).trans kd)) (fun a p' s' q kd => q ((KD.push _ o).trans kd)) _ _ h)
  | update a _ f k ih =>
    obtain ⟨ho, h⟩ := h
    exact ⟨ho, ih _ (T.2 _) (Sem.wp_mono M Γ _ (fun _ p' s' q kd => q ((KD.update T.1).trans kd)) (fun _ p' s' q kd => q ((KD.update T.1).trans kd)) _ _ h)⟩
  | _ => exact T.elim

theorem wpAny_kd {α : Type} {M : Model} {A : Around} {t : Sem α} {Q : α → Shared → Prop} {E : Value → Shared → Prop} {s : Shared} (T : Tame t)
    (h : wpAny M A t (fun a s' => KD s.heap s'.heap → Q a s') (fun e s' => KD s.heap s'.heap → E e s') s) : wpAny M A t Q E s :=
  fun Γ p hΓ => wp_kd T (h Γ p hΓ)

theorem mild_fields (f : Array Value → Array Value) : Mild (Obj.mapFields f) := fun o h => by
  obtain ⟨c, d, dt, sl⟩ := o
  cases dt <;> first | exact ⟨rfl, h⟩ | exact ⟨rfl, rfl⟩
theorem mild_slots (f : Obj → Array (Option Value)) : Mild (fun o => { o with slots := f o }) := fun o h => by
  obtain ⟨c, d, dt, sl⟩ := o
  cases dt <;> first | exact ⟨rfl, h⟩ | exact ⟨rfl, rfl⟩

theorem tame_pure {α : Type} (a : α) : Tame (pure a : Sem α) := trivial
theorem tame_load (a : Addr) : Tame (load a) := fun _ => trivial
theorem tame_loadPart (a : Addr) (p : Option Value) : Tame (loadPart a p) := fun _ => trivial
theorem tame_uns {α : Type} (w : String) : Tame (unsupported w : Sem α) := trivial
theorem tame_stack : Tame stack := fun _ => trivial
theorem tame_field (v : Value) (i : Nat) : Tame (field v i) := by
  unfold field fieldsOf
  refine Tame.bind' ?_ fun vs => ?_
  · cases v <;> simp only <;> (try exact tame_uns _)
    refine Tame.bind' (tame_load _) fun o => ?_
    split <;> first | exact tame_pure _ | exact tame_uns _
  · split <;> first | exact tame_pure _ | exact tame_uns _
theorem tame_updateField (a : Addr) (i : Nat) (v : Value) : Tame (updateField a i v) := by
  unfold updateField
  refine Tame.bind' (tame_load _) fun o => ?_
  split
  · split
    · exact ⟨mild_fields _, fun _ => trivial⟩
    · exact tame_uns _
  · exact tame_uns _
theorem tame_setField (v : Value) (i : Nat) (x : Value) : Tame (setField v i x) := by
  unfold setField
  cases v <;> simp only <;> first | exact tame_updateField _ _ _ | exact tame_uns _
theorem tame_setFlight (e : Value) (f : Option Addr) : Tame (setFlight e f) := by
  unfold setFlight
  refine Tame.bind' (tame_field _ _) fun tb => ?_
  split
  · exact tame_setField _ _ _
  · exact tame_pure _
theorem tame_newFields (ty : String) (vs : List Value) : Tame (newFields ty vs) := by
  unfold newFields newObj newObjAsIs
  dsimp only
  split
  · exact tame_uns _
  · refine Tame.bind' (fun _ => trivial) fun a => ?_
    exact tame_pure _
theorem tame_frameEnvs : Tame frameEnvs := by
  unfold frameEnvs
  exact Tame.bind' tame_stack fun _ => tame_pure _
theorem tame_readyFrames : ∀ l, Tame (readyFrames l)
  | [] => trivial
  | env :: outer => by
    unfold readyFrames
    split
    · refine Tame.bind' (tame_load _) fun o => ?_
      split
      · exact tame_pure _
      · refine Tame.bind' ?_ fun im => Tame.bind' ?_ fun back => Tame.bind' (⟨mild_slots _, fun _ => trivial⟩) fun _ => tame_readyFrames outer
        · unfold behindIsImport
          split
          · exact tame_pure _
          · split
            · exact tame_pure _
            · exact Tame.bind' (tame_field _ _) fun _ => tame_pure _
        · unfold keptBack
          split
          · split
            · exact tame_pure _
            · refine Tame.bind' ?_ fun _ => ?_
              · unfold underTheClaimsCaller
                exact Tame.bind' tame_stack fun _ => tame_pure _
              · split <;> exact tame_pure _
          · exact tame_pure _
    · exact tame_uns _
theorem tame_frameOf (env : Env) : Tame (PySem.frameOf env) := by
  unfold PySem.frameOf
  refine Tame.bind' tame_frameEnvs fun l => Tame.bind' ?_ fun r => ?_
  · unfold frameObject
    split
    · exact tame_pure _
    · exact Tame.bind' (tame_readyFrames _) fun _ => tame_pure _
  · split <;> first | exact tame_pure _ | exact tame_uns _
theorem tame_entryPlaceOf (f : Addr) (b : Bool) : Tame (entryPlaceOf f b) := by
  unfold entryPlaceOf
  refine Tame.bind' tame_stack fun l => ?_
  split <;> exact tame_pure _
theorem tame_noteFrame (e : Value) (env : Env) : Tame (noteFrame e env) := by
  unfold noteFrame
  split
  · refine Tame.bind' (tame_field _ _) fun head => ?_
    split
    · refine Tame.bind' (tame_field _ _) fun x => ?_
      split
      · exact tame_pure _
      · refine Tame.bind' (tame_setField _ _ _) fun _ => ?_
        exact Tame.bind' (tame_frameOf _) fun _ => Tame.bind' (tame_entryPlaceOf _ _) fun _ => Tame.bind' (tame_newFields _ _) fun _ => tame_setField _ _ _
    · exact Tame.bind' (tame_frameOf _) fun _ => Tame.bind' (tame_entryPlaceOf _ _) fun _ => Tame.bind' (tame_newFields _ _) fun _ => tame_setField _ _ _
  · exact tame_uns _
theorem tame_leaving (env : Env) (e : Value) : Tame (leaving env e) := by
  unfold leaving
  exact Tame.bind' (tame_noteFrame _ _) fun _ => tame_setFlight _ _
section
open PySem.W.X
set_option maxHeartbeats 0
/-- a dict's object that holds the one name told -/
noncomputable def ToldObj (od : Obj) (v : Value) : Prop := ∃ es ep, od.data = .dict es ep ∧ StrKeys es ∧ ∀ name, nsFind es name = (if name = "told" then some v else none)
theorem told_obj (H : Int) (tk : Tok) (v : Value) (n : Nat) : ToldObj { cls := .type "dict", data := .dict #[{ hash := H, key := .str { cps := { toList := [116, 111, 108, 100] } } tk, val := v }] n } v := by
  refine ⟨_, _, rfl, fun e he => ?_, fun name => ?_⟩
  · rw [List.mem_toArray, List.mem_singleton] at he
    subst he
    exact ⟨_, _, rfl⟩
  · exact findBy_push (fun n v => v.isStr n) #[] ("told" : Str) name H (.str { cps := { toList := [116, 111, 108, 100] } } tk) v (fun y => by
      show ((("told" : Str) == y)) = decide (y = "told")
      by_cases q : ("told" : Str) = y
      · rw [decide_eq_true q.symm]; exact beq_iff_eq.mpr q
      · rw [decide_eq_false (fun z => q z.symm)]; exact beq_eq_false_iff_ne.mpr q) (by simp)
structure MadeT (h h' : Heap) (e dd t : Addr) (od : Obj) (v : Value) : Prop where
  keeps : ∀ b o, h.get? b = some o → h'.get? b = some o
  ne : h.get? e = none
  nt : h.get? t = none
  nd : h.get? dd = none
  de : dd ≠ e
  dt : dd ≠ t
  he : h'.get? e = some { cls := .ref 45, dict := some dd, data := .fields #[.ref t, .none, .none, .none, .bool false, .none] }
  ht : h'.TupAt t [v]
  hd : h'.get? dd = some od
  ho : ToldObj od v
theorem madeT_of {h₀ h : Heap} {a0 a1 a2 a3 : Addr} {od o1 : Obj} {v : Value} {l : List (Addr × Obj)}
    (D : Mem h₀ h [] ((a0, od) :: (a1, o1) :: (a2, { cls := .ref 45, dict := some a0, data := .fields #[.ref a3, .none, .none, .none, .bool false, .none] }) :: (a3, { cls := .type "tuple", data := .seq #[v] }) :: l)) (ho : ToldObj od v) : MadeT h₀ h a2 a0 a3 od v where
  keeps b o e := D.keep b o e (by simp [away])
  ne := (D.nw _ (.tail _ (.tail _ (.head _)))).2
  nt := (D.nw _ (.tail _ (.tail _ (.tail _ (.head _))))).2
  nd := (D.nw _ (.head _)).2
  de := D.ne 0 2 _ _ _ _ rfl rfl rfl
  dt := D.ne 0 3 _ _ _ _ rfl rfl rfl
  he := (D.nw _ (.tail _ (.tail _ (.head _)))).1
  ht := ⟨_, _, (D.nw _ (.tail _ (.tail _ (.tail _ (.head _))))).1, rfl, rfl⟩
  hd := (D.nw _ (.head _)).1
  ho := ho
theorem made_end {h₀ h : Heap} {g : Array GenState} {d : Drawn} {os : OsState} {tk : Nat} {a0 a1 a2 a3 : Addr} {od o1 : Obj} {v : Value} {Q : Value → Shared → Prop}
    (hret : ∀ e dd t od h' tk', MadeT h₀ h' e dd t od v → Q (.ref e) { heap := h', gens := g, drawn := d, toks := tk', os := os })
    (D : Mem h₀ h [] [(a0, od), (a1, o1), (a2, { cls := .ref 45, dict := some a0, data := .fields #[.ref a3, .none, .none, .none, .bool false, .none] }), (a3, { cls := .type "tuple", data := .seq #[v] })]) (ho : ToldObj od v) :
    Q (.ref a2) { heap := h, gens := g, drawn := d, toks := tk, os := os } := hret _ _ _ _ _ _ (madeT_of D ho)
local macro_rules | `(tactic| x_close) => `(tactic| (refine' made_end ?hr ?hD ?ho; (case hr => assumption); (case hD => assumption); (case ho => exact told_obj _ _ _ _)))
theorem made_tells {prog : Program} (w : World) (b : Array UInt8) (tb : Tok) (gd : Option (List Code)) (cn : Str) (cs : Scope) (a : Addr) (ccd : Value) (cl : List (Str × Addr)) (L : Addr) (outer : List Env) (env1 env2 : Env) (s : Shared) (Q E : Value → Shared → Prop)
    (X : (hd.heap_39 w.params).In s.heap)
    (hret : ∀ e dd t od h' tk', MadeT s.heap h' e dd t od (.bytes b tb) → Q (.ref e) { s with heap := h', toks := tk' }) :
      wpAny (model prog w) (((ktrTop 302 7 gd cn cs L a ccd cl outer).deeper env1).deeper env2) (call (.ref 45) [.bytes b tb]) Q E s := by
  k_fill
  x_run
end
noncomputable def RaisableO (K : Frag) (E : Value → Shared → Prop) (v : Value) (s₁ : Shared) : Prop :=
  ∃ e dd t, v = .ref e ∧ K.In s₁.heap ∧ s₁.heap.get? e = some { cls := .ref 45, dict := some dd, data := .fields #[.ref t, .none, .none, .none, .bool false, .none] } ∧ E (.ref e) s₁
section
variable {M : Model} {A : Around} {E : Value → Shared → Prop} {s : Shared} {env : Env}
theorem raise_told {K : Frag} {x : Expr} {pos : Pos} {Q : Flow → Shared → Prop} {hX : Heap} (_ : K.In hX) (q : ktsIn K 45 "BaseException" = true) (hh : A.handled = none)
    (h : wpAny M A (eval x env) (RaisableO K E) E s) : wpAny M A (exec (.Raise (some x) none pos) env) Q E s := by
  show wpAny M A (do standAt pos; raiseStmt env (some (do let v ← eval x env; standAt pos; pure v)) none) Q E s
  refine wpAny_bind (wpAny_standAt ?_)
  unfold raiseStmt
  refine wpAny_bind (wpAny_bind (wpAny_mono h (fun v s₁ h₁ => wpAny_bind (wpAny_standAt (wpAny_pure ?_))) fun _ _ x => x))
  obtain ⟨e, dd, t, rfl, X, he, hE⟩ := h₁
  obtain ⟨nm, q', N, bs, bm, hdct, sn, sub, ab, col, d5, k0, k1, k2, k3, k5, newId, hC, hbase, _⟩ := kts_cls X q
  have hcB : (Value.ref 45 :: bm).contains (.type "BaseException") = true := by rw [List.contains_cons, hbase, Bool.or_true]
  obtain ⟨hp, g, d, tk, os⟩ := s₁
  repeat (first | with_reducible refine wpAny_loadPart_at he ?_ | with_reducible refine wpAny_loadPart_at hC ?_ | (with_reducible refine wpAny_isSubtype_exc hC ?_; rw [hcB]) | wp_step)
  exact wpAny_raiseNew_none hh hE
end

theorem made_raise (w : World) (b : Array UInt8) (tb : Tok) {gd : Option (List Code)} {cn : Str} {cs : Scope} {a : Addr} {ccd : Value} {cl : List (Str × Addr)} {L : Addr} {outer : List Env} {env1 env2 : Env} {s : Shared} {E E' : Value → Shared → Prop}
    {g₁ : Heap} {L₁ : Addr} {m₁ : Str → Option Value} (X₁ : (hd.heap_39 w.params).In g₁) (F₁ : Fr g₁ L₁ s.heap m₁)
    (hret : ∀ e dd t od h' tk', MadeT s.heap h' e dd t od (.bytes b tb) → E (.ref e) { s with heap := h', toks := tk' }) :
      wpAny (model prg w) (((ktrTop 302 7 gd cn cs L a ccd cl outer).deeper env1).deeper env2) (call (.ref 45) [.bytes b tb]) (RaisableO (hd.heap_39 w.params) E) E' s :=
  have X : (hd.heap_39 w.params).In s.heap := X₁.keeps F₁.keep
  made_tells w b tb gd cn cs a ccd cl L outer env1 env2 s _ _ X fun e dd t od h' tk' M => ⟨e, dd, t, rfl, X.keeps M.keeps, M.he, hret e dd t od h' tk' M⟩

section
variable {M : Model} {A : Around} {E : Value → Shared → Prop} {s' : Shared} {base g h : Heap} {outer : List Env} {L a e dd t : Addr} {od : Obj} {v : Value} {m : Str → Option Value} {name : Str} {scope : Scope} {cd : Value} {Q : Unit → Shared → Prop} {news : List (Addr × Obj)}
theorem leave_told (K : Below A base outer g) (hx : MadeT h s'.heap e dd t od v) (F : Fr g L h m) (N : News g L h news)
    (hQ : ∀ h', RaisedS base g outer e (.ref 45) t [v] ((dd, od) :: news) h' → (∃ oe, h'.get? e = some oe ∧ oe.dict = some dd) → g.UpToSlots h' → Q () { s' with heap := h' }) (hk : scope.kind = .function := by rfl) :
    wpAny M (A.deeper (envOf name scope L a cd)) (leaving (envOf name scope L a cd) (.ref e)) Q E s' := by
  have K' := K.push (name := name) (a := a) (cd := cd) F hk
  have old : ∀ b o, h.get? b = some o → b ∉ (envOf name scope L a cd :: outer).filterMap (·.frame) → (hideAll s'.heap (e :: t :: (envOf name scope L a cd :: outer).filterMap (·.frame))).get? b = some o := fun b o ho nm => by
    refine hideAll_get _ (hx.keeps b o ho) fun hm => ?_
    rcases List.mem_cons.mp hm with z | hm
    · rw [z, hx.ne] at ho; cases ho
    · rcases List.mem_cons.mp hm with z | hm
      · rw [z, hx.nt] at ho; cases ho
      · exact nm hm
  have fresh : ∀ b, h.get? b = none → g.get? b = none ∧ base.get? b = none := fun b hb => by
    have hg : g.get? b = none := kts_none F.keep hb
    exact ⟨hg, kts_none K.stays hg⟩
  have inFrame : ∀ b, b ∈ (envOf name scope L a cd :: outer).filterMap (·.frame) → ∃ o, h.get? b = some o := fun b hb =>
    let ⟨_, o, ho, _⟩ := K'.frames.mem hb; ⟨o, ho⟩
  have st : base.StaysIn (hideAll s'.heap (e :: t :: (envOf name scope L a cd :: outer).filterMap (·.frame))) := fun b o q => old b o (K'.stays b o q) fun hm => by
    rw [(K'.frames.mem hm).1] at q; cases q
  have sg : ∀ b o, g.get? b = some o → b ∉ outer.filterMap (·.frame) → (hideAll s'.heap (e :: t :: (envOf name scope L a cd :: outer).filterMap (·.frame))).get? b = some o := fun b o q nm => old b o (F.keep b o q) fun hm => by
    rcases kts_mem hm with z | z
    · rw [z, kts_self F] at q; cases q
    · exact nm z
  have hl : ∀ q ∈ (dd, od) :: news, (hideAll s'.heap (e :: t :: (envOf name scope L a cd :: outer).filterMap (·.frame))).get? q.1 = some q.2 ∧ g.get? q.1 = none ∧ base.get? q.1 = none := fun q hq => by
    rcases List.mem_cons.mp hq with rfl | hq
    · refine ⟨hideAll_get _ hx.hd fun hm => ?_, fresh dd hx.nd⟩
      rcases List.mem_cons.mp hm with z | hm
      · exact hx.de z
      · rcases List.mem_cons.mp hm with z | hm
        · exact hx.dt z
        · obtain ⟨o, ho⟩ := inFrame _ hm
          have := hx.nd
          rw [ho] at this; cases this
    · refine ⟨old _ _ (N q hq).1 fun hm => ?_, (N q hq).2.2, kts_none K.stays (N q hq).2.2⟩
      rcases kts_mem hm with z | z
      · exact (N q hq).2.1 z
      · obtain ⟨_, o, ho, _⟩ := K.frames.mem z
        rw [(N q hq).2.2] at ho; cases ho
  have fr : s'.heap.FunFrames (hideAll s'.heap (e :: t :: (envOf name scope L a cd :: outer).filterMap (·.frame))) (envOf name scope L a cd :: outer) :=
    funFrames_hide (K'.frames.of_keeps fun b o hb _ => ⟨o, hx.keeps b o hb, rfl⟩) fun env he b hb => .tail _ (.tail _ (List.mem_filterMap.mpr ⟨env, he, hb⟩))
  refine wpAny_kd (tame_leaving _ _) (wpAny_leaving_firstW (a0 := .ref t) K'.stack fr rfl hx.he (fun b o q => of_hideAll _ q) (hideAll_none _ (.head _)) rfl rfl rfl fun h' hL kd => ?_)
  obtain ⟨k1, ⟨_, _, k2⟩, k3, k4⟩ := hL
  have U : s'.heap.UpToSlots h' := k4
  obtain ⟨oe, ho1, ho2⟩ := kd e _ hx.he
  exact hQ h' ⟨⟨_, st, sg, hl, ⟨k1, hideAll_none _ (.head _), k2, k3⟩, hideAll_none _ (.tail _ (.head _))⟩, hx.ht.of_slots U⟩ ⟨oe, ho1, ho2⟩
    (((Heap.UpToSlots.of_keeps F.keep).trans (Heap.UpToSlots.of_keeps hx.keeps)).trans U)
end

section
variable {prog : Program} {w : World} {A₀ : Around} {E : Value → Shared → Prop} {s' : Shared} {base g g₀ G : Heap} {outer : List Env} {L a e t dd : Addr} {m : Str → Option Value} {name : Str} {scope : Scope} {cd : Value}
  {vs : List Value} {n : Str} {b₀ : Stmt} {suite : List Stmt} {pos np : Pos} {rest : List ExceptHandler} {Q : Flow → Shared → Prop} {news : List (Addr × Obj)} {KF : Frag}
  {p : Program} {loose : List Str} {mean : ExcName → Option Value} {mg mb : Str → Option Value} {x : Str}
theorem caught_told (R : RaisedS base G (envOf name scope L a cd :: outer) e (.ref 45) t vs news s'.heap) (hdt : ∃ oe, s'.heap.get? e = some oe ∧ oe.dict = some dd) (F : Fr g L G m) (K : Below A₀ base outer g) (hsm : G.UpToSlots s'.heap) (XB : KF.In base) (TB : Top p loose mean mg mb base)
    (D : KtsDicts (outer.filterMap (·.frame)) g) (T0 : KtsTurn (outer.filterMap (·.frame)) g₀ g)
    (ex : nsIn KF mainGlobals x = some (some (.ref 45))) (q : ktsIn KF 45 "BaseException" = true)
    (k : ∀ h' g' oe ws tk, KtsTurn (outer.filterMap (·.frame)) g₀ g' → Fr g' L h' (fun y => if y = n then some (.ref e) else m y) → oe.cls = .ref 45 → oe.dict = some dd → oe.data = .fields ws → News g' L h' ((e, oe) :: news) → Below A₀ base outer g' → KF.In g' → Top p loose mean mg mb g' → KtsDicts (outer.filterMap (·.frame)) g' →
      wpAny (model prog w) ((A₀.deeper (envOf name scope L a cd)).mark (some (.ref e))) (execs (b₀ :: suite) (envOf name scope L a cd))
        (fun f s₄ => wpAny (model prog w) (A₀.deeper (envOf name scope L a cd)) (do bindName (envOf name scope L a cd) n .none; unbindBehindTheSuite (envOf name scope L a cd) n pos) (fun _ s₅ => Q f s₅) E s₄)
        (AsSuiteRaised (model prog w) ((A₀.deeper (envOf name scope L a cd)).mark (some (.ref e))) (envOf name scope L a cd) n pos (notedBy (model prog w) ((A₀.deeper (envOf name scope L a cd)).mark (some (.ref e))) (envOf name scope L a cd) (cameBackBy (model prog w) (A₀.deeper (envOf name scope L a cd)) (envOf name scope L a cd) E)))
        { s' with heap := h', toks := tk })
    (hk : scope.kind = .function := by rfl) (hlo : (envOf name scope L a cd).kindOf n = some .local := by rfl) (hx : (envOf name scope L a cd).kindOf x = some .globalImplicit := by rfl) (hd : (x == ("__debug__" : Str)) = false := by decide) :
    wpAny (model prog w) (A₀.deeper (envOf name scope L a cd)) (noteFrame (.ref e) (envOf name scope L a cd))
      (fun _ s₂ => wpAny (model prog w) (A₀.deeper (envOf name scope L a cd)) (setFlight (.ref e) none) (fun _ s₃ =>
        wpAny (model prog w) (A₀.deeper (envOf name scope L a cd)) (handleBy (.ref e) (envOf name scope L a cd) (.ExceptHandler (some (.Name x np)) (some n) (b₀ :: suite) pos :: rest)) Q E s₃) E s₂) E s' := by
  obtain ⟨⟨B, hB, hBG, hl, hfl, hnew⟩, htup⟩ := R
  obtain ⟨oe₀, he₀, hd₀⟩ := hdt
  have hL : B.get? L = none := by
    obtain ⟨_, ⟨L', _, hf, hn', _⟩, _⟩ := hfl.2.2.1
    obtain rfl : L = L' := Option.some.inj hf
    exact hn'
  refine wpAny_kd (tame_noteFrame _ _) (wpAny_looks_onW (Around.frames_deeper K.stack) rfl hfl fun h₄ held₄ sm₄ kd₄ => ?_)
  refine wpAny_kd (tame_setFlight _ _) (wpAny_landsW held₄ fun h₅ held sm₅ kd₅ => ?_)
  have U₅ := sm₄.trans sm₅
  have kd := kd₄.trans kd₅
  obtain ⟨g₅, T₅, F₅, K₅⟩ := kts_ground K F hBG held.1 (hsm.trans U₅)
  have X₅ : KF.In g₅ := XB.keeps K₅.stays
  have P₅ : TopRead p loose mg mb g₅ := topRead_of (TB.keeps K₅.stays)
  obtain ⟨ob, hob, hobc⟩ := held.there
  obtain ⟨nm, q', N, bs, bm, hdct, sn, sub, ab, col, d5, k0, k1, k2, k3, k5, newId, hC, hbase, _⟩ := kts_cls X₅ q
  refine wpAny_handleBy_cons (codeAny_handlers_test (name_K F₅ X₅ P₅ ex ?_ hk hx hd)) (by intro q; cases q)
  refine wpAny_excMatches_sub_self (F₅.keep _ _ hC) hob hobc hbase (codeAny_handlers_suite_as ?_)
  refine wpAny_kd (tame_setFlight _ _) (lands_againW held fun h₆ fl₆ sm₆ kd₆ => ?_)
  obtain ⟨g₆, T₆, F₆, K₆⟩ := kts_ground K F hBG fl₆.1 ((hsm.trans U₅).trans sm₆)
  obtain ⟨oe, ws, hoe, hoec, hoed, _⟩ := fl₆.first
  obtain ⟨o₂, ho₂, hd₂⟩ := (kd.trans kd₆) e oe₀ he₀
  have hoeq : oe.dict = some dd := by
    rw [hoe] at ho₂
    cases ho₂
    exact hd₂.trans hd₀
  have ne₆ : g₆.get? e = none := T₆.none_ _ (kts_fresh F hBG fl₆.2.1 fun o ho hm => by
    obtain ⟨_, o', ho', hnf⟩ := K.frames.mem hm
    rw [ho] at ho'
    cases ho'
    obtain ⟨sl, hs⟩ := ((hsm.trans U₅).trans sm₆) _ _ (F.keep _ _ ho) hnf
    rw [hoe] at hs
    cases hs
    exact hnf _ hoed)
  have N₆ : News g₆ L h₆ ((e, oe) :: news) := fun z hz => by
    rcases List.mem_cons.mp hz with rfl | hz
    · refine ⟨hoe, fun y => ?_, ne₆⟩
      obtain ⟨oL, es, ep, hoL, hdL, _⟩ := F₆.ns
      have y' : e = L := y
      rw [y', hoL] at hoe
      cases hoe
      rw [hoed] at hdL
      cases hdL
    · exact ⟨fl₆.1 _ _ (hl z hz).1, (fun y => by have := (hl z hz).1; rw [y, hL] at this; cases this), T₆.none_ _ (kts_none F.keep (hl z hz).2.1)⟩
  refine stN F₆ N₆ (fun h₇ F₇ N₇ => ?_) hk hlo
  exact k h₇ g₆ oe ws _ (T0.trans T₆) F₇ hoec hoeq hoed N₇ K₆ (XB.keeps K₆.stays) (TB.keeps K₆.stays) (D.turn T₆)
end
section
variable {prog : Program} {w : World} {A : Around} {E : Value → Shared → Prop} {h : Heap} {g : Array GenState} {d : Drawn} {t : Nat} {os : OsState} {e dd : Addr} {oe od : Obj} {ws : Array Value} {v : Value}

theorem ns_of {h : Heap} {a : Addr} {c : Value} {dd : Option Addr} {es : Array DictEntry} {n : Nat} {sl : Array (Option Value)} (e : h.get? a = some { cls := c, dict := dd, data := .dict es n, slots := sl }) (k : StrKeys es) : h.Ns a (nsFind es) :=
  ⟨_, es, n, e, rfl, k, fun _ => rfl⟩

theorem look45 {M : Model} {n : Str} {y : Option Value} {Q : Option Value → Shared → Prop} (X : (hd.heap_39 w.params).In h)
    (h1 : ∀ es k, (hd.heap_39 w.params).lookup 44 = some { cls := .type "dict", data := .dict es k } → StrKeys es ∧ nsFind es n = none)
    (h2 : ∀ es k, (hd.heap_39 w.params).lookup 31 = some { cls := .type "dict", data := .dict es k } → StrKeys es ∧ nsFind es n = none)
    (hr : lookupAlong [.type "Exception", .type "BaseException", .type "object"] n = pure y) (hq : Q y ⟨h, g, d, t, os⟩) : wpAny M A (typeLookup (.ref 45) n) Q E ⟨h, g, d, t, os⟩ := by
  have e45 := X 45 _ rfl
  have e32 := X 32 _ rfl
  have e44 := X 44 _ rfl
  have e31 := X 31 _ rfl
  have k44 := h1 _ _ rfl
  have k31 := h2 _ _ rfl
  rw [typeLookup_eq]
  refine wpAny_bind ?_
  unfold mroOf classData
  refine wpAny_bind (wpAny_bind (wpAny_load e45 (wpAny_pure (wpAny_pure ?_))))
  show wpAny _ _ (lookupAlong [.ref 45, .ref 32, .type "Exception", .type "BaseException", .type "object"] n) _ _ _
  rw [lookupAlong_cons]
  refine wpAny_bind (wpAny_classOwn_cls e45 (ns_of e44 k44.1) ?_)
  rw [k44.2]
  show wpAny _ _ (lookupAlong [.ref 32, .type "Exception", .type "BaseException", .type "object"] n) _ _ _
  rw [lookupAlong_cons]
  refine wpAny_bind (wpAny_classOwn_cls e32 (ns_of e31 k31.1) ?_)
  rw [k31.2]
  show wpAny _ _ (lookupAlong [.type "Exception", .type "BaseException", .type "object"] n) _ _ _
  rw [hr]
  exact wpAny_pure hq

theorem along (n : Str) {y : Option Value} (hB : typeLookup (.type "Exception") n = pure y) : lookupAlong [.type "Exception", .type "BaseException", .type "object"] n = pure y := by
  rw [typeLookup_eq, PySem.F.attrBase_Exception.mro] at hB
  exact hB
theorem k44 (n : Str) (hn : ∀ es k, (hd.heap_39 w.params).lookup 44 = some { cls := .type "dict", data := .dict es k } → nsFind es n = none) :
    ∀ es k, (hd.heap_39 w.params).lookup 44 = some { cls := .type "dict", data := .dict es k } → StrKeys es ∧ nsFind es n = none := fun es k e => by
  refine ⟨?_, hn es k e⟩
  have e' : (some _ : Option Obj) = _ := e
  injection e' with e'
  injection e' with _ _ e' _
  injection e' with e' _
  subst e'
  intro x hx
  simp only [List.mem_toArray, List.mem_cons, List.not_mem_nil, or_false] at hx
  rcases hx with h | h | h | h <;> (subst h; exact ⟨_, _, rfl⟩)
theorem k31 (n : Str) (hn : ∀ es k, (hd.heap_39 w.params).lookup 31 = some { cls := .type "dict", data := .dict es k } → nsFind es n = none) :
    ∀ es k, (hd.heap_39 w.params).lookup 31 = some { cls := .type "dict", data := .dict es k } → StrKeys es ∧ nsFind es n = none := fun es k e => by
  refine ⟨?_, hn es k e⟩
  have e' : (some _ : Option Obj) = _ := e
  injection e' with e'
  injection e' with _ _ e' _
  injection e' with e' _
  subst e'
  intro x hx
  simp only [List.mem_toArray, List.mem_cons, List.not_mem_nil, or_false] at hx
  rcases hx with h | h | h | h | h | h <;> (subst h; exact ⟨_, _, rfl⟩)
theorem ga_told {tk : Tok} {Q : Fin → Shared → Prop} (X : (hd.heap_39 w.params).In h) (hx : h.get? e = some oe) (hc : oe.cls = .ref 45) (hd' : oe.dict = some dd) (hw : oe.data = .fields ws) (ho : h.get? dd = some od) (hv : ToldObj od v)
    (hq : Q (.done (.ret v)) ⟨h, g, d, t, os⟩) : wpAny (model prog w) A (Builtin.«object.__getattribute__» ⟨[.ref e, .str "told" tk], []⟩) Q E ⟨h, g, d, t, os⟩ := by
  have hr : lookupAlong [.type "Exception", .type "BaseException", .type "object"] "told" = pure none := along "told" (by rw [typeLookup_type, builtinLookup_eq_fast]; kernel_rfl)
  have h1 := k44 (w := w) "told" (fun es k e => by
    have e' : (some _ : Option Obj) = _ := e
    injection e' with e'
    injection e' with _ _ e' _
    injection e' with e' _
    subst e'
    first | rfl | decide)
  have h2 := k31 (w := w) "told" (fun es k e => by
    have e' : (some _ : Option Obj) = _ := e
    injection e' with e'
    injection e' with _ _ e' _
    injection e' with e' _
    subst e'
    first | rfl | decide)
  obtain ⟨es, ep, hod, hk, hf⟩ := hv
  obtain ⟨oc, odc, odt, osl⟩ := oe
  dsimp only at hc hd' hw
  subst hc hd' hw
  have hns : h.Ns dd (fun name => if name = "told" then some v else none) := ⟨od, es, ep, ho, hod, hk, hf⟩
  repeat (any_goals (first | assumption | with_reducible refine wpAny_loadPart_at hx ?_ | with_reducible refine wpAny_nsGet hns ?_ | with_reducible refine look45 X h1 h2 hr ?_ | wp_step))
  have e45 := X 45 _ rfl
  repeat (any_goals (first | assumption | with_reducible refine wpAny_load e45 ?_ | with_reducible refine wpAny_loadPart_at hx ?_ | with_reducible refine wpAny_nsGet hns ?_ | unfold Builtin.ObjectAttr.inDict | wp_step))

theorem check_told {M : Model} {nameV : Value} {Q : Unit → Shared → Prop} (X : (hd.heap_39 w.params).In h) (hx : h.get? e = some oe) (hc : oe.cls = .ref 45) (hq : Q () ⟨h, g, d, t, os⟩) :
    wpAny M A (checkBuiltinCall "BaseException.__getattribute__" ⟨[.ref e, nameV], []⟩) Q E ⟨h, g, d, t, os⟩ := by
  have hk : builtinKind "BaseException.__getattribute__" = some .slot := by decide +kernel
  have hsplit : splitId "BaseException.__getattribute__" = some ("BaseException", "__getattribute__") := by decide +kernel
  have ha := PySem.F.args_bexc_ga (.ref e) nameV
  have q : ktsIn (hd.heap_39 w.params) 45 "BaseException" = true := rfl
  obtain ⟨nm, q', N, bs, bm, hdct, sn, sub, ab, col, d5, k0, k1, k2, k3, k5, newId, hC, hbase, _⟩ := kts_cls X q
  have hcB : (Value.ref 45 :: bm).contains (.type "BaseException") = true := by rw [List.contains_cons, hbase, Bool.or_true]
  simp only [checkBuiltinCall, hk, hsplit]
  refine wpAny_bind ?_
  unfold isInstance
  repeat (first | (with_reducible refine wpAny_loadPart_at hx ?_; rw [hc]) | (with_reducible refine wpAny_isSubtype_exc hC ?_; rw [hcB]) | wp_step)
  exact hq
theorem call_told {tk : Tok} {R : Result → Shared → Prop} (X : (hd.heap_39 w.params).In h) (hx : h.get? e = some oe) (hc : oe.cls = .ref 45) (hd' : oe.dict = some dd) (hw : oe.data = .fields ws) (ho : h.get? dd = some od) (hv : ToldObj od v)
    (hq : R (.ok (.ret v)) ⟨h, g, d, t, os⟩) : codeAny (model prog w) A (.call (.builtin "BaseException.__getattribute__") ⟨[.ref e, .str "told" tk], []⟩) R ⟨h, g, d, t, os⟩ :=
  codeAny_call_builtin PySem.F.attrBase_Exception.ga.plain PySem.F.entry_bexc_ga (check_told X hx hc (ga_told X hx hc hd' hw ho hv hq))
theorem by_told {b : Array UInt8} {tk tb : Tok} {fill expr : Bool} {Q : Value → Shared → Prop} (X : (hd.heap_39 w.params).In h) (hx : h.get? e = some oe) (hc : oe.cls = .ref 45) (hd' : oe.dict = some dd) (hw : oe.data = .fields ws) (ho : h.get? dd = some od) (hv : ToldObj od (.bytes b tb))
    (hq : Q (.bytes b tb) ⟨h, g, d, t, os⟩) : wpAny (model prog w) A (getAttrBy (.ref e) (.str "told" tk) fill expr) Q E ⟨h, g, d, t, os⟩ := by
  have f3 := PySem.F.attrBase_Exception.ga.bind (.ref e)
  have hx0 : (expr && onTheHeap (Value.builtin "BaseException.__getattribute__")) = false := by cases expr <;> rfl
  have hx2 : (Value.builtin "BaseException.__getattribute__" == Value.builtin "object.__getattribute__") = false := by decide +kernel
  have hx1 : (onTheHeap (Value.ref 45) && Value.builtin "BaseException.__getattribute__" == Value.builtin "object.__getattribute__") = false := by rw [hx2]; rfl
  have r1 := along "__getattribute__" PySem.F.attrBase_Exception.ga.lookup
  have r2 := along "__getattr__" PySem.F.attrBase_Exception.noGetattr
  have a1 := k44 (w := w) "__getattribute__" (fun es k e => by
    have e' : (some _ : Option Obj) = _ := e
    injection e' with e'
    injection e' with _ _ e' _
    injection e' with e' _
    subst e'
    first | rfl | decide)
  have a2 := k31 (w := w) "__getattribute__" (fun es k e => by
    have e' : (some _ : Option Obj) = _ := e
    injection e' with e'
    injection e' with _ _ e' _
    injection e' with e' _
    subst e'
    first | rfl | decide)
  have b1 := k44 (w := w) "__getattr__" (fun es k e => by
    have e' : (some _ : Option Obj) = _ := e
    injection e' with e'
    injection e' with _ _ e' _
    injection e' with e' _
    subst e'
    first | rfl | decide)
  have b2 := k31 (w := w) "__getattr__" (fun es k e => by
    have e' : (some _ : Option Obj) = _ := e
    injection e' with e'
    injection e' with _ _ e' _
    injection e' with e' _
    subst e'
    first | rfl | decide)
  repeat (any_goals (first | assumption | (with_reducible refine wpAny_loadPart_at hx ?_; rw [hc]) | with_reducible refine look45 X a1 a2 r1 ?_ | with_reducible refine look45 X b1 b2 r2 ?_ | wp_step))
  refine call_told X hx hc hd' hw ho hv ?_
  repeat (any_goals (first | assumption | wp_step))
theorem attr_told {b : Array UInt8} {tb : Tok} {expr : Bool} {Q : Value → Shared → Prop} (X : (hd.heap_39 w.params).In h) (hx : h.get? e = some oe) (hc : oe.cls = .ref 45) (hd' : oe.dict = some dd) (hw : oe.data = .fields ws) (ho : h.get? dd = some od) (hv : ToldObj od (.bytes b tb))
    (hq : Q (.bytes b tb) ⟨h, g, d, t + 1, os⟩) : wpAny (model prog w) A (getAttr (.ref e) "told" expr) Q E ⟨h, g, d, t, os⟩ := by
  unfold getAttr
  repeat (any_goals (first | assumption | with_reducible apply by_told X hx hc hd' hw ho hv | wp_step))
end
theorem attr_use {prog : Program} {w : World} {A : Around} {E : Value → Shared → Prop} {s : Shared} {g₁ ha hb : Heap} {L₁ e dd t : Addr} {m₁ : Str → Option Value} {oe od : Obj} {ws : Array Value} {b : Array UInt8} {tb : Tok} {news : List (Addr × Obj)} {expr : Bool} {Q : Value → Shared → Prop}
    (X₁ : (hd.heap_39 w.params).In g₁) (F₁ : Fr g₁ L₁ s.heap m₁) (N₁ : News g₁ L₁ s.heap ((e, oe) :: (dd, od) :: news)) (hc : oe.cls = .ref 45) (hd' : oe.dict = some dd) (hw : oe.data = .fields ws) (M : MadeT ha hb e dd t od (.bytes b tb))
    (hq : Q (.bytes b tb) { s with toks := s.toks + 1 }) : wpAny (model prog w) A (getAttr (.ref e) "told" expr) Q E s :=
  attr_told (X₁.keeps F₁.keep) (N₁ _ (.head _)).1 hc hd' hw (N₁ _ (.tail _ (.head _))).1 M.ho hq
/-- as PT, the caller's frame being the lowest one -/
noncomputable def PT0 (w : World) (loose : List Str) (mean : ExcName → Option Value) (mg mb : Str → Option Value) (f : Addr) (pre : Prop) (vs : List Value) (R : Tok → Value) : Prop :=
  ∀ (gd : Option (List Code)) (cn : Str) (cs : Scope) (a : Addr) (ccd : Value) (A₀ : Around) (base h₀ : Heap) (L : Addr) (m : Str → Option Value) (news : List (Addr × Obj)) (s : Shared) (Q E : Value → Shared → Prop),
    Below A₀ base [] h₀ → Fr h₀ L s.heap m → (hd.heap_39 w.params).In h₀ → News h₀ L s.heap news → Top Hd.Q loose mean mg mb h₀ → cs.kind = .function → pre →
    (∀ (t : Tok) (h' : Heap) (tk' : Nat), Fr h₀ L h' m → News h₀ L h' news → Q (R t) { s with heap := h', toks := tk' }) →
      wpAny (model prg w) (ktrTop 302 7 gd cn cs L a ccd [] []) (call (.ref f) vs) Q E s
theorem PT0.use {w : World} {loose : List Str} {mean : ExcName → Option Value} {mg mb : Str → Option Value} {f : Addr} {pre : Prop} {vs : List Value} {R : Tok → Value}
    {gd : Option (List Code)} {cn : Str} {cs : Scope} {a : Addr} {ccd : Value} {A₀ : Around} {base h₀ : Heap} {L : Addr} {m : Str → Option Value} {news : List (Addr × Obj)} {s : Shared} {Q E : Value → Shared → Prop}
    (C : PT0 w loose mean mg mb f pre vs R) (hp : pre) (B : Below A₀ base [] h₀) (F : Fr h₀ L s.heap m) (X : (hd.heap_39 w.params).In h₀) (N : News h₀ L s.heap news) (T : Top Hd.Q loose mean mg mb h₀) (hk : cs.kind = .function)
    (ret : ∀ (t : Tok) (h' : Heap) (tk' : Nat), Fr h₀ L h' m → News h₀ L h' news → Q (R t) { s with heap := h', toks := tk' }) :
    wpAny (model prg w) (ktrTop 302 7 gd cn cs L a ccd [] []) (call (.ref f) vs) Q E s := C _ _ _ _ _ _ _ _ _ _ _ _ _ _ B F X N T hk hp ret
theorem ret_b {h₀ h' : Heap} {L : Addr} {m : Str → Option Value} {news : List (Addr × Obj)} {s : Shared} {Q : Value → Shared → Prop} {V : Array UInt8} {t : Tok} {tk' : Nat}
    (hret : ∀ t h' tk', Fr h₀ L h' m → News h₀ L h' news → Q (.bytes V t) { s with heap := h', toks := tk' }) (F : Fr h₀ L h' m) (N : News h₀ L h' news) : Q (.bytes V t) { s with heap := h', toks := tk' } :=
  hret t h' tk' F N
theorem toldB_tells (w : World) (loose mean mg mb) (tw ta tb : Tok) : PT0 w loose mean mg mb 173 (True) [.int 0 tw, .int 0 ta, .int 0 tb] (fun t => Value.bytes #[117, 110, 100, 101, 102, 105, 110, 101, 100, 114, 101, 115, 117, 108, 116] t) := by
  k_with_none
  k_with "storeName" => (k_here; (dsimp only); (try k_gentoks))
  k_with "exec Raise some none" => (k_here; (with_reducible show wpAny _ _ (exec (Stmt.Raise (some (Expr.Call _ _ _ _)) none _) _) _ _ _); k_dflt (refine' raise_told ?X ?q ?hh ?_; (case X => assumption); (case q => exact rfl); (case hh => exact rfl)))
  k_with "call ref" => (k_here; (with_reducible show wpAny _ _ (call (Value.ref 45) _) _ _ _); k_dflt (refine' made_raise _ _ _ ?X ?F ?_; (case F => assumption); (case X => assumption)); intro e9 d9 t9 o9 h9 tk9 M9; (try dsimp only))
  k_with "leaving ref" => (k_here; (refine' leave_told ?K ?hx ?F ?N ?_; (case hx => assumption); (case F => assumption); (case K => assumption); (case N => k_asm)); intro h9 R9 T9 U9; (try dsimp only at R9 U9 ⊢))
  k_with "noteFrame ref" => (k_here; k_dflt (refine' caught_told ?R ?T ?F ?K ?U ?XB ?TB ?D ?T0 ?ex ?q ?_; (case R => assumption); (case T => assumption); (case F => assumption); (case K => assumption); (case U => assumption); (case XB => assumption); (case TB => assumption); (case D => assumption); (case T0 => first | assumption | exact KtsTurn.refl); (case ex => k_is); (case q => exact rfl)); intro h9 g9 oe9 ws9 tk9 T9 F9 ec9 ed9 ef9 N9 K9 X9 P9 D9; (try k_lift K9))
  k_with "getAttr ref" => (k_here; k_dflt (refine' attr_use ?X ?F ?N ?c ?d ?w ?M ?_; (case M => assumption); (case F => assumption); (case X => assumption); (case N => assumption); (case c => assumption); (case d => assumption); (case w => assumption)))
  k_with "call ref" => (k_here; (with_reducible show wpAny _ _ (call (Value.ref 124) _) _ _ _); refine wpAny_call ?_; k_dflt (refine' code_def ?k1 ?k2 ?k3 ?k4 ?k5 ?kA ?kF ?kK ?k6 ?k7 ?k8 ?k9 ?kB ?_ ?c2 ?c3 ?c4 ?c5; (case kA => exact rfl); (case kF => exact rfl); (case kK => first | exact rfl | assumption); (case k1 => k_asm); (case k2 => k_asm); (case k3 => k_asm); (case k4 => k_asm); (case k5 => k_asm); (case k6 => k_is); (case k7 => k_is); (case k8 => ktr_room); (case k9 => exact BindsTo.of_eq rfl); (case c5 => decide); (case kB => exact locs rfl); (case c2 => exact rfl); (case c3 => exact rfl); (case c4 => exact rfl)); intro g8 L8 h8 FG8 F8 N8 B8 X8 T8; (try dsimp only); (try k_lift B8); (try k_fold))
  unfold PT0 prg; k_fill
  intro gd cn cs ad ccd A₀ base h₀ L m news s Q E B F X N T hk hpre hret
  have B0 : Below A₀ h₀ [] h₀ := ⟨B.stack, fun _ _ e => e, trivial⟩
  clear B
  refine wpAny_call ?_
  k_dflt (refine' code_defS0 ?k1 ?k2 ?k3 ?k4 ?k5 ?kA ?k6 ?k7 ?k8 ?k9 ?kB ?_ ?cK ?c2 ?c3 ?c4 ?c5; (case kA => exact rfl); (case k2 => k_asm); (case k1 => k_asm); (case k3 => k_asm); (case k4 => k_asm); (case k5 => k_asm); (case k6 => k_is); (case k7 => k_is); (case k8 => k_room); (case k9 => first | exact binds_K (by k_in) rfl (by k_is) rfl rfl rfl | exact BindsTo.of_eq rfl); (case kB => exact locs rfl); (case cK => first | exact rfl | assumption); (case c2 => exact rfl); (case c3 => exact rfl); (case c4 => exact rfl); (case c5 => decide))
  intro g' L' h' FG' F' N' B' X' T' D'
  try dsimp only
  try k_lift B'
  try k_fold
  k_steps
  all_goals (refine' ret_b (Q := Q) (s := s) hret ?e2 ?e3; (case e2 => k_asm); (case e3 => first | k_asm | (refine' cb_drop ?cbN ?cbS; (case cbN => assumption); (case cbS => (intro p hp; repeat (first | exact hp | refine List.Mem.tail _ ?_))))))
theorem toldC_tells (w : World) (loose mean mg mb) (tw : Tok) (a : Int) (ta tb : Tok) : PT0 w loose mean mg mb 173 (a < 0) [.int 1 tw, .int a ta, .int 0 tb] (fun t => Value.bytes #[114, 97, 110, 103, 101, 99, 104, 101, 99, 107] t) := by
  k_with_none
  k_with "storeName" => (k_here; (dsimp only); (try k_gentoks))
  k_with "exec Raise some none" => (k_here; (with_reducible show wpAny _ _ (exec (Stmt.Raise (some (Expr.Call _ _ _ _)) none _) _) _ _ _); k_dflt (refine' raise_told ?X ?q ?hh ?_; (case X => assumption); (case q => exact rfl); (case hh => exact rfl)))
  k_with "call ref" => (k_here; (with_reducible show wpAny _ _ (call (Value.ref 45) _) _ _ _); k_dflt (refine' made_raise _ _ _ ?X ?F ?_; (case F => assumption); (case X => assumption)); intro e9 d9 t9 o9 h9 tk9 M9; (try dsimp only))
  k_with "leaving ref" => (k_here; (refine' leave_told ?K ?hx ?F ?N ?_; (case hx => assumption); (case F => assumption); (case K => assumption); (case N => k_asm)); intro h9 R9 T9 U9; (try dsimp only at R9 U9 ⊢))
  k_with "noteFrame ref" => (k_here; k_dflt (refine' caught_told ?R ?T ?F ?K ?U ?XB ?TB ?D ?T0 ?ex ?q ?_; (case R => assumption); (case T => assumption); (case F => assumption); (case K => assumption); (case U => assumption); (case XB => assumption); (case TB => assumption); (case D => assumption); (case T0 => first | assumption | exact KtsTurn.refl); (case ex => k_is); (case q => exact rfl)); intro h9 g9 oe9 ws9 tk9 T9 F9 ec9 ed9 ef9 N9 K9 X9 P9 D9; (try k_lift K9))
  k_with "getAttr ref" => (k_here; k_dflt (refine' attr_use ?X ?F ?N ?c ?d ?w ?M ?_; (case M => assumption); (case F => assumption); (case X => assumption); (case N => assumption); (case c => assumption); (case d => assumption); (case w => assumption)))
  k_with "call ref" => (k_here; (with_reducible show wpAny _ _ (call (Value.ref 124) _) _ _ _); refine wpAny_call ?_; k_dflt (refine' code_def ?k1 ?k2 ?k3 ?k4 ?k5 ?kA ?kF ?kK ?k6 ?k7 ?k8 ?k9 ?kB ?_ ?c2 ?c3 ?c4 ?c5; (case kA => exact rfl); (case kF => exact rfl); (case kK => first | exact rfl | assumption); (case k1 => k_asm); (case k2 => k_asm); (case k3 => k_asm); (case k4 => k_asm); (case k5 => k_asm); (case k6 => k_is); (case k7 => k_is); (case k8 => ktr_room); (case k9 => exact BindsTo.of_eq rfl); (case c5 => decide); (case kB => exact locs rfl); (case c2 => exact rfl); (case c3 => exact rfl); (case c4 => exact rfl)); intro g8 L8 h8 FG8 F8 N8 B8 X8 T8; (try dsimp only); (try k_lift B8); (try k_fold))
  k_with "call ref" => (k_here; (with_reducible show wpAny _ _ (call (Value.ref 68) _) _ _ _); refine wpAny_call ?_; k_dflt (refine' code_def ?k1 ?k2 ?k3 ?k4 ?k5 ?kA ?kF ?kK ?k6 ?k7 ?k8 ?k9 ?kB ?_ ?c2 ?c3 ?c4 ?c5; (case kA => exact rfl); (case kF => exact rfl); (case kK => first | exact rfl | assumption); (case k1 => k_asm); (case k2 => k_asm); (case k3 => k_asm); (case k4 => k_asm); (case k5 => k_asm); (case k6 => k_is); (case k7 => k_is); (case k8 => ktr_room); (case k9 => exact BindsTo.of_eq rfl); (case c5 => decide); (case kB => exact locs rfl); (case c2 => exact rfl); (case c3 => exact rfl); (case c4 => exact rfl)); intro g8 L8 h8 FG8 F8 N8 B8 X8 T8; (try dsimp only); (try k_lift B8); (try k_fold))
  unfold PT0 prg; k_fill
  intro gd cn cs ad ccd A₀ base h₀ L m news s Q E B F X N T hk hpre hret
  have B0 : Below A₀ h₀ [] h₀ := ⟨B.stack, fun _ _ e => e, trivial⟩
  clear B
  refine wpAny_call ?_
  k_dflt (refine' code_defS0 ?k1 ?k2 ?k3 ?k4 ?k5 ?kA ?k6 ?k7 ?k8 ?k9 ?kB ?_ ?cK ?c2 ?c3 ?c4 ?c5; (case kA => exact rfl); (case k2 => k_asm); (case k1 => k_asm); (case k3 => k_asm); (case k4 => k_asm); (case k5 => k_asm); (case k6 => k_is); (case k7 => k_is); (case k8 => k_room); (case k9 => first | exact binds_K (by k_in) rfl (by k_is) rfl rfl rfl | exact BindsTo.of_eq rfl); (case kB => exact locs rfl); (case cK => first | exact rfl | assumption); (case c2 => exact rfl); (case c3 => exact rfl); (case c4 => exact rfl); (case c5 => decide))
  intro g' L' h' FG' F' N' B' X' T' D'
  try dsimp only
  try k_lift B'
  try k_fold
  k_steps
  all_goals (refine' ret_b (Q := Q) (s := s) hret ?e2 ?e3; (case e2 => k_asm); (case e3 => first | k_asm | (refine' cb_drop ?cbN ?cbS; (case cbN => assumption); (case cbS => (intro p hp; repeat (first | exact hp | refine List.Mem.tail _ ?_))))))
theorem told0_use {w : World} {loose : List Str} {mean : ExcName → Option Value} {mg mb : Str → Option Value} {h v : Int} {tw th tv : Tok}
    {gd : Option (List Code)} {cn : Str} {cs : Scope} {a : Addr} {ccd : Value} {A₀ : Around} {base h₀ : Heap} {L : Addr} {m : Str → Option Value} {news : List (Addr × Obj)} {s : Shared} {Q E : Value → Shared → Prop}
    (hp : near20 h ∧ near20 v) (B : Below A₀ base [] h₀) (F : Fr h₀ L s.heap m) (X : (hd.heap_39 w.params).In h₀) (N : News h₀ L s.heap news) (T : Top Hd.Q loose mean mg mb h₀) (hk : cs.kind = .function)
    (ret1 : ∀ (r : Int) (t : Tok) (h' : Heap) (tk' : Nat), (h ≠ 0 ∨ v ≠ 0) → near20 h → near20 v → arctR h v r → Fr h₀ L h' m → News h₀ L h' news → Q (.int r t) { s with heap := h', toks := tk' })
    (ret2 : ∀ (t : Tok) (h' : Heap) (tk' : Nat), h = 0 ∧ v = 0 → Fr h₀ L h' m → News h₀ L h' news → Q (.bytes #[117, 110, 100, 101, 102, 105, 110, 101, 100, 114, 101, 115, 117, 108, 116] t) { s with heap := h', toks := tk' }) :
    wpAny (model prg w) (ktrTop 302 7 gd cn cs L a ccd [] []) (call (.ref 173) [.int 0 tw, .int h th, .int v tv]) Q E s := by
  obtain ⟨p1, p2⟩ := hp
  have q1 := p1
  have q2 := p2
  unfold near20 at q1 q2
  by_cases hz : h = 0 ∧ v = 0
  · obtain ⟨rfl, rfl⟩ := hz
    exact PT0.use (toldB_tells w loose mean mg mb tw th tv) trivial B F X N T hk (fun t h' tk' F' N' => ret2 t h' tk' ⟨rfl, rfl⟩ F' N')
  · have hz2 : h ≠ 0 ∨ v ≠ 0 := by omega
    exact PR.use (toldA_tells w loose mean mg mb tw h th v tv) ⟨q1.1, q1.2, q2.1, q2.2, hz2⟩ B F X N T hk (by decide) (by decide) (fun r t h' tk' hr F' N' => ret1 r t h' tk' hz2 p1 p2 hr F' N')
theorem number_bd (i : Nat) {r : Int} (hr : 0 ≤ r ∧ r < 1000) : 0 ≤ [(0:Int), 1, 2, 999999, 2000000, 1000000000000000, 1000000000000000000000 - 1000].getD i 0 + r ∧ [(0:Int), 1, 2, 999999, 2000000, 1000000000000000, 1000000000000000000000 - 1000].getD i 0 + r ≤ 1000000000000000000000000000000 := by
  have h1 := menu_bd (l := [(0:Int), 1, 2, 999999, 2000000, 1000000000000000, 1000000000000000000000 - 1000]) (lo := 0) (hi := 1000000000000000000000) (by decide) (by decide) i
  omega
theorem rootR_f {v r : Int} (h : rootR v r) (hv : v ≤ 1000000000000000000000000000000) : 0 ≤ r ∧ r ≤ 100000000000000000000000000000000000000000000000000 ∧ 4 * v * 1000000 ≤ (2 * r + 1) * (2 * r + 1) ∧ (0 < r → (2 * r - 1) * (2 * r - 1) ≤ 4 * v * 1000000) := by
  obtain ⟨a1, a2, a3⟩ := h
  refine ⟨a1, ?_, a2, a3⟩
  rcases Int.lt_or_le 100000000000000000000000000000000000000000000000000 r with h | h
  · have := a3 (by omega)
    have := Int.mul_le_mul (show (100000000000000000000000000000000000000000000000000:Int) ≤ 2 * r - 1 by omega) (show (100000000000000000000000000000000000000000000000000:Int) ≤ 2 * r - 1 by omega) (by omega) (by omega)
    omega
  · exact h
theorem pow2 {prog : Program} {w : World} {A : Around} {E : Value → Shared → Prop} {s : Shared} {x : Int} {t u : Tok} {Q : Value → Shared → Prop} (h1 : -1000000000000000000000000000000000000000000000000000000000000000000000000000000000000000000000000000000000000000000000000000000000000000000000000000000000000000000000000000000000000000000000000000000000000000000000000000000000000000000000000000000000000000000000000000000000000000000000000000000000000 ≤ x) (h2 : x ≤ 1000000000000000000000000000000000000000000000000000000000000000000000000000000000000000000000000000000000000000000000000000000000000000000000000000000000000000000000000000000000000000000000000000000000000000000000000000000000000000000000000000000000000000000000000000000000000000000000000000000000000) (h : Q (.int (x * x) s.toks) { s with toks := s.toks + 1 }) : wpAny (model prog w) A (binaryOp .Pow (.int x t) (.int 2 u)) Q E s := by
  refine pow_int (by decide) ?_ ?_
  · have := bits_small h1 h2
    have e : (2:Int) ^ 27 = 134217728 := by decide
    rw [e]
    omega
  · have e : x ^ (2:Int).toNat = x * x := by
      show x ^ 2 = x * x
      rw [Int.pow_succ, Int.pow_succ, Int.pow_zero, Int.one_mul]
    rw [e]
    exact h

noncomputable def lawJ (l D : Addr) (ws : List Value) (i : Nat) (m : Str → Option Value) (news : List (Addr × Obj)) : Prop :=
  ∃ (n : Int) (u : Tok) (k c : Nat), m (Str.ofString "deck") = some (.ref l) ∧ (l, W.listOf #[Value.ref D, Value.int n u] k) ∈ news ∧ (D, W.listOf ws.toArray c) ∈ news ∧ 0 ≤ n ∧ n ≤ 50 * (i:Int)
theorem turns_gen {prog : Program} {w : World} {A : Around} {E : Value → Shared → Prop} {s : Shared} {env : Env} {h₀ : Heap} {x : Str} {body : List Stmt} {Q : Flow → Shared → Prop} {I : Addr} {a : Int} {nn : Nat} (J : Nat → (Str → Option Value) → List (Addr × Obj) → Prop)
    (turn : ∀ i m₁ news₁, i < 2 → J i m₁ news₁ → ∀ t h tk, Fr h₀ env.locals h (fun y => if y = x then some (.int (a + (i : Int)) t) else m₁ y) → News h₀ env.locals h ((I, itR (a + ((i + 1 : Nat) : Int)) ((nn : Int) - ((i + 1 : Nat) : Int))) :: news₁) →
      wpAny (model prog w) A (execs body env) (UnrPost h₀ env.locals { s with heap := h, toks := tk } I (itR (a + ((i + 1 : Nat) : Int)) ((nn : Int) - ((i + 1 : Nat) : Int))) (J (i + 1)) Q) E { s with heap := h, toks := tk })
    (fin : ∀ m₁ news₁, J 2 m₁ news₁ → ∀ h tk, Fr h₀ env.locals h m₁ → News h₀ env.locals h news₁ → Q .next { s with heap := h, toks := tk }) :
    ∀ k i m₁ news₁, k + i = 2 → J i m₁ news₁ → RangeRest prog w A E h₀ env x body Q s I a nn k i m₁ news₁
  | 0, i, m₁, news₁, hk, j => by
    have : i = 2 := by omega
    subst this
    exact fin m₁ news₁ j
  | k+1, i, m₁, news₁, hk, j => fun t h tk F N => by
    refine wpAny_mono (turn i m₁ news₁ (by omega) j t h tk F N) (fun f s₂ p => ?_) fun _ _ e => e
    have up : ∀ {s₁ : Shared} {it : Obj} {s₂ : Shared}, UnrEnd h₀ env.locals s₁ I it (J (i+1)) s₂ → UnrEnd h₀ env.locals s₁ I it (RangeRest prog w A E h₀ env x body Q s I a nn k (i+1)) s₂ := by
      rintro s₁ it s₂ ⟨h', tk, m', news', e, F', N', ho, r⟩
      exact ⟨h', tk, m', news', e, F', N', ho, turns_gen J turn fin k (i+1) m' news' (by omega) r⟩
    cases f with
    | ret v => exact p
    | brk => exact p
    | next => exact up p
    | cont => exact up p
theorem law_turns {prog : Program} {w : World} {A : Around} {E : Value → Shared → Prop} {s : Shared} {env : Env} {h₀ : Heap} {x : Str} {body : List Stmt} {Q : Flow → Shared → Prop} {I : Addr} {a : Int} {nn : Nat} {l D : Addr} {ws : List Value} {n : Int} {u : Tok} {k c : Nat} {m : Str → Option Value} {news : List (Addr × Obj)}
    (mem1 : (l, W.listOf #[Value.ref D, Value.int n u] k) ∈ news) (mem2 : (D, W.listOf ws.toArray c) ∈ news) (hm : m (Str.ofString "deck") = some (.ref l)) (hn0 : 0 ≤ n) (hn1 : n ≤ 0)
    (lI : l < I) (DI : D < I) (lD : D ≠ l) (turn : ∀ (i : Nat) (b : Int) (mm : Str → Option Value) (n : Int) (u : Tok) (k c : Nat) t h tk, b ≤ 100 → b + 17 ≤ 50 * ((i + 1 : Nat):Int) → I ≠ l → I ≠ D → D ≠ l → 0 ≤ n → n ≤ b → Fr h₀ env.locals h (fun y => if y = x then some (.int (a + (i : Int)) t) else if y = (Str.ofString "deck") then some (.ref l) else mm y) → News h₀ env.locals h [(I, itR (a + ((i + 1 : Nat) : Int)) ((nn : Int) - ((i + 1 : Nat) : Int))), (l, W.listOf #[Value.ref D, Value.int n u] k), (D, W.listOf ws.toArray c)] →
      wpAny (model prog w) A (execs body env) (UnrPost h₀ env.locals { s with heap := h, toks := tk } I (itR (a + ((i + 1 : Nat) : Int)) ((nn : Int) - ((i + 1 : Nat) : Int))) (lawJ l D ws (i + 1)) Q) E { s with heap := h, toks := tk })
    (fin : ∀ (mm : Str → Option Value) (n : Int) (u : Tok) (k c : Nat) h tk, 0 ≤ n → n ≤ 100 → Fr h₀ env.locals h (fun y => if y = (Str.ofString "deck") then some (.ref l) else mm y) → News h₀ env.locals h [(l, W.listOf #[Value.ref D, Value.int n u] k), (D, W.listOf ws.toArray c)] → Q .next { s with heap := h, toks := tk }) :
    RangeRest prog w A E h₀ env x body Q s I a nn 2 0 m news := by
  have canon : ∀ m₁ : Str → Option Value, m₁ (Str.ofString "deck") = some (.ref l) → m₁ = fun y => if y = (Str.ofString "deck") then some (.ref l) else m₁ y := fun m₁ h => by
    funext y
    by_cases q : y = (Str.ofString "deck")
    · rw [if_pos q, q, h]
    · rw [if_neg q]
  refine turns_gen (lawJ l D ws) ?_ ?_ 2 0 m news rfl ⟨n, u, k, c, hm, mem1, mem2, hn0, by omega⟩
  · rintro i m₁ news₁ hi ⟨n, u, k, c, hm, h1, h2, hn0, hn1⟩ t h tk F N
    rw [canon m₁ hm] at F
    exact turn i (50 * (i:Int)) m₁ n u k c t h tk (by omega) (by omega) (fun e => absurd lI (by rw [e]; exact Nat.lt_irrefl _)) (fun e => absurd DI (by rw [e]; exact Nat.lt_irrefl _)) lD hn0 hn1 F fun p hp => by
      rcases List.mem_cons.mp hp with rfl | hp
      · exact N _ (.head _)
      · rcases List.mem_cons.mp hp with rfl | hp
        · exact N _ (.tail _ h1)
        · rw [List.mem_singleton.mp hp]; exact N _ (.tail _ h2)
  · rintro m₁ news₁ ⟨n, u, k, c, hm, h1, h2, hn0, hn1⟩ h tk F N
    rw [canon m₁ hm] at F
    exact fin m₁ n u k c h tk hn0 hn1 F fun p hp => by
      rcases List.mem_cons.mp hp with rfl | hp
      · exact N _ h1
      · rw [List.mem_singleton.mp hp]; exact N _ h2
theorem unr_endJ {h₀ : Heap} {L I : Addr} {it : Obj} {s₁ : Shared} {h' : Heap} {tk : Nat} {m' : Str → Option Value} {all : List (Addr × Obj)} {l D : Addr} {ws : List Value} {n : Int} {u : Tok} {k c i : Nat} (F : Fr h₀ L h' m') (N : News h₀ L h' all)
    (hI : (I, it) ∈ all) (h1 : (l, W.listOf #[Value.ref D, Value.int n u] k) ∈ all) (h2 : (D, W.listOf ws.toArray c) ∈ all) (n1 : l < I) (n2 : D < I) (hm : m' (Str.ofString "deck") = some (.ref l)) (b0 : 0 ≤ n) (b1 : n ≤ 50 * ((i + 1 : Nat) : Int)) : UnrEnd h₀ L s₁ I it (lawJ l D ws (i + 1)) { s₁ with heap := h', toks := tk } := by
  refine UnrEnd.intro F N [(l, W.listOf #[Value.ref D, Value.int n u] k), (D, W.listOf ws.toArray c)] (fun p hp => ?_) (fun p hp e => ?_) ⟨n, u, k, c, hm, .head _, .tail _ (.head _), b0, b1⟩
  · rcases List.mem_cons.mp hp with rfl | hp
    · exact hI
    · rcases List.mem_cons.mp hp with rfl | hp
      · exact h1
      · rw [List.mem_singleton.mp hp]; exact h2
  · rcases List.mem_cons.mp hp with rfl | hp
    · exact absurd n1 (by rw [show l = I from e]; exact Nat.lt_irrefl _)
    · rw [List.mem_singleton.mp hp] at e
      exact absurd n2 (by rw [show D = I from e]; exact Nat.lt_irrefl _)
/-- behind the two statements that settle the point's angle -/
noncomputable def lawMid (h₀ : Heap) (L : Addr) (m : Str → Option Value) (news : List (Addr × Obj)) (s s'' : Shared) : Prop :=
  ∃ h' tk v, s'' = { s with heap := h', toks := tk } ∧ Fr h₀ L h' (fun y => if y = (Str.ofString "told") then some v else m y) ∧ News h₀ L h' news
theorem law_join {prog : Program} {w : World} {A : Around} {E : Value → Shared → Prop} {s : Shared} {env : Env} {h₀ : Heap} {L : Addr} {Q : Flow → Shared → Prop} {m : Str → Option Value} {news : List (Addr × Obj)} {s1 s2 : Stmt} {rest : List Stmt}
    (_ : Fr h₀ L s.heap m) (_ : News h₀ L s.heap news)
    (h : wpAny (model prog w) A (exec s1 env) (fun f s' => match f with | .next => wpAny (model prog w) A (exec s2 env) (fun f s'' => match f with | .next => lawMid h₀ L m news s s'' | f => Q f s'') E s' | f => Q f s') E s)
    (k : ∀ h' tk v, Fr h₀ L h' (fun y => if y = (Str.ofString "told") then some v else m y) → News h₀ L h' news → wpAny (model prog w) A (execs rest env) Q E { s with heap := h', toks := tk }) : wpAny (model prog w) A (execs (s1 :: s2 :: rest) env) Q E s := by
  refine wpAny_execs_cons (wpAny_mono h (fun f s' p => ?_) fun _ _ e => e)
  cases f with
  | next =>
    refine wpAny_execs_cons (wpAny_mono p (fun f s'' p => ?_) fun _ _ e => e)
    cases f with
    | next =>
      obtain ⟨h', tk, v, rfl, F, N⟩ := p
      exact k h' tk v F N
    | _ => exact p
  | _ => exact p
theorem lawJ_of {all : List (Addr × Obj)} {m' : Str → Option Value} {l D : Addr} {ws : List Value} {n : Int} {u : Tok} {k c i : Nat} (hm : m' (Str.ofString "deck") = some (.ref l)) (h1 : (l, W.listOf #[Value.ref D, Value.int n u] k) ∈ all) (h2 : (D, W.listOf ws.toArray c) ∈ all) (b0 : 0 ≤ n) (b1 : n ≤ 50 * ((i + 1 : Nat) : Int)) : lawJ l D ws (i + 1) m' all :=
  ⟨n, u, k, c, hm, h1, h2, b0, b1⟩
theorem ite_nt {a b : Prop} (h : b) : if (!true) = true then a else b := h
theorem ite_cf {c : Bool} {a b : Prop} (hc : c = false) (h : b) : if c = true then a else b := by rw [hc]; exact h
theorem ite_bb {l : List UInt8} {a b : Prop} (h : b) : if (l != l) = true then a else b := ite_cf (by simp) h

theorem law_holds : PySem.Challenge.rw_nt0484_01.Holds := Mine.hd (by
  k_with_none
  k_with "storeName" => (k_here; (dsimp only); (try k_gentoks))
  k_with "execs cons" => (k_here; (with_reducible show wpAny _ _ (execs (Stmt.Assign [Expr.Name (Str.ofString "told") _] _ _ :: Stmt.If _ _ _ _ :: _) _) _ _ _); k_dflt (refine' law_join ?F ?N ?_ ?_; (case F => assumption); (case N => assumption)); rotate_left; (intro h9 tk9 v9 F9 N9); rotate_right; (all_goals try dsimp only); (all_goals try k_fold))
  k_with "lawMid" => (k_dflt (refine' ⟨_, _, _, rfl, ?F, ?N⟩; (case F => assumption); (case N => first | assumption | (refine' cb_drop ?cbN ?cbS; (case cbN => assumption); (case cbS => (intro p hp; repeat (first | exact hp | refine List.Mem.tail _ ?_)))))))
  k_with "RangeRest" => ((with_unfolding_all refine' law_turns ?m1 ?m2 ?hm ?n0 ?n1 ?z1 ?z2 ?z3 ?_ ?_; (case m1 => repeat (first | exact List.Mem.head _ | refine List.Mem.tail _ ?_)); (case m2 => repeat (first | exact List.Mem.head _ | refine List.Mem.tail _ ?_)); (case hm => first | exact rfl | decide); (case n0 => first | decide | omega); (case n1 => first | decide | omega); (case z1 => (refine ltN ?_; omega)); (case z2 => (refine ltN ?_; omega)); (case z3 => first | assumption | (refine neN ?_; omega))); (intro i9 b9 mm9 n9 u9 k9 c9 t9 h9 tk9 hb9 hi9 hx9 hy9 hz9 hn9 hm9 F9 N9); rotate_left; (intro mm9 n9 u9 k9 c9 h9 tk9 hn9 hm9 F9 N9); rotate_right; (all_goals try dsimp only); (all_goals try k_fold))
  k_with "lawJ cons" => (k_dflt (refine' lawJ_of ?hm ?h1 ?h2 ?b0 ?b1; (case h1 => repeat (first | exact List.Mem.head _ | refine List.Mem.tail _ ?_)); (case h2 => repeat (first | exact List.Mem.head _ | refine List.Mem.tail _ ?_)); (case hm => first | exact rfl | decide); (case b0 => first | assumption | omega); (case b1 => first | exact upJ (by assumption) (by assumption) | omega)))
  k_with "binaryOp Mult int int" => (k_here; with_reducible refine mul_int ?_ (mul_small (by first | decide | omega) (by first | decide | omega) (by first | decide | omega) (by first | decide | omega)))
  k_with "binaryOp Pow int int" => (k_here; (with_reducible show wpAny _ _ (binaryOp Operator.Pow (Value.int 10 _) (Value.int 15 _)) _ _ _); refine pow_lit (by decide +kernel : (10:Int) ^ Int.toNat 15 = 1000000000000000) (by decide) (by decide) (by decide) ?_)
  k_with "binaryOp Pow int int" => (k_here; (with_reducible show wpAny _ _ (binaryOp Operator.Pow (Value.int 10 _) (Value.int 21 _)) _ _ _); refine pow_lit (by decide +kernel : (10:Int) ^ Int.toNat 21 = 1000000000000000000000) (by decide) (by decide) (by decide) ?_)
  k_with "binaryOp Pow int int" => (k_here; (with_reducible show wpAny _ _ (binaryOp Operator.Pow (Value.int _ _) (Value.int 2 _)) _ _ _); refine pow2 (by omega) (by omega) ?_)
  k_with "call ref" => (k_here; (with_reducible show wpAny _ _ (call (Value.ref 131) [Value.ref _, Value.int _ _]) _ _ _); k_dflt (first | (refine' DR.use0 (draw_tells _ _ _ _ _ _ _) ?kp ?k1 ?k2 ?k3 ?k4 ?kI ?kl ?kz ?kn ?km ?kb ?kc ?kr ?k5 ?kK ?kd ?ku ?_; (case k1 => k_asm); (case k2 => k_asm); (case k3 => k_asm); (case k4 => k_asm); (case kI => l_ints); (case kl => first | decide | assumption | omega); (case kn => assumption); (case km => assumption); (case kz => first | decide | assumption); (case kb => first | decide | assumption | exact Int.le_trans (b := 100) (by assumption) (by decide) | exact Int.le_trans (b := 1000) (by assumption) (by decide) | exact bs1 100 (by assumption) (by decide) | exact bs1 1000 (by assumption) (by decide) | exact bs2 100 (by assumption) (by decide) | exact bs2 1000 (by assumption) (by decide) | exact bs3 100 (by assumption) (by decide) | exact bs3 1000 (by assumption) (by decide) | exact bs4 100 (by assumption) (by decide) | exact bs4 1000 (by assumption) (by decide) | omega); (case kc => first | assumption | (refine neN ?_; omega)); (case kr => k_all); (case k5 => k_asm); (case kK => first | exact rfl | assumption); (case kd => first | exact room_in (by assumption) (by decide) | ktr_room); (case ku => first | exact units_in (by assumption) (by decide) | ktr_units); (case kp => omega)) | (refine' DR.use1 (draw_tells _ _ _ _ _ _ _) ?kp ?k1 ?k2 ?k3 ?k4 ?kI ?kl ?kz ?kn ?km ?kb ?kc ?kr ?k5 ?kK ?kd ?ku ?_; (case k1 => k_asm); (case k2 => k_asm); (case k3 => k_asm); (case k4 => k_asm); (case kI => l_ints); (case kl => first | decide | assumption | omega); (case kn => assumption); (case km => assumption); (case kz => first | decide | assumption); (case kb => first | decide | assumption | exact Int.le_trans (b := 100) (by assumption) (by decide) | exact Int.le_trans (b := 1000) (by assumption) (by decide) | exact bs1 100 (by assumption) (by decide) | exact bs1 1000 (by assumption) (by decide) | exact bs2 100 (by assumption) (by decide) | exact bs2 1000 (by assumption) (by decide) | exact bs3 100 (by assumption) (by decide) | exact bs3 1000 (by assumption) (by decide) | exact bs4 100 (by assumption) (by decide) | exact bs4 1000 (by assumption) (by decide) | omega); (case kc => first | assumption | (refine neN ?_; omega)); (case kr => k_all); (case k5 => k_asm); (case kK => first | exact rfl | assumption); (case kd => first | exact room_in (by assumption) (by decide) | ktr_room); (case ku => first | exact units_in (by assumption) (by decide) | ktr_units); (case kp => omega)) | (refine' DR.use2 (draw_tells _ _ _ _ _ _ _) ?kp ?k1 ?k2 ?k3 ?k4 ?kI ?kl ?kz ?kn ?km ?kb ?kc ?kr ?k5 ?kK ?kd ?ku ?_; (case k1 => k_asm); (case k2 => k_asm); (case k3 => k_asm); (case k4 => k_asm); (case kI => l_ints); (case kl => first | decide | assumption | omega); (case kn => assumption); (case km => assumption); (case kz => first | decide | assumption); (case kb => first | decide | assumption | exact Int.le_trans (b := 100) (by assumption) (by decide) | exact Int.le_trans (b := 1000) (by assumption) (by decide) | exact bs1 100 (by assumption) (by decide) | exact bs1 1000 (by assumption) (by decide) | exact bs2 100 (by assumption) (by decide) | exact bs2 1000 (by assumption) (by decide) | exact bs3 100 (by assumption) (by decide) | exact bs3 1000 (by assumption) (by decide) | exact bs4 100 (by assumption) (by decide) | exact bs4 1000 (by assumption) (by decide) | omega); (case kc => first | assumption | (refine neN ?_; omega)); (case kr => k_all); (case k5 => k_asm); (case kK => first | exact rfl | assumption); (case kd => first | exact room_in (by assumption) (by decide) | ktr_room); (case ku => first | exact units_in (by assumption) (by decide) | ktr_units); (case kp => omega)) | (refine' DR.use3 (draw_tells _ _ _ _ _ _ _) ?kp ?k1 ?k2 ?k3 ?k4 ?kI ?kl ?kz ?kn ?km ?kb ?kc ?kr ?k5 ?kK ?kd ?ku ?_; (case k1 => k_asm); (case k2 => k_asm); (case k3 => k_asm); (case k4 => k_asm); (case kI => l_ints); (case kl => first | decide | assumption | omega); (case kn => assumption); (case km => assumption); (case kz => first | decide | assumption); (case kb => first | decide | assumption | exact Int.le_trans (b := 100) (by assumption) (by decide) | exact Int.le_trans (b := 1000) (by assumption) (by decide) | exact bs1 100 (by assumption) (by decide) | exact bs1 1000 (by assumption) (by decide) | exact bs2 100 (by assumption) (by decide) | exact bs2 1000 (by assumption) (by decide) | exact bs3 100 (by assumption) (by decide) | exact bs3 1000 (by assumption) (by decide) | exact bs4 100 (by assumption) (by decide) | exact bs4 1000 (by assumption) (by decide) | omega); (case kc => first | assumption | (refine neN ?_; omega)); (case kr => k_all); (case k5 => k_asm); (case kK => first | exact rfl | assumption); (case kd => first | exact room_in (by assumption) (by decide) | ktr_room); (case ku => first | exact units_in (by assumption) (by decide) | ktr_units); (case kp => omega))); intro r9 t9 n9 u9 k9 h9 tk9 hr9 hn9 hm9 F9 N9; (try dsimp only); (try k_fold))
  k_with "call ref" => (k_here; (with_reducible show wpAny _ _ (call (Value.ref 159) [Value.ref _]) _ _ _); k_dflt (first | (refine' DR.use0 (angle_tells _ _ _ _ _) ?kp ?k1 ?k2 ?k3 ?k4 ?kI ?kl ?kz ?kn ?km ?kb ?kc ?kr ?k5 ?kK ?kd ?ku ?_; (case k1 => k_asm); (case k2 => k_asm); (case k3 => k_asm); (case k4 => k_asm); (case kI => l_ints); (case kl => first | decide | assumption | omega); (case kn => assumption); (case km => assumption); (case kz => first | decide | assumption); (case kb => first | decide | assumption | exact Int.le_trans (b := 100) (by assumption) (by decide) | exact Int.le_trans (b := 1000) (by assumption) (by decide) | exact bs1 100 (by assumption) (by decide) | exact bs1 1000 (by assumption) (by decide) | exact bs2 100 (by assumption) (by decide) | exact bs2 1000 (by assumption) (by decide) | exact bs3 100 (by assumption) (by decide) | exact bs3 1000 (by assumption) (by decide) | exact bs4 100 (by assumption) (by decide) | exact bs4 1000 (by assumption) (by decide) | omega); (case kc => first | assumption | (refine neN ?_; omega)); (case kr => k_all); (case k5 => k_asm); (case kK => first | exact rfl | assumption); (case kd => first | exact room_in (by assumption) (by decide) | ktr_room); (case ku => first | exact units_in (by assumption) (by decide) | ktr_units); (case kp => trivial)) | (refine' DR.use1 (angle_tells _ _ _ _ _) ?kp ?k1 ?k2 ?k3 ?k4 ?kI ?kl ?kz ?kn ?km ?kb ?kc ?kr ?k5 ?kK ?kd ?ku ?_; (case k1 => k_asm); (case k2 => k_asm); (case k3 => k_asm); (case k4 => k_asm); (case kI => l_ints); (case kl => first | decide | assumption | omega); (case kn => assumption); (case km => assumption); (case kz => first | decide | assumption); (case kb => first | decide | assumption | exact Int.le_trans (b := 100) (by assumption) (by decide) | exact Int.le_trans (b := 1000) (by assumption) (by decide) | exact bs1 100 (by assumption) (by decide) | exact bs1 1000 (by assumption) (by decide) | exact bs2 100 (by assumption) (by decide) | exact bs2 1000 (by assumption) (by decide) | exact bs3 100 (by assumption) (by decide) | exact bs3 1000 (by assumption) (by decide) | exact bs4 100 (by assumption) (by decide) | exact bs4 1000 (by assumption) (by decide) | omega); (case kc => first | assumption | (refine neN ?_; omega)); (case kr => k_all); (case k5 => k_asm); (case kK => first | exact rfl | assumption); (case kd => first | exact room_in (by assumption) (by decide) | ktr_room); (case ku => first | exact units_in (by assumption) (by decide) | ktr_units); (case kp => trivial)) | (refine' DR.use2 (angle_tells _ _ _ _ _) ?kp ?k1 ?k2 ?k3 ?k4 ?kI ?kl ?kz ?kn ?km ?kb ?kc ?kr ?k5 ?kK ?kd ?ku ?_; (case k1 => k_asm); (case k2 => k_asm); (case k3 => k_asm); (case k4 => k_asm); (case kI => l_ints); (case kl => first | decide | assumption | omega); (case kn => assumption); (case km => assumption); (case kz => first | decide | assumption); (case kb => first | decide | assumption | exact Int.le_trans (b := 100) (by assumption) (by decide) | exact Int.le_trans (b := 1000) (by assumption) (by decide) | exact bs1 100 (by assumption) (by decide) | exact bs1 1000 (by assumption) (by decide) | exact bs2 100 (by assumption) (by decide) | exact bs2 1000 (by assumption) (by decide) | exact bs3 100 (by assumption) (by decide) | exact bs3 1000 (by assumption) (by decide) | exact bs4 100 (by assumption) (by decide) | exact bs4 1000 (by assumption) (by decide) | omega); (case kc => first | assumption | (refine neN ?_; omega)); (case kr => k_all); (case k5 => k_asm); (case kK => first | exact rfl | assumption); (case kd => first | exact room_in (by assumption) (by decide) | ktr_room); (case ku => first | exact units_in (by assumption) (by decide) | ktr_units); (case kp => trivial)) | (refine' DR.use3 (angle_tells _ _ _ _ _) ?kp ?k1 ?k2 ?k3 ?k4 ?kI ?kl ?kz ?kn ?km ?kb ?kc ?kr ?k5 ?kK ?kd ?ku ?_; (case k1 => k_asm); (case k2 => k_asm); (case k3 => k_asm); (case k4 => k_asm); (case kI => l_ints); (case kl => first | decide | assumption | omega); (case kn => assumption); (case km => assumption); (case kz => first | decide | assumption); (case kb => first | decide | assumption | exact Int.le_trans (b := 100) (by assumption) (by decide) | exact Int.le_trans (b := 1000) (by assumption) (by decide) | exact bs1 100 (by assumption) (by decide) | exact bs1 1000 (by assumption) (by decide) | exact bs2 100 (by assumption) (by decide) | exact bs2 1000 (by assumption) (by decide) | exact bs3 100 (by assumption) (by decide) | exact bs3 1000 (by assumption) (by decide) | exact bs4 100 (by assumption) (by decide) | exact bs4 1000 (by assumption) (by decide) | omega); (case kc => first | assumption | (refine neN ?_; omega)); (case kr => k_all); (case k5 => k_asm); (case kK => first | exact rfl | assumption); (case kd => first | exact room_in (by assumption) (by decide) | ktr_room); (case ku => first | exact units_in (by assumption) (by decide) | ktr_units); (case kp => trivial))); intro r9 t9 n9 u9 k9 h9 tk9 hr9 hn9 hm9 F9 N9; (try dsimp only); (try k_fold))
  k_with "call ref" => (k_here; (with_reducible show wpAny _ _ (call (Value.ref 166) [Value.ref _, Value.int _ _]) _ _ _); k_dflt (first | (refine' DR.use0 (size_tells _ _ _ _ _ _ _) ?kp ?k1 ?k2 ?k3 ?k4 ?kI ?kl ?kz ?kn ?km ?kb ?kc ?kr ?k5 ?kK ?kd ?ku ?_; (case k1 => k_asm); (case k2 => k_asm); (case k3 => k_asm); (case k4 => k_asm); (case kI => l_ints); (case kl => first | decide | assumption | omega); (case kn => assumption); (case km => assumption); (case kz => first | decide | assumption); (case kb => first | decide | assumption | exact Int.le_trans (b := 100) (by assumption) (by decide) | exact Int.le_trans (b := 1000) (by assumption) (by decide) | exact bs1 100 (by assumption) (by decide) | exact bs1 1000 (by assumption) (by decide) | exact bs2 100 (by assumption) (by decide) | exact bs2 1000 (by assumption) (by decide) | exact bs3 100 (by assumption) (by decide) | exact bs3 1000 (by assumption) (by decide) | exact bs4 100 (by assumption) (by decide) | exact bs4 1000 (by assumption) (by decide) | omega); (case kc => first | assumption | (refine neN ?_; omega)); (case kr => k_all); (case k5 => k_asm); (case kK => first | exact rfl | assumption); (case kd => first | exact room_in (by assumption) (by decide) | ktr_room); (case ku => first | exact units_in (by assumption) (by decide) | ktr_units); (case kp => omega)) | (refine' DR.use1 (size_tells _ _ _ _ _ _ _) ?kp ?k1 ?k2 ?k3 ?k4 ?kI ?kl ?kz ?kn ?km ?kb ?kc ?kr ?k5 ?kK ?kd ?ku ?_; (case k1 => k_asm); (case k2 => k_asm); (case k3 => k_asm); (case k4 => k_asm); (case kI => l_ints); (case kl => first | decide | assumption | omega); (case kn => assumption); (case km => assumption); (case kz => first | decide | assumption); (case kb => first | decide | assumption | exact Int.le_trans (b := 100) (by assumption) (by decide) | exact Int.le_trans (b := 1000) (by assumption) (by decide) | exact bs1 100 (by assumption) (by decide) | exact bs1 1000 (by assumption) (by decide) | exact bs2 100 (by assumption) (by decide) | exact bs2 1000 (by assumption) (by decide) | exact bs3 100 (by assumption) (by decide) | exact bs3 1000 (by assumption) (by decide) | exact bs4 100 (by assumption) (by decide) | exact bs4 1000 (by assumption) (by decide) | omega); (case kc => first | assumption | (refine neN ?_; omega)); (case kr => k_all); (case k5 => k_asm); (case kK => first | exact rfl | assumption); (case kd => first | exact room_in (by assumption) (by decide) | ktr_room); (case ku => first | exact units_in (by assumption) (by decide) | ktr_units); (case kp => omega)) | (refine' DR.use2 (size_tells _ _ _ _ _ _ _) ?kp ?k1 ?k2 ?k3 ?k4 ?kI ?kl ?kz ?kn ?km ?kb ?kc ?kr ?k5 ?kK ?kd ?ku ?_; (case k1 => k_asm); (case k2 => k_asm); (case k3 => k_asm); (case k4 => k_asm); (case kI => l_ints); (case kl => first | decide | assumption | omega); (case kn => assumption); (case km => assumption); (case kz => first | decide | assumption); (case kb => first | decide | assumption | exact Int.le_trans (b := 100) (by assumption) (by decide) | exact Int.le_trans (b := 1000) (by assumption) (by decide) | exact bs1 100 (by assumption) (by decide) | exact bs1 1000 (by assumption) (by decide) | exact bs2 100 (by assumption) (by decide) | exact bs2 1000 (by assumption) (by decide) | exact bs3 100 (by assumption) (by decide) | exact bs3 1000 (by assumption) (by decide) | exact bs4 100 (by assumption) (by decide) | exact bs4 1000 (by assumption) (by decide) | omega); (case kc => first | assumption | (refine neN ?_; omega)); (case kr => k_all); (case k5 => k_asm); (case kK => first | exact rfl | assumption); (case kd => first | exact room_in (by assumption) (by decide) | ktr_room); (case ku => first | exact units_in (by assumption) (by decide) | ktr_units); (case kp => omega)) | (refine' DR.use3 (size_tells _ _ _ _ _ _ _) ?kp ?k1 ?k2 ?k3 ?k4 ?kI ?kl ?kz ?kn ?km ?kb ?kc ?kr ?k5 ?kK ?kd ?ku ?_; (case k1 => k_asm); (case k2 => k_asm); (case k3 => k_asm); (case k4 => k_asm); (case kI => l_ints); (case kl => first | decide | assumption | omega); (case kn => assumption); (case km => assumption); (case kz => first | decide | assumption); (case kb => first | decide | assumption | exact Int.le_trans (b := 100) (by assumption) (by decide) | exact Int.le_trans (b := 1000) (by assumption) (by decide) | exact bs1 100 (by assumption) (by decide) | exact bs1 1000 (by assumption) (by decide) | exact bs2 100 (by assumption) (by decide) | exact bs2 1000 (by assumption) (by decide) | exact bs3 100 (by assumption) (by decide) | exact bs3 1000 (by assumption) (by decide) | exact bs4 100 (by assumption) (by decide) | exact bs4 1000 (by assumption) (by decide) | omega); (case kc => first | assumption | (refine neN ?_; omega)); (case kr => k_all); (case k5 => k_asm); (case kK => first | exact rfl | assumption); (case kd => first | exact room_in (by assumption) (by decide) | ktr_room); (case ku => first | exact units_in (by assumption) (by decide) | ktr_units); (case kp => omega))); intro r9 t9 n9 u9 k9 h9 tk9 hr9 hn9 hm9 F9 N9; (try dsimp only); (try k_fold))
  k_with "call ref" => (k_here; (with_reducible show wpAny _ _ (call (Value.ref 173) [Value.int 0 _, Value.int _ _, Value.int _ _]) _ _ _); k_dflt (refine' told0_use ?kp ?k1 ?k2 ?k3 ?k4 ?k5 ?kK ?_ ?_; (case k1 => k_asm); (case k2 => k_asm); (case k3 => k_asm); (case k4 => k_asm); (case k5 => k_asm); (case kK => first | exact rfl | assumption); (case kp => exact ⟨by assumption, by assumption⟩)); (intro r9 t9 h9 tk9 hz9 hp9 hq9 hr9 F9 N9); rotate_left; (intro t9 h9 tk9 hz9 F9 N9); (obtain ⟨hz91, hz92⟩ := hz9); (subst hz91); (subst hz92); rotate_right; (all_goals try dsimp only); (all_goals try k_fold))
  k_with "call ref" => (k_here; (with_reducible show wpAny _ _ (call (Value.ref 173) [Value.int 1 _, Value.int _ _, Value.int 0 _]) _ _ _); k_dflt (refine' PT0.use (toldC_tells _ _ _ _ _ _ _ _ _) ?kp ?k1 ?k2 ?k3 ?k4 ?k5 ?kK ?_; (case k1 => k_asm); (case k2 => k_asm); (case k3 => k_asm); (case k4 => k_asm); (case k5 => k_asm); (case kK => first | exact rfl | assumption); (case kp => omega)); (intro t9 h9 tk9 F9 N9); (try dsimp only); (try k_fold))
  k_with "call ref" => (k_here; (with_reducible show wpAny _ _ (call (Value.ref 180) _) _ _ _); k_dflt (refine' PT.use (isangle_tells _ _ _ _ _ _ _ _ _ _ _) ?kp ?k1 ?k2 ?k3 ?k4 ?k5 ?kK ?kd ?ku ?_; (case k1 => k_asm); (case k2 => k_asm); (case k3 => k_asm); (case k4 => k_asm); (case k5 => k_asm); (case kK => first | exact rfl | assumption); (case kd => first | exact room_in (by assumption) (by decide) | ktr_room); (case ku => first | exact units_in (by assumption) (by decide) | ktr_units); (case kp => exact ⟨by assumption, by assumption, by assumption, by assumption⟩)); (intro t9 h9 tk9 F9 N9); (try dsimp only); (try k_fold))
  k_with "call ref" => (k_here; (with_reducible show wpAny _ _ (call (Value.ref 103) [Value.int _ _]) _ _ _); k_dflt (refine' PR.use (sine_tells _ _ _ _ _ _ _) ?kp ?k1 ?k2 ?k3 ?k4 ?k5 ?kK ?kd ?ku ?_; (case k1 => k_asm); (case k2 => k_asm); (case k3 => k_asm); (case k4 => k_asm); (case k5 => k_asm); (case kK => first | exact rfl | assumption); (case kd => first | exact room_in (by assumption) (by decide) | ktr_room); (case ku => first | exact units_in (by assumption) (by decide) | ktr_units); (case kp => first | decide | exact wide_in (by assumption) (by decide) | (omega))); intro r9 t9 h9 tk9 hr9 F9 N9; (try dsimp only); (try k_fold))
  k_with "call ref" => (k_here; (with_reducible show wpAny _ _ (call (Value.ref 110) [Value.int _ _]) _ _ _); k_dflt (refine' PR.use (cosine_tells _ _ _ _ _ _ _) ?kp ?k1 ?k2 ?k3 ?k4 ?k5 ?kK ?kd ?ku ?_; (case k1 => k_asm); (case k2 => k_asm); (case k3 => k_asm); (case k4 => k_asm); (case k5 => k_asm); (case kK => first | exact rfl | assumption); (case kd => first | exact room_in (by assumption) (by decide) | ktr_room); (case ku => first | exact units_in (by assumption) (by decide) | ktr_units); (case kp => first | decide | exact wide_in (by assumption) (by decide) | (omega))); intro r9 t9 h9 tk9 hr9 F9 N9; (try dsimp only); (try k_fold))
  k_with "call ref" => (k_here; (with_reducible show wpAny _ _ (call (Value.ref 145) [Value.int _ _]) _ _ _); k_dflt (refine' PR.use (lawsine_tells _ _ _ _ _ _ _) ?kp ?k1 ?k2 ?k3 ?k4 ?k5 ?kK ?kd ?ku ?_; (case k1 => k_asm); (case k2 => k_asm); (case k3 => k_asm); (case k4 => k_asm); (case k5 => k_asm); (case kK => first | exact rfl | assumption); (case kd => first | exact room_in (by assumption) (by decide) | ktr_room); (case ku => first | exact units_in (by assumption) (by decide) | ktr_units); (case kp => first | decide | exact wide_in (by assumption) (by decide) | (omega))); intro r9 t9 h9 tk9 hr9 F9 N9; (have hB9 := lawR_bd hr9); (try dsimp only); (try k_fold))
  k_with "call ref" => (k_here; (with_reducible show wpAny _ _ (call (Value.ref 152) [Value.int _ _]) _ _ _); k_dflt (refine' PR.use (near_tells _ _ _ _ _ _ _) ?kp ?k1 ?k2 ?k3 ?k4 ?k5 ?kK ?kd ?ku ?_; (case k1 => k_asm); (case k2 => k_asm); (case k3 => k_asm); (case k4 => k_asm); (case k5 => k_asm); (case kK => first | exact rfl | assumption); (case kd => first | exact room_in (by assumption) (by decide) | ktr_room); (case ku => first | exact units_in (by assumption) (by decide) | ktr_units); (case kp => first | decide | exact wide_in (by assumption) (by decide) | (omega))); intro r9 t9 h9 tk9 hr9 F9 N9; (have hE9 := near_eq hr9 (by assumption) (by assumption)); (clear hr9); (try dsimp only); (try k_fold))
  k_with "call ref" => (k_here; (with_reducible show wpAny _ _ (call (Value.ref 68) [Value.int _ _]) _ _ _); k_dflt (refine' PR.use (root_tells _ _ _ _ _ _ _) ?kp ?k1 ?k2 ?k3 ?k4 ?k5 ?kK ?kd ?ku ?_; (case k1 => k_asm); (case k2 => k_asm); (case k3 => k_asm); (case k4 => k_asm); (case k5 => k_asm); (case kK => first | exact rfl | assumption); (case kd => first | exact room_in (by assumption) (by decide) | ktr_room); (case ku => first | exact units_in (by assumption) (by decide) | ktr_units); (case kp => first | decide | exact wide_in (by assumption) (by decide) | (first | omega | exact number_bd _ (by assumption)))); intro r9 t9 h9 tk9 hr9 F9 N9; (have hC9 := rootR_f hr9 (by first | omega | exact (number_bd _ (by assumption)).2)); (try dsimp only); (try k_fold))
  k_with "ite" => first | ((with_reducible show if (!true) = true then _ else _); (with_reducible refine ite_nt ?_)) | ((with_reducible show if (_ != _) = true then _ else _); (with_reducible refine ite_bb ?_))
  k_with "execs nil" => (k_here; (with_reducible refine wpAny_execs_nil ?_))
  k_go0
  all_goals try k_fold
  k_steps
  all_goals (try k_data)
  all_goals w_report)
end Mine
end
theorem PySem.Challenge.cw_nt0484_01_holds : PySem.Challenge.rw_nt0484_01.Holds := by
  exact Mine.law_holds
