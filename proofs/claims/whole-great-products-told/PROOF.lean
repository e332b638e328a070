import PyProof.Rows.All
import Wide.All
import OpenK.AllK
import Wide.FinOn
import HandS.ForMost
import HandS.Lambda
import HandS.EndTab
import HandS.IsInst
import HandS.SortInts
import HandS.SortRule
import HandS.SortKw
import HandS.TupLe
import HandS.Wide
import HandS.Conv
import HandS.NoneIn
import HandS.Style
import HandS.Walk
import HandS.Small
import HandS.Defaults
import HandS.Exc
import KE.GoesZip
import KE.GoesMore
import HandS.MakeKw
import KE.SortData
import KE.SortKeyHeap
import HandS.Keys
import KE.KEqDeep
import HandS.More
import KE.KNest
import PySem.Challenge.RW_webtimes_k68_whole_great_products_told
set_option Elab.async false
set_option linter.all false
set_option maxRecDepth 100000
set_option maxHeartbeats 4000000
section
/-! K68Math: webs as graphs, walks, distances, products; no program in sight. -/
namespace K68
/-! ### sums -/
def sumR (n : Nat) (f : Nat → Nat) : Nat := match n with
  | 0 => 0
  | n + 1 => sumR n f + f n
theorem sumR_congr {n : Nat} {f g : Nat → Nat} (h : ∀ i, i < n → f i = g i) : sumR n f = sumR n g := by
  induction n with
  | zero => rfl
  | succ n ih =>
    show sumR n f + f n = sumR n g + g n
    rw [ih fun i hi => h i (Nat.lt_succ_of_lt hi), h n (Nat.lt_succ_self n)]
theorem sumR_zero (n : Nat) : sumR n (fun _ => 0) = 0 := by
  induction n with
  | zero => rfl
  | succ n ih =>
    show sumR n _ + 0 = 0
    rw [ih]
theorem sumR_add (n : Nat) (f g : Nat → Nat) : sumR n (fun i => f i + g i) = sumR n f + sumR n g := by
  induction n with
  | zero => rfl
  | succ n ih =>
    show sumR n _ + (f n + g n) = (sumR n f + f n) + (sumR n g + g n)
    rw [ih]
    omega
theorem sumR_mulL (n c : Nat) (f : Nat → Nat) : sumR n (fun i => c * f i) = c * sumR n f := by
  induction n with
  | zero => rfl
  | succ n ih =>
    show sumR n _ + c * f n = c * (sumR n f + f n)
    rw [ih, Nat.mul_add]
theorem sumR_mulR (n c : Nat) (f : Nat → Nat) : sumR n (fun i => f i * c) = sumR n f * c := by
  rw [Nat.mul_comm, ← sumR_mulL]
  exact sumR_congr fun i _ => Nat.mul_comm _ _
theorem sumR_swap (n m : Nat) (f : Nat → Nat → Nat) : sumR n (fun i => sumR m (fun j => f i j)) = sumR m (fun j => sumR n (fun i => f i j)) := by
  induction n with
  | zero => exact (sumR_zero m).symm
  | succ n ih =>
    show sumR n _ + sumR m (fun j => f n j) = sumR m (fun j => sumR n (fun i => f i j) + f n j)
    rw [ih, sumR_add]
theorem sumR_one (n j : Nat) (f : Nat → Nat) (hj : j < n) (h : ∀ i, i < n → i ≠ j → f i = 0) : sumR n f = f j := by
  induction n with
  | zero => exact absurd hj (Nat.not_lt_zero _)
  | succ n ih =>
    show sumR n f + f n = f j
    by_cases e : j = n
    · subst e
      have : sumR j f = sumR j (fun _ => 0) := sumR_congr fun i hi => h i (Nat.lt_succ_of_lt hi) (Nat.ne_of_lt hi)
      rw [this, sumR_zero, Nat.zero_add]
    · rw [ih (by omega) fun i hi he => h i (Nat.lt_succ_of_lt hi) he, h n (Nat.lt_succ_self n) (fun z => e z.symm), Nat.add_zero]
/-- the first term apart -/
theorem sumR_head (n : Nat) (f : Nat → Nat) : sumR (n + 1) f = f 0 + sumR n (fun i => f (i + 1)) := by
  induction n with
  | zero =>
    show 0 + f 0 = f 0 + 0
    omega
  | succ n ih =>
    show sumR (n + 1) f + f (n + 1) = f 0 + (sumR n (fun i => f (i + 1)) + f (n + 1))
    rw [ih]
    omega
theorem sumR_pos {n : Nat} {f : Nat → Nat} : 0 < sumR n f ↔ ∃ i, i < n ∧ 0 < f i := by
  induction n with
  | zero => exact ⟨fun h => absurd h (Nat.lt_irrefl 0), fun ⟨i, hi, _⟩ => absurd hi (Nat.not_lt_zero _)⟩
  | succ n ih =>
    show 0 < sumR n f + f n ↔ _
    constructor
    · intro h
      by_cases z : 0 < sumR n f
      · obtain ⟨i, hi, hf⟩ := ih.mp z
        exact ⟨i, Nat.lt_succ_of_lt hi, hf⟩
      · exact ⟨n, Nat.lt_succ_self n, by omega⟩
    · rintro ⟨i, hi, hf⟩
      by_cases e : i = n
      · subst e
        omega
      · have := ih.mpr ⟨i, by omega, hf⟩
        omega
theorem sumR_le {n : Nat} {f g : Nat → Nat} (h : ∀ i, i < n → f i ≤ g i) : sumR n f ≤ sumR n g := by
  induction n with
  | zero => exact Nat.le_refl _
  | succ n ih =>
    show sumR n f + f n ≤ sumR n g + g n
    exact Nat.add_le_add (ih fun i hi => h i (Nat.lt_succ_of_lt hi)) (h n (Nat.lt_succ_self n))
theorem sumR_const (n c : Nat) : sumR n (fun _ => c) = n * c := by
  induction n with
  | zero => simp [sumR]
  | succ n ih =>
    show sumR n _ + c = (n + 1) * c
    rw [ih, Nat.succ_mul]
theorem sumR_rev (n : Nat) (f : Nat → Nat) : sumR n (fun i => f (n - 1 - i)) = sumR n f := by
  induction n with
  | zero => rfl
  | succ n ih =>
    rw [sumR_head]
    show f (n + 1 - 1 - 0) + sumR n (fun i => f (n + 1 - 1 - (i + 1))) = sumR n f + f n
    have : sumR n (fun i => f (n + 1 - 1 - (i + 1))) = sumR n (fun i => f (n - 1 - i)) := sumR_congr fun i hi => by
      congr 1
      omega
    rw [this, ih]
    simp only [Nat.add_sub_cancel, Nat.sub_zero]
    omega
/-- the sum of f over a list -/
def sumL {α : Type} (l : List α) (f : α → Nat) : Nat := (l.map f).sum
theorem sumL_nil {α : Type} (f : α → Nat) : sumL [] f = 0 := rfl
theorem sumL_cons {α : Type} (a : α) (l : List α) (f : α → Nat) : sumL (a :: l) f = f a + sumL l f := by simp [sumL]
theorem sumL_append {α : Type} (l m : List α) (f : α → Nat) : sumL (l ++ m) f = sumL l f + sumL m f := by simp [sumL]
theorem sumL_map {α β : Type} (l : List α) (g : α → β) (f : β → Nat) : sumL (l.map g) f = sumL l (fun a => f (g a)) := by simp [sumL, Function.comp_def]
theorem sumL_congr {α : Type} {l : List α} {f g : α → Nat} (h : ∀ a ∈ l, f a = g a) : sumL l f = sumL l g := by
  unfold sumL
  rw [List.map_congr_left h]
theorem sumL_perm {α : Type} {l m : List α} (p : l.Perm m) (f : α → Nat) : sumL l f = sumL m f := (p.map f).sum_nat
theorem sumL_range (n : Nat) (f : Nat → Nat) : sumL (List.range n) f = sumR n f := by
  induction n with
  | zero => rfl
  | succ n ih =>
    rw [List.range_succ, sumL_append, ih, sumL_cons, sumL_nil]
    rfl
theorem sumL_filter {α : Type} (l : List α) (p : α → Bool) (f : α → Nat) : sumL (l.filter p) f = sumL l (fun a => if p a = true then f a else 0) := by
  induction l with
  | nil => rfl
  | cons a l ih =>
    rw [sumL_cons, List.filter_cons]
    split
    · rw [sumL_cons, ih]
    · rw [ih, Nat.zero_add]
theorem sumL_pos {α : Type} {l : List α} {f : α → Nat} : 0 < sumL l f ↔ ∃ a ∈ l, 0 < f a := by
  induction l with
  | nil => exact ⟨fun h => absurd h (Nat.lt_irrefl 0), fun ⟨a, ha, _⟩ => absurd ha List.not_mem_nil⟩
  | cons a l ih =>
    rw [sumL_cons]
    constructor
    · intro h
      by_cases z : 0 < sumL l f
      · obtain ⟨b, hb, hf⟩ := ih.mp z
        exact ⟨b, List.mem_cons_of_mem _ hb, hf⟩
      · exact ⟨a, List.mem_cons_self, by omega⟩
    · rintro ⟨b, hb, hf⟩
      rcases List.mem_cons.mp hb with e | hb
      · subst e
        omega
      · have := ih.mpr ⟨b, hb, hf⟩
        omega
theorem sumL_zero {α : Type} {l : List α} {f : α → Nat} (h : ∀ a ∈ l, f a = 0) : sumL l f = 0 := by
  rw [sumL_congr h]
  induction l with
  | nil => rfl
  | cons a l ih =>
    rw [sumL_cons, ih fun b hb => h b (List.mem_cons_of_mem _ hb)]

/-! ### the least number -/
theorem least_ex (P : Nat → Prop) (h : ∃ k, P k) : ∃ k, P k ∧ ∀ j, j < k → ¬ P j := by
  obtain ⟨k, hk⟩ := h
  induction k using Nat.strongRecOn with
  | ind k ih =>
    by_cases z : ∃ j, j < k ∧ P j
    · obtain ⟨j, hj, hp⟩ := z
      exact ih j hj hp
    · exact ⟨k, hk, fun j hj hp => z ⟨j, hj, hp⟩⟩
open Classical in
noncomputable def leastO (P : Nat → Prop) : Option Nat := if h : ∃ k, P k then some (Classical.choose (least_ex P h)) else none
theorem leastO_some {P : Nat → Prop} {k : Nat} : leastO P = some k ↔ P k ∧ ∀ j, j < k → ¬ P j := by
  unfold leastO
  by_cases h : ∃ k, P k
  · rw [dif_pos h]
    have q := Classical.choose_spec (least_ex P h)
    constructor
    · intro e
      have e := Option.some.inj e
      rw [← e]
      exact q
    · rintro ⟨h1, h2⟩
      congr 1
      rcases Nat.lt_trichotomy (Classical.choose (least_ex P h)) k with z | z | z
      · exact absurd q.1 (h2 _ z)
      · exact z
      · exact absurd h1 (q.2 _ z)
  · rw [dif_neg h]
    constructor
    · intro e
      cases e
    · rintro ⟨h1, _⟩
      exact absurd ⟨k, h1⟩ h
theorem leastO_none {P : Nat → Prop} : leastO P = none ↔ ∀ k, ¬ P k := by
  unfold leastO
  by_cases h : ∃ k, P k
  · rw [dif_pos h]
    constructor
    · intro e
      cases e
    · intro z
      obtain ⟨k, hk⟩ := h
      exact absurd hk (z k)
  · rw [dif_neg h]
    exact ⟨fun _ k hk => h ⟨k, hk⟩, fun _ => rfl⟩
theorem leastO_congr {P Q : Nat → Prop} (h : ∀ k, P k ↔ Q k) : leastO P = leastO Q := by
  have : P = Q := funext fun k => propext (h k)
  rw [this]

/-! ### webs -/
structure Web where
  n : Nat
  ts : List (Nat × Nat)
def tied (W : Web) (p q : Nat) : Bool := (decide (p < q) && W.ts.contains (p, q)) || (decide (q < p) && W.ts.contains (q, p))
def nb (W : Web) (p : Nat) : List Nat := (List.range W.n).filter (tied W p)
theorem tied_symm (W : Web) (p q : Nat) : tied W p q = tied W q p := by
  unfold tied
  exact Bool.or_comm _ _
theorem tied_self (W : Web) (p : Nat) : tied W p p = false := by simp [tied]
theorem mem_nb {W : Web} {p q : Nat} : q ∈ nb W p ↔ q < W.n ∧ tied W p q = true := by simp [nb]
theorem nb_lt {W : Web} {p q : Nat} (h : q ∈ nb W p) : q < W.n := (mem_nb.mp h).1
theorem nb_symm {W : Web} {p q : Nat} (hp : p < W.n) (h : q ∈ nb W p) : p ∈ nb W q := mem_nb.mpr ⟨hp, by rw [tied_symm]; exact (mem_nb.mp h).2⟩
theorem nb_nodup (W : Web) (p : Nat) : (nb W p).Nodup := List.Nodup.sublist List.filter_sublist List.nodup_range
theorem nb_len (W : Web) (p : Nat) : (nb W p).length ≤ W.n := by
  have h := List.length_filter_le (tied W p) (List.range W.n)
  rw [List.length_range] at h
  exact h
def ti (W : Web) (p q : Nat) : Nat := if tied W p q = true then 1 else 0
theorem ti_symm (W : Web) (p q : Nat) : ti W p q = ti W q p := by
  unfold ti
  rw [tied_symm]
theorem sum_nb (W : Web) (p : Nat) (f : Nat → Nat) : sumL (nb W p) f = sumR W.n (fun r => ti W p r * f r) := by
  unfold nb
  rw [sumL_filter, sumL_range]
  refine sumR_congr fun i _ => ?_
  unfold ti
  split
  · rw [Nat.one_mul]
  · rw [Nat.zero_mul]
/-- how many walks of k steps lead from p to q -/
def wk (W : Web) : Nat → Nat → Nat → Nat
  | 0, p, q => if p = q then 1 else 0
  | k + 1, p, q => sumL (nb W q) (fun r => wk W k p r)
theorem wk_left (W : Web) : ∀ (k p q : Nat), p < W.n → q < W.n → wk W (k + 1) p q = sumL (nb W p) (fun r => wk W k r q)
  | 0, p, q, hp, hq => by
    show sumL (nb W q) (fun r => wk W 0 p r) = _
    rw [sum_nb, sum_nb, sumR_one W.n p _ hp, sumR_one W.n q _ hq]
    · show ti W q p * (if p = p then 1 else 0) = ti W p q * (if q = q then 1 else 0)
      rw [if_pos rfl, if_pos rfl, ti_symm]
    · intro i _ hi
      show ti W p i * (if i = q then 1 else 0) = 0
      rw [if_neg hi, Nat.mul_zero]
    · intro i _ hi
      show ti W q i * (if p = i then 1 else 0) = 0
      rw [if_neg (fun z => hi z.symm), Nat.mul_zero]
  | k + 1, p, q, hp, hq => by
    show sumL (nb W q) (fun r => wk W (k + 1) p r) = sumL (nb W p) (fun s => sumL (nb W q) (fun r => wk W k s r))
    rw [sum_nb, sum_nb]
    have h1 : sumR W.n (fun r => ti W q r * wk W (k + 1) p r) = sumR W.n (fun r => sumR W.n (fun s => ti W q r * (ti W p s * wk W k s r))) := sumR_congr fun r hr => by
      rw [wk_left W k p r hp hr, sum_nb, sumR_mulL]
    have h2 : sumR W.n (fun s => ti W p s * sumL (nb W q) (fun r => wk W k s r)) = sumR W.n (fun s => sumR W.n (fun r => ti W p s * (ti W q r * wk W k s r))) := sumR_congr fun s _ => by
      rw [sum_nb, sumR_mulL]
    rw [h1, h2, sumR_swap]
    refine sumR_congr fun s _ => sumR_congr fun r _ => ?_
    rw [← Nat.mul_assoc, ← Nat.mul_assoc, Nat.mul_comm (ti W q r)]
theorem wk_symm (W : Web) : ∀ (k p q : Nat), p < W.n → q < W.n → wk W k p q = wk W k q p
  | 0, p, q, _, _ => by
    show (if p = q then 1 else 0) = if q = p then 1 else 0
    by_cases h : p = q
    · rw [if_pos h, if_pos h.symm]
    · rw [if_neg h, if_neg (fun z => h z.symm)]
  | k + 1, p, q, hp, hq => by
    rw [wk_left W k q p hq hp]
    show sumL (nb W q) (fun r => wk W k p r) = _
    exact sumL_congr fun r hr => wk_symm W k p r hp (nb_lt hr)
theorem wk_le (W : Web) : ∀ (k p q : Nat), wk W k p q ≤ W.n ^ k
  | 0, p, q => by
    show (if p = q then 1 else 0) ≤ 1
    split <;> omega
  | k + 1, p, q => by
    have h : ∀ l : List Nat, sumL l (fun r => wk W k p r) ≤ l.length * W.n ^ k := by
      intro l
      induction l with
      | nil => exact Nat.zero_le _
      | cons a l ih =>
        rw [sumL_cons, List.length_cons, Nat.succ_mul]
        have := wk_le W k p a
        omega
    show sumL (nb W q) (fun r => wk W k p r) ≤ W.n ^ (k + 1)
    refine Nat.le_trans (h _) ?_
    rw [Nat.pow_succ, Nat.mul_comm]
    exact Nat.mul_le_mul_left _ (nb_len W q)
/-- the distance -/
noncomputable def dist (W : Web) (p q : Nat) : Option Nat := leastO fun k => 0 < wk W k p q
theorem dist_symm (W : Web) {p q : Nat} (hp : p < W.n) (hq : q < W.n) : dist W p q = dist W q p := leastO_congr fun k => by rw [wk_symm W k p q hp hq]
theorem dist_self (W : Web) (p : Nat) : dist W p p = some 0 := leastO_some.mpr ⟨by simp [wk], fun j hj => absurd hj (Nat.not_lt_zero _)⟩
theorem dist_zero {W : Web} {p q : Nat} (h : dist W p q = some 0) : p = q := by
  have := (leastO_some.mp h).1
  by_cases e : p = q
  · exact e
  · simp [wk, e] at this
/-- what stands one step ahead -/
theorem wk_step {W : Web} {k p q r : Nat} (hr : r ∈ nb W q) (h : 0 < wk W k p r) : 0 < wk W (k + 1) p q := sumL_pos.mpr ⟨r, hr, h⟩
theorem wk_back {W : Web} {k p q : Nat} (h : 0 < wk W (k + 1) p q) : ∃ r ∈ nb W q, 0 < wk W k p r := sumL_pos.mp h
theorem dist_le {W : Web} {k p q : Nat} (h : 0 < wk W k p q) : ∃ d, dist W p q = some d ∧ d ≤ k := by
  cases e : dist W p q with
  | none => exact absurd h (leastO_none.mp e k)
  | some d =>
    refine ⟨d, rfl, ?_⟩
    rcases Nat.lt_or_ge k d with z | z
    · exact absurd h ((leastO_some.mp e).2 k z)
    · exact z
theorem dist_pos {W : Web} {d p q : Nat} (h : dist W p q = some d) : 0 < wk W d p q := (leastO_some.mp h).1
theorem dist_before {W : Web} {d j p q : Nat} (h : dist W p q = some d) (hj : j < d) : wk W j p q = 0 := Nat.eq_zero_of_not_pos ((leastO_some.mp h).2 j hj)
theorem dist_nopath {W : Web} {p q : Nat} (h : dist W p q = none) (k : Nat) : wk W k p q = 0 := Nat.eq_zero_of_not_pos (leastO_none.mp h k)
/-- a place of distance d + 1 has one of distance d beside it -/
theorem dist_pred {W : Web} {d p q : Nat} (h : dist W p q = some (d + 1)) : ∃ r ∈ nb W q, dist W p r = some d := by
  obtain ⟨r, hr, hw⟩ := wk_back (dist_pos h)
  refine ⟨r, hr, leastO_some.mpr ⟨hw, fun j hj z => ?_⟩⟩
  exact absurd (wk_step hr z) ((leastO_some.mp h).2 (j + 1) (by omega))
/-- beside a place at distance d stands none farther than d + 1 -/
theorem dist_next {W : Web} {d p q r : Nat} (h : dist W p q = some d) (hq : q ∈ nb W r) : ∃ e, dist W p r = some e ∧ e ≤ d + 1 := dist_le (wk_step hq (dist_pos h))
end K68
end

section
/-! K68Math2: binomials, convolutions, walks and distances of products. -/
namespace K68
/-! ### binomials -/
def choose : Nat → Nat → Nat
  | _, 0 => 1
  | 0, _ + 1 => 0
  | n + 1, k + 1 => choose n k + choose n (k + 1)
theorem choose_zero (n : Nat) : choose n 0 = 1 := by cases n <;> rfl
theorem choose_succ (n k : Nat) : choose (n + 1) (k + 1) = choose n k + choose n (k + 1) := rfl
theorem choose_gt : ∀ {n k : Nat}, n < k → choose n k = 0
  | 0, k + 1, _ => rfl
  | n + 1, k + 1, h => by rw [choose_succ, choose_gt (by omega : n < k), choose_gt (by omega : n < k + 1)]
theorem choose_self : ∀ n : Nat, choose n n = 1
  | 0 => rfl
  | n + 1 => by rw [choose_succ, choose_self n, choose_gt (Nat.lt_succ_self n)]
theorem choose_pos : ∀ {n k : Nat}, k ≤ n → 0 < choose n k
  | n, 0, _ => by rw [choose_zero]; exact Nat.one_pos
  | n + 1, k + 1, h => by
    rw [choose_succ]
    have := choose_pos (n := n) (k := k) (by omega)
    omega
theorem choose_le : ∀ (n k : Nat), choose n k ≤ 2 ^ n
  | n, 0 => by rw [choose_zero]; exact Nat.one_le_two_pow
  | 0, k + 1 => Nat.zero_le _
  | n + 1, k + 1 => by
    rw [choose_succ, Nat.pow_succ]
    have h1 := choose_le n k
    have h2 := choose_le n (k + 1)
    omega
/-- (k + 1) C(n + 1, k + 1) = (n + 1) C(n, k) -/
theorem choose_mul : ∀ (n k : Nat), (k + 1) * choose (n + 1) (k + 1) = (n + 1) * choose n k
  | 0, 0 => rfl
  | 0, k + 1 => by
    rw [choose_gt (by omega : 0 + 1 < k + 1 + 1), choose_gt (by omega : 0 < k + 1), Nat.mul_zero, Nat.mul_zero]
  | n + 1, 0 => by
    have h := choose_mul n 0
    rw [choose_zero] at h ⊢
    rw [choose_succ (n + 1) 0, choose_zero]
    omega
  | n + 1, k + 1 => by
    have h1 := choose_mul n k
    have h2 := choose_mul n (k + 1)
    have e : choose (n + 1) (k + 1) = choose n k + choose n (k + 1) := rfl
    have e2 : choose (n + 1 + 1) (k + 1 + 1) = choose (n + 1) (k + 1) + choose (n + 1) (k + 1 + 1) := rfl
    rw [e2, Nat.mul_add]
    have a1 : (k + 1 + 1) * choose (n + 1) (k + 1) = (k + 1) * choose (n + 1) (k + 1) + choose (n + 1) (k + 1) := Nat.succ_mul _ _
    rw [a1, h1, h2]
    have a2 : (n + 1 + 1) * choose (n + 1) (k + 1) = (n + 1) * choose (n + 1) (k + 1) + choose (n + 1) (k + 1) := Nat.succ_mul _ _
    rw [a2]
    have a3 : (n + 1) * choose (n + 1) (k + 1) = (n + 1) * choose n k + (n + 1) * choose n (k + 1) := by rw [e, Nat.mul_add]
    omega
/-- (w + p + 1) C(w + p, p) = (p + 1) C(w + p + 1, p + 1) -/
theorem choose_up (w p : Nat) : choose (w + p) p * (w + p + 1) = choose (w + (p + 1)) (p + 1) * (p + 1) := by
  have h := choose_mul (w + p) p
  rw [Nat.mul_comm, ← h, Nat.mul_comm]
  rfl

/-! ### convolutions -/
def cv (f g : Nat → Nat) (n : Nat) : Nat := sumR (n + 1) (fun k => choose n k * f k * g (n - k))
theorem cv_zero (f g : Nat → Nat) : cv f g 0 = f 0 * g 0 := by
  show 0 + choose 0 0 * f 0 * g (0 - 0) = f 0 * g 0
  simp [choose]
/-- Leibniz -/
theorem cv_succ (f g : Nat → Nat) (n : Nat) : cv f g (n + 1) = cv (fun k => f (k + 1)) g n + cv f (fun k => g (k + 1)) n := by
  have e1 : cv f g (n + 1) = choose (n + 1) 0 * f 0 * g (n + 1) + sumR (n + 1) (fun k => choose (n + 1) (k + 1) * f (k + 1) * g (n - k)) := by
    show sumR (n + 1 + 1) _ = _
    rw [sumR_head]
    congr 1
    exact sumR_congr fun k _ => by rw [show n + 1 - (k + 1) = n - k by omega]
  have e2 : sumR (n + 1) (fun k => choose (n + 1) (k + 1) * f (k + 1) * g (n - k)) = cv (fun k => f (k + 1)) g n + sumR (n + 1) (fun k => choose n (k + 1) * f (k + 1) * g (n - k)) := by
    show _ = sumR (n + 1) _ + _
    rw [← sumR_add]
    refine sumR_congr fun k _ => ?_
    rw [choose_succ, Nat.add_mul, Nat.add_mul]
  have e3 : cv f (fun k => g (k + 1)) n = choose n 0 * f 0 * g (n + 1) + sumR n (fun k => choose n (k + 1) * f (k + 1) * g (n - k)) := by
    show sumR (n + 1) (fun k => choose n k * f k * g (n - k + 1)) = _
    rw [sumR_head]
    refine congr (congrArg HAdd.hAdd rfl) ?_
    exact sumR_congr fun k hk => by rw [show n - (k + 1) + 1 = n - k by omega]
  have e4 : sumR (n + 1) (fun k => choose n (k + 1) * f (k + 1) * g (n - k)) = sumR n (fun k => choose n (k + 1) * f (k + 1) * g (n - k)) := by
    show sumR n _ + choose n (n + 1) * f (n + 1) * g (n - n) = _
    rw [choose_gt (Nat.lt_succ_self n), Nat.zero_mul, Nat.zero_mul, Nat.add_zero]
  rw [e1, e2, e3, e4, choose_zero, choose_zero]
  omega
theorem cv_addL (f f' g : Nat → Nat) (n : Nat) : cv (fun k => f k + f' k) g n = cv f g n + cv f' g n := by
  show sumR (n + 1) _ = sumR (n + 1) _ + sumR (n + 1) _
  rw [← sumR_add]
  exact sumR_congr fun k _ => by rw [Nat.mul_add, Nat.add_mul]
theorem cv_addR (f g g' : Nat → Nat) (n : Nat) : cv f (fun k => g k + g' k) n = cv f g n + cv f g' n := by
  show sumR (n + 1) _ = sumR (n + 1) _ + sumR (n + 1) _
  rw [← sumR_add]
  exact sumR_congr fun k _ => by rw [Nat.mul_add]
theorem cv_zeroL (g : Nat → Nat) (n : Nat) : cv (fun _ => 0) g n = 0 := by
  show sumR (n + 1) _ = 0
  rw [sumR_congr (g := fun _ => 0) fun k _ => by rw [Nat.mul_zero, Nat.zero_mul], sumR_zero]
theorem cv_zeroR (f : Nat → Nat) (n : Nat) : cv f (fun _ => 0) n = 0 := by
  show sumR (n + 1) _ = 0
  rw [sumR_congr (g := fun _ => 0) fun k _ => by rw [Nat.mul_zero], sumR_zero]
theorem cv_sumR {α : Type} (f : Nat → Nat) (l : List α) (G : α → Nat → Nat) (n : Nat) : cv f (fun k => sumL l (fun a => G a k)) n = sumL l (fun a => cv f (G a) n) := by
  induction l with
  | nil => exact cv_zeroR f n
  | cons a l ih =>
    rw [sumL_cons, ← ih, ← cv_addR]
    congr 1
/-- the first number at which f is not 0, and what it is there -/
def Lead (f : Nat → Nat) (m v : Nat) : Prop := f m = v ∧ 0 < v ∧ ∀ j, j < m → f j = 0
theorem cv_lead {f g : Nat → Nat} {m d v s : Nat} (hf : Lead f m v) (hg : Lead g d s) : Lead (cv f g) (m + d) (v * choose (m + d) d * s) := by
  obtain ⟨f1, f2, f3⟩ := hf
  obtain ⟨g1, g2, g3⟩ := hg
  have sym : ∀ a b : Nat, choose (a + b) a = choose (a + b) b := by
    intro a
    induction a with
    | zero => intro b; rw [choose_zero, Nat.zero_add, choose_self]
    | succ a iha =>
      intro b
      induction b with
      | zero => rw [choose_zero, Nat.add_zero, choose_self]
      | succ b ihb =>
        have e : a + 1 + (b + 1) = (a + 1 + b) + 1 := by omega
        rw [e, choose_succ, choose_succ, ihb]
        have h2 := iha (b + 1)
        rw [show a + (b + 1) = a + 1 + b by omega] at h2
        omega
  refine ⟨?_, Nat.mul_pos (Nat.mul_pos f2 (choose_pos (by omega))) g2, fun j hj => ?_⟩
  · show sumR (m + d + 1) _ = _
    rw [sumR_one (m + d + 1) m _ (by omega)]
    · rw [f1, show m + d - m = d by omega, g1, sym m d, Nat.mul_comm (choose _ _) v]
    · intro i hi hne
      rcases Nat.lt_or_ge i m with z | z
      · rw [f3 i z, Nat.mul_zero, Nat.zero_mul]
      · rw [g3 (m + d - i) (by omega), Nat.mul_zero]
  · show sumR (j + 1) _ = 0
    rw [sumR_congr (g := fun _ => 0), sumR_zero]
    intro i hi
    rcases Nat.lt_or_ge i m with z | z
    · rw [f3 i z, Nat.mul_zero, Nat.zero_mul]
    · rw [g3 (j - i) (by omega), Nat.mul_zero]

/-! ### products -/
def RowOk : List Web → List Nat → Prop
  | [], [] => True
  | w :: ws, a :: as => a < w.n ∧ RowOk ws as
  | _, _ => False
theorem RowOk.len : ∀ {ws : List Web} {as : List Nat}, RowOk ws as → as.length = ws.length
  | [], [], _ => rfl
  | w :: ws, a :: as, h => by
    rw [List.length_cons, List.length_cons, RowOk.len h.2]
/-- walks of products, f told so far -/
def pw (f : Nat → Nat) : List Web → List Nat → List Nat → Nat → Nat
  | w :: ws, a :: as, b :: bs => pw (cv f (fun k => wk w k a b)) ws as bs
  | _, _, _ => f
def one0 (k : Nat) : Nat := if k = 0 then 1 else 0
def pwk (ws : List Web) (k : Nat) (a b : List Nat) : Nat := pw one0 ws a b k
/-- the rows beside a row -/
def bes : List Web → List Nat → List (List Nat)
  | w :: ws, a :: as => (nb w a).map (fun r => r :: as) ++ (bes ws as).map (fun r => a :: r)
  | _, _ => []
theorem bes_ok : ∀ {ws : List Web} {as r : List Nat}, RowOk ws as → r ∈ bes ws as → RowOk ws r
  | [], [], r, _, h => by cases h
  | w :: ws, a :: as, r, h, hr => by
    rcases List.mem_append.mp hr with hr | hr
    · obtain ⟨q, hq, rfl⟩ := List.mem_map.mp hr
      exact ⟨nb_lt hq, h.2⟩
    · obtain ⟨q, hq, rfl⟩ := List.mem_map.mp hr
      exact ⟨h.1, bes_ok h.2 hq⟩
theorem pw_add (f g : Nat → Nat) : ∀ (ws : List Web) (as bs : List Nat) (n : Nat), pw (fun k => f k + g k) ws as bs n = pw f ws as bs n + pw g ws as bs n := by
  intro ws
  induction ws generalizing f g with
  | nil => intro as bs n; rfl
  | cons w ws ih =>
    intro as bs n
    cases as with
    | nil => rfl
    | cons a as =>
      cases bs with
      | nil => rfl
      | cons b bs =>
        show pw (cv (fun k => f k + g k) (fun k => wk w k a b)) ws as bs n = _
        rw [show cv (fun k => f k + g k) (fun k => wk w k a b) = fun n => cv f (fun k => wk w k a b) n + cv g (fun k => wk w k a b) n from funext fun n => cv_addL f g _ n]
        exact ih _ _ as bs n
theorem pw_zero : ∀ (ws : List Web) (as bs : List Nat) (n : Nat), pw (fun _ => 0) ws as bs n = 0 := by
  intro ws
  induction ws with
  | nil => intro as bs n; rfl
  | cons w ws ih =>
    intro as bs n
    cases as with
    | nil => rfl
    | cons a as =>
      cases bs with
      | nil => rfl
      | cons b bs =>
        show pw (cv (fun _ => 0) (fun k => wk w k a b)) ws as bs n = _
        rw [show cv (fun _ => 0) (fun k => wk w k a b) = fun _ => 0 from funext fun n => cv_zeroL _ n]
        exact ih as bs n
theorem pw_sumL {α : Type} (l : List α) (G : α → Nat → Nat) (ws : List Web) (as bs : List Nat) (n : Nat) : pw (fun k => sumL l (fun a => G a k)) ws as bs n = sumL l (fun a => pw (G a) ws as bs n) := by
  induction l with
  | nil => exact pw_zero ws as bs n
  | cons a l ih =>
    rw [sumL_cons, ← ih, ← pw_add]
    congr 1
/-- one step more -/
theorem pw_succ : ∀ (ws : List Web) (as bs : List Nat) (f : Nat → Nat) (n : Nat), RowOk ws as → RowOk ws bs →
    pw f ws as bs (n + 1) = pw (fun k => f (k + 1)) ws as bs n + sumL (bes ws as) (fun r => pw f ws r bs n)
  | [], [], [], f, n, _, _ => rfl
  | w :: ws, a :: as, b :: bs, f, n, ha, hb => by
    show pw (cv f (fun k => wk w k a b)) ws as bs (n + 1) = pw (cv (fun k => f (k + 1)) (fun k => wk w k a b)) ws as bs n + sumL ((nb w a).map (fun r => r :: as) ++ (bes ws as).map (fun r => a :: r)) (fun r => pw f (w :: ws) r (b :: bs) n)
    rw [pw_succ ws as bs _ n ha.2 hb.2, sumL_append, sumL_map, sumL_map]
    have e : (fun k => cv f (fun k => wk w k a b) (k + 1)) = fun k => cv (fun k => f (k + 1)) (fun k => wk w k a b) k + sumL (nb w a) (fun r => cv f (fun k => wk w k r b) k) := by
      funext k
      rw [cv_succ]
      congr 1
      rw [show (fun k => wk w (k + 1) a b) = fun k => sumL (nb w a) (fun r => wk w k r b) from funext fun k => wk_left w k a b ha.1 hb.1]
      exact cv_sumR f (nb w a) (fun r k => wk w k r b) k
    rw [e, pw_add, pw_sumL]
    show _ = pw (cv (fun k => f (k + 1)) (fun k => wk w k a b)) ws as bs n + (sumL (nb w a) (fun r => pw (cv f (fun k => wk w k r b)) ws as bs n) + sumL (bes ws as) (fun r => pw (cv f (fun k => wk w k a b)) ws r bs n))
    omega
theorem pwk_succ {ws : List Web} {as bs : List Nat} (n : Nat) (ha : RowOk ws as) (hb : RowOk ws bs) : pwk ws (n + 1) as bs = sumL (bes ws as) (fun r => pwk ws n r bs) := by
  unfold pwk
  rw [pw_succ ws as bs one0 n ha hb]
  have : (fun k => one0 (k + 1)) = fun _ => 0 := funext fun k => rfl
  rw [this, pw_zero, Nat.zero_add]
theorem pw_at0 : ∀ (ws : List Web) (as bs : List Nat) (f : Nat → Nat), RowOk ws as → RowOk ws bs → pw f ws as bs 0 = if as = bs then f 0 else 0
  | [], [], [], f, _, _ => by rw [if_pos rfl]; rfl
  | w :: ws, a :: as, b :: bs, f, ha, hb => by
    show pw (cv f (fun k => wk w k a b)) ws as bs 0 = _
    rw [pw_at0 ws as bs _ ha.2 hb.2, cv_zero]
    by_cases h1 : as = bs
    · rw [if_pos h1]
      by_cases h2 : a = b
      · rw [if_pos (by rw [h1, h2])]
        simp [wk, h2]
      · rw [if_neg (by intro z; exact h2 (List.cons.inj z).1)]
        simp [wk, h2]
    · rw [if_neg h1, if_neg (by intro z; exact h1 (List.cons.inj z).2)]
theorem pwk_zero {ws : List Web} {as bs : List Nat} (ha : RowOk ws as) (hb : RowOk ws bs) : pwk ws 0 as bs = if as = bs then 1 else 0 := pw_at0 ws as bs one0 ha hb
theorem pw_symm : ∀ (ws : List Web) (as bs : List Nat) (f : Nat → Nat) (n : Nat), RowOk ws as → RowOk ws bs → pw f ws as bs n = pw f ws bs as n
  | [], [], [], f, n, _, _ => rfl
  | w :: ws, a :: as, b :: bs, f, n, ha, hb => by
    show pw (cv f (fun k => wk w k a b)) ws as bs n = pw (cv f (fun k => wk w k b a)) ws bs as n
    rw [show (fun k => wk w k a b) = fun k => wk w k b a from funext fun k => wk_symm w k a b ha.1 hb.1]
    exact pw_symm ws as bs _ n ha.2 hb.2
theorem pwk_symm {ws : List Web} {as bs : List Nat} (n : Nat) (ha : RowOk ws as) (hb : RowOk ws bs) : pwk ws n as bs = pwk ws n bs as := pw_symm ws as bs one0 n ha hb

/-! ### distances of products -/
noncomputable def pdist (ws : List Web) (a b : List Nat) : Option Nat := leastO fun k => 0 < pwk ws k a b
theorem pdist_symm {ws : List Web} {a b : List Nat} (ha : RowOk ws a) (hb : RowOk ws b) : pdist ws a b = pdist ws b a := leastO_congr fun k => by rw [pwk_symm k ha hb]
noncomputable def pways (ws : List Web) (a b : List Nat) : Nat := match pdist ws a b with
  | none => 0
  | some d => pwk ws d a b
theorem pdist_self {ws : List Web} {a : List Nat} (ha : RowOk ws a) : pdist ws a a = some 0 := leastO_some.mpr ⟨by rw [pwk_zero ha ha, if_pos rfl]; exact Nat.one_pos, fun j hj => absurd hj (Nat.not_lt_zero _)⟩
theorem pways_self {ws : List Web} {a : List Nat} (ha : RowOk ws a) : pways ws a a = 1 := by
  unfold pways
  rw [pdist_self ha]
  show pwk ws 0 a a = 1
  rw [pwk_zero ha ha, if_pos rfl]
theorem pdist_none {ws : List Web} {a b : List Nat} (h : pdist ws a b = none) (k : Nat) : pwk ws k a b = 0 := Nat.eq_zero_of_not_pos (leastO_none.mp h k)
/-- no way from the row: none from those beside -/
theorem beside_none {ws : List Web} {a b r : List Nat} (ha : RowOk ws a) (hb : RowOk ws b) (h : pdist ws a b = none) (hr : r ∈ bes ws a) : pdist ws r b = none := leastO_none.mpr fun k z => by
  have h1 := pdist_none h (k + 1)
  rw [pwk_succ k ha hb] at h1
  have : 0 < sumL (bes ws a) (fun r => pwk ws k r b) := sumL_pos.mpr ⟨r, hr, z⟩
  omega
/-- those beside are at least d away, of a row at d + 1 -/
theorem beside_ge {ws : List Web} {a b r : List Nat} {d e : Nat} (ha : RowOk ws a) (hb : RowOk ws b) (h : pdist ws a b = some (d + 1)) (hr : r ∈ bes ws a) (he : pdist ws r b = some e) : d ≤ e := by
  rcases Nat.lt_or_ge e d with z | z
  · exfalso
    refine (leastO_some.mp h).2 (e + 1) (by omega) ?_
    show 0 < pwk ws (e + 1) a b
    rw [pwk_succ e ha hb]
    exact sumL_pos.mpr ⟨r, hr, (leastO_some.mp he).1⟩
  · exact z
/-- one of them is at d -/
theorem beside_at {ws : List Web} {a b : List Nat} {d : Nat} (ha : RowOk ws a) (hb : RowOk ws b) (h : pdist ws a b = some (d + 1)) : ∃ r ∈ bes ws a, pdist ws r b = some d := by
  have h1 := (leastO_some.mp h).1
  rw [pwk_succ d ha hb] at h1
  obtain ⟨r, hr, hw⟩ := sumL_pos.mp h1
  refine ⟨r, hr, leastO_some.mpr ⟨hw, fun j hj z => ?_⟩⟩
  refine (leastO_some.mp h).2 (j + 1) (by omega) ?_
  show 0 < pwk ws (j + 1) a b
  rw [pwk_succ j ha hb]
  exact sumL_pos.mpr ⟨r, hr, z⟩
/-- shortest ways: those of the nearer rows beside, together -/
theorem pways_succ {ws : List Web} {a b : List Nat} {d : Nat} (ha : RowOk ws a) (hb : RowOk ws b) (h : pdist ws a b = some (d + 1)) :
    pways ws a b = sumL ((bes ws a).filter fun r => decide (pdist ws r b = some d)) (fun r => pways ws r b) := by
  have e : pways ws a b = pwk ws (d + 1) a b := by
    unfold pways
    rw [h]
  rw [e, pwk_succ d ha hb, sumL_filter]
  refine sumL_congr fun r hr => ?_
  by_cases z : pdist ws r b = some d
  · rw [if_pos (decide_eq_true z)]
    unfold pways
    rw [z]
  · rw [if_neg (by rw [decide_eq_false z]; exact Bool.false_ne_true)]
    refine Nat.eq_zero_of_not_pos fun hw => ?_
    cases q : pdist ws r b with
    | none => rw [pdist_none q] at hw; exact absurd hw (Nat.lt_irrefl 0)
    | some e =>
      have h1 := beside_ge ha hb h hr q
      have h2 : e ≤ d := by
        rcases Nat.lt_or_ge d e with y | y
        · exact absurd hw ((leastO_some.mp q).2 d y)
        · exact y
      exact z (by rw [q]; congr 1; omega)

/-! ### the distances of the parts -/
noncomputable def dists : List Web → List Nat → List Nat → List (Option Nat)
  | w :: ws, a :: as, b :: bs => dist w a b :: dists ws as bs
  | _, _, _ => []
def sumO : List (Option Nat) → Option Nat
  | [] => some 0
  | none :: _ => none
  | some d :: r => (sumO r).map (d + ·)
/-- what ways_many reckons -/
noncomputable def wprod : Nat → Nat → List Web → List Nat → List Nat → Nat
  | v, m, w :: ws, a :: as, b :: bs => wprod (v * choose (m + (dist w a b).getD 0) ((dist w a b).getD 0) * wk w ((dist w a b).getD 0) a b) (m + (dist w a b).getD 0) ws as bs
  | v, _, _, _, _ => v
theorem lead_wk {w : Web} {a b d : Nat} (h : dist w a b = some d) : Lead (fun k => wk w k a b) d (wk w d a b) := ⟨rfl, dist_pos h, fun j hj => dist_before h hj⟩
theorem pw_lead : ∀ (ws : List Web) (as bs : List Nat) (f : Nat → Nat) (m v s : Nat), RowOk ws as → RowOk ws bs → Lead f m v → sumO (dists ws as bs) = some s → Lead (pw f ws as bs) (m + s) (wprod v m ws as bs)
  | [], [], [], f, m, v, s, _, _, hf, hs => by
    have e : 0 = s := Option.some.inj hs
    subst e
    exact hf
  | w :: ws, a :: as, b :: bs, f, m, v, s, ha, hb, hf, hs => by
    cases hd : dist w a b with
    | none =>
      unfold dists at hs
      rw [hd] at hs
      cases hs
    | some d =>
      unfold dists at hs
      rw [hd] at hs
      cases hr : sumO (dists ws as bs) with
      | none =>
        have hs : (sumO (dists ws as bs)).map (d + ·) = some s := hs
        rw [hr] at hs
        cases hs
      | some t =>
        have hs : (sumO (dists ws as bs)).map (d + ·) = some s := hs
        rw [hr] at hs
        have e : d + t = s := Option.some.inj hs
        subst e
        have h1 := cv_lead hf (lead_wk hd)
        have h2 := pw_lead ws as bs _ _ _ t ha.2 hb.2 h1 hr
        show Lead (pw (cv f (fun k => wk w k a b)) ws as bs) (m + (d + t)) (wprod (v * choose (m + (dist w a b).getD 0) ((dist w a b).getD 0) * wk w ((dist w a b).getD 0) a b) (m + (dist w a b).getD 0) ws as bs)
        rw [hd]
        rw [← Nat.add_assoc]
        exact h2
theorem pw_nolead : ∀ (ws : List Web) (as bs : List Nat) (f : Nat → Nat), RowOk ws as → RowOk ws bs → sumO (dists ws as bs) = none → ∀ n, pw f ws as bs n = 0
  | [], [], [], f, _, _, hs, n => by cases hs
  | w :: ws, a :: as, b :: bs, f, ha, hb, hs, n => by
    show pw (cv f (fun k => wk w k a b)) ws as bs n = 0
    cases hd : dist w a b with
    | none =>
      rw [show (fun k => wk w k a b) = fun _ => 0 from funext fun k => dist_nopath hd k, show cv f (fun _ => 0) = fun _ => 0 from funext fun k => cv_zeroR f k]
      exact pw_zero ws as bs n
    | some d =>
      unfold dists at hs
      rw [hd] at hs
      refine pw_nolead ws as bs _ ha.2 hb.2 ?_ n
      have hs : (sumO (dists ws as bs)).map (d + ·) = none := hs
      cases hr : sumO (dists ws as bs) with
      | none => rfl
      | some t => rw [hr] at hs; cases hs
theorem pdist_sum {ws : List Web} {as bs : List Nat} (ha : RowOk ws as) (hb : RowOk ws bs) : pdist ws as bs = sumO (dists ws as bs) := by
  cases h : sumO (dists ws as bs) with
  | none =>
    refine leastO_none.mpr fun k z => ?_
    have z : 0 < pw one0 ws as bs k := z
    rw [pw_nolead ws as bs one0 ha hb h k] at z
    exact absurd z (Nat.lt_irrefl 0)
  | some s =>
    have l0 : Lead one0 0 1 := ⟨rfl, Nat.one_pos, fun j hj => absurd hj (Nat.not_lt_zero _)⟩
    obtain ⟨h1, h2, h3⟩ := pw_lead ws as bs one0 0 1 s ha hb l0 h
    rw [Nat.zero_add] at h1 h3
    refine leastO_some.mpr ⟨?_, fun j hj z => ?_⟩
    · show 0 < pw one0 ws as bs s
      rw [h1]
      exact h2
    · have z : 0 < pw one0 ws as bs j := z
      rw [h3 j hj] at z
      exact absurd z (Nat.lt_irrefl 0)
theorem pways_prod {ws : List Web} {as bs : List Nat} {s : Nat} (ha : RowOk ws as) (hb : RowOk ws bs) (h : sumO (dists ws as bs) = some s) : pways ws as bs = wprod 1 0 ws as bs := by
  have l0 : Lead one0 0 1 := ⟨rfl, Nat.one_pos, fun j hj => absurd hj (Nat.not_lt_zero _)⟩
  obtain ⟨h1, _⟩ := pw_lead ws as bs one0 0 1 s ha hb l0 h
  unfold pways
  rw [pdist_sum ha hb, h]
  show pw one0 ws as bs s = _
  rw [← h1, Nat.zero_add]
end K68
end

section
/-! K68Math3: breadth first; neighbours as they are gathered. -/
namespace K68
theorem nodup_one {α : Type} (a : α) : [a].Nodup := List.nodup_cons.mpr ⟨List.not_mem_nil, List.nodup_nil⟩
theorem nodup_le : ∀ (n : Nat) (l : List Nat), l.Nodup → (∀ q ∈ l, q < n) → l.length ≤ n
  | 0, l, _, h => by
    cases l with
    | nil => exact Nat.le_refl _
    | cons a l => exact absurd (h a List.mem_cons_self) (Nat.not_lt_zero _)
  | n + 1, l, hd, h => by
    by_cases hn : n ∈ l
    · have h1 := nodup_le n (l.erase n) (hd.erase n) fun q hq => by
        have h2 := (hd.mem_erase_iff.mp hq)
        have h3 := h q h2.2
        have h4 : q ≠ n := h2.1
        omega
      rw [List.length_erase_of_mem hn] at h1
      omega
    · have h1 := nodup_le n l hd fun q hq => by
        have h3 := h q hq
        have h4 : q ≠ n := fun z => hn (by rw [← z]; exact hq)
        omega
      omega
/-! ### breadth first -/
noncomputable def dN (W : Web) (p q : Nat) : Nat := (dist W p q).getD 0
structure Bfs (W : Web) (p : Nat) (F : List (Option Nat)) (R : List Nat) (k : Nat) : Prop where
  len : F.length = W.n
  lt : ∀ q ∈ R, q < W.n
  nd : R.Nodup
  out : ∀ q, q < W.n → q ∉ R → F[q]? = some none
  ok : ∀ q ∈ R, F[q]? = some (dist W p q) ∧ dist W p q ≠ none
  root : p ∈ R
  sort : ∀ (i j a b : Nat), i ≤ j → R[i]? = some a → R[j]? = some b → dN W p a ≤ dN W p b
  top : ∀ (u b : Nat), R[k]? = some u → b ∈ R → dN W p b ≤ dN W p u + 1
  done : ∀ (j a : Nat), j < k → R[j]? = some a → ∀ r ∈ nb W a, r ∈ R
  kle : k ≤ R.length
theorem dN_of {W : Web} {p q d : Nat} (h : dist W p q = some d) : dN W p q = d := by
  unfold dN
  rw [h]
  rfl
theorem Bfs.start {W : Web} {p : Nat} (hp : p < W.n) : Bfs W p ((List.replicate W.n none).set p (some 0)) [p] 0 where
  len := by rw [List.length_set, List.length_replicate]
  lt := fun q hq => by
    rw [List.mem_singleton.mp hq]
    exact hp
  nd := nodup_one p
  out := fun q hq hn => by
    have hne : p ≠ q := fun z => hn (List.mem_singleton.mpr z.symm)
    rw [List.getElem?_set_ne hne, List.getElem?_replicate, if_pos hq]
  ok := fun q hq => by
    rw [List.mem_singleton.mp hq, List.getElem?_set_self (by rw [List.length_replicate]; exact hp), dist_self]
    exact ⟨rfl, fun z => by cases z⟩
  root := List.mem_singleton.mpr rfl
  sort := fun i j a b hij h1 h2 => by
    have hj : j = 0 := by
      have := (List.getElem?_eq_some_iff.mp h2).1
      rw [List.length_singleton] at this
      omega
    have hi : i = 0 := by omega
    subst hj
    subst hi
    rw [h1] at h2
    cases h2
    exact Nat.le_refl _
  top := fun u b h1 h2 => by
    have e1 : p = u := Option.some.inj h1
    rw [List.mem_singleton.mp h2, e1]
    omega
  done := fun j a hj => absurd hj (Nat.not_lt_zero _)
  kle := Nat.zero_le _
/-- all that is no farther than the one at k is in -/
theorem Bfs.near {W : Web} {p : Nat} {F : List (Option Nat)} {R : List Nat} {k u : Nat} (h : Bfs W p F R k) (hu : R[k]? = some u) : ∀ (m r : Nat), r < W.n → dist W p r = some m → m ≤ dN W p u → r ∈ R
  | 0, r, _, hd, _ => by
    rw [← dist_zero hd]
    exact h.root
  | m + 1, r, hr, hd, hm => by
    obtain ⟨s, hs, hds⟩ := dist_pred hd
    have hsn := nb_lt hs
    have hsR := h.near hu m s hsn hds (by omega)
    obtain ⟨i, hi, rfl⟩ := List.mem_iff_getElem.mp hsR
    have hik : i < k := by
      rcases Nat.lt_or_ge i k with z | z
      · exact z
      · have := h.sort k i u R[i] z hu (List.getElem?_eq_getElem hi)
        rw [dN_of hds] at this
        omega
    exact h.done i R[i] hik (List.getElem?_eq_getElem hi) r (nb_symm hr hs)
/-- the last turn: all that can be reached is in -/
theorem Bfs.all {W : Web} {p : Nat} {F : List (Option Nat)} {R : List Nat} (h : Bfs W p F R R.length) : ∀ (m r : Nat), r < W.n → dist W p r = some m → r ∈ R
  | 0, r, _, hd => by
    rw [← dist_zero hd]
    exact h.root
  | m + 1, r, hr, hd => by
    obtain ⟨s, hs, hds⟩ := dist_pred hd
    have hsR := h.all m s (nb_lt hs) hds
    obtain ⟨i, hi, rfl⟩ := List.mem_iff_getElem.mp hsR
    exact h.done i R[i] hi (List.getElem?_eq_getElem hi) r (nb_symm hr hs)
theorem Bfs.found {W : Web} {p : Nat} {F : List (Option Nat)} {R : List Nat} (h : Bfs W p F R R.length) : F = (List.range W.n).map (dist W p) := by
  refine List.ext_getElem? fun q => ?_
  by_cases hq : q < W.n
  · rw [List.getElem?_map, List.getElem?_range hq]
    show F[q]? = some (dist W p q)
    by_cases hR : q ∈ R
    · exact (h.ok q hR).1
    · rw [h.out q hq hR]
      cases hd : dist W p q with
      | none => rfl
      | some m => exact absurd (h.all m q hq hd) hR
  · rw [List.getElem?_eq_none (by rw [h.len]; omega), List.getElem?_eq_none (by rw [List.length_map, List.length_range]; omega)]
/-- a new place -/
theorem Bfs.add {W : Web} {p : Nat} {F : List (Option Nat)} {R : List Nat} {k u o d : Nat} (h : Bfs W p F R k) (hu : R[k]? = some u) (ho : o ∈ nb W u) (hn : F[o]? = some none) (hd : dist W p u = some d) :
    Bfs W p (F.set o (some (d + 1))) (R ++ [o]) k ∧ (R ++ [o])[k]? = some u := by
  have hon := nb_lt ho
  have hoR : o ∉ R := fun z => by
    have := h.ok o z
    rw [hn] at this
    exact this.2 (Option.some.inj this.1).symm
  have huR : u ∈ R := List.mem_of_getElem? hu
  have hun := h.lt u huR
  obtain ⟨e, he, hle⟩ := dist_next hd (nb_symm hun ho)
  have hdo : dist W p o = some (d + 1) := by
    rcases Nat.lt_or_ge e (d + 1) with z | z
    · exact absurd (h.near hu e o hon he (by rw [dN_of hd]; omega)) hoR
    · rw [he]
      congr 1
      omega
  have hk : k < R.length := (List.getElem?_eq_some_iff.mp hu).1
  have hu' : (R ++ [o])[k]? = some u := by rw [List.getElem?_append_left hk]; exact hu
  have get' : ∀ {i a : Nat}, (R ++ [o])[i]? = some a → (i < R.length ∧ R[i]? = some a) ∨ (i = R.length ∧ a = o) := fun {i a} hi => by
    rcases Nat.lt_or_ge i R.length with z | z
    · rw [List.getElem?_append_left z] at hi
      exact .inl ⟨z, hi⟩
    · rw [List.getElem?_append_right z] at hi
      have h0 := (List.getElem?_eq_some_iff.mp hi).1
      rw [List.length_singleton] at h0
      have e0 : i - R.length = 0 := by omega
      rw [e0] at hi
      exact .inr ⟨by omega, (Option.some.inj hi).symm⟩
  have lenF : o < F.length := by rw [h.len]; exact hon
  refine ⟨⟨?_, ?_, ?_, ?_, ?_, ?_, ?_, ?_, ?_, ?_⟩, hu'⟩
  · rw [List.length_set]
    exact h.len
  · intro q hq
    rcases List.mem_append.mp hq with z | z
    · exact h.lt q z
    · rw [List.mem_singleton.mp z]
      exact hon
  · refine List.nodup_append.mpr ⟨h.nd, nodup_one o, fun a ha b hb => ?_⟩
    rw [List.mem_singleton.mp hb]
    intro z
    rw [z] at ha
    exact hoR ha
  · intro q hq hnq
    have h1 : q ∉ R := fun z => hnq (List.mem_append_left _ z)
    have h2 : o ≠ q := fun z => hnq (List.mem_append_right _ (List.mem_singleton.mpr z.symm))
    rw [List.getElem?_set_ne h2]
    exact h.out q hq h1
  · intro q hq
    rcases List.mem_append.mp hq with z | z
    · have h2 : o ≠ q := fun y => hoR (by rw [y]; exact z)
      rw [List.getElem?_set_ne h2]
      exact h.ok q z
    · rw [List.mem_singleton.mp z, List.getElem?_set_self lenF, hdo]
      exact ⟨rfl, fun z => by cases z⟩
  · exact List.mem_append_left _ h.root
  · intro i j a b hij h1 h2
    rcases get' h1 with ⟨i1, g1⟩ | ⟨i1, g1⟩
    · rcases get' h2 with ⟨j1, g2⟩ | ⟨j1, g2⟩
      · exact h.sort i j a b hij g1 g2
      · have := h.top u a hu (List.mem_of_getElem? g1)
        rw [g2, dN_of hdo]
        rw [dN_of hd] at this
        exact this
    · rcases get' h2 with ⟨j1, g2⟩ | ⟨j1, g2⟩
      · omega
      · rw [g1, g2]
        exact Nat.le_refl _
  · intro u' b h1 h2
    rw [hu'] at h1
    cases h1
    rcases List.mem_append.mp h2 with z | z
    · exact h.top u b hu z
    · rw [List.mem_singleton.mp z, dN_of hdo, dN_of hd]
      exact Nat.le_refl _
  · intro j a hj h1 r hr
    rcases get' h1 with ⟨_, g1⟩ | ⟨i1, _⟩
    · exact List.mem_append_left _ (h.done j a hj g1 r hr)
    · omega
  · rw [List.length_append]
    have := h.kle
    omega
/-- the next turn -/
theorem Bfs.next {W : Web} {p : Nat} {F : List (Option Nat)} {R : List Nat} {k u : Nat} (h : Bfs W p F R k) (hu : R[k]? = some u) (hall : ∀ r ∈ nb W u, r ∈ R) : Bfs W p F R (k + 1) where
  len := h.len
  lt := h.lt
  nd := h.nd
  out := h.out
  ok := h.ok
  root := h.root
  sort := h.sort
  top := fun u' b h1 h2 => by
    have h3 := h.top u b hu h2
    have h4 := h.sort k (k + 1) u u' (Nat.le_succ k) hu h1
    omega
  done := fun j a hj h1 r hr => by
    rcases Nat.lt_or_ge j k with z | z
    · exact h.done j a z h1 r hr
    · have e : j = k := by omega
      rw [e, hu] at h1
      cases h1
      exact hall r hr
  kle := (List.getElem?_eq_some_iff.mp hu).1
theorem Bfs.few {W : Web} {p : Nat} {F : List (Option Nat)} {R : List Nat} {k : Nat} (h : Bfs W p F R k) : R.length ≤ W.n := nodup_le W.n R h.nd h.lt
end K68
end

section
/-! K68Math4: the lists of places beside, from the ties; places of a row of webs. -/
namespace K68
def adjOf (ts : List (Nat × Nat)) (i : Nat) : List Nat := ts.filterMap fun p => if p.1 = i then some p.2 else if p.2 = i then some p.1 else none
theorem adjOf_snoc (ts : List (Nat × Nat)) (p : Nat × Nat) (i : Nat) : adjOf (ts ++ [p]) i = adjOf ts i ++ (if p.1 = i then [p.2] else if p.2 = i then [p.1] else []) := by
  unfold adjOf
  rw [List.filterMap_append]
  congr 1
  rw [List.filterMap_cons]
  by_cases h1 : p.1 = i
  · rw [if_pos h1, if_pos h1]; rfl
  · rw [if_neg h1, if_neg h1]
    by_cases h2 : p.2 = i
    · rw [if_pos h2, if_pos h2]; rfl
    · rw [if_neg h2, if_neg h2]; rfl
theorem adjOf_len (ts : List (Nat × Nat)) (i : Nat) : (adjOf ts i).length ≤ ts.length := List.length_filterMap_le _ _
/-- ties rise -/
def ltQ (p q : Nat × Nat) : Prop := p.1 < q.1 ∨ (p.1 = q.1 ∧ p.2 < q.2)
theorem adjOf_perm {W : Web} (ht : ∀ p ∈ W.ts, p.1 < p.2 ∧ p.2 < W.n) (hr : W.ts.Pairwise ltQ) (i : Nat) : (nb W i).Perm (adjOf W.ts i) := by
  refine (List.perm_ext_iff_of_nodup (nb_nodup W i) ?_).mpr fun q => ?_
  · unfold adjOf
    refine List.pairwise_filterMap.mpr ?_
    refine List.Pairwise.imp_of_mem (fun {p q} hp hq h b hb b' hb' => ?_) hr
    have t1 := (ht p hp).1
    have t2 := (ht q hq).1
    unfold ltQ at h
    split at hb
    · cases hb
      split at hb'
      · cases hb'
        omega
      · split at hb'
        · cases hb'
          omega
        · cases hb'
    · split at hb
      · cases hb
        split at hb'
        · cases hb'
          omega
        · split at hb'
          · cases hb'
            omega
          · cases hb'
      · cases hb
  · rw [mem_nb]
    unfold adjOf
    rw [List.mem_filterMap]
    unfold tied
    constructor
    · rintro ⟨hq, h⟩
      rcases Bool.or_eq_true_iff.mp h with h | h
      · have h2 := Bool.and_eq_true_iff.mp h
        exact ⟨(i, q), List.contains_iff_mem.mp h2.2, by simp⟩
      · have h2 := Bool.and_eq_true_iff.mp h
        have h3 : q < i := of_decide_eq_true h2.1
        refine ⟨(q, i), List.contains_iff_mem.mp h2.2, ?_⟩
        rw [if_neg (by show ¬ q = i; omega), if_pos rfl]
    · rintro ⟨p, hp, h⟩
      have t1 := ht p hp
      split at h
      · rename_i e
        cases h
        refine ⟨t1.2, Bool.or_eq_true_iff.mpr (.inl (Bool.and_eq_true_iff.mpr ⟨decide_eq_true (by omega), List.contains_iff_mem.mpr ?_⟩))⟩
        rw [← e]
        exact hp
      · split at h
        · rename_i e
          cases h
          refine ⟨by omega, Bool.or_eq_true_iff.mpr (.inr (Bool.and_eq_true_iff.mpr ⟨decide_eq_true (by omega), List.contains_iff_mem.mpr ?_⟩))⟩
          rw [← e]
          exact hp
        · cases h
theorem nb_rise (W : Web) (i : Nat) : (nb W i).Pairwise (· ≤ ·) := List.Pairwise.sublist List.filter_sublist (List.Pairwise.imp Nat.le_of_lt List.pairwise_lt_range)
/-- how many rows of places -/
def plc (ws : List Web) : Nat := (ws.map Web.n).foldl (· * ·) 1
theorem foldl_mul (l : List Nat) : ∀ a : Nat, l.foldl (· * ·) a = a * l.foldl (· * ·) 1 := by
  induction l with
  | nil => intro a; simp
  | cons x l ih => intro a; rw [List.foldl_cons, List.foldl_cons, ih (a * x), ih (1 * x), Nat.one_mul, Nat.mul_assoc]
theorem plc_cons (w : Web) (ws : List Web) : plc (w :: ws) = w.n * plc ws := by
  unfold plc
  rw [List.map_cons, List.foldl_cons, foldl_mul, Nat.one_mul]
theorem fold_le {l : List Nat} (h : ∀ x ∈ l, x ≤ 40) : ∀ a : Nat, l.foldl (· * ·) a ≤ a * 40 ^ l.length := by
  induction l with
  | nil => intro a; simp
  | cons x l ih =>
    intro a
    rw [List.foldl_cons, List.length_cons, Nat.pow_succ]
    refine Nat.le_trans (ih (fun y hy => h y (List.mem_cons_of_mem _ hy)) (a * x)) ?_
    have h1 : x ≤ 40 := h x List.mem_cons_self
    calc a * x * 40 ^ l.length ≤ a * 40 * 40 ^ l.length := Nat.mul_le_mul_right _ (Nat.mul_le_mul_left _ h1)
      _ = a * (40 ^ l.length * 40) := by rw [Nat.mul_assoc, Nat.mul_comm 40]
/-- sumO, as the text finds it -/
theorem sumO_none {l : List (Option Nat)} : sumO l = none ↔ none ∈ l := by
  induction l with
  | nil => simp [sumO]
  | cons o l ih =>
    cases o with
    | none => simp [sumO]
    | some d =>
      rw [show sumO (some d :: l) = (sumO l).map (d + ·) from by cases h : sumO l <;> simp [sumO, h], Option.map_eq_none_iff, ih]
      simp
theorem sumO_some {l : List (Option Nat)} {s : Nat} (h : sumO l = some s) : ∃ m : List Nat, l = m.map some ∧ m.sum = s := by
  induction l generalizing s with
  | nil => exact ⟨[], rfl, by simpa [sumO] using h⟩
  | cons o l ih =>
    cases o with
    | none => simp [sumO] at h
    | some d =>
      cases h2 : sumO l with
      | none => simp [sumO, h2] at h
      | some t =>
        obtain ⟨m, e1, e2⟩ := ih h2
        refine ⟨d :: m, by rw [e1]; rfl, ?_⟩
        simp [sumO, h2] at h
        rw [List.sum_cons, e2]
        omega
end K68
end

section
/-! K68Math5: how many at each distance; products of rows; how far at most. -/
namespace K68
/-! ### products of rows -/
def pc (a b : List Nat) (s : Nat) : Nat := sumR a.length (fun i => sumR b.length (fun j => if i + j = s then a.getD i 0 * b.getD j 0 else 0))
def pmul (a b : List Nat) : List Nat := (List.range (a.length + b.length - 1)).map (pc a b)
theorem pmul_len (a b : List Nat) : (pmul a b).length = a.length + b.length - 1 := by unfold pmul; rw [List.length_map, List.length_range]
theorem pmul_getD {a b : List Nat} {s : Nat} (h : s < a.length + b.length - 1) : (pmul a b).getD s 0 = pc a b s := by
  unfold pmul
  rw [List.getD_eq_getElem?_getD, List.getElem?_map, List.getElem?_range h]
  rfl
theorem getD_big {l : List Nat} {i : Nat} (h : l.length ≤ i) : l.getD i 0 = 0 := by
  rw [List.getD_eq_getElem?_getD, List.getElem?_eq_none h]
  rfl
theorem sum_getD (l : List Nat) : l.sum = sumR l.length (fun i => l.getD i 0) := by
  induction l with
  | nil => rfl
  | cons a l ih =>
    rw [List.sum_cons, List.length_cons, sumR_head, ih]
    rfl
theorem sum_range (n : Nat) (f : Nat → Nat) : ((List.range n).map f).sum = sumR n f := sumL_range n f
theorem sumR_more {n : Nat} {f : Nat → Nat} (h : ∀ i, n ≤ i → f i = 0) : ∀ k : Nat, sumR (n + k) f = sumR n f
  | 0 => rfl
  | k + 1 => by
    show sumR (n + k) f + f (n + k) = _
    rw [sumR_more h k, h (n + k) (Nat.le_add_right _ _), Nat.add_zero]
theorem pmul_sum {a b : List Nat} (ha : 0 < a.length) (hb : 0 < b.length) : (pmul a b).sum = a.sum * b.sum := by
  unfold pmul
  rw [sum_range]
  unfold pc
  rw [sumR_swap]
  have e : ∀ i, i < a.length → sumR (a.length + b.length - 1) (fun s => sumR b.length (fun j => if i + j = s then a.getD i 0 * b.getD j 0 else 0)) = a.getD i 0 * b.sum := fun i hi => by
    rw [sumR_swap, sum_getD b, ← sumR_mulL]
    refine sumR_congr fun j hj => ?_
    rw [sumR_one _ (i + j) _ (by omega) fun s _ hs => if_neg (fun z => hs z.symm), if_pos rfl]
  rw [sumR_congr e, sumR_mulR, ← sum_getD]
theorem pc_eq (a b : List Nat) (s : Nat) : pc a b s = sumR (s + 1) (fun i => a.getD i 0 * b.getD (s - i) 0) := by
  have e : ∀ i, i < a.length → sumR b.length (fun j => if i + j = s then a.getD i 0 * b.getD j 0 else 0) = if i ≤ s then a.getD i 0 * b.getD (s - i) 0 else 0 := fun i hi => by
    by_cases h : i ≤ s
    · rw [if_pos h]
      by_cases h2 : s - i < b.length
      · rw [sumR_one _ (s - i) _ h2 fun j _ hj => if_neg (by omega), if_pos (by omega)]
      · rw [getD_big (Nat.le_of_not_lt h2), Nat.mul_zero]
        exact Eq.trans (sumR_congr fun j hj => if_neg (by omega)) (sumR_zero _)
    · rw [if_neg h]
      exact Eq.trans (sumR_congr fun j hj => if_neg (by omega)) (sumR_zero _)
  unfold pc
  rw [sumR_congr e, ← sumR_more (n := a.length) (fun i hi => by rw [getD_big hi, Nat.zero_mul, ite_self]) (s + 1), Nat.add_comm a.length, sumR_more (n := s + 1) (fun i hi => if_neg (by omega)) a.length]
  exact sumR_congr fun i hi => if_pos (by omega)
theorem pc_zero (a b : List Nat) : pc a b 0 = a.getD 0 0 * b.getD 0 0 := by
  rw [pc_eq]
  show 0 + _ = _
  rw [Nat.zero_add]
theorem pc_one (a b : List Nat) : pc a b 1 = a.getD 0 0 * b.getD 1 0 + a.getD 1 0 * b.getD 0 0 := by
  rw [pc_eq]
  show 0 + _ + _ = _
  rw [Nat.zero_add]
theorem pc_pos {a b : List Nat} {s : Nat} (ha : ∀ x ∈ a, 0 < x) (hb : ∀ x ∈ b, 0 < x) (la : 0 < a.length) (lb : 0 < b.length) (hs : s < a.length + b.length - 1) : 0 < pc a b s := by
  unfold pc
  refine sumR_pos.mpr ⟨min s (a.length - 1), by omega, sumR_pos.mpr ⟨s - min s (a.length - 1), by omega, ?_⟩⟩
  rw [if_pos (by omega)]
  have g : ∀ (l : List Nat) (i : Nat), (∀ x ∈ l, 0 < x) → i < l.length → 0 < l.getD i 0 := fun l i h hi => by
    rw [List.getD_eq_getElem?_getD, List.getElem?_eq_getElem hi]
    exact h _ (List.getElem_mem hi)
  exact Nat.mul_pos (g a _ ha (by omega)) (g b _ hb (by omega))
def Pal (l : List Nat) : Prop := ∀ i, i < l.length → l.getD i 0 = l.getD (l.length - 1 - i) 0
theorem pal_pmul {a b : List Nat} (la : 0 < a.length) (lb : 0 < b.length) (ha : Pal a) (hb : Pal b) : Pal (pmul a b) := fun s hs => by
  rw [pmul_len] at hs ⊢
  rw [pmul_getD hs, pmul_getD (by omega)]
  unfold pc
  rw [← sumR_rev]
  refine sumR_congr fun i hi => ?_
  rw [← sumR_rev]
  refine sumR_congr fun j hj => ?_
  rw [ha i hi, hb j hj]
  by_cases h : a.length - 1 - i + (b.length - 1 - j) = s
  · rw [if_pos h, if_pos (by omega)]
  · rw [if_neg h, if_neg (by omega)]
theorem pal_rev {l : List Nat} (h : Pal l) : l.reverse = l := by
  refine List.ext_getElem? fun i => ?_
  rcases Nat.lt_or_ge i l.length with hi | hi
  · rw [List.getElem?_reverse hi]
    have h1 := h i hi
    rw [List.getD_eq_getElem?_getD, List.getD_eq_getElem?_getD, List.getElem?_eq_getElem hi, List.getElem?_eq_getElem (show l.length - 1 - i < l.length by omega)] at h1
    rw [List.getElem?_eq_getElem hi, List.getElem?_eq_getElem (show l.length - 1 - i < l.length by omega)]
    exact congrArg some h1.symm
  · rw [List.getElem?_eq_none hi, List.getElem?_eq_none (by rw [List.length_reverse]; exact hi)]
theorem sum_ge {l : List Nat} {x : Nat} (h : x ∈ l) : x ≤ l.sum := by
  induction l with
  | nil => cases h
  | cons a l ih =>
    rw [List.sum_cons]
    rcases List.mem_cons.mp h with rfl | h
    · omega
    · have := ih h
      omega
/-! ### distances that are known -/
noncomputable def known (W : Web) (p : Nat) : List Nat := ((List.range W.n).filter fun i => (dist W p i).isSome).map fun i => (dist W p i).getD 0
def big (l : List Nat) : Nat := l.foldr max 0
theorem big_le {l : List Nat} {x : Nat} (h : x ∈ l) : x ≤ big l := by
  induction l with
  | nil => cases h
  | cons a l ih =>
    show x ≤ max a (big l)
    rcases List.mem_cons.mp h with rfl | h
    · omega
    · have := ih h
      omega
theorem big_mem {l : List Nat} (h : 0 < l.length) : big l ∈ l := by
  induction l with
  | nil => cases h
  | cons a l ih =>
    show max a (big l) ∈ a :: l
    rcases Nat.le_total (big l) a with h1 | h1
    · rw [Nat.max_eq_left h1]
      exact List.mem_cons_self
    · rw [Nat.max_eq_right h1]
      cases l with
      | nil =>
        have : a = 0 := Nat.le_zero.mp h1
        rw [this]
        exact List.mem_cons_self
      | cons b l => exact List.mem_cons_of_mem _ (ih (Nat.succ_pos _))
noncomputable def ecc (W : Web) (p : Nat) : Nat := big (known W p)
theorem mem_known {W : Web} {p d : Nat} : d ∈ known W p ↔ ∃ q, q < W.n ∧ dist W p q = some d := by
  unfold known
  rw [List.mem_map]
  constructor
  · rintro ⟨q, hq, rfl⟩
    rw [List.mem_filter, List.mem_range] at hq
    obtain ⟨d, hd⟩ := Option.isSome_iff_exists.mp hq.2
    exact ⟨q, hq.1, by rw [hd]; rfl⟩
  · rintro ⟨q, hq, hd⟩
    exact ⟨q, List.mem_filter.mpr ⟨List.mem_range.mpr hq, by rw [hd]; rfl⟩, by rw [hd]; rfl⟩
theorem known_pos {W : Web} {p : Nat} (hp : p < W.n) : 0 < (known W p).length := List.length_pos_of_mem (mem_known.mpr ⟨p, hp, dist_self W p⟩)
theorem known_le (W : Web) (p : Nat) : (known W p).length ≤ W.n := by
  unfold known
  rw [List.length_map]
  have := List.length_filter_le (fun i => (dist W p i).isSome) (List.range W.n)
  rw [List.length_range] at this
  exact this
theorem known_all {W : Web} {p : Nat} (h : ∀ q, q < W.n → dist W p q ≠ none) : (known W p).length = W.n := by
  unfold known
  rw [List.length_map, List.filter_eq_self.mpr, List.length_range]
  intro q hq
  rw [List.mem_range] at hq
  exact Option.isSome_iff_ne_none.mpr (h q hq)
theorem known_lt {W : Web} {p q : Nat} (hq : q < W.n) (h : dist W p q = none) : (known W p).length < W.n := by
  unfold known
  rw [List.length_map]
  have h1 : ((List.range W.n).filter fun i => (dist W p i).isSome).length < (List.range W.n).length := by
    refine List.length_filter_lt_length_iff_exists.mpr ⟨q, List.mem_range.mpr hq, ?_⟩
    rw [h]
    decide
  rw [List.length_range] at h1
  exact h1
theorem dist_down {W : Web} {p : Nat} : ∀ (d q k : Nat), q < W.n → dist W p q = some d → k ≤ d → ∃ r, r < W.n ∧ dist W p r = some k
  | 0, q, k, hq, h, hk => ⟨q, hq, by rw [h, Nat.le_zero.mp hk]⟩
  | d + 1, q, k, hq, h, hk => by
    rcases Nat.lt_or_ge d k with h1 | h1
    · exact ⟨q, hq, by rw [h]; congr 1; omega⟩
    · obtain ⟨r, hr, hd⟩ := dist_pred h
      exact dist_down d r k (nb_lt hr) hd h1
theorem dist_lt {W : Web} {p q d : Nat} (hq : q < W.n) (h : dist W p q = some d) : d < W.n := by
  have hex : ∀ k, k ≤ d → ∃ r, r < W.n ∧ dist W p r = some k := fun k hk => dist_down d q k hq h hk
  have : ∀ m, m ≤ d + 1 → ∃ l : List Nat, l.length = m ∧ l.Nodup ∧ ∀ r ∈ l, r < W.n ∧ ∃ k, k < m ∧ dist W p r = some k := fun m => by
    induction m with
    | zero => exact fun _ => ⟨[], rfl, List.nodup_nil, fun r hr => by cases hr⟩
    | succ m ih =>
      intro hm
      obtain ⟨l, h1, h2, h3⟩ := ih (by omega)
      obtain ⟨r, hr, hd⟩ := hex m (by omega)
      refine ⟨r :: l, by rw [List.length_cons, h1], List.nodup_cons.mpr ⟨fun hm => ?_, h2⟩, fun s hs => ?_⟩
      · obtain ⟨_, k, hk, hk2⟩ := h3 r hm
        rw [hd] at hk2
        have := Option.some.inj hk2
        omega
      · rcases List.mem_cons.mp hs with rfl | hs
        · exact ⟨hr, m, by omega, hd⟩
        · obtain ⟨a1, k, a2, a3⟩ := h3 s hs
          exact ⟨a1, k, by omega, a3⟩
  obtain ⟨l, h1, h2, h3⟩ := this (d + 1) (Nat.le_refl _)
  have := nodup_le W.n l h2 fun r hr => (h3 r hr).1
  omega
theorem ecc_lt {W : Web} {p : Nat} (hp : p < W.n) : ecc W p < W.n := by
  obtain ⟨q, hq, hd⟩ := mem_known.mp (big_mem (known_pos hp))
  exact dist_lt hq hd
theorem known_count (W : Web) (p k : Nat) : (known W p).count k = (List.range W.n).countP (fun i => decide (dist W p i = some k)) := by
  unfold known
  rw [List.count_eq_countP, List.countP_map, List.countP_filter]
  refine List.countP_congr fun i _ => ?_
  cases h : dist W p i with
  | none => simp [Function.comp, h]
  | some d => simp [Function.comp, h]
theorem count_zero {W : Web} {p : Nat} (hp : p < W.n) : (known W p).count 0 = 1 := by
  have h1 : (List.range W.n).count p = 1 := by rw [List.nodup_range.count, if_pos (List.mem_range.mpr hp)]
  rw [known_count, ← h1, List.count_eq_countP]
  exact List.countP_congr fun i _ => by
    rw [decide_eq_true_iff, beq_iff_eq]
    exact ⟨fun h => (dist_zero h).symm, fun h => by rw [h]; exact dist_self W p⟩
theorem dist_one {W : Web} {p q : Nat} (hp : p < W.n) (hq : q < W.n) : dist W p q = some 1 ↔ q ∈ nb W p := by
  constructor
  · intro h
    obtain ⟨r, hr, hd⟩ := dist_pred h
    rw [← dist_zero hd] at hr
    exact nb_symm hq hr
  · intro h
    obtain ⟨e, he, hle⟩ := dist_next (dist_self W p) (nb_symm hp h)
    rcases e with _ | _ | e
    · rw [← dist_zero he] at h
      have := (mem_nb.mp h).2
      rw [tied_self] at this
      cases this
    · exact he
    · omega
theorem count_one {W : Web} {p : Nat} (hp : p < W.n) : (known W p).count 1 = (nb W p).length := by
  rw [known_count]
  unfold nb
  rw [← List.countP_eq_length_filter]
  refine List.countP_congr fun i hi => ?_
  rw [List.mem_range] at hi
  rw [decide_eq_true_iff, dist_one hp hi, mem_nb]
  exact ⟨fun h => h.2, fun h => ⟨hi, h⟩⟩
theorem sum_count : ∀ (l : List Nat) (m : Nat), (∀ x ∈ l, x ≤ m) → sumR (m + 1) (fun k => l.count k) = l.length
  | [], m, _ => sumR_zero _
  | a :: l, m, h => by
    have e : ∀ k, k < m + 1 → (a :: l).count k = l.count k + (if a = k then 1 else 0) := fun k _ => by
      rw [List.count_cons]
      congr 1
      by_cases z : a = k <;> simp [z]
    rw [sumR_congr e, sumR_add, sum_count l m (fun x hx => h x (List.mem_cons_of_mem _ hx)), List.length_cons, sumR_one (m + 1) a _ (by have := h a List.mem_cons_self; omega) fun i _ hi => if_neg fun z => hi z.symm, if_pos rfl]
/-- how many at each distance -/
noncomputable def ownr (W : Web) (p : Nat) : List Nat := (List.range (ecc W p + 1)).map fun k => (known W p).count k
theorem ownr_len (W : Web) (p : Nat) : (ownr W p).length = ecc W p + 1 := by unfold ownr; rw [List.length_map, List.length_range]
theorem ownr_sum (W : Web) (p : Nat) : (ownr W p).sum = (known W p).length := by
  unfold ownr
  rw [sum_range]
  exact sum_count _ _ fun x hx => big_le hx
theorem ownr_get {W : Web} {p k : Nat} (h : k ≤ ecc W p) : (ownr W p).getD k 0 = (known W p).count k := by
  unfold ownr
  rw [List.getD_eq_getElem?_getD, List.getElem?_map, List.getElem?_range (by omega)]
  rfl
theorem ownr_pos {W : Web} {p : Nat} (hp : p < W.n) : ∀ x ∈ ownr W p, 0 < x := fun x hx => by
  obtain ⟨k, hk, rfl⟩ := List.mem_map.mp hx
  rw [List.mem_range] at hk
  obtain ⟨q, hq, hd⟩ := mem_known.mp (big_mem (known_pos hp))
  obtain ⟨r, hr, hd2⟩ := dist_down _ q k hq hd (show k ≤ ecc W p by omega)
  exact List.count_pos_iff.mpr (mem_known.mpr ⟨r, hr, hd2⟩)
theorem ownr_zero {W : Web} {p : Nat} (hp : p < W.n) : (ownr W p).getD 0 0 = 1 := by rw [ownr_get (Nat.zero_le _), count_zero hp]
theorem ownr_one {W : Web} {p : Nat} (hp : p < W.n) : (ownr W p).getD 1 0 = (nb W p).length := by
  rcases Nat.lt_or_ge (ecc W p) 1 with h | h
  · rw [getD_big (by rw [ownr_len]; omega), ← count_one hp]
    refine (List.count_eq_zero.mpr fun z => ?_).symm
    have := big_le z
    unfold ecc at h
    omega
  · rw [ownr_get h, count_one hp]
noncomputable def rings : List Nat → List Web → List Nat → List Nat
  | f, w :: ws, a :: as => rings (pmul f (ownr w a)) ws as
  | f, _, _ => f
noncomputable def knowns : List Web → List Nat → Nat
  | w :: ws, a :: as => (known w a).length * knowns ws as
  | _, _ => 1
noncomputable def eccs : List Web → List Nat → Nat
  | w :: ws, a :: as => ecc w a + eccs ws as
  | _, _ => 0
structure RingOk (f : List Nat) : Prop where
  len : 0 < f.length
  pos : ∀ x ∈ f, 0 < x
  one : f.getD 0 0 = 1
theorem RingOk.step {f : List Nat} (h : RingOk f) {W : Web} {p : Nat} (hp : p < W.n) : RingOk (pmul f (ownr W p)) := by
  have hl := ownr_len W p
  have h1 := h.len
  refine ⟨by rw [pmul_len]; omega, fun x hx => ?_, ?_⟩
  · unfold pmul at hx
    obtain ⟨s, hs, rfl⟩ := List.mem_map.mp hx
    rw [List.mem_range] at hs
    exact pc_pos h.pos (ownr_pos hp) h.len (by omega) hs
  · rw [pmul_getD (by omega), pc_zero, h.one, ownr_zero hp]
theorem rings_ok : ∀ {ws : List Web} {as : List Nat} {f : List Nat}, RowOk ws as → RingOk f → RingOk (rings f ws as)
  | [], [], f, _, h => h
  | w :: ws, a :: as, f, o, h => by
    show RingOk (rings (pmul f (ownr w a)) ws as)
    exact rings_ok o.2 (h.step o.1)
theorem rings_sum : ∀ {ws : List Web} {as : List Nat} {f : List Nat}, RowOk ws as → RingOk f → (rings f ws as).sum = f.sum * knowns ws as
  | [], [], f, _, h => (Nat.mul_one _).symm
  | w :: ws, a :: as, f, o, h => by
    show (rings (pmul f (ownr w a)) ws as).sum = f.sum * ((known w a).length * knowns ws as)
    rw [rings_sum o.2 (h.step o.1), pmul_sum h.len (by rw [ownr_len]; omega), ownr_sum, Nat.mul_assoc]
theorem rings_len : ∀ {ws : List Web} {as : List Nat} {f : List Nat}, RowOk ws as → RingOk f → (rings f ws as).length = f.length + eccs ws as
  | [], [], f, _, h => rfl
  | w :: ws, a :: as, f, o, h => by
    show (rings (pmul f (ownr w a)) ws as).length = f.length + (ecc w a + eccs ws as)
    rw [rings_len o.2 (h.step o.1), pmul_len, ownr_len]
    omega
theorem rings_one : ∀ {ws : List Web} {as : List Nat} {f : List Nat}, RowOk ws as → RingOk f → (rings f ws as).getD 1 0 = f.getD 1 0 + (bes ws as).length
  | [], [], f, _, h => rfl
  | w :: ws, a :: as, f, o, h => by
    show (rings (pmul f (ownr w a)) ws as).getD 1 0 = f.getD 1 0 + ((nb w a).map (fun r => r :: as) ++ (bes ws as).map (fun r => a :: r)).length
    rw [rings_one o.2 (h.step o.1), List.length_append, List.length_map, List.length_map]
    have h1 : (pmul f (ownr w a)).getD 1 0 = f.getD 1 0 + (nb w a).length := by
      rw [← ownr_one o.1]
      rcases Nat.lt_or_ge 1 (f.length + (ownr w a).length - 1) with z | z
      · rw [pmul_getD z, pc_one, h.one, ownr_zero o.1]
        omega
      · have := h.len
        have h2 := ownr_len w a
        rw [getD_big (by rw [pmul_len]; exact z), getD_big (l := f) (by omega), getD_big (l := ownr w a) (by omega)]
    omega
theorem rings_pal : ∀ {ws : List Web} {as : List Nat} {f : List Nat}, RowOk ws as → RingOk f → Pal f → (∀ (i : Nat) (w : Web) (a : Nat), ws[i]? = some w → as[i]? = some a → Pal (ownr w a)) → Pal (rings f ws as)
  | [], [], f, _, _, h, _ => h
  | w :: ws, a :: as, f, o, r, h, g => by
    show Pal (rings (pmul f (ownr w a)) ws as)
    exact rings_pal o.2 (r.step o.1) (pal_pmul r.len (by rw [ownr_len]; omega) h (g 0 w a rfl rfl)) fun i w' a' h1 h2 => g (i + 1) w' a' h1 h2
/-! ### hanging together -/
def conn (W : Web) : Prop := ∀ p q, p < W.n → q < W.n → dist W p q ≠ none
noncomputable def wid (W : Web) : Nat := big ((List.range W.n).map (ecc W))
theorem wk_trans {W : Web} {p a : Nat} {j : Nat} (h : 0 < wk W j p a) : ∀ (k q : Nat), 0 < wk W k a q → 0 < wk W (j + k) p q
  | 0, q, h2 => by
    have : a = q := by
      unfold wk at h2
      by_cases z : a = q
      · exact z
      · rw [if_neg z] at h2
        cases h2
    rw [← this]
    exact h
  | k + 1, q, h2 => by
    obtain ⟨r, hr, h3⟩ := wk_back h2
    exact wk_step hr (wk_trans h k r h3)
theorem dist_trans {W : Web} {p a q : Nat} (h1 : dist W p a ≠ none) (h2 : dist W a q ≠ none) : dist W p q ≠ none := by
  obtain ⟨d, hd⟩ := Option.ne_none_iff_exists'.mp h1
  obtain ⟨e, he⟩ := Option.ne_none_iff_exists'.mp h2
  obtain ⟨f, hf, _⟩ := dist_le (wk_trans (dist_pos hd) e q (dist_pos he))
  rw [hf]
  exact fun z => by cases z
theorem conn_of {W : Web} {a : Nat} (ha : a < W.n) (h : ∀ q, q < W.n → dist W a q ≠ none) : conn W := fun p q hp hq => dist_trans (by rw [dist_symm W hp ha]; exact h p hp) (h q hq)
theorem knowns_pos : ∀ {ws : List Web} {as : List Nat}, RowOk ws as → 0 < knowns ws as
  | [], [], _ => Nat.one_pos
  | w :: ws, a :: as, o => Nat.mul_pos (known_pos o.1) (knowns_pos o.2)
theorem knowns_le : ∀ {ws : List Web} {as : List Nat}, RowOk ws as → knowns ws as ≤ plc ws
  | [], [], _ => Nat.le_refl _
  | w :: ws, a :: as, o => by
    rw [plc_cons]
    exact Nat.mul_le_mul (known_le w a) (knowns_le o.2)
theorem knowns_conn : ∀ {ws : List Web} {as : List Nat}, RowOk ws as → (∀ w ∈ ws, conn w) → knowns ws as = plc ws
  | [], [], _, _ => rfl
  | w :: ws, a :: as, o, h => by
    rw [plc_cons]
    show (known w a).length * knowns ws as = _
    rw [known_all (fun q hq => h w List.mem_cons_self a q o.1 hq), knowns_conn o.2 fun v hv => h v (List.mem_cons_of_mem _ hv)]
theorem knowns_lt : ∀ {ws : List Web} {as : List Nat}, RowOk ws as → (¬ ∀ w ∈ ws, conn w) → knowns ws as < plc ws
  | [], [], _, h => absurd (fun w hw => by cases hw) h
  | w :: ws, a :: as, o, h => by
    rw [plc_cons]
    show (known w a).length * knowns ws as < _
    by_cases c : conn w
    · have h2 : ¬ ∀ v ∈ ws, conn v := fun z => h fun v hv => by
        rcases List.mem_cons.mp hv with rfl | hv
        · exact c
        · exact z v hv
      have h3 := knowns_lt o.2 h2
      rw [known_all (fun q hq => c a q o.1 hq)]
      exact Nat.mul_lt_mul_of_pos_left h3 (by have := o.1; omega)
    · have h2 : ¬ ∀ q, q < w.n → dist w a q ≠ none := fun z => c (conn_of o.1 z)
      obtain ⟨q, h2⟩ := Classical.not_forall.mp h2
      obtain ⟨hq, h2⟩ := Classical.not_imp.mp h2
      have h3 := known_lt hq (Classical.not_not.mp h2)
      exact Nat.lt_of_lt_of_le (Nat.mul_lt_mul_of_pos_right h3 (knowns_pos o.2)) (Nat.mul_le_mul_left _ (knowns_le o.2))
theorem ecc_wid {W : Web} {p : Nat} (hp : p < W.n) : ecc W p ≤ wid W := big_le (List.mem_map.mpr ⟨p, List.mem_range.mpr hp, rfl⟩)
theorem dist_wid {W : Web} {p q d : Nat} (hp : p < W.n) (hq : q < W.n) (h : dist W p q = some d) : d ≤ wid W := Nat.le_trans (big_le (mem_known.mpr ⟨q, hq, h⟩)) (ecc_wid hp)
theorem eccs_le : ∀ {ws : List Web} {as : List Nat}, RowOk ws as → eccs ws as ≤ (ws.map wid).sum
  | [], [], _ => Nat.le_refl _
  | w :: ws, a :: as, o => by
    rw [List.map_cons, List.sum_cons]
    exact Nat.add_le_add (ecc_wid o.1) (eccs_le o.2)
theorem dists_le : ∀ {ws : List Web} {as bs : List Nat}, RowOk ws as → RowOk ws bs → (∀ w ∈ ws, conn w) → ∃ s, sumO (dists ws as bs) = some s ∧ s ≤ (ws.map wid).sum
  | [], [], [], _, _, _ => ⟨0, rfl, Nat.le_refl _⟩
  | w :: ws, a :: as, b :: bs, o1, o2, h => by
    obtain ⟨s, h1, h2⟩ := dists_le o1.2 o2.2 fun v hv => h v (List.mem_cons_of_mem _ hv)
    obtain ⟨d, hd⟩ := Option.ne_none_iff_exists'.mp (h w List.mem_cons_self a b o1.1 o2.1)
    refine ⟨d + s, ?_, ?_⟩
    · show sumO (dist w a b :: dists ws as bs) = _
      rw [hd]
      show (sumO (dists ws as bs)).map (d + ·) = _
      rw [h1]
      rfl
    · rw [List.map_cons, List.sum_cons]
      exact Nat.add_le_add (dist_wid o1.1 o2.1 hd) h2
end K68
end

section
/-! K68Math6: webs that are rows of places. -/
namespace K68
def pathW (n : Nat) : Web := ⟨n, (List.range (n - 1)).map fun i => (i, i + 1)⟩
theorem mem_path {n i j : Nat} : (i, j) ∈ (pathW n).ts ↔ j = i + 1 ∧ j < n := by
  unfold pathW
  rw [List.mem_map]
  constructor
  · rintro ⟨k, hk, e⟩
    rw [List.mem_range] at hk
    injection e with e1 e2
    exact ⟨by omega, by omega⟩
  · rintro ⟨h1, h2⟩
    exact ⟨i, List.mem_range.mpr (by omega), by rw [h1]⟩
theorem tied_path {n p q : Nat} (hp : p < n) (hq : q < n) : tied (pathW n) p q = decide (q = p + 1 ∨ p = q + 1) := by
  unfold tied
  by_cases h : q = p + 1
  · rw [decide_eq_true (show q = p + 1 ∨ p = q + 1 from .inl h), decide_eq_true (show p < q by omega), List.contains_iff_mem.mpr (mem_path.mpr ⟨h, hq⟩)]
    rfl
  · by_cases h2 : p = q + 1
    · rw [decide_eq_true (show q = p + 1 ∨ p = q + 1 from .inr h2), decide_eq_true (show q < p by omega), List.contains_iff_mem.mpr (mem_path.mpr ⟨h2, hp⟩)]
      simp
    · rw [decide_eq_false (show ¬ (q = p + 1 ∨ p = q + 1) by omega)]
      have n1 : (pathW n).ts.contains (p, q) = false := by
        rw [Bool.eq_false_iff]
        exact fun z => h (mem_path.mp (List.contains_iff_mem.mp z)).1
      have n2 : (pathW n).ts.contains (q, p) = false := by
        rw [Bool.eq_false_iff]
        exact fun z => h2 (mem_path.mp (List.contains_iff_mem.mp z)).1
      rw [n1, n2, Bool.and_false, Bool.and_false]
      rfl
theorem path_lt {n : Nat} : ∀ (k q : Nat), k < q → q < n → wk (pathW n) k 0 q = 0
  | 0, q, h, _ => by
    show (if 0 = q then 1 else 0) = 0
    rw [if_neg (by omega)]
  | k + 1, q, h, hq => by
    show sumL (nb (pathW n) q) (fun r => wk (pathW n) k 0 r) = 0
    refine sumL_zero fun r hr => ?_
    obtain ⟨h1, h2⟩ := mem_nb.mp hr
    have h1 : r < n := h1
    rw [tied_path hq h1] at h2
    have h2 := of_decide_eq_true h2
    exact path_lt k r (by omega) h1
theorem path_at {n : Nat} : ∀ q : Nat, q < n → wk (pathW n) q 0 q = 1
  | 0, _ => rfl
  | q + 1, hq => by
    show sumL (nb (pathW n) (q + 1)) (fun r => wk (pathW n) q 0 r) = 1
    rw [sum_nb]
    show sumR n _ = 1
    rw [sumR_one n q _ (by omega) fun i hi hne => ?_]
    · unfold ti
      rw [tied_path hq (by omega), decide_eq_true (.inr rfl), if_pos rfl, Nat.one_mul]
      exact path_at q (by omega)
    · unfold ti
      rw [tied_path hq hi]
      by_cases h : i = q + 1 + 1 ∨ q + 1 = i + 1
      · rw [path_lt q i (by omega) hi, Nat.mul_zero]
      · rw [decide_eq_false h, if_neg Bool.false_ne_true, Nat.zero_mul]
theorem path_dist {n q : Nat} (hq : q < n) : dist (pathW n) 0 q = some q := leastO_some.mpr ⟨by rw [path_at q hq]; exact Nat.one_pos, fun j hj => by rw [path_lt j q hj hq]; exact Nat.lt_irrefl 0⟩
theorem path_conn {n : Nat} (h : 0 < n) : conn (pathW n) := conn_of (W := pathW n) (a := 0) h fun q hq => by
  rw [path_dist (n := n) hq]
  exact fun z => by cases z
theorem path_known {n : Nat} : known (pathW n) 0 = List.range n := by
  unfold known
  show ((List.range n).filter _).map _ = _
  rw [List.filter_eq_self.mpr fun q hq => by rw [path_dist (List.mem_range.mp hq)]; rfl]
  conv => rhs; rw [← List.map_id (List.range n)]
  refine List.map_congr_left fun q hq => ?_
  rw [path_dist (List.mem_range.mp hq)]
  rfl
theorem path_ecc {n : Nat} (h : 0 < n) : ecc (pathW n) 0 = n - 1 := by
  have h1 := ecc_lt (W := pathW n) (p := 0) h
  have h1 : ecc (pathW n) 0 < n := h1
  have h2 : n - 1 ≤ ecc (pathW n) 0 := big_le (by rw [path_known]; exact List.mem_range.mpr (by omega))
  omega
theorem path_wid {n : Nat} (h : 0 < n) : wid (pathW n) = n - 1 := by
  have h1 : ecc (pathW n) 0 ≤ wid (pathW n) := ecc_wid (W := pathW n) h
  rw [path_ecc h] at h1
  have h2 : wid (pathW n) ≤ n - 1 := by
    have hm : wid (pathW n) ∈ (List.range n).map (ecc (pathW n)) := big_mem (by rw [List.length_map, List.length_range]; exact h)
    obtain ⟨p, hp, e⟩ := List.mem_map.mp hm
    have h3 : ecc (pathW n) p < n := ecc_lt (W := pathW n) (List.mem_range.mp hp)
    omega
  omega
theorem path_pal {n : Nat} (h : 0 < n) : Pal (ownr (pathW n) 0) := fun i hi => by
  have g : ∀ k, k ≤ ecc (pathW n) 0 → (ownr (pathW n) 0).getD k 0 = 1 := fun k hk => by
    rw [ownr_get hk, path_known, List.nodup_range.count, if_pos (List.mem_range.mpr (by rw [path_ecc h] at hk; omega))]
  rw [ownr_len] at hi ⊢
  rw [g i (by omega), g _ (by omega)]
/-! ### rows of them -/
def lasts (ns : List Nat) : List Nat := ns.map (· - 1)
def zeros (ns : List Nat) : List Nat := List.replicate ns.length 0
def tot (ns : List Nat) : Nat := (lasts ns).sum
def mult : Nat → Nat → List Nat → Nat
  | v, m, n :: ns => mult (v * choose (m + (n - 1)) (n - 1)) (m + (n - 1)) ns
  | v, _, [] => v
theorem path_rows : ∀ {ns : List Nat}, (∀ n ∈ ns, 0 < n) → RowOk (ns.map pathW) (zeros ns) ∧ RowOk (ns.map pathW) (lasts ns)
  | [], _ => ⟨trivial, trivial⟩
  | n :: ns, h => by
    obtain ⟨h1, h2⟩ := path_rows fun k hk => h k (List.mem_cons_of_mem _ hk)
    have h0 := h n List.mem_cons_self
    exact ⟨⟨h0, h1⟩, ⟨by show n - 1 < n; omega, h2⟩⟩
theorem path_dists : ∀ {ns : List Nat}, (∀ n ∈ ns, 0 < n) → dists (ns.map pathW) (zeros ns) (lasts ns) = ns.map fun n => some (n - 1)
  | [], _ => rfl
  | n :: ns, h => by
    have h0 := h n List.mem_cons_self
    show dist (pathW n) 0 (n - 1) :: dists (ns.map pathW) (zeros ns) (lasts ns) = some (n - 1) :: _
    rw [path_dist (by omega), path_dists fun k hk => h k (List.mem_cons_of_mem _ hk)]
theorem sumO_map : ∀ l : List Nat, sumO (l.map some) = some l.sum
  | [] => rfl
  | d :: l => by
    show (sumO (l.map some)).map (d + ·) = _
    rw [sumO_map l, List.sum_cons]
    rfl
theorem path_sum {ns : List Nat} (h : ∀ n ∈ ns, 0 < n) : sumO (dists (ns.map pathW) (zeros ns) (lasts ns)) = some (tot ns) := by
  rw [path_dists h]
  have e : ns.map (fun n => some (n - 1)) = (lasts ns).map some := by unfold lasts; rw [List.map_map]; rfl
  rw [e, sumO_map]
  rfl
theorem path_wprod : ∀ {ns : List Nat} (v m : Nat), (∀ n ∈ ns, 0 < n) → wprod v m (ns.map pathW) (zeros ns) (lasts ns) = mult v m ns
  | [], v, m, _ => rfl
  | n :: ns, v, m, h => by
    have h0 := h n List.mem_cons_self
    show wprod (v * choose (m + (dist (pathW n) 0 (n - 1)).getD 0) ((dist (pathW n) 0 (n - 1)).getD 0) * wk (pathW n) ((dist (pathW n) 0 (n - 1)).getD 0) 0 (n - 1)) (m + (dist (pathW n) 0 (n - 1)).getD 0) (ns.map pathW) (zeros ns) (lasts ns) = _
    rw [path_dist (by omega)]
    show wprod (v * choose (m + (n - 1)) (n - 1) * wk (pathW n) (n - 1) 0 (n - 1)) (m + (n - 1)) _ _ _ = mult (v * choose (m + (n - 1)) (n - 1)) (m + (n - 1)) ns
    rw [path_at (n - 1) (by omega), Nat.mul_one, path_wprod _ _ fun k hk => h k (List.mem_cons_of_mem _ hk)]
theorem path_pdist {ns : List Nat} (h : ∀ n ∈ ns, 0 < n) : pdist (ns.map pathW) (zeros ns) (lasts ns) = some (tot ns) := by
  obtain ⟨h1, h2⟩ := path_rows h
  rw [pdist_sum h1 h2, path_sum h]
theorem path_pways {ns : List Nat} (h : ∀ n ∈ ns, 0 < n) : pways (ns.map pathW) (zeros ns) (lasts ns) = mult 1 0 ns := by
  obtain ⟨h1, h2⟩ := path_rows h
  rw [pways_prod h1 h2 (path_sum h), path_wprod 1 0 h]
theorem path_wids : ∀ {ns : List Nat}, (∀ n ∈ ns, 0 < n) → ((ns.map pathW).map wid).sum = tot ns
  | [], _ => rfl
  | n :: ns, h => by
    show (wid (pathW n) :: (ns.map pathW).map wid).sum = ((n - 1) :: lasts ns).sum
    rw [List.sum_cons, List.sum_cons, path_wid (h n List.mem_cons_self), path_wids fun k hk => h k (List.mem_cons_of_mem _ hk)]
    rfl
theorem path_eccs : ∀ {ns : List Nat}, (∀ n ∈ ns, 0 < n) → eccs (ns.map pathW) (zeros ns) = tot ns
  | [], _ => rfl
  | n :: ns, h => by
    show ecc (pathW n) 0 + eccs (ns.map pathW) (zeros ns) = ((n - 1) :: lasts ns).sum
    rw [List.sum_cons, path_ecc (h n List.mem_cons_self), path_eccs fun k hk => h k (List.mem_cons_of_mem _ hk)]
    rfl
theorem path_conns {ns : List Nat} (h : ∀ n ∈ ns, 0 < n) : ∀ w ∈ ns.map pathW, conn w := fun w hw => by
  obtain ⟨n, hn, rfl⟩ := List.mem_map.mp hw
  exact path_conn (h n hn)
theorem path_pals {ns : List Nat} (h : ∀ n ∈ ns, 0 < n) : Pal (rings [1] (ns.map pathW) (zeros ns)) := by
  refine rings_pal (path_rows h).1 ⟨by decide, fun x hx => by rw [List.mem_singleton.mp hx]; decide, rfl⟩ (fun i hi => ?_) fun i w a h1 h2 => ?_
  · have : i = 0 := by
      have hi : i < 1 := hi
      omega
    subst this
    rfl
  · rw [List.getElem?_map] at h1
    obtain ⟨n, hn, rfl⟩ := Option.map_eq_some_iff.mp h1
    unfold zeros at h2
    rw [List.getElem?_replicate] at h2
    split at h2
    · rw [← Option.some.inj h2]
      exact path_pal (h n (List.mem_of_getElem? hn))
    · cases h2
/-- due, step by step -/
theorem due_step (v m k : Nat) : v * choose (m + k) k * (m + k + 1) / (k + 1) = v * choose (m + (k + 1)) (k + 1) := by
  rw [Nat.mul_assoc, choose_up, ← Nat.mul_assoc, Nat.mul_div_cancel _ (Nat.succ_pos k)]
theorem tot_le : ∀ {ns : List Nat}, (∀ n ∈ ns, n ≤ 40) → tot ns ≤ 40 * ns.length
  | [], _ => Nat.le_refl _
  | n :: ns, h => by
    have h1 := h n List.mem_cons_self
    have h2 := tot_le fun k hk => h k (List.mem_cons_of_mem _ hk)
    show ((n - 1) :: lasts ns).sum ≤ 40 * (ns.length + 1)
    rw [List.sum_cons]
    show n - 1 + tot ns ≤ _
    omega
end K68
end

section
/-! K68Ev: data on the heap, what a step may change, what a reading evaluates to. -/
namespace K68
open PySem PySem.Spec PyProof.Rows L2

/-! ### what may change -/
/-- a list, a tuple, a dict by tuples: no table, no code object -/
def Pl : HO → Prop
  | .lst _ => True
  | .tup _ => True
  | .dT _ => True
  | _ => False
theorem Pl.tbl {o : HO} (h : Pl o) (ps : Array Value) : o ≠ .tbl ps := fun z => by
  rw [z] at h
  exact h
theorem Pl.code {o : HO} (h : Pl o) (c : Addr) (q : Str) : o ≠ LamX.CodeO c q := fun z => by
  rw [z] at h
  exact h
/-- all that stood stands; the table T may have grown -/
structure Ex (T : Addr × Str) (H H' : Hp) : Prop where
  keep : ∀ b o, H b = some o → (∀ ps, o ≠ .tbl ps) → H' b = some o
  dom : ∀ b, H b ≠ none → H' b ≠ none
  t1 : LamX.TabS H T.1 T.2
  t2 : LamX.TabS H' T.1 T.2
section
variable {T : Addr × Str} {H H' H1 H2 Hb Hc : Hp} {p q : Addr} {o : HO}
theorem Ex.refl (t : LamX.TabS H T.1 T.2) : Ex T H H := ⟨fun _ _ h _ => h, fun _ h => h, t, t⟩
theorem Ex.trans (a : Ex T H H1) (b : Ex T H1 H2) : Ex T H H2 := ⟨fun c o h n => b.keep c o (a.keep c o h n) n, fun c h => b.dom c (a.dom c h), a.t1, b.t2⟩
theorem Ex.at (e : Ex T H H') (h : H p = some o) (l : Pl o) : H' p = some o := e.keep p o h l.tbl
theorem Ex.none (e : Ex T H H') (h : H' p = none) : H p = none := by
  cases z : H p with
  | none => rfl
  | some o => exact absurd h (e.dom p (by rw [z]; exact Option.some_ne_none o))
theorem tabS_upd (t : LamX.TabS H T.1 T.2) (h : ∀ u, H p = some u → Pl u) : LamX.TabS (upd H p o) T.1 T.2 := by
  obtain ⟨ps, h1, h2, h3⟩ := t
  have nT : T.1 ≠ p := fun z => by
    rw [z] at h1
    exact (h _ h1).tbl ps rfl
  refine ⟨ps, by rw [upd_ne nT]; exact h1, h2, fun pos cv hc => ?_⟩
  obtain ⟨c, e1, e2⟩ := h3 pos cv hc
  have nc : c ≠ p := fun z => by
    rw [z] at e2
    exact (h _ e2).code p T.2 rfl
  exact ⟨c, e1, by rw [upd_ne nc]; exact e2⟩
theorem tabS_new (t : LamX.TabS H T.1 T.2) (h : H p = Option.none) : LamX.TabS (upd H p o) T.1 T.2 := tabS_upd t fun u z => by
  rw [h] at z
  cases z
theorem Ex.new (t : LamX.TabS H T.1 T.2) (h : H q = Option.none) : Ex T H (upd H q o) := by
  refine ⟨fun b u e _ => by rw [upd_ne (ne_of_none e h)]; exact e, fun b e => ?_, t, tabS_new t h⟩
  by_cases hb : b = q
  · rw [hb, upd_same]
    exact Option.some_ne_none o
  · rw [upd_ne hb]
    exact e
theorem Ex.both (e : Ex T Hb Hc) (h : Hc q = Option.none) : Ex T (upd Hb q o) (upd Hc q o) := by
  have hb : Hb q = Option.none := e.none h
  refine ⟨fun b u z n => ?_, fun b z => ?_, tabS_new e.t1 hb, tabS_new e.t2 h⟩
  · by_cases hq : b = q
    · rw [hq, upd_same] at z ⊢
      exact z
    · rw [upd_ne hq] at z ⊢
      exact e.keep b u z n
  · by_cases hq : b = q
    · rw [hq, upd_same]
      exact Option.some_ne_none o
    · rw [upd_ne hq] at z ⊢
      exact e.dom b z
/-- an object that Hb does not know changes -/
theorem Ex.mut {u : HO} (e : Ex T Hb Hc) (h : Hb p = Option.none) (hc : Hc p = some u) (l : Pl u) : Ex T Hb (upd Hc p o) := by
  refine ⟨fun b v z n => by rw [upd_ne (ne_of_none z h)]; exact e.keep b v z n, fun b z => ?_, e.t1, tabS_upd e.t2 fun v z => by rw [hc] at z; cases z; exact l⟩
  by_cases hb : b = p
  · rw [hb, upd_same]
    exact Option.some_ne_none o
  · rw [upd_ne hb]
    exact e.dom b z
/-- what Hb shows more: an object that stands -/
theorem Ex.show (e : Ex T Hb Hc) (h : Hb p = Option.none) (hc : Hc p = some o) : Ex T (upd Hb p o) Hc := by
  refine ⟨fun b v z n => ?_, fun b z => ?_, tabS_new e.t1 h, e.t2⟩
  · by_cases hb : b = p
    · rw [hb, upd_same] at z
      rw [hb, hc]
      exact z
    · rw [upd_ne hb] at z
      exact e.keep b v z n
  · by_cases hb : b = p
    · rw [hb, hc]
      exact Option.some_ne_none o
    · rw [upd_ne hb] at z
      exact e.dom b z
end
/-- what may be written -/
def Mu : HO → Prop
  | .lst _ => True
  | .dT _ => True
  | _ => False
theorem Mu.tbl {o : HO} (h : Mu o) (ps : Array Value) : o ≠ .tbl ps := fun z => by
  rw [z] at h
  exact h
/-- a step: Hb is what one speaks of, H all that is tracked; what H had and Hb did not know stays unknown -/
structure Stp (T : Addr × Str) (Hb H Hb' H' : Hp) : Prop where
  e1 : Ex T Hb Hb'
  e2 : Ex T Hb' H'
  e3 : Ex T H H'
  hid : ∀ p o, Hb p = none → H p = some o → Mu o → Hb' p = none
section
variable {T : Addr × Str} {Hb H Hb1 H1 Hb2 H2 : Hp} {p q : Addr} {o u : HO}
theorem Stp.refl (e : Ex T Hb H) : Stp T Hb H Hb H := ⟨.refl e.t1, e, .refl e.t2, fun _ _ h _ _ => h⟩
theorem Stp.trans (a : Stp T Hb H Hb1 H1) (b : Stp T Hb1 H1 Hb2 H2) : Stp T Hb H Hb2 H2 :=
  ⟨a.e1.trans b.e1, b.e2, a.e3.trans b.e3, fun p o h1 h2 m => b.hid p o (a.hid p o h1 h2 m) (a.e3.keep p o h2 m.tbl) m⟩
/-- a new object, told -/
theorem Stp.new (a : Stp T Hb H Hb1 H1) (h : H1 q = none) : Stp T Hb H (upd Hb1 q o) (upd H1 q o) := by
  have nq : Hb1 q = none := a.e2.none h
  refine ⟨a.e1.trans (.new a.e1.t2 nq), a.e2.both h, a.e3.trans (.new a.e3.t2 h), fun p o' h1 h2 m => ?_⟩
  have hp : p ≠ q := fun z => by
    rw [z, a.e3.none h] at h2
    cases h2
  rw [upd_ne hp]
  exact a.hid p o' h1 h2 m
/-- a new object, kept to oneself -/
theorem Stp.own (a : Stp T Hb H Hb1 H1) (h : H1 q = none) : Stp T Hb H Hb1 (upd H1 q o) :=
  ⟨a.e1, a.e2.trans (.new a.e2.t2 h), a.e3.trans (.new a.e3.t2 h), a.hid⟩
/-- one's own object changes -/
theorem Stp.mut (a : Stp T Hb H Hb1 H1) (h0 : H p = none) (hb : Hb1 p = none) (hc : H1 p = some u) (l : Pl u) : Stp T Hb H Hb1 (upd H1 p o) :=
  ⟨a.e1, a.e2.mut hb hc l, a.e3.mut h0 hc l, a.hid⟩
/-- one's own object is told -/
theorem Stp.tell (a : Stp T Hb H Hb1 H1) (h0 : H p = none) (hb : Hb1 p = none) (hc : H1 p = some o) : Stp T Hb H (upd Hb1 p o) H1 := by
  refine ⟨a.e1.trans (.new a.e1.t2 hb), a.e2.show hb hc, a.e3, fun b o' h1 h2 m => ?_⟩
  have hp : b ≠ p := fun z => by
    rw [z, h0] at h2
    cases h2
  rw [upd_ne hp]
  exact a.hid b o' h1 h2 m
theorem Stp.fresh (a : Stp T Hb H Hb1 H1) (h : H1 q = none) : H q = none := a.e3.none h
/-- what is kept to oneself stands behind a step -/
theorem Stp.kept (a : Stp T Hb H Hb1 H1) (h : H p = some o) (l : Pl o) : H1 p = some o := a.e3.at h l
theorem Stp.hidden (a : Stp T Hb H Hb1 H1) (hb : Hb p = none) (h : H p = some o) (m : Mu o := by exact True.intro) : Hb1 p = none := a.hid p o hb h m
/-- told for a while: a step of what is told, back -/
theorem Stp.untold (a : Stp T (upd Hb p o) H Hb1 H1) (e : Ex T Hb H) (hb : Hb p = none) : Stp T Hb H Hb H1 := ⟨.refl e.t1, e.trans a.e3, a.e3, fun _ _ h _ _ => h⟩
end

/-! ### data -/
inductive Da where
  | v (x : V)
  | l (ds : List Da)
  | t (ds : List Da)
mutual
def Da.At (H : Hp) : Da → V → Prop
  | .v x, u => u = x
  | .l ds, u => ∃ a us, u = .ref a ∧ H a = some (.lst us) ∧ AtL H ds us
  | .t ds, u => ∃ a us, u = .ref a ∧ H a = some (.tup us) ∧ AtL H ds us
def AtL (H : Hp) : List Da → List V → Prop
  | [], us => us = []
  | d :: ds, us => ∃ u r, us = u :: r ∧ d.At H u ∧ AtL H ds r
end
theorem AtL.length {H : Hp} : ∀ {ds : List Da} {us : List V}, AtL H ds us → us.length = ds.length
  | [], us, h => by
    have h : us = [] := h
    rw [h]
    rfl
  | d :: ds, us, h => by
    obtain ⟨u, r, e, _, t⟩ := (show ∃ u r, us = u :: r ∧ d.At H u ∧ AtL H ds r from h)
    rw [e, List.length_cons, List.length_cons, t.length]
theorem AtL.get {H : Hp} : ∀ {ds : List Da} {us : List V} {i : Nat} {d : Da}, AtL H ds us → ds[i]? = some d → ∃ u, us[i]? = some u ∧ d.At H u
  | [], _, _, _, _, e => by cases e
  | d :: ds, us, i, d', h, e => by
    obtain ⟨u, r, rfl, a, t⟩ := (show ∃ u r, us = u :: r ∧ d.At H u ∧ AtL H ds r from h)
    cases i with
    | zero =>
      have e : d = d' := Option.some.inj e
      rw [← e]
      exact ⟨u, rfl, a⟩
    | succ i => exact t.get (i := i) e
theorem AtL.nil {H : Hp} : AtL H [] [] := rfl
theorem AtL.cons {H : Hp} {d : Da} {ds : List Da} {u : V} {us : List V} (a : d.At H u) (t : AtL H ds us) : AtL H (d :: ds) (u :: us) := ⟨u, us, rfl, a, t⟩
theorem AtL.append {H : Hp} : ∀ {ds es : List Da} {us ws : List V}, AtL H ds us → AtL H es ws → AtL H (ds ++ es) (us ++ ws)
  | [], es, us, ws, h, k => by
    have h : us = [] := h
    rw [h]
    exact k
  | d :: ds, es, us, ws, h, k => by
    obtain ⟨u, r, rfl, a, t⟩ := (show ∃ u r, us = u :: r ∧ d.At H u ∧ AtL H ds r from h)
    exact .cons a (t.append k)
theorem AtL.of {H : Hp} : ∀ {ds : List Da} {us : List V}, us.length = ds.length → (∀ (i : Nat) (d : Da) (u : V), ds[i]? = some d → us[i]? = some u → d.At H u) → AtL H ds us
  | [], us, hl, _ => List.eq_nil_of_length_eq_zero hl
  | d :: ds, us, hl, h => by
    cases us with
    | nil => cases hl
    | cons u us => exact .cons (h 0 d u rfl rfl) (AtL.of (Nat.succ.inj hl) fun i d' u' h1 h2 => h (i + 1) d' u' h1 h2)
theorem AtL.take {H : Hp} {ds : List Da} {us : List V} (n : Nat) (h : AtL H ds us) : AtL H (ds.take n) (us.take n) :=
  .of (by rw [List.length_take, List.length_take, h.length]) fun i d u h1 h2 => by
    rw [List.getElem?_take] at h1 h2
    split at h1
    · rename_i hi
      rw [if_pos hi] at h2
      obtain ⟨u', e, a⟩ := h.get h1
      rw [h2] at e
      cases e
      exact a
    · cases h1
theorem AtL.drop {H : Hp} {ds : List Da} {us : List V} (n : Nat) (h : AtL H ds us) : AtL H (ds.drop n) (us.drop n) :=
  .of (by rw [List.length_drop, List.length_drop, h.length]) fun i d u h1 h2 => by
    rw [List.getElem?_drop] at h1 h2
    obtain ⟨u', e, a⟩ := h.get h1
    rw [h2] at e
    cases e
    exact a
theorem AtL.set {H : Hp} {ds : List Da} {us : List V} {d : Da} {u : V} (n : Nat) (h : AtL H ds us) (a : d.At H u) : AtL H (ds.set n d) (us.set n u) :=
  .of (by rw [List.length_set, List.length_set, h.length]) fun i d' u' h1 h2 => by
    by_cases hi : n = i
    · subst hi
      have hn : n < ds.length := by
        have := (List.getElem?_eq_some_iff.mp h1).1
        rw [List.length_set] at this
        exact this
      rw [List.getElem?_set_self hn] at h1
      rw [List.getElem?_set_self (by rw [h.length]; exact hn)] at h2
      cases h1
      cases h2
      exact a
    · rw [List.getElem?_set_ne hi] at h1 h2
      obtain ⟨u2, e, b⟩ := h.get h1
      rw [h2] at e
      cases e
      exact b
mutual
theorem Da.At.mono {T : Addr × Str} {H H' : Hp} (e : Ex T H H') : ∀ {d : Da} {u : V}, d.At H u → d.At H' u
  | .v x, u, h => h
  | .l ds, u, h => by
    obtain ⟨a, us, h1, h2, h3⟩ := (show ∃ a us, u = .ref a ∧ H a = some (.lst us) ∧ AtL H ds us from h)
    exact ⟨a, us, h1, e.at h2 True.intro, AtL.mono e h3⟩
  | .t ds, u, h => by
    obtain ⟨a, us, h1, h2, h3⟩ := (show ∃ a us, u = .ref a ∧ H a = some (.tup us) ∧ AtL H ds us from h)
    exact ⟨a, us, h1, e.at h2 True.intro, AtL.mono e h3⟩
theorem AtL.mono {T : Addr × Str} {H H' : Hp} (e : Ex T H H') : ∀ {ds : List Da} {us : List V}, AtL H ds us → AtL H' ds us
  | [], us, h => h
  | d :: ds, us, h => by
    obtain ⟨u, r, h1, h2, h3⟩ := (show ∃ u r, us = u :: r ∧ d.At H u ∧ AtL H ds r from h)
    exact ⟨u, r, h1, Da.At.mono e h2, AtL.mono e h3⟩
end
/-- a list of flat values -/
theorem AtL.flat {H : Hp} : ∀ (xs : List V), AtL H (xs.map Da.v) xs
  | [] => rfl
  | x :: xs => ⟨x, xs, rfl, rfl, AtL.flat xs⟩
theorem AtL.flat_eq {H : Hp} : ∀ {xs us : List V}, AtL H (xs.map Da.v) us → us = xs
  | [], us, h => h
  | x :: xs, us, h => by
    obtain ⟨u, r, h1, h2, h3⟩ := (show ∃ u r, us = u :: r ∧ (Da.v x).At H u ∧ AtL H (xs.map Da.v) r from h)
    have h2 : u = x := h2
    rw [h1, h2, AtL.flat_eq h3]
theorem AtL.rep {H : Hp} {d : Da} {u : V} (a : d.At H u) : ∀ n : Nat, AtL H (List.replicate n d) (List.replicate n u)
  | 0 => rfl
  | n + 1 => ⟨u, _, rfl, a, AtL.rep a n⟩
theorem AtL.snoc {H : Hp} {ds : List Da} {us : List V} {d : Da} {u : V} (h : AtL H ds us) (a : d.At H u) : AtL H (ds ++ [d]) (us ++ [u]) := h.append (.cons a .nil)

/-- the numbers' data -/
def dn (n : Nat) : Da := .v (.int (n : Int))
def dI (i : Int) : Da := .v (.int i)
def dO : Option Nat → Da
  | none => .v .non
  | some n => dn n
def vO : Option Nat → V
  | none => .non
  | some n => .int (n : Int)
theorem dO_eq (o : Option Nat) : dO o = .v (vO o) := by cases o <;> rfl
def dNL (l : List Nat) : Da := .l (l.map dn)
def vn (n : Nat) : V := .int (n : Int)
theorem map_dn (l : List Nat) : l.map dn = (l.map vn).map Da.v := by rw [List.map_map]; rfl
theorem map_vn (l : List Nat) : l.map vn = (l.map fun n : Nat => (n : Int)).map V.int := by rw [List.map_map]; rfl
theorem map_dO (l : List (Option Nat)) : l.map dO = (l.map vO).map Da.v := by
  rw [List.map_map]
  exact List.map_congr_left fun o _ => dO_eq o
/-- where a list of numbers stands -/
theorem at_dNL {H : Hp} {l : List Nat} {u : V} (h : (dNL l).At H u) : ∃ a, u = .ref a ∧ H a = some (.lst (l.map vn)) := by
  obtain ⟨a, us, h1, h2, h3⟩ := (show ∃ a us, u = .ref a ∧ H a = some (.lst us) ∧ AtL H (l.map dn) us from h)
  rw [map_dn] at h3
  rw [AtL.flat_eq h3] at h2
  exact ⟨a, h1, h2⟩
theorem at_dNL_mk {H : Hp} {l : List Nat} {a : Addr} (h : H a = some (.lst (l.map vn))) : (dNL l).At H (.ref a) := ⟨a, _, rfl, h, by rw [map_dn]; exact AtL.flat _⟩
end K68
end

section
/-! K68Eval: what a reading evaluates to, by data. -/
namespace K68
open PySem PySem.Spec PyProof.Rows L2
section
variable {T : Addr × Str} {K : PySem.W.Frag}
def Ev (T : Addr × Str) (te : TE) (σ : L2.St) (Hb : Hp) (P : V → Hp → Prop) : Prop :=
  ∀ Hb1 Hc, Ex T Hb Hb1 → Ex T Hb1 Hc → ∀ Q : VK, (∀ v Hb2 Hc2, Stp T Hb1 Hc Hb2 Hc2 → P v Hb2 → Q v Hc2) → te σ Hc Q
def EvD (T : Addr × Str) (te : TE) (σ : L2.St) (Hb : Hp) (d : Da) : Prop := Ev T te σ Hb fun v H => d.At H v
def EvT (T : Addr × Str) (tt : TT) (σ : L2.St) (Hb : Hp) (b : Bool) : Prop :=
  ∀ Hb1 Hc, Ex T Hb Hb1 → Ex T Hb1 Hc → ∀ Q : Bool → Hp → Prop, (∀ Hb2 Hc2, Stp T Hb1 Hc Hb2 Hc2 → Q b Hc2) → tt σ Hc Q
def EvA (T : Addr × Str) (ta : TA) (σ : L2.St) (Hb : Hp) (ds : List Da) : Prop :=
  ∀ Hb1 Hc, Ex T Hb Hb1 → Ex T Hb1 Hc → ∀ Q : List V → Hp → Prop, (∀ vs Hb2 Hc2, Stp T Hb1 Hc Hb2 Hc2 → AtL Hb2 ds vs → Q vs Hc2) → ta σ Hc Q
def EvO (T : Addr × Str) (to : TO) (σ : L2.St) (Hb : Hp) (o : Option Int) : Prop :=
  ∀ Hb1 Hc, Ex T Hb Hb1 → Ex T Hb1 Hc → ∀ Q : Option Int → Hp → Prop, (∀ Hb2 Hc2, Stp T Hb1 Hc Hb2 Hc2 → Q o Hc2) → to σ Hc Q
/-- rules by values, told by data -/
def RvD (T : Addr × Str) (r : R2) (dx dy d : Da) : Prop :=
  ∀ Hb Hc x y, Ex T Hb Hc → dx.At Hb x → dy.At Hb y → ∀ Q : VK, (∀ v Hb2 Hc2, Stp T Hb Hc Hb2 Hc2 → d.At Hb2 v → Q v Hc2) → r x y Hc Q
def CvD (T : Addr × Str) (r : List V → Hp → VK → Prop) (ds : List Da) (d : Da) : Prop :=
  ∀ Hb Hc vs, Ex T Hb Hc → AtL Hb ds vs → ∀ Q : VK, (∀ v Hb2 Hc2, Stp T Hb Hc Hb2 Hc2 → d.At Hb2 v → Q v Hc2) → r vs Hc Q
/-- a def's promise, by data -/
def Pm (T : Addr × Str) (A : List Da → Da → Prop) : Sp := fun vs H Q _ => ∃ Hb ds d, Ex T Hb H ∧ AtL Hb ds vs ∧ A ds d ∧ ∀ v Hb' H', Stp T Hb H Hb' H' → d.At Hb' v → Q v H'
variable {σ : L2.St} {Hb Hb' Hc H : Hp} {te ta tb tc tl : TE} {tt tu : TT} {tA tr : TA} {P : V → Hp → Prop} {d dx dy dz : Da} {ds es : List Da} {x y : V} {r r' : R2} {b c : Bool}
theorem EvD.mono (e : Ex T Hb Hb') (h : EvD T te σ Hb d) : EvD T te σ Hb' d := fun Hb1 Hc e1 e2 Q q => h Hb1 Hc (e.trans e1) e2 Q q
theorem EvT.mono (e : Ex T Hb Hb') (h : EvT T tt σ Hb b) : EvT T tt σ Hb' b := fun Hb1 Hc e1 e2 Q q => h Hb1 Hc (e.trans e1) e2 Q q
theorem EvA.mono (e : Ex T Hb Hb') (h : EvA T tA σ Hb ds) : EvA T tA σ Hb' ds := fun Hb1 Hc e1 e2 Q q => h Hb1 Hc (e.trans e1) e2 Q q
theorem EvD.is (h : EvD T te σ Hb dx) (e : dx = d) : EvD T te σ Hb d := e ▸ h
theorem EvT.is (h : EvT T tt σ Hb b) (e : b = c) : EvT T tt σ Hb c := e ▸ h
theorem ev_var {i : Nat} (h : σ[i]? = some (some x)) (a : d.At Hb x) : EvD T (tVar i) σ Hb d := fun Hb1 Hc e1 e2 Q q => ⟨x, h, q x Hb1 Hc (.refl e2) (a.mono e1)⟩
theorem ev_c : EvD T (tC x) σ Hb (.v x) := fun Hb1 Hc e1 e2 Q q => q x Hb1 Hc (.refl e2) rfl
theorem ev_op (ha : EvD T ta σ Hb dx) (hb : EvD T tb σ Hb dy) (hr : RvD T r dx dy d) : EvD T (tOp r ta tb) σ Hb d := fun Hb1 Hc e1 e2 Q q =>
  ha Hb1 Hc e1 e2 _ fun x H2 Hc2 s1 a1 => hb H2 Hc2 (e1.trans s1.e1) s1.e2 _ fun y H3 Hc3 s2 a2 => hr H3 Hc3 x y s2.e2 (a1.mono s2.e1) a2 Q fun v H4 Hc4 s3 a3 => q v H4 Hc4 ((s1.trans s2).trans s3) a3
theorem ea_nil : EvA T tNil σ Hb [] := fun Hb1 Hc e1 e2 Q q => q [] Hb1 Hc (.refl e2) rfl
theorem ea_cons (h : EvD T te σ Hb d) (hr : EvA T tr σ Hb ds) : EvA T (tCons te tr) σ Hb (d :: ds) := fun Hb1 Hc e1 e2 Q q =>
  h Hb1 Hc e1 e2 _ fun x H2 Hc2 s1 a1 => hr H2 Hc2 (e1.trans s1.e1) s1.e2 _ fun vs H3 Hc3 s2 a2 => q _ H3 Hc3 (s1.trans s2) ⟨x, vs, rfl, a1.mono s2.e1, a2⟩
theorem sz_of {n : Nat} (h : n ≤ 100000) : n ≤ sizeLine := Nat.le_trans h (by decide)
theorem sz_lt {n : Nat} (h : n < 100000) : n < sizeLine := Nat.lt_of_lt_of_le h (by decide)
theorem ev_lst (h : EvA T tA σ Hb ds) (hl : ds.length ≤ 100000) : EvD T (tLst tA) σ Hb (.l ds) := fun Hb1 Hc e1 e2 Q q =>
  h Hb1 Hc e1 e2 _ fun vs H2 Hc2 s1 a1 => ⟨sz_of (by rw [a1.length]; exact hl), fun p hp => q _ (upd H2 p (.lst vs)) _ (s1.new hp) ⟨p, vs, rfl, upd_same, a1.mono (Ex.new s1.e1.t2 (s1.e2.none hp))⟩⟩
theorem ev_tup (h : EvA T tA σ Hb ds) (hl : ds.length ≤ 100000) : EvD T (tTup tA) σ Hb (.t ds) := fun Hb1 Hc e1 e2 Q q =>
  h Hb1 Hc e1 e2 _ fun vs H2 Hc2 s1 a1 => ⟨sz_of (by rw [a1.length]; exact hl), fun p hp => q _ (upd H2 p (.tup vs)) _ (s1.new hp) ⟨p, vs, rfl, upd_same, a1.mono (Ex.new s1.e1.t2 (s1.e2.none hp))⟩⟩
theorem ev_cb {r : List V → Hp → VK → Prop} (h : EvA T tA σ Hb ds) (hr : CvD T r ds d) : EvD T (tCB r tA) σ Hb d := fun Hb1 Hc e1 e2 Q q =>
  h Hb1 Hc e1 e2 _ fun vs H2 Hc2 s1 a1 => hr H2 Hc2 vs s1.e2 a1 Q fun v H3 Hc3 s2 a2 => q v H3 Hc3 (s1.trans s2) a2
theorem ev_call {A : List Da → Da → Prop} {E : XK} (h : EvA T tA σ Hb ds) (hA : A ds d) : EvD T (tCall (Pm T A) [] E tA) σ Hb d := fun Hb1 Hc e1 e2 Q q =>
  h Hb1 Hc e1 e2 _ fun vs H2 Hc2 s1 a1 => ⟨H2, ds, d, s1.e2, by rw [List.append_nil]; exact a1, hA, fun v H3 Hc3 s2 a2 => q v H3 Hc3 (s1.trans s2) a2⟩
/-! ### tests -/
theorem et_test (h : EvD T te σ Hb (.v (.bl b))) : EvT T (tTest te) σ Hb b := fun Hb1 Hc e1 e2 Q q => h Hb1 Hc e1 e2 _ fun v H2 Hc2 s1 a => ⟨b, a, q H2 Hc2 s1⟩
theorem et_B (h : EvD T te σ Hb (.v (.bl b))) : EvT T (tB te) σ Hb b := fun Hb1 Hc e1 e2 Q q => h Hb1 Hc e1 e2 _ fun v H2 Hc2 s1 a => ⟨b, a, q H2 Hc2 s1⟩
theorem et_not (h : EvT T tt σ Hb b) : EvT T (tNot tt) σ Hb (!b) := fun Hb1 Hc e1 e2 Q q => h Hb1 Hc e1 e2 _ fun H2 Hc2 s1 => q H2 Hc2 s1
theorem et_and (h : EvT T tt σ Hb b) (k : b = true → EvT T tu σ Hb c) : EvT T (tAnd tt tu) σ Hb (b && c) := fun Hb1 Hc e1 e2 Q q => h Hb1 Hc e1 e2 _ fun H2 Hc2 s1 => by
  cases b with
  | true =>
    show tu σ Hc2 Q
    exact k rfl H2 Hc2 (e1.trans s1.e1) s1.e2 Q fun H3 Hc3 s2 => q H3 Hc3 (s1.trans s2)
  | false =>
    show Q false Hc2
    exact q H2 Hc2 s1
theorem et_or (h : EvT T tt σ Hb b) (k : b = false → EvT T tu σ Hb c) : EvT T (tOr tt tu) σ Hb (b || c) := fun Hb1 Hc e1 e2 Q q => h Hb1 Hc e1 e2 _ fun H2 Hc2 s1 => by
  cases b with
  | true =>
    show Q true Hc2
    exact q H2 Hc2 s1
  | false =>
    show tu σ Hc2 Q
    exact k rfl H2 Hc2 (e1.trans s1.e1) s1.e2 Q fun H3 Hc3 s2 => q H3 Hc3 (s1.trans s2)
theorem et_yes : EvT T tYes σ Hb true := fun Hb1 Hc e1 e2 Q q => q Hb1 Hc (.refl e2)
/-- the truth of a number or None -/
def truO : Option Nat → Bool
  | none => false
  | some n => n != 0
theorem et_truO {o : Option Nat} (h : EvD T te σ Hb (dO o)) : EvT T (fun σ H Q => te σ H fun x H' => ∃ k, TruV K x H' k ∧ Q k H') σ Hb (truO o) := fun Hb1 Hc e1 e2 Q q => h Hb1 Hc e1 e2 _ fun v H2 Hc2 s1 a => by
  refine ⟨truO o, ?_, q H2 Hc2 s1⟩
  cases o with
  | none =>
    have a : v = .non := a
    rw [a]
    rfl
  | some n =>
    have a : v = .int (n : Int) := a
    rw [a]
    show (n != 0) = ((n : Int) != 0)
    cases n with
    | zero => rfl
    | succ n =>
      have e1 : ((n + 1 : Nat) != 0) = true := rfl
      have e2 : (((n + 1 : Nat) : Int) != 0) = true := by
        rw [bne_iff_ne]
        omega
      rw [e1, e2]
/-! ### truth values as values -/
theorem ev_andV (h : EvD T ta σ Hb (.v (.bl b))) (k : b = true → EvD T tb σ Hb (.v (.bl c))) : EvD T (tAndV ta tb) σ Hb (.v (.bl (b && c))) := fun Hb1 Hc e1 e2 Q q => h Hb1 Hc e1 e2 _ fun v H2 Hc2 s1 a => ⟨b, a, by
  cases b with
  | true =>
    show tb σ Hc2 Q
    exact k rfl H2 Hc2 (e1.trans s1.e1) s1.e2 Q fun v H3 Hc3 s2 a2 => q v H3 Hc3 (s1.trans s2) a2
  | false =>
    show Q (.bl false) Hc2
    exact q _ H2 Hc2 s1 rfl⟩
theorem ev_notV (h : EvD T ta σ Hb (.v (.bl b))) : EvD T (tNotV ta) σ Hb (.v (.bl (!b))) := fun Hb1 Hc e1 e2 Q q => h Hb1 Hc e1 e2 _ fun v H2 Hc2 s1 a => ⟨b, a, q _ H2 Hc2 s1 rfl⟩
theorem ev_chain (ha : EvD T ta σ Hb dx) (hb : EvD T tb σ Hb dy) (hr : RvD T r dx dy (.v (.bl b))) (hc : b = true → EvD T tc σ Hb dz) (hr2 : b = true → RvD T r' dy dz (.v (.bl c))) : EvD T (tChain r r' ta tb tc) σ Hb (.v (.bl (b && c))) := fun Hb1 Hc e1 e2 Q q =>
  ha Hb1 Hc e1 e2 _ fun x H2 Hc2 s1 a1 => hb H2 Hc2 (e1.trans s1.e1) s1.e2 _ fun y H3 Hc3 s2 a2 => hr H3 Hc3 x y s2.e2 (a1.mono s2.e1) a2 _ fun v H4 Hc4 s3 a3 => ⟨b, a3, by
    cases b with
    | true =>
      show tc σ Hc4 _
      exact hc rfl H4 Hc4 (((e1.trans s1.e1).trans s2.e1).trans s3.e1) s3.e2 _ fun w H5 Hc5 s4 a4 => hr2 rfl H5 Hc5 y w s4.e2 ((a2.mono s3.e1).mono s4.e1) a4 Q fun u H6 Hc6 s5 a5 => q u H6 Hc6 ((((s1.trans s2).trans s3).trans s4).trans s5) a5
    | false =>
      show Q (.bl false) Hc4
      exact q _ H4 Hc4 ((s1.trans s2).trans s3) rfl⟩
theorem ev_isN {o : Option Nat} (h : EvD T ta σ Hb (dO o)) : EvD T (tIsN ta) σ Hb (.v (.bl o.isNone)) := fun Hb1 Hc e1 e2 Q q => h Hb1 Hc e1 e2 _ fun v H2 Hc2 s1 a => by
  refine q _ H2 Hc2 s1 ?_
  rw [dO_eq] at a
  have a : v = vO o := a
  rw [a]
  cases o <;> rfl
theorem ev_notN {o : Option Nat} (h : EvD T ta σ Hb (dO o)) : EvD T (tNotN ta) σ Hb (.v (.bl o.isSome)) := fun Hb1 Hc e1 e2 Q q => h Hb1 Hc e1 e2 _ fun v H2 Hc2 s1 a => by
  refine q _ H2 Hc2 s1 ?_
  rw [dO_eq] at a
  have a : v = vO o := a
  rw [a]
  cases o <;> rfl
/-! ### operators -/
theorem rv_here (h : ∀ Hb Hc x y, Ex T Hb Hc → dx.At Hb x → dy.At Hb y → ∀ Q : VK, Q (match d with | .v z => z | _ => .non) Hc → r x y Hc Q) (hd : ∃ z, d = .v z) : RvD T r dx dy d := fun Hb Hc x y e a1 a2 Q q => by
  obtain ⟨z, rfl⟩ := hd
  exact h Hb Hc x y e a1 a2 Q (q z Hb Hc (.refl e) rfl)
theorem rv_I0 {g : Int → Int → V} {i j : Int} : RvD T (rI0 g) (.v (.int i)) (.v (.int j)) (.v (g i j)) := fun Hb Hc x y e a1 a2 Q q => ⟨i, j, a1, a2, q _ Hb Hc (.refl e) rfl⟩
theorem rv_I {C : Int → Int → Prop} {g : Int → Int → V} {i j : Int} (hc : C i j) : RvD T (rI C g) (.v (.int i)) (.v (.int j)) (.v (g i j)) := fun Hb Hc x y e a1 a2 Q q => ⟨i, j, a1, a2, hc, q _ Hb Hc (.refl e) rfl⟩
theorem rv_eq (h : scal x y = true) : RvD T rEq (.v x) (.v y) (.v (.bl (decide (x = y)))) := fun Hb Hc x' y' e a1 a2 Q q => by
  have a1 : x' = x := a1
  have a2 : y' = y := a2
  rw [a1, a2]
  exact ⟨h, q _ Hb Hc (.refl e) rfl⟩
theorem rv_ne (h : scal x y = true) : RvD T rNe (.v x) (.v y) (.v (.bl (!decide (x = y)))) := fun Hb Hc x' y' e a1 a2 Q q => by
  have a1 : x' = x := a1
  have a2 : y' = y := a2
  rw [a1, a2]
  exact ⟨h, q _ Hb Hc (.refl e) rfl⟩
theorem sqL {H : Hp} {a : Addr} {xs : List V} (h : H a = some (.lst xs)) : SqL K H a xs := .inl (.inl h)
theorem sqT {H : Hp} {a : Addr} {xs : List V} (h : H a = some (.tup xs)) : SqT K H a xs := .inl (.inl h)
theorem rv_ixLz {i : Int} {n : Nat} (hi : ixN ds.length i = some n) (h : ds[n]? = some d) : RvD T (rIxL K) (.l ds) (.v (.int i)) d := fun Hb Hc x y e a1 a2 Q q => by
  obtain ⟨a, us, rfl, h2, h3⟩ := (show ∃ a us, x = .ref a ∧ Hb a = some (.lst us) ∧ AtL Hb ds us from a1)
  obtain ⟨u, hu, hd⟩ := h3.get h
  refine ⟨a, us, i, u, rfl, a2, sqL (e.at h2 True.intro), ?_, q u Hb Hc (.refl e) hd⟩
  show (ixN us.length i).bind (fun j => us[j]?) = some u
  rw [h3.length, hi]
  exact hu
theorem ixN_nat {n j : Nat} (hj : j < n) : ixN n (j : Int) = some j := by
  unfold ixN
  rw [if_pos (by omega), if_pos (by omega)]
  simp
theorem ixN_last {n : Nat} (h : 0 < n) : ixN n (-1) = some (n - 1) := by
  unfold ixN
  rw [if_neg (by omega), if_pos (by omega)]
  congr 1
  omega
theorem lt_of_get {α : Type} {l : List α} {n : Nat} {a : α} (h : l[n]? = some a) : n < l.length := (List.getElem?_eq_some_iff.mp h).1
theorem rv_ixL {n : Nat} (h : ds[n]? = some d) : RvD T (rIxL K) (.l ds) (dn n) d := rv_ixLz (ixN_nat (lt_of_get h)) h
theorem rv_ixT {n : Nat} (h : ds[n]? = some d) : RvD T (rIxT K) (.t ds) (dn n) d := fun Hb Hc x y e a1 a2 Q q => by
  obtain ⟨a, us, rfl, h2, h3⟩ := (show ∃ a us, x = .ref a ∧ Hb a = some (.tup us) ∧ AtL Hb ds us from a1)
  obtain ⟨u, hu, hd⟩ := h3.get h
  refine ⟨a, us, (n : Int), u, rfl, a2, sqT (e.at h2 True.intro), ?_, q u Hb Hc (.refl e) hd⟩
  show (ixN us.length (n : Int)).bind (fun j => us[j]?) = some u
  rw [h3.length, ixN_nat (lt_of_get h)]
  exact hu
theorem rv_cat (hl : ds.length + es.length ≤ 100000) : RvD T rCat (.l ds) (.l es) (.l (ds ++ es)) := fun Hb Hc x y e a1 a2 Q q => by
  obtain ⟨a, us, rfl, h2, h3⟩ := (show ∃ a us, x = .ref a ∧ Hb a = some (.lst us) ∧ AtL Hb ds us from a1)
  obtain ⟨a', us', rfl, h2', h3'⟩ := (show ∃ a us, y = .ref a ∧ Hb a = some (.lst us) ∧ AtL Hb es us from a2)
  refine ⟨a, a', us, us', rfl, rfl, e.at h2 True.intro, e.at h2' True.intro, sz_of (by rw [h3.length, h3'.length]; exact hl), fun p hp => ?_⟩
  exact q _ _ _ ((Stp.refl e).new hp) ⟨p, us ++ us', rfl, upd_same, (h3.append h3').mono (Ex.new e.t1 (e.none hp))⟩
theorem AtL.flatten {H : Hp} {ds : List Da} {us : List V} (h : AtL H ds us) : ∀ k : Nat, AtL H (List.replicate k ds).flatten (List.replicate k us).flatten
  | 0 => rfl
  | k + 1 => by
    rw [List.replicate_succ, List.replicate_succ, List.flatten_cons, List.flatten_cons]
    exact h.append (AtL.flatten h k)
theorem rv_rep {k : Nat} (hl : ds.length * k ≤ 100000) (hk : k ≤ 100000) : RvD T rRep (.l ds) (dn k) (.l (List.replicate k ds).flatten) := fun Hb Hc x y e a1 a2 Q q => by
  obtain ⟨a, us, rfl, h2, h3⟩ := (show ∃ a us, x = .ref a ∧ Hb a = some (.lst us) ∧ AtL Hb ds us from a1)
  have ek : ((k : Int)).toNat = k := Int.toNat_natCast k
  refine ⟨a, (k : Int), us, rfl, a2, e.at h2 True.intro, by omega, by omega, sz_of (by rw [ek, h3.length]; exact hl), fun p hp => ?_⟩
  rw [ek]
  exact q _ _ _ ((Stp.refl e).new hp) ⟨p, _, rfl, upd_same, (h3.flatten k).mono (Ex.new e.t1 (e.none hp))⟩
theorem rep_one (d : Da) (k : Nat) : (List.replicate k [d]).flatten = List.replicate k d := by
  induction k with
  | zero => rfl
  | succ k ih => rw [List.replicate_succ, List.flatten_cons, ih, List.replicate_succ]; rfl
/-- [d] * k -/
theorem rv_rep1 {k : Nat} (hk : k ≤ 100000) : RvD T rRep (.l [d]) (dn k) (.l (List.replicate k d)) := by
  rw [← rep_one]
  exact rv_rep (by rw [List.length_singleton, Nat.one_mul]; exact hk) hk
theorem rv_in {neg : Bool} {xs : List V} (hx : flatV x = true) (hf : xs.all flatV = true) : RvD T (rIn K neg) (.v x) (.l (xs.map Da.v)) (.v (.bl (if neg then !inV x xs else inV x xs))) := fun Hb Hc x' y e a1 a2 Q q => by
  obtain ⟨a, us, rfl, h2, h3⟩ := (show ∃ a us, y = .ref a ∧ Hb a = some (.lst us) ∧ AtL Hb (xs.map Da.v) us from a2)
  have a1 : x' = x := a1
  rw [a1]
  rw [AtL.flat_eq h3] at h2
  exact ⟨a, xs, rfl, .inl (sqL (e.at h2 True.intro)), hx, hf, q _ Hb Hc (.refl e) rfl⟩
theorem ev_neg {i : Int} (h : EvD T te σ Hb (.v (.int i))) : EvD T (tUn (rU fun i => .int (-i)) te) σ Hb (.v (.int (-i))) := fun Hb1 Hc e1 e2 Q q => h Hb1 Hc e1 e2 _ fun v H2 Hc2 s1 a => ⟨i, a, q _ H2 Hc2 s1 rfl⟩
/-! ### slices -/
theorem eo_none : EvO T tNoPart σ Hb none := fun Hb1 Hc e1 e2 Q q => q Hb1 Hc (.refl e2)
theorem eo_some {i : Int} (h : EvD T te σ Hb (.v (.int i))) : EvO T (tPart te) σ Hb (some i) := fun Hb1 Hc e1 e2 Q q => h Hb1 Hc e1 e2 _ fun v H2 Hc2 s1 a => ⟨i, a, q H2 Hc2 s1⟩
def cutD (ds : List Da) (lo hi : Option Int) : List Da := (ds.drop (HT.sIx ds.length 0 lo)).take (HT.sIx ds.length ds.length hi - HT.sIx ds.length 0 lo)
theorem AtL.cut {H : Hp} {ds : List Da} {us : List V} (h : AtL H ds us) (lo hi : Option Int) : AtL H (cutD ds lo hi) (cutV us lo hi) := by
  unfold cutD cutV
  rw [h.length]
  exact (h.drop _).take _
theorem ev_sl {tlo thi : TO} {lo hi : Option Int} (h : EvD T te σ Hb (.l ds)) (h1 : EvO T tlo σ Hb lo) (h2 : EvO T thi σ Hb hi) : EvD T (tSl (rSlL K) te tlo thi) σ Hb (.l (cutD ds lo hi)) := fun Hb1 Hc e1 e2 Q q =>
  h Hb1 Hc e1 e2 _ fun v H2 Hc2 s1 a => h1 H2 Hc2 (e1.trans s1.e1) s1.e2 _ fun H3 Hc3 s2 => h2 H3 Hc3 ((e1.trans s1.e1).trans s2.e1) s2.e2 _ fun H4 Hc4 s3 => by
    obtain ⟨w, us, rfl, g2, g3⟩ := (show ∃ a us, v = .ref a ∧ H2 a = some (.lst us) ∧ AtL H2 ds us from a)
    have e : Ex T H2 Hc4 := (s2.e1.trans s3.e1).trans s3.e2
    exact ⟨w, us, rfl, sqL (e.at g2 True.intro), fun p hp => q _ _ _ (((s1.trans s2).trans s3).new hp) ⟨p, _, rfl, upd_same, (g3.cut lo hi).mono ((s2.e1.trans s3.e1).trans (Ex.new s3.e1.t2 (s3.e2.none hp)))⟩⟩
theorem AtL.reverse {H : Hp} : ∀ {ds : List Da} {us : List V}, AtL H ds us → AtL H ds.reverse us.reverse
  | [], us, h => by
    have h : us = [] := h
    rw [h]
    rfl
  | d :: ds, us, h => by
    obtain ⟨u, r, rfl, a, t⟩ := (show ∃ u r, us = u :: r ∧ d.At H u ∧ AtL H ds r from h)
    rw [List.reverse_cons, List.reverse_cons]
    exact (AtL.reverse t).snoc a
theorem ev_revL (h : EvD T te σ Hb (.l ds)) : EvD T (tRevL K te) σ Hb (.l ds.reverse) := fun Hb1 Hc e1 e2 Q q => h Hb1 Hc e1 e2 _ fun v H2 Hc2 s1 a => by
  obtain ⟨w, us, rfl, g2, g3⟩ := (show ∃ a us, v = .ref a ∧ H2 a = some (.lst us) ∧ AtL H2 ds us from a)
  exact ⟨w, us, rfl, sqL (s1.e2.at g2 True.intro), fun p hp => q _ _ _ (s1.new hp) ⟨p, _, rfl, upd_same, g3.reverse.mono (Ex.new s1.e1.t2 (s1.e2.none hp))⟩⟩
/-! ### calls of built-ins -/
theorem cv_len : CvD T (fun xs H Q => ∃ p ys, xs = [.ref p] ∧ (SqL K H p ys ∨ SqT K H p ys) ∧ Q (.int ys.length) H) [.l ds] (dn ds.length) := fun Hb Hc vs e a Q q => by
  obtain ⟨u, r, rfl, a1, a2⟩ := (show ∃ u r, vs = u :: r ∧ (Da.l ds).At Hb u ∧ AtL Hb [] r from a)
  have a2 : r = [] := a2
  obtain ⟨p, us, rfl, h2, h3⟩ := (show ∃ a us, u = .ref a ∧ Hb a = some (.lst us) ∧ AtL Hb ds us from a1)
  rw [a2]
  refine ⟨p, us, rfl, .inl (sqL (e.at h2 True.intro)), ?_⟩
  rw [h3.length]
  exact q _ Hb Hc (.refl e) rfl
theorem cv_lenT : CvD T (fun xs H Q => ∃ p ys, xs = [.ref p] ∧ (SqL K H p ys ∨ SqT K H p ys) ∧ Q (.int ys.length) H) [.t ds] (dn ds.length) := fun Hb Hc vs e a Q q => by
  obtain ⟨u, r, rfl, a1, a2⟩ := (show ∃ u r, vs = u :: r ∧ (Da.t ds).At Hb u ∧ AtL Hb [] r from a)
  have a2 : r = [] := a2
  obtain ⟨p, us, rfl, h2, h3⟩ := (show ∃ a us, u = .ref a ∧ Hb a = some (.tup us) ∧ AtL Hb ds us from a1)
  rw [a2]
  refine ⟨p, us, rfl, .inr (sqT (e.at h2 True.intro)), ?_⟩
  rw [h3.length]
  exact q _ Hb Hc (.refl e) rfl
theorem sum_cast : ∀ l : List Nat, ((l.map fun n : Nat => (n : Int)).sum) = ((l.sum : Nat) : Int)
  | [] => rfl
  | a :: l => by
    rw [List.map_cons, List.sum_cons, List.sum_cons, sum_cast l, Int.natCast_add]
/-- one argument, a list of numbers -/
theorem at_one {Hb : Hp} {l : List Nat} {vs : List V} (a : AtL Hb [dNL l] vs) : ∃ p, vs = [.ref p] ∧ Hb p = some (.lst ((l.map fun n : Nat => (n : Int)).map V.int)) := by
  obtain ⟨u, r, rfl, a1, a2⟩ := (show ∃ u r, vs = u :: r ∧ (dNL l).At Hb u ∧ AtL Hb [] r from a)
  have a2 : r = [] := a2
  obtain ⟨p, e1, e2⟩ := at_dNL a1
  rw [a2, e1]
  exact ⟨p, rfl, by rw [← map_vn]; exact e2⟩
theorem cv_sum {l : List Nat} : CvD T (rSum K) [dNL l] (dn l.sum) := fun Hb Hc vs e a Q q => by
  obtain ⟨p, rfl, h⟩ := at_one a
  refine ⟨p, _, rfl, sqL (e.at h True.intro), ?_⟩
  rw [sum_cast]
  exact q _ Hb Hc (.refl e) rfl
theorem cv_max {l : List Nat} {m : Nat} (hm : m ∈ l) (hl : ∀ y ∈ l, y ≤ m) : CvD T (rMax K) [dNL l] (dn m) := fun Hb Hc vs e a Q q => by
  obtain ⟨p, rfl, h⟩ := at_one a
  refine ⟨p, _, rfl, sqL (e.at h True.intro), by rw [List.length_map]; exact List.length_pos_of_mem hm, fun z hz hz2 => ?_⟩
  obtain ⟨y, hy, rfl⟩ := List.mem_map.mp hz
  have h1 := hl y hy
  have h2 := hz2 (m : Int) (List.mem_map.mpr ⟨m, hm, rfl⟩)
  have : y = m := by omega
  rw [this]
  exact q _ Hb Hc (.refl e) rfl
theorem cv_min {l : List Nat} {m : Nat} (hm : m ∈ l) (hl : ∀ y ∈ l, m ≤ y) : CvD T (rMin K) [dNL l] (dn m) := fun Hb Hc vs e a Q q => by
  obtain ⟨p, rfl, h⟩ := at_one a
  refine ⟨p, _, rfl, sqL (e.at h True.intro), by rw [List.length_map]; exact List.length_pos_of_mem hm, fun z hz hz2 => ?_⟩
  obtain ⟨y, hy, rfl⟩ := List.mem_map.mp hz
  have h1 := hl y hy
  have h2 := hz2 (m : Int) (List.mem_map.mpr ⟨m, hm, rfl⟩)
  have : y = m := by omega
  rw [this]
  exact q _ Hb Hc (.refl e) rfl
/-- two rising lists with the same members, as often, are one -/
theorem sorted_eq : ∀ {l m : List Int}, l.Perm m → l.Pairwise (· ≤ ·) → m.Pairwise (· ≤ ·) → l = m
  | [], m, p, _, _ => (List.Perm.nil_eq p)
  | a :: l, [], p, _, _ => absurd p.length_eq (by simp)
  | a :: l, b :: m, p, h1, h2 => by
    have ha : a ∈ b :: m := p.mem_iff.mp List.mem_cons_self
    have hb : b ∈ a :: l := p.mem_iff.mpr List.mem_cons_self
    have e : a = b := by
      rcases List.mem_cons.mp ha with e | ha
      · exact e
      · rcases List.mem_cons.mp hb with e | hb
        · exact e.symm
        · have x1 := (List.pairwise_cons.mp h1).1 b hb
          have x2 := (List.pairwise_cons.mp h2).1 a ha
          omega
    subst e
    rw [sorted_eq (List.Perm.cons_inv p) (List.pairwise_cons.mp h1).2 (List.pairwise_cons.mp h2).2]
theorem cv_sorted {l m : List Nat} (hp : m.Perm l) (hs : m.Pairwise (· ≤ ·)) : CvD T (rSortedI K) [dNL l] (dNL m) := fun Hb Hc vs e a Q q => by
  obtain ⟨p, rfl, h⟩ := at_one a
  refine ⟨p, _, rfl, sqL (e.at h True.intro), fun ns' p' hp' hs' hn => ?_⟩
  have e2 : ns' = m.map fun n : Nat => (n : Int) := by
    refine sorted_eq (hp'.trans (hp.map _).symm) hs' ?_
    rw [List.pairwise_map]
    exact hs.imp fun h => by omega
  rw [e2, ← map_vn]
  exact q _ _ _ ((Stp.refl e).new hn) (at_dNL_mk upd_same)
theorem cv_all {bs : List Bool} : CvD T (rAll K) [.l ((bs.map V.bl).map Da.v)] (.v (.bl (bs.all id))) := fun Hb Hc vs e a Q q => by
  obtain ⟨u, r, rfl, a1, a2⟩ := (show ∃ u r, vs = u :: r ∧ (Da.l ((bs.map V.bl).map Da.v)).At Hb u ∧ AtL Hb [] r from a)
  have a2 : r = [] := a2
  obtain ⟨p, us, rfl, h2, h3⟩ := (show ∃ a us, u = .ref a ∧ Hb a = some (.lst us) ∧ AtL Hb ((bs.map V.bl).map Da.v) us from a1)
  rw [AtL.flat_eq h3] at h2
  rw [a2]
  exact ⟨p, bs, rfl, sqL (e.at h2 True.intro), q _ Hb Hc (.refl e) rfl⟩
theorem cv_intB : CvD T (fun xs H Q => (∃ i, xs = [.int i] ∧ Q (.int i) H) ∨ ∃ k, xs = [.bl k] ∧ Q (.int (if k then 1 else 0)) H) [.v (.bl b)] (dn (if b = true then 1 else 0)) := fun Hb Hc vs e a Q q => by
  obtain ⟨u, r, rfl, a1, a2⟩ := (show ∃ u r, vs = u :: r ∧ (Da.v (.bl b)).At Hb u ∧ AtL Hb [] r from a)
  have a2 : r = [] := a2
  have a1 : u = .bl b := a1
  rw [a1, a2]
  refine .inr ⟨b, rfl, q _ Hb Hc (.refl e) ?_⟩
  cases b <;> rfl
theorem cv_max2 {i j : Int} : CvD T (fun xs H Q => ∃ i j, xs = [.int i, .int j] ∧ Q (.int (if j > i then j else i)) H) [.v (.int i), .v (.int j)] (.v (.int (if j > i then j else i))) := fun Hb Hc vs e a Q q => by
  have a := AtL.flat_eq (xs := [.int i, .int j]) a
  rw [a]
  exact ⟨i, j, rfl, q _ Hb Hc (.refl e) rfl⟩
theorem cv_min2 {i j : Int} : CvD T (fun xs H Q => ∃ i j, xs = [.int i, .int j] ∧ Q (.int (if j < i then j else i)) H) [.v (.int i), .v (.int j)] (.v (.int (if j < i then j else i))) := fun Hb Hc vs e a Q q => by
  have a := AtL.flat_eq (xs := [.int i, .int j]) a
  rw [a]
  exact ⟨i, j, rfl, q _ Hb Hc (.refl e) rfl⟩
theorem cv_listOf : CvD T (fun xs H Q => ∃ p ys, xs = [.ref p] ∧ (SqL K H p ys ∨ SqT K H p ys) ∧ ∀ l, H l = none → Q (.ref l) (upd H l (.lst ys))) [.l ds] (.l ds) := fun Hb Hc vs e a Q q => by
  obtain ⟨u, r, rfl, a1, a2⟩ := (show ∃ u r, vs = u :: r ∧ (Da.l ds).At Hb u ∧ AtL Hb [] r from a)
  have a2 : r = [] := a2
  obtain ⟨p, us, rfl, h2, h3⟩ := (show ∃ a us, u = .ref a ∧ Hb a = some (.lst us) ∧ AtL Hb ds us from a1)
  rw [a2]
  exact ⟨p, us, rfl, .inl (sqL (e.at h2 True.intro)), fun l hl => q _ _ _ ((Stp.refl e).new hl) ⟨l, us, rfl, upd_same, h3.mono (Ex.new e.t1 (e.none hl))⟩⟩
/-! ### isinstance -/
theorem ty_l {H : Hp} {a : Addr} {us : List V} (h : H a = some (.lst us)) : TyX K H (.ref a) (.type "list") := .base (.lst h)
theorem ty_t {H : Hp} {a : Addr} {us : List V} (h : H a = some (.tup us)) : TyX K H (.ref a) (.type "tuple") := .base (.tup h)
theorem cv_isL {n : String} {k : Bool} (h : kitB "list" n = some k) : CvD T (rIsi K) [.l ds, .v (.ty n)] (.v (.bl k)) := fun Hb Hc vs e a Q q => by
  obtain ⟨u, r, rfl, a1, w, s, rfl, a2, a3⟩ := (show ∃ u r, vs = u :: r ∧ (Da.l ds).At Hb u ∧ ∃ w s, r = w :: s ∧ (Da.v (.ty n)).At Hb w ∧ AtL Hb [] s from a)
  have a3 : s = [] := a3
  have a2 : w = .ty n := a2
  obtain ⟨p, us, rfl, h2, h3⟩ := (show ∃ a us, u = .ref a ∧ Hb a = some (.lst us) ∧ AtL Hb ds us from a1)
  rw [a2, a3]
  exact ⟨.ref p, .ty n, _, _, k, rfl, .ty n, ty_l (e.at h2 True.intro), kit_ty h, q _ Hb Hc (.refl e) rfl⟩
theorem cv_isT {n : String} {k : Bool} (h : kitB "tuple" n = some k) : CvD T (rIsi K) [.t ds, .v (.ty n)] (.v (.bl k)) := fun Hb Hc vs e a Q q => by
  obtain ⟨u, r, rfl, a1, w, s, rfl, a2, a3⟩ := (show ∃ u r, vs = u :: r ∧ (Da.t ds).At Hb u ∧ ∃ w s, r = w :: s ∧ (Da.v (.ty n)).At Hb w ∧ AtL Hb [] s from a)
  have a3 : s = [] := a3
  have a2 : w = .ty n := a2
  obtain ⟨p, us, rfl, h2, h3⟩ := (show ∃ a us, u = .ref a ∧ Hb a = some (.tup us) ∧ AtL Hb ds us from a1)
  rw [a2, a3]
  exact ⟨.ref p, .ty n, _, _, k, rfl, .ty n, ty_t (e.at h2 True.intro), kit_ty h, q _ Hb Hc (.refl e) rfl⟩
theorem cv_isI {i : Int} {n : String} {k : Bool} (h : kitB "int" n = some k) : CvD T (rIsi K) [.v (.int i), .v (.ty n)] (.v (.bl k)) := fun Hb Hc vs e a Q q => by
  have a := AtL.flat_eq (xs := [.int i, .ty n]) a
  rw [a]
  exact ⟨.int i, .ty n, _, _, k, rfl, .ty n, .base (.int i), kit_ty h, q _ Hb Hc (.refl e) rfl⟩
end
end K68
end

section
/-! K68Stm: what is walked, comprehensions, statements, loops, by data. -/
namespace K68
open PySem PySem.Spec PyProof.Rows L2
section
variable {T : Addr × Str} {K : PySem.W.Frag}
def sets (σ : L2.St) : List Nat → List V → L2.St
  | j :: js, v :: vs => sets (σ.set j (some v)) js vs
  | _, _ => σ
/-- an iterator whose turns store data rs i at the slots js -/
def Gd (T : Addr × Str) (J : It) (g : TG) (Hb : Hp) (n : Nat) (js : List Nat) (rs : Nat → List Da) : Prop :=
  ∀ i Hb1 Hc1, Ex T Hb Hb1 → Ex T Hb1 Hc1 →
    (i < n → J.go i Hc1 ∧ ∀ x H4, J.yld i Hc1 x H4 → ∀ (σ' : L2.St) (Q : L2.St → Hp → Prop), (∀ vs Hb5 Hc5, Stp T Hb1 Hc1 Hb5 Hc5 → AtL Hb5 (rs i) vs → Q (sets σ' js vs) Hc5) → g x σ' H4 Q) ∧ (i = n → J.stop i Hc1)
def SrcD (T : Addr × Str) (wi : TI) (g : TG) (σ : L2.St) (Hb : Hp) (n : Nat) (js : List Nat) (rs : Nat → List Da) : Prop :=
  ∀ Hb1 Hc, Ex T Hb Hb1 → Ex T Hb1 Hc → ∀ R : It → Hp → Prop, (∀ J Hb2 Hc2, Stp T Hb1 Hc Hb2 Hc2 → Gd T J g Hb2 n js rs → R J Hc2) → wi σ Hc R
variable {σ : L2.St} {Hb Hb' Hc H : Hp} {te ta tb tc tl : TE} {tt : TT} {tA tr : TA} {wi : TI} {g : TG} {n : Nat} {js : List Nat} {rs : Nat → List Da} {P : V → Hp → Prop} {d dx dy dz : Da} {ds es : List Da} {x y : V} {b c : Bool}
theorem Gd.is {J : It} {rs' : Nat → List Da} (h : Gd T J g Hb n js rs) (e : ∀ i, i < n → rs i = rs' i) : Gd T J g Hb n js rs' := fun i Hb1 Hc1 e1 e2 => by
  obtain ⟨h1, h2⟩ := h i Hb1 Hc1 e1 e2
  exact ⟨fun hi => by rw [← e i hi]; exact h1 hi, h2⟩
theorem SrcD.is {rs' : Nat → List Da} {n' : Nat} (h : SrcD T wi g σ Hb n js rs) (en : n = n') (e : ∀ i, i < n → rs i = rs' i) : SrcD T wi g σ Hb n' js rs' := by
  subst en
  exact fun Hb1 Hc e1 e2 R q => h Hb1 Hc e1 e2 R fun J H2 Hc2 s G => q J H2 Hc2 s (G.is e)
theorem getD_of {α : Type} {l : List α} {i : Nat} {a z : α} (h : l[i]? = some a) : l.getD i z = a := by
  rw [List.getD_eq_getElem?_getD, h]
  rfl
theorem get_lt {α : Type} {l : List α} {i : Nat} (h : i < l.length) (z : α) : l[i]? = some (l.getD i z) := by
  rw [List.getD_eq_getElem?_getD, List.getElem?_eq_getElem h]
  rfl
/-- a list, one name -/
theorem src_list {j : Nat} (h : EvD T tl σ Hb (.l ds)) : SrcD T (iList K tl) (gName j) σ Hb ds.length [j] (fun i => [ds.getD i (.v .non)]) := fun Hb1 Hc e1 e2 R q =>
  h Hb1 Hc e1 e2 _ fun v H2 Hc2 s1 a => by
    obtain ⟨p, us, rfl, h2, h3⟩ := (show ∃ a us, v = .ref a ∧ H2 a = some (.lst us) ∧ AtL H2 ds us from a)
    refine ⟨p, rfl, ⟨us, sqL (s1.e2.at h2 True.intro)⟩, q _ H2 Hc2 s1 fun i Hb3 Hc3 e3 e4 => ?_⟩
    have hs : SqL K Hc3 p us := sqL ((e3.trans e4).at h2 True.intro)
    refine ⟨fun hi => ?_, fun hi => ⟨us, hs, by rw [h3.length]; exact Nat.le_of_eq hi.symm⟩⟩
    obtain ⟨u, hu, hd⟩ := h3.get (get_lt hi (.v .non))
    refine ⟨⟨us, u, hs, hu⟩, fun x H4 y σ' Q k => ?_⟩
    obtain ⟨rfl, y2⟩ := y
    have ex : x = u := Option.some.inj ((y2 us hs).symm.trans hu)
    rw [ex]
    exact k [u] Hb3 H4 (.refl e4) (.cons (hd.mono e3) .nil)
/-- a tuple, one name -/
theorem src_tup {j : Nat} (h : EvD T tl σ Hb (.t ds)) : SrcD T (iTup K tl) (gName j) σ Hb ds.length [j] (fun i => [ds.getD i (.v .non)]) := fun Hb1 Hc e1 e2 R q =>
  h Hb1 Hc e1 e2 _ fun v H2 Hc2 s1 a => by
    obtain ⟨p, us, rfl, h2, h3⟩ := (show ∃ a us, v = .ref a ∧ H2 a = some (.tup us) ∧ AtL H2 ds us from a)
    refine ⟨p, rfl, ⟨us, sqT (s1.e2.at h2 True.intro)⟩, q _ H2 Hc2 s1 fun i Hb3 Hc3 e3 e4 => ?_⟩
    have hs : SqT K Hc3 p us := sqT ((e3.trans e4).at h2 True.intro)
    refine ⟨fun hi => ?_, fun hi => ⟨us, hs, by rw [h3.length]; exact Nat.le_of_eq hi.symm⟩⟩
    obtain ⟨u, hu, hd⟩ := h3.get (get_lt hi (.v .non))
    refine ⟨⟨us, u, hs, hu⟩, fun x H4 y σ' Q k => ?_⟩
    obtain ⟨rfl, y2⟩ := y
    have ex : x = u := Option.some.inj ((y2 us hs).symm.trans hu)
    rw [ex]
    exact k [u] Hb3 H4 (.refl e4) (.cons (hd.mono e3) .nil)
/-- a target of two names, of three, of four -/
abbrev g2 (K : PySem.W.Frag) (j k : Nat) : TG := gTup K 2 (gCons (gName j) (gCons (gName k) gNil))
abbrev g3 (K : PySem.W.Frag) (j k l : Nat) : TG := gTup K 3 (gCons (gName j) (gCons (gName k) (gCons (gName l) gNil)))
abbrev g4 (K : PySem.W.Frag) (j k l m : Nat) : TG := gTup K 4 (gCons (gName j) (gCons (gName k) (gCons (gName l) (gCons (gName m) gNil))))
/-- a list of pairs, two names -/
theorem src_pairs {j k : Nat} {a b : Nat → Da} (h : EvD T tl σ Hb (.l ds)) (hd : ∀ i, i < ds.length → ds[i]? = some (.t [a i, b i])) : SrcD T (iList K tl) (g2 K j k) σ Hb ds.length [j, k] (fun i => [a i, b i]) := fun Hb1 Hc e1 e2 R q =>
  h Hb1 Hc e1 e2 _ fun v H2 Hc2 s1 at_ => by
    obtain ⟨p, us, rfl, h2, h3⟩ := (show ∃ a us, v = .ref a ∧ H2 a = some (.lst us) ∧ AtL H2 ds us from at_)
    refine ⟨p, rfl, ⟨us, sqL (s1.e2.at h2 True.intro)⟩, q _ H2 Hc2 s1 fun i Hb3 Hc3 e3 e4 => ?_⟩
    have hs : SqL K Hc3 p us := sqL ((e3.trans e4).at h2 True.intro)
    refine ⟨fun hi => ?_, fun hi => ⟨us, hs, by rw [h3.length]; exact Nat.le_of_eq hi.symm⟩⟩
    obtain ⟨u, hu, hdu⟩ := h3.get (hd i hi)
    refine ⟨⟨us, u, hs, hu⟩, fun x H4 y σ' Q k' => ?_⟩
    obtain ⟨rfl, y2⟩ := y
    have ex : x = u := Option.some.inj ((y2 us hs).symm.trans hu)
    rw [ex]
    obtain ⟨t, ws, rfl, h5, h6⟩ := (show ∃ a' us, u = .ref a' ∧ H2 a' = some (.tup us) ∧ AtL H2 [a i, b i] us from hdu)
    have h6' := h6
    obtain ⟨w1, r1, rfl, k1, w2, r2, rfl, k2, k3⟩ := (show ∃ u r, ws = u :: r ∧ (a i).At H2 u ∧ ∃ u2 r2, r = u2 :: r2 ∧ (b i).At H2 u2 ∧ AtL H2 [] r2 from h6)
    have k3 : r2 = [] := k3
    subst k3
    exact ⟨t, [w1, w2], rfl, sqT ((e3.trans e4).at h5 True.intro), rfl, w1, [w2], rfl, w2, [], rfl, rfl, k' [w1, w2] Hb3 H4 (.refl e4) (h6'.mono e3)⟩
theorem src_range1 {j m : Nat} (h : EvA T tA σ Hb [dn m]) (hm : m ≤ 100000) : SrcD T (iRng1 tA) (gName j) σ Hb m [j] (fun i => [dn i]) := fun Hb1 Hc e1 e2 R q =>
  h Hb1 Hc e1 e2 _ fun vs H2 Hc2 s1 a => by
    have a := AtL.flat_eq (xs := [.int (m : Int)]) a
    rw [a]
    refine ⟨(m : Int), rfl, by omega, by omega, q _ H2 Hc2 s1 fun i Hb3 Hc3 e3 e4 => ?_⟩
    have em : ((m : Int)).toNat = m := Int.toNat_natCast m
    refine ⟨fun hi => ⟨by show i < _; omega, fun x H4 y σ' Q k => ?_⟩, fun hi => by show _ ≤ i; omega⟩
    obtain ⟨rfl, rfl⟩ := y
    rw [show ((0 : Int) + (i : Int)) = (i : Int) from Int.zero_add _]
    exact k [.int (i : Int)] Hb3 H4 (.refl e4) (.cons rfl .nil)
theorem src_range2 {j lo m : Nat} (h : EvA T tA σ Hb [dn lo, dn m]) (hl : lo ≤ 100000) (hm : m ≤ 100000) : SrcD T (iRng2 tA) (gName j) σ Hb (m - lo) [j] (fun i => [dn (lo + i)]) := fun Hb1 Hc e1 e2 R q =>
  h Hb1 Hc e1 e2 _ fun vs H2 Hc2 s1 a => by
    have a := AtL.flat_eq (xs := [.int (lo : Int), .int (m : Int)]) a
    rw [a]
    refine ⟨(lo : Int), (m : Int), rfl, ⟨by omega, by omega, by omega, by omega⟩, q _ H2 Hc2 s1 fun i Hb3 Hc3 e3 e4 => ?_⟩
    have em : ((m : Int) - (lo : Int)).toNat = m - lo := by omega
    refine ⟨fun hi => ⟨by show i < _; omega, fun x H4 y σ' Q k => ?_⟩, fun hi => by show _ ≤ i; omega⟩
    obtain ⟨rfl, rfl⟩ := y
    exact k [.int ((lo : Int) + (i : Int))] Hb3 H4 (.refl e4) (.cons (by show _ = V.int _; rw [Int.natCast_add]) .nil)
/-- a new pair, unpacked at once -/
theorem pair_go {Hb1 Hc1 : Hp} {j k : Nat} {S : Addr} {u w : V} (e : Ex T Hb1 Hc1) (hS : Hc1 S = none) (h : AtL Hb1 [dx, dy] [u, w]) {σ' : L2.St} {Q : L2.St → Hp → Prop}
    (q : ∀ vs Hb5 Hc5, Stp T Hb1 Hc1 Hb5 Hc5 → AtL Hb5 [dx, dy] vs → Q (sets σ' [j, k] vs) Hc5) : g2 K j k (.ref S) σ' (upd Hc1 S (.tup [u, w])) Q :=
  ⟨S, [u, w], rfl, sqT upd_same, rfl, u, [w], rfl, w, [], rfl, rfl, q [u, w] Hb1 _ ((Stp.refl e).own hS) h⟩
theorem src_zip {j k : Nat} (h : EvA T tA σ Hb [.l ds, .l es]) : SrcD T (iZip K tA) (g2 K j k) σ Hb (min ds.length es.length) [j, k] (fun i => [ds.getD i (.v .non), es.getD i (.v .non)]) := fun Hb1 Hc e1 e2 R q =>
  h Hb1 Hc e1 e2 _ fun vs H2 Hc2 s1 a => by
    obtain ⟨u, r, rfl, a1, w, r2, rfl, a2, a3⟩ := (show ∃ u r, vs = u :: r ∧ (Da.l ds).At H2 u ∧ ∃ u2 r2, r = u2 :: r2 ∧ (Da.l es).At H2 u2 ∧ AtL H2 [] r2 from a)
    have a3 : r2 = [] := a3
    subst a3
    obtain ⟨p, us, rfl, h2, h3⟩ := (show ∃ a us, u = .ref a ∧ H2 a = some (.lst us) ∧ AtL H2 ds us from a1)
    obtain ⟨p', us', rfl, h2', h3'⟩ := (show ∃ a us, w = .ref a ∧ H2 a = some (.lst us) ∧ AtL H2 es us from a2)
    refine ⟨p, p', us, us', rfl, sqL (s1.e2.at h2 True.intro), sqL (s1.e2.at h2' True.intro), q _ H2 Hc2 s1 fun i Hb3 Hc3 e3 e4 => ?_⟩
    have hs : SqL K Hc3 p us := sqL ((e3.trans e4).at h2 True.intro)
    have hs' : SqL K Hc3 p' us' := sqL ((e3.trans e4).at h2' True.intro)
    refine ⟨fun hi => ?_, fun hi => ⟨us, us', hs, hs', by rw [h3.length, h3'.length]; omega⟩⟩
    obtain ⟨u, hu, hd⟩ := h3.get (get_lt (show i < ds.length by omega) (.v .non))
    obtain ⟨u', hu', hd'⟩ := h3'.get (get_lt (show i < es.length by omega) (.v .non))
    refine ⟨⟨us, us', u, u', hs, hs', hu, hu'⟩, fun x H4 y σ' Q k' => ?_⟩
    obtain ⟨S, x1, x2, rfl, hS, rfl, y2, y3⟩ := y
    have ex : x1 = u := Option.some.inj ((y2 us hs).symm.trans hu)
    have ex' : x2 = u' := Option.some.inj ((y3 us' hs').symm.trans hu')
    rw [ex, ex']
    exact pair_go e4 hS (.cons (hd.mono e3) (.cons (hd'.mono e3) .nil)) k'
theorem src_enum {j k : Nat} (h : EvA T tA σ Hb [.l ds]) : SrcD T (iEnum K tA) (g2 K j k) σ Hb ds.length [j, k] (fun i => [dn i, ds.getD i (.v .non)]) := fun Hb1 Hc e1 e2 R q =>
  h Hb1 Hc e1 e2 _ fun vs H2 Hc2 s1 a => by
    obtain ⟨u, r, rfl, a1, a3⟩ := (show ∃ u r, vs = u :: r ∧ (Da.l ds).At H2 u ∧ AtL H2 [] r from a)
    have a3 : r = [] := a3
    subst a3
    obtain ⟨p, us, rfl, h2, h3⟩ := (show ∃ a us, u = .ref a ∧ H2 a = some (.lst us) ∧ AtL H2 ds us from a1)
    refine ⟨p, us, rfl, sqL (s1.e2.at h2 True.intro), q _ H2 Hc2 s1 fun i Hb3 Hc3 e3 e4 => ?_⟩
    have hs : SqL K Hc3 p us := sqL ((e3.trans e4).at h2 True.intro)
    refine ⟨fun hi => ?_, fun hi => ⟨us, hs, by rw [h3.length]; exact Nat.le_of_eq hi.symm⟩⟩
    obtain ⟨u, hu, hd⟩ := h3.get (get_lt hi (.v .non))
    refine ⟨⟨us, u, hs, hu⟩, fun x H4 y σ' Q k' => ?_⟩
    obtain ⟨S, x2, rfl, hS, rfl, y2⟩ := y
    have ex : x2 = u := Option.some.inj ((y2 us hs).symm.trans hu)
    rw [ex]
    exact pair_go e4 hS (.cons (d := dn i) (u := .int (i : Int)) rfl (.cons (hd.mono e3) .nil)) k'
/-! ### comprehensions -/
def given (n : Nat) (f : Nat → Bool) (v : Nat → Da) : List Da := ((List.range n).filter f).map v
theorem given_yes {n : Nat} {f : Nat → Bool} {v : Nat → Da} (h : f n = true) : given (n + 1) f v = given n f v ++ [v n] := by
  unfold given
  rw [List.range_succ, List.filter_append, List.map_append, List.filter_cons, if_pos h]
  rfl
theorem given_no {n : Nat} {f : Nat → Bool} {v : Nat → Da} (h : f n = false) : given (n + 1) f v = given n f v := by
  unfold given
  rw [List.range_succ, List.filter_append, List.map_append, List.filter_cons, if_neg (by rw [h]; decide)]
  show _ ++ [] = _
  rw [List.append_nil]
theorem given_len (n : Nat) (f : Nat → Bool) (v : Nat → Da) : (given n f v).length ≤ n := by
  unfold given
  rw [List.length_map]
  have h := List.length_filter_le f (List.range n)
  rw [List.length_range] at h
  exact h
theorem given_all (n : Nat) (v : Nat → Da) : given n (fun _ => true) v = (List.range n).map v := by
  unfold given
  rw [List.filter_eq_self.mpr (fun _ _ => rfl)]
theorem ev_lc {ws : List Nat} (f : Nat → Bool) (v : Nat → Da) (src : SrcD T wi g σ Hb n js rs) (hn : n ≤ 50000)
    (turn : ∀ i vs Hb1, i < n → Ex T Hb Hb1 → AtL Hb1 (rs i) vs → wipe (sets (wipe σ ws) js vs) ws = wipe σ ws ∧ EvT T tt (sets (wipe σ ws) js vs) Hb1 (f i) ∧ (f i = true → EvD T te (sets (wipe σ ws) js vs) Hb1 (v i))) :
    EvD T (tLc wi g tt te ws) σ Hb (.l (given n f v)) := fun Hb1 Hc e1 e2 Q q => src Hb1 Hc e1 e2 _ fun J Hb2 Hc2 s1 G D hD => by
  refine ⟨fun i m H => m = n - i ∧ i ≤ n ∧ ∃ Hb' us, Stp T Hb2 Hc2 Hb' H ∧ Hb' D = none ∧ H D = some (.lst us) ∧ AtL Hb' (given i f v) us, ⟨n, rfl, Nat.zero_le _, Hb2, [], (Stp.refl s1.e2).own hD, s1.e2.none hD, upd_same, rfl⟩, ?_⟩
  rintro i m H ⟨rfl, hi, Hb', us, S, hb, hd, ha⟩
  obtain ⟨g1, g2⟩ := G i Hb' H S.e1 S.e2
  by_cases hlt : i < n
  · obtain ⟨go, step⟩ := g1 hlt
    refine .inr ⟨go, fun H' => ∃ Hb' us, Stp T Hb2 Hc2 Hb' H' ∧ Hb' D = none ∧ H' D = some (.lst us) ∧ AtL Hb' (given (i + 1) f v) us, fun H' hN => ⟨n - (i + 1), by omega, rfl, hlt, hN⟩, fun x H' y => ?_⟩
    refine step x H' y _ _ fun vs Hb5 Hc5 s5 a5 => ?_
    obtain ⟨t1, t2, t3⟩ := turn i vs Hb5 hlt ((e1.trans (s1.e1.trans S.e1)).trans s5.e1) a5
    refine ⟨t1, t2 Hb5 Hc5 (.refl s5.e1.t2) s5.e2 _ fun Hb6 Hc6 s6 => ?_⟩
    have hb5 := s5.hidden hb hd
    have hd5 := s5.kept hd True.intro
    have hb6 := s6.hidden hb5 hd5
    have hd6 := s6.kept hd5 True.intro
    cases hf : f i with
    | true =>
      show te _ Hc6 _
      refine t3 hf Hb6 Hc6 s6.e1 s6.e2 _ fun w Hb7 Hc7 s7 a7 => ?_
      have hb7 := s7.hidden hb6 hd6
      have hd7 := s7.kept hd6 True.intro
      have S7 := ((S.trans s5).trans s6).trans s7
      refine ⟨us, hd7, ?_, Hb7, us ++ [w], S7.mut hD hb7 hd7 True.intro, hb7, upd_same, ?_⟩
      · rw [ha.length]
        have := given_len i f v
        exact sz_lt (by omega)
      · rw [given_yes hf]
        exact (ha.mono ((s5.e1.trans s6.e1).trans s7.e1)).snoc a7
    | false =>
      show ∃ Hb' us, _
      refine ⟨Hb6, us, (S.trans s5).trans s6, hb6, hd6, ?_⟩
      rw [given_no hf]
      exact ha.mono (s5.e1.trans s6.e1)
  · have e : i = n := by omega
    subst e
    refine .inl ⟨g2 rfl, q _ _ _ (s1.trans (S.tell hD hb hd)) ⟨D, us, rfl, upd_same, ha.mono (Ex.new S.e1.t2 hb)⟩⟩
/-! ### statements -/
variable {D : Ends} {tu tz tw : TS}
theorem s_asg {i : Nat} (h : EvD T te σ Hb d) (e : Ex T Hb Hc) (k : ∀ v Hb' Hc', Stp T Hb Hc Hb' Hc' → d.At Hb' v → D.nx (σ.set i (some v)) Hc') : tAsg te (gName i) D σ Hc := h Hb Hc (.refl e.t1) e _ k
theorem q_asg {i : Nat} (h : EvD T te σ Hb d) (e : Ex T Hb Hc) (k : ∀ v Hb' Hc', Stp T Hb Hc Hb' Hc' → d.At Hb' v → tz D (σ.set i (some v)) Hc') : tSeq (tAsg te (gName i)) tz D σ Hc := s_asg (D := { D with nx := tz D }) h e k
theorem s_ret (h : EvD T te σ Hb d) (e : Ex T Hb Hc) (k : ∀ v Hb' Hc', Stp T Hb Hc Hb' Hc' → d.At Hb' v → D.rt v Hc') : tRet te D σ Hc := h Hb Hc (.refl e.t1) e _ k
theorem s_drop (h : EvD T te σ Hb d) (e : Ex T Hb Hc) (k : ∀ Hb' Hc', Stp T Hb Hc Hb' Hc' → D.nx σ Hc') : tDrop te D σ Hc := h Hb Hc (.refl e.t1) e _ fun v Hb' Hc' s _ => k Hb' Hc' s
theorem q_drop (h : EvD T te σ Hb d) (e : Ex T Hb Hc) (k : ∀ Hb' Hc', Stp T Hb Hc Hb' Hc' → tz D σ Hc') : tSeq (tDrop te) tz D σ Hc := s_drop (D := { D with nx := tz D }) h e k
theorem s_if (h : EvT T tt σ Hb b) (e : Ex T Hb Hc) (k1 : b = true → ∀ Hb' Hc', Stp T Hb Hc Hb' Hc' → tu D σ Hc') (k2 : b = false → ∀ Hb' Hc', Stp T Hb Hc Hb' Hc' → tw D σ Hc') : tIfS tt tu tw D σ Hc := h Hb Hc (.refl e.t1) e _ fun Hb' Hc' s => by
  cases b with
  | true =>
    show tu D σ Hc'
    exact k1 rfl Hb' Hc' s
  | false =>
    show tw D σ Hc'
    exact k2 rfl Hb' Hc' s
theorem q_if (h : EvT T tt σ Hb b) (e : Ex T Hb Hc) (k1 : b = true → ∀ Hb' Hc', Stp T Hb Hc Hb' Hc' → tu { D with nx := tz D } σ Hc') (k2 : b = false → ∀ Hb' Hc', Stp T Hb Hc Hb' Hc' → tw { D with nx := tz D } σ Hc') : tSeq (tIfS tt tu tw) tz D σ Hc := s_if (D := { D with nx := tz D }) h e k1 k2
/-- a test that fails, nothing else -/
theorem q_no (h : EvT T tt σ Hb false) (e : Ex T Hb Hc) (k : ∀ Hb' Hc', Stp T Hb Hc Hb' Hc' → tz D σ Hc') : tSeq (tIfS tt tu tNext) tz D σ Hc := q_if h e (fun z => nomatch z) fun _ => k
theorem s_no (h : EvT T tt σ Hb false) (e : Ex T Hb Hc) (k : ∀ Hb' Hc', Stp T Hb Hc Hb' Hc' → D.nx σ Hc') : tIfS tt tu tNext D σ Hc := s_if h e (fun z => nomatch z) fun _ => k
theorem s_aug {i : Nat} {f : Int → Int → Int} {a b : Int} (hx : σ[i]? = some (some (.int a))) (h : EvD T te σ Hb (.v (.int b))) (e : Ex T Hb Hc) (k : ∀ Hb' Hc', Stp T Hb Hc Hb' Hc' → D.nx (σ.set i (some (.int (f a b)))) Hc') : tAug i te (ipI f) D σ Hc :=
  ⟨.int a, hx, h Hb Hc (.refl e.t1) e _ fun v Hb' Hc' s at_ => ⟨a, b, rfl, at_, k Hb' Hc' s⟩⟩
theorem q_aug {i : Nat} {f : Int → Int → Int} {a b : Int} (hx : σ[i]? = some (some (.int a))) (h : EvD T te σ Hb (.v (.int b))) (e : Ex T Hb Hc) (k : ∀ Hb' Hc', Stp T Hb Hc Hb' Hc' → tz D (σ.set i (some (.int (f a b)))) Hc') : tSeq (tAug i te (ipI f)) tz D σ Hc := s_aug (D := { D with nx := tz D }) hx h e k
/-- xs.append(e), xs one's own -/
theorem s_app {i : Nat} {p : Addr} {us : List V} (hx : σ[i]? = some (some (.ref p))) (hp : Hc p = some (.lst us)) (h : EvD T te σ Hb d) (e : Ex T Hb Hc) (hl : us.length < 100000)
    (k : ∀ u Hb' Hc', Stp T Hb Hc Hb' Hc' → Hc' p = some (.lst us) → d.At Hb' u → D.nx σ (upd Hc' p (.lst (us ++ [u])))) : tDrop (tBM K "list" rAppend (tVar i) (tCons te tNil)) D σ Hc :=
  ⟨.ref p, hx, .inl ⟨rfl, us, sqL hp⟩, h Hb Hc (.refl e.t1) e _ fun u Hb' Hc' s a => ⟨p, us, u, rfl, rfl, s.kept hp True.intro, sz_lt hl, k u Hb' Hc' s (s.kept hp True.intro) a⟩⟩
theorem q_app {i : Nat} {p : Addr} {us : List V} (hx : σ[i]? = some (some (.ref p))) (hp : Hc p = some (.lst us)) (h : EvD T te σ Hb d) (e : Ex T Hb Hc) (hl : us.length < 100000)
    (k : ∀ u Hb' Hc', Stp T Hb Hc Hb' Hc' → Hc' p = some (.lst us) → d.At Hb' u → tz D σ (upd Hc' p (.lst (us ++ [u])))) : tSeq (tDrop (tBM K "list" rAppend (tVar i) (tCons te tNil))) tz D σ Hc := s_app (D := { D with nx := tz D }) hx hp h e hl k
/-- xs.extend(e), xs one's own, e a new list -/
theorem s_ext {i : Nat} {p : Addr} {us : List V} (hx : σ[i]? = some (some (.ref p))) (hp : Hc p = some (.lst us)) (h : EvD T te σ Hb (.l ds)) (e : Ex T Hb Hc) (hl : us.length + ds.length ≤ 100000)
    (k : ∀ ws Hb' Hc', Stp T Hb Hc Hb' Hc' → Hc' p = some (.lst us) → AtL Hb' ds ws → D.nx σ (upd Hc' p (.lst (us ++ ws)))) : tDrop (tBM K "list" rExtend (tVar i) (tCons te tNil)) D σ Hc :=
  ⟨.ref p, hx, .inl ⟨rfl, us, sqL hp⟩, h Hb Hc (.refl e.t1) e _ fun u Hb' Hc' s a => by
    obtain ⟨b, ws, rfl, h2, h3⟩ := (show ∃ a us, u = .ref a ∧ Hb' a = some (.lst us) ∧ AtL Hb' ds us from a)
    exact ⟨p, b, us, ws, rfl, rfl, s.kept hp True.intro, s.e2.at h2 True.intro, sz_of (by rw [h3.length]; exact hl), k ws Hb' Hc' s (s.kept hp True.intro) h3⟩⟩
/-- xs[j] = e, xs one's own -/
theorem s_set {i n : Nat} {p : Addr} {us : List V} (hx : σ[i]? = some (some (.ref p))) (hp : Hc p = some (.lst us)) (h : EvD T te σ Hb d) (hi : EvD T tb σ Hb (dn n)) (hn : n < us.length) (e : Ex T Hb Hc)
    (k : ∀ u Hb' Hc', Stp T Hb Hc Hb' Hc' → Hc' p = some (.lst us) → d.At Hb' u → D.nx σ (upd Hc' p (.lst (us.set n u)))) : tAsg te (gSub (tVar i) tb rSetL) D σ Hc :=
  h Hb Hc (.refl e.t1) e _ fun u Hb' Hc' s a => ⟨.ref p, hx, hi Hb' Hc' s.e1 s.e2 _ fun w Hb2 Hc2 s2 a2 => ⟨p, us, (n : Int), n, rfl, a2, (s.trans s2).kept hp True.intro, ixN_nat hn, k u Hb2 Hc2 (s.trans s2) ((s.trans s2).kept hp True.intro) (a.mono s2.e1)⟩⟩
theorem q_set {i n : Nat} {p : Addr} {us : List V} (hx : σ[i]? = some (some (.ref p))) (hp : Hc p = some (.lst us)) (h : EvD T te σ Hb d) (hi : EvD T tb σ Hb (dn n)) (hn : n < us.length) (e : Ex T Hb Hc)
    (k : ∀ u Hb' Hc', Stp T Hb Hc Hb' Hc' → Hc' p = some (.lst us) → d.At Hb' u → tz D σ (upd Hc' p (.lst (us.set n u)))) : tSeq (tAsg te (gSub (tVar i) tb rSetL)) tz D σ Hc := s_set (D := { D with nx := tz D }) hx hp h hi hn e k
/-- xs[j] += e, xs one's own -/
def rGetL : V → V → Hp → VK → Prop := fun o i H Q => ∃ p xs k v, o = .ref p ∧ i = .int k ∧ H p = some (.lst xs) ∧ atI xs k = some v ∧ Q v H
theorem s_augS {i n : Nat} {p : Addr} {us : List V} {a b : Int} {f : Int → Int → Int} (hx : σ[i]? = some (some (.ref p))) (hp : Hc p = some (.lst us)) (hi : EvD T tb σ Hb (dn n)) (hu : us[n]? = some (.int a)) (h : EvD T te σ Hb (.v (.int b))) (e : Ex T Hb Hc)
    (k : ∀ Hb' Hc', Stp T Hb Hc Hb' Hc' → Hc' p = some (.lst us) → D.nx σ (upd Hc' p (.lst (us.set n (.int (f a b)))))) : tAugS (tVar i) tb te rGetL (ipI f) rSetL D σ Hc :=
  ⟨.ref p, hx, hi Hb Hc (.refl e.t1) e _ fun w Hb2 Hc2 s2 a2 => ⟨p, us, (n : Int), .int a, rfl, a2, s2.kept hp True.intro, (by
      show (ixN us.length (n : Int)).bind (fun j => us[j]?) = _
      rw [ixN_nat (lt_of_get hu)]
      exact hu), h Hb2 Hc2 s2.e1 s2.e2 _ fun w3 Hb3 Hc3 s3 a3 => ⟨a, b, rfl, a3, p, us, (n : Int), n, rfl, a2, (s2.trans s3).kept hp True.intro, ixN_nat (lt_of_get hu), k Hb3 Hc3 (s2.trans s3) ((s2.trans s3).kept hp True.intro)⟩⟩⟩
/-! ### loops -/
/-- J: what holds of (turn, slots, what is spoken of, heap) -/
theorem s_for (src : SrcD T wi g σ Hb n js rs) (e : Ex T Hb Hc) (J : Nat → L2.St → Hp → Hp → Prop) (h0 : ∀ Hb1 Hc1, Stp T Hb Hc Hb1 Hc1 → J 0 σ Hb1 Hc1)
    (hs : ∀ i σ' Hb1 Hc1 vs Hb2 Hc2, i < n → Ex T Hb Hb1 → Ex T Hb1 Hc1 → J i σ' Hb1 Hc1 → Stp T Hb1 Hc1 Hb2 Hc2 → AtL Hb2 (rs i) vs →
      tu { D with nx := fun σ2 H2 => ∃ Hb3, Ex T Hb1 Hb3 ∧ Ex T Hb3 H2 ∧ J (i + 1) σ2 Hb3 H2, ct := fun σ2 H2 => ∃ Hb3, Ex T Hb1 Hb3 ∧ Ex T Hb3 H2 ∧ J (i + 1) σ2 Hb3 H2, bk := D.nx } (sets σ' js vs) Hc2)
    (hd : ∀ σ' Hb1 Hc1, Ex T Hb Hb1 → Ex T Hb1 Hc1 → J n σ' Hb1 Hc1 → D.nx σ' Hc1) : tFor wi g tu D σ Hc := by
  refine src Hb Hc (.refl e.t1) e _ fun J' Hb1 Hc1 s1 G => ?_
  refine ⟨fun i m σ' H => m = n - i ∧ i ≤ n ∧ ∃ Hb', Ex T Hb1 Hb' ∧ Ex T Hb' H ∧ J i σ' Hb' H, ⟨n, rfl, Nat.zero_le _, Hb1, .refl s1.e1.t2, s1.e2, h0 Hb1 Hc1 s1⟩, ?_⟩
  rintro i m σ' H ⟨rfl, hi, Hb', x1, x2, hJ⟩
  obtain ⟨g1, g2⟩ := G i Hb' H x1 x2
  by_cases hlt : i < n
  · obtain ⟨go, step⟩ := g1 hlt
    refine .inr ⟨go, fun σ2 H2 => ∃ Hb3, Ex T Hb' Hb3 ∧ Ex T Hb3 H2 ∧ J (i + 1) σ2 Hb3 H2, fun σ2 H2 ⟨Hb3, y1, y2, y3⟩ => ⟨n - (i + 1), by omega, rfl, hlt, Hb3, x1.trans y1, y2, y3⟩, fun x H' y => ?_⟩
    exact step x H' y σ' _ fun vs Hb5 Hc5 s5 a5 => hs i σ' Hb' H vs Hb5 Hc5 hlt (s1.e1.trans x1) x2 hJ s5 a5
  · have ei : i = n := by omega
    subst ei
    exact .inl ⟨g2 rfl, hd σ' Hb' H (s1.e1.trans x1) x2 hJ⟩
theorem q_for (src : SrcD T wi g σ Hb n js rs) (e : Ex T Hb Hc) (J : Nat → L2.St → Hp → Hp → Prop) (h0 : ∀ Hb1 Hc1, Stp T Hb Hc Hb1 Hc1 → J 0 σ Hb1 Hc1)
    (hs : ∀ i σ' Hb1 Hc1 vs Hb2 Hc2, i < n → Ex T Hb Hb1 → Ex T Hb1 Hc1 → J i σ' Hb1 Hc1 → Stp T Hb1 Hc1 Hb2 Hc2 → AtL Hb2 (rs i) vs →
      tu { D with nx := fun σ2 H2 => ∃ Hb3, Ex T Hb1 Hb3 ∧ Ex T Hb3 H2 ∧ J (i + 1) σ2 Hb3 H2, ct := fun σ2 H2 => ∃ Hb3, Ex T Hb1 Hb3 ∧ Ex T Hb3 H2 ∧ J (i + 1) σ2 Hb3 H2, bk := tz D } (sets σ' js vs) Hc2)
    (hd : ∀ σ' Hb1 Hc1, Ex T Hb Hb1 → Ex T Hb1 Hc1 → J n σ' Hb1 Hc1 → tz D σ' Hc1) : tSeq (tFor wi g tu) tz D σ Hc := s_for (D := { D with nx := tz D }) src e J h0 hs hd
/-- while, by a number that falls -/
theorem q_while (W : Nat → L2.St → Hp → Prop) (m0 : Nat) (h0 : W m0 σ Hc)
    (hs : ∀ m σ' H', W m σ' H' → ∃ b Hb, Ex T Hb H' ∧ EvT T tt σ' Hb b ∧ (b = true → ∀ Hb' Hc', Stp T Hb H' Hb' Hc' → tu { D with nx := fun σ2 H2 => ∃ m', m' < m ∧ W m' σ2 H2, ct := fun σ2 H2 => ∃ m', m' < m ∧ W m' σ2 H2, bk := tz D } σ' Hc') ∧ (b = false → ∀ Hb' Hc', Stp T Hb H' Hb' Hc' → tz D σ' Hc')) :
    tSeq (tWhile tt tu) tz D σ Hc := ⟨W, ⟨m0, h0⟩, fun m σ' H' hw => by
  obtain ⟨b, Hb, e, hb, h1, h2⟩ := hs m σ' H' hw
  refine hb Hb H' (.refl e.t1) e _ fun Hb' Hc' s => ?_
  cases b with
  | true => exact ⟨_, fun _ _ z => z, h1 rfl Hb' Hc' s⟩
  | false => exact h2 rfl Hb' Hc' s⟩
end
end K68
end

section
/-! K68Base: the text's defs, calls among them, webs as data. -/
namespace K68
open PySem PySem.Spec PyProof.Rows L2
def topS (i : Nat) : Stmt := PySem.Challenge.pw_webtimes_k68_whole_great_products_told.main.body.getD i (.Pass ⟨0, 0, 0, 0⟩)
/-- a def of the top -/
def Df (K : PySem.W.Frag) (mg : Str → Option Value) (x : Str) (st : Stmt) : Prop := ∃ f fd, Fun K x x st f fd ∧ mg x = some (.ref f)
/-- a def that may be called -/
def Cal (P : Program) (w : World) (K : PySem.W.Frag) (mg : Str → Option Value) (base : Heap) (x : Str) (k : Nat) (ps : List Str) (sp : Sp) : Prop :=
  ∃ f fd, FnOk P w K mg base CX0 k f fd ps sp ∧ Binds K fd ps [] ∧ mg x = some (.ref f) ∧ PySem.W.keepIn K (.ref f) = true
theorem pe_cal {X : Cx} {j k : Nat} {x : Str} {ps : List Str} {sp : Sp} {p pos : Pos} {e : Expr} {es : List Expr} {t : TA} (C : Cal X.prog X.w X.K X.mg X.base x j ps sp) (hr : Room k X.A) (h : j ≤ k) (hg : Gl X x) (ha : PA X (e :: es) t)
    (hdb : (x == ("__debug__" : Str)) = false := by decide) (he : starEach (e :: es) X.env = (false, eval e X.env) :: starEach es X.env := by rfl) (hpl : (backTo pos (starEach es X.env)).any (·.1) = false := by rfl) :
    PE X (.Call (.Name x p) (e :: es) [] pos) (tCall sp [] E0 t) := by
  obtain ⟨f, fd, F, hb, hm, hk⟩ := C
  exact pe_call F (hr.mono h) hg hm hk hb .nil pass0 ha hdb he hpl
section
variable {P : Program} {w : World} {K : PySem.W.Frag} {mg : Str → Option Value} {base : Heap} {T : Addr × Str}
/-- a def, by its body -/
theorem mk_cal {x : Str} {st : Stmt} {N ps : List Str} {k : Nat} {sp : Sp} (D : Df K mg x st) (S : FnScope N ps (defScope st)) (len : ∀ vs H Q E, sp vs H Q E → vs.length = ps.length)
    (hb : ∀ (kV doc pm : Value) (an : Option Addr) (cdv ct : Value) (us : List Value), us.length = ps.length → bindArgs (PySem.W.fnOf x x (defArgs st) (defBody st) (defScope st) .none kV doc pm an cdv ct) ⟨us, []⟩ = pure (ps.zip us))
    (body : ∀ (f : Addr) (cdv : Value) (A : Around) (outer : List Env) (s : Shared) (H : Hp) (vs : List V) (Q : VK) (E : XK), Room k (A.deeper (envOfC x (defScope st) s.heap.objs.size f cdv)) → sp vs H Q E →
      ∃ t, PSs (cxOf CX0 P w K mg base N x (defScope st) f cdv A outer s H E).nox (defBody st) t ∧ t { nx := fun _ H' => Q .non H', rt := Q } (start N vs) H) : Cal P w K mg base x (k + 1) ps sp := by
  obtain ⟨f, fd, F, hm⟩ := D
  exact ⟨f, fd, F.ok S len fun cdv A outer s H vs Q E hr h => body f cdv A outer s H vs Q E hr h, F.binds hb, hm, F.kp⟩
/-- .. its promise told by data -/
theorem mk_pm {x : Str} {st : Stmt} {N ps : List Str} {k : Nat} {A : List Da → Da → Prop} (D : Df K mg x st) (S : FnScope N ps (defScope st)) (len : ∀ ds d, A ds d → ds.length = ps.length)
    (hb : ∀ (kV doc pm : Value) (an : Option Addr) (cdv ct : Value) (us : List Value), us.length = ps.length → bindArgs (PySem.W.fnOf x x (defArgs st) (defBody st) (defScope st) .none kV doc pm an cdv ct) ⟨us, []⟩ = pure (ps.zip us))
    (body : ∀ (f : Addr) (cdv : Value) (Ar : Around) (outer : List Env) (s : Shared) (H : Hp) (vs : List V) (Q : VK) (E : XK), Room k (Ar.deeper (envOfC x (defScope st) s.heap.objs.size f cdv)) →
      ∀ (Hb : Hp) (ds : List Da) (d : Da), Ex T Hb H → AtL Hb ds vs → A ds d → (∀ v Hb' H', Stp T Hb H Hb' H' → d.At Hb' v → Q v H') →
      ∃ t, PSs (cxOf CX0 P w K mg base N x (defScope st) f cdv Ar outer s H E).nox (defBody st) t ∧ t { nx := fun _ H' => Q .non H', rt := Q } (start N vs) H) : Cal P w K mg base x (k + 1) ps (Pm T A) :=
  mk_cal D S (fun vs H Q E ⟨Hb, ds, d, _, a, hA, _⟩ => by rw [a.length]; exact len ds d hA) hb fun f cdv Ar outer s H vs Q E hr ⟨Hb, ds, d, e, a, hA, q⟩ => body f cdv Ar outer s H vs Q E hr Hb ds d e a hA q
end
/-! ### xs[i] by values -/
theorem get_listL {X : Cx} : PGet X rGetL := by
  intro pins s σ H o i ov iv Q I ro ri h
  obtain ⟨p, xs, k, z, rfl, rfl, hp, he, q⟩ := h
  cases ro
  obtain ⟨t, rfl⟩ := ri
  obtain ⟨its, r, pl, hz⟩ := I.list (sqL hp)
  obtain ⟨j, h1, h2, h3, h4, h5⟩ := atI_get he
  obtain ⟨w, ew, rw'⟩ := r.get h2
  have hl := r.length
  have hn := line63
  have fin : EP X pins σ Q w s := ⟨z, H, I, rw', q⟩
  by_cases h0 : 0 ≤ k
  · have hj : k.toNat = j := by
      rw [seqIndex_of h0 h5] at h1
      exact Option.some.inj h1
    refine wpAny_getItem_list pl.isList h0 ?_ ?_ fin
    · omega
    · rw [hj]
      simpa using ew
  · have hj : (k + (its.toArray.size : Int)).toNat = j := by
      rw [seqIndex_neg (by omega) h4] at h1
      rw [List.size_toArray, ← hl]
      exact Option.some.inj h1
    refine wpAny_getItem_list_neg pl.isList (by omega) ?_ (by omega) ?_ fin
    · rw [List.size_toArray]
      omega
    · rw [hj]
      simpa using ew
/-! ### rules of built-ins by name -/
abbrev rLen (K : PySem.W.Frag) : List V → Hp → VK → Prop := fun xs H Q => ∃ p ys, xs = [.ref p] ∧ (SqL K H p ys ∨ SqT K H p ys) ∧ Q (.int ys.length) H
abbrev rInt1 : List V → Hp → VK → Prop := fun xs H Q => (∃ i, xs = [.int i] ∧ Q (.int i) H) ∨ ∃ k, xs = [.bl k] ∧ Q (.int (if k then 1 else 0)) H
abbrev rMax2 : List V → Hp → VK → Prop := fun xs H Q => ∃ i j, xs = [.int i, .int j] ∧ Q (.int (if j > i then j else i)) H
abbrev rMin2 : List V → Hp → VK → Prop := fun xs H Q => ∃ i j, xs = [.int i, .int j] ∧ Q (.int (if j < i then j else i)) H
abbrev rListOf (K : PySem.W.Frag) : List V → Hp → VK → Prop := fun xs H Q => ∃ p ys, xs = [.ref p] ∧ (SqL K H p ys ∨ SqT K H p ys) ∧ ∀ l, H l = none → Q (.ref l) (upd H l (.lst ys))
/-! ### webs as data -/
def dTie (p : Nat × Nat) : Da := .t [dn p.1, dn p.2]
def dWeb (W : Web) : Da := .t [dn W.n, .l (W.ts.map dTie)]
def dWebs (ws : List Web) : Da := .l (ws.map dWeb)
def ltP (p q : Nat × Nat) : Prop := p.1 < q.1 ∨ (p.1 = q.1 ∧ p.2 < q.2)
structure WebOk (W : Web) : Prop where
  pos : 0 < W.n
  most : W.n ≤ 40
  few : W.ts.length ≤ 120
  tie : ∀ p ∈ W.ts, p.1 < p.2 ∧ p.2 < W.n
  rise : W.ts.Pairwise ltP
structure WebsOk (ws : List Web) : Prop where
  few : ws.length ≤ 12
  ok : ∀ w ∈ ws, WebOk w
end K68
end

section
namespace K68
open PySem PySem.Spec PyProof.Rows L2
section
variable {P : Program} {w : World} {K : PySem.W.Frag} {mg : Str → Option Value} {base : Heap} {T : Addr × Str}
/-! ### is_whole -/
abbrev s_is_whole : Stmt := topS 8
theorem sc_is_whole : FnScope ["thing"] ["thing"] (defScope s_is_whole) := ⟨rfl, rfl, rfl, by decide +kernel, rfl, by decide +kernel, by decide +kernel⟩
def A_is_whole (ds : List Da) (d : Da) : Prop := ∃ i : Int, ds = [dI i] ∧ d = .v (.bl true)
theorem ok_is_whole (D : Df K mg "is_whole" s_is_whole) (m_isinstance : mg "isinstance" = none) (m_int : mg "int" = none) (m_bool : mg "bool" = none) : Cal P w K mg base "is_whole" 1 ["thing"] (Pm T A_is_whole) := by
  refine mk_pm D sc_is_whole (fun ds d ⟨i, h, _⟩ => by rw [h]; rfl) (fun _ _ _ _ _ _ us hl => match us, hl with | [_], _ => rfl) fun f cdv Ar outer s H vs Q E hr Hb ds d e a hA q => ?_
  obtain ⟨i, rfl, rfl⟩ := hA
  have a := AtL.flat_eq (xs := [.int i]) a
  subst a
  have nd := sc_is_whole.nd
  refine ⟨_, (pss_one (ps_ret (pe_and (pe_callB call_isi (by rfl) m_isinstance (by decide +kernel) (pa_cons (pv 0) (pa_cons (pe_bltn (v := .ty "int") rfl m_int (by decide +kernel) rfl) pa_nil))) (pe_one (pe_not (pe_callB call_isi (by rfl) m_isinstance (by decide +kernel) (pa_cons (pv 0) (pa_cons (pe_bltn (v := .ty "bool") rfl m_bool (by decide +kernel) rfl) pa_nil)))))))), ?_⟩
  have hx : EvD T (tVar 0) (start ["thing"] [V.int i]) Hb (dI i) := ev_var rfl rfl
  exact s_ret (ev_andV (ev_cb (ea_cons hx (ea_cons ev_c ea_nil)) (cv_isI (k := true) (by decide +kernel))) fun _ => ev_notV (ev_cb (ea_cons hx (ea_cons ev_c ea_nil)) (cv_isI (k := false) (by decide +kernel)))) e fun v Hb' H' s a => q v Hb' H' s a
/-! ### is_within -/
abbrev s_is_within : Stmt := topS 9
theorem sc_is_within : FnScope ["thing", "least", "most"] ["thing", "least", "most"] (defScope s_is_within) := ⟨rfl, rfl, rfl, by decide +kernel, rfl, by decide +kernel, by decide +kernel⟩
def A_is_within (ds : List Da) (d : Da) : Prop := ∃ i j k : Int, ds = [dI i, dI j, dI k] ∧ j ≤ i ∧ i ≤ k ∧ d = .v (.bl true)
theorem ok_is_within (D : Df K mg "is_within" s_is_within) (c_is_whole : Cal P w K mg base "is_whole" 1 ["thing"] (Pm T A_is_whole)) : Cal P w K mg base "is_within" 2 ["thing", "least", "most"] (Pm T A_is_within) := by
  refine mk_pm D sc_is_within (fun ds d ⟨i, j, k, h, _⟩ => by rw [h]; rfl) (fun _ _ _ _ _ _ us hl => match us, hl with | [_, _, _], _ => rfl) fun f cdv Ar outer s H vs Q E hr Hb ds d e a hA q => ?_
  obtain ⟨i, j, k, rfl, h1, h2, rfl⟩ := hA
  have a := AtL.flat_eq (xs := [.int i, .int j, .int k]) a
  subst a
  refine ⟨_, (pss_one (ps_ret (pe_and (pe_cal c_is_whole hr (by decide) rfl (pa_cons (pv 0) pa_nil)) (pe_one (pe_chain op_le op_le (pv 1) (pv 0) (pv 2)))))), ?_⟩
  have hx : EvD T (tVar 0) (start ["thing", "least", "most"] [V.int i, .int j, .int k]) Hb (dI i) := ev_var rfl rfl
  have hy : EvD T (tVar 1) (start ["thing", "least", "most"] [V.int i, .int j, .int k]) Hb (dI j) := ev_var rfl rfl
  have hz : EvD T (tVar 2) (start ["thing", "least", "most"] [V.int i, .int j, .int k]) Hb (dI k) := ev_var rfl rfl
  refine s_ret ((ev_andV (ev_call (ea_cons hx ea_nil) ⟨i, rfl, rfl⟩) fun _ => ev_chain (b := decide (j ≤ i)) (c := decide (i ≤ k)) hy hx rv_I0 (fun _ => hz) fun _ => rv_I0).is ?_) e fun v Hb' H' s a => q v Hb' H' s a
  rw [decide_eq_true h1, decide_eq_true h2]
  rfl
/-! ### is_tie -/
abbrev s_is_tie : Stmt := topS 10
theorem sc_is_tie : FnScope ["many", "thing"] ["many", "thing"] (defScope s_is_tie) := ⟨rfl, rfl, rfl, by decide +kernel, rfl, by decide +kernel, by decide +kernel⟩
def A_is_tie (ds : List Da) (d : Da) : Prop := ∃ (n : Nat) (p : Nat × Nat), ds = [dn n, dTie p] ∧ p.1 < p.2 ∧ p.2 < n ∧ d = .v (.bl true)
theorem ok_is_tie (D : Df K mg "is_tie" s_is_tie) (c_is_within : Cal P w K mg base "is_within" 2 ["thing", "least", "most"] (Pm T A_is_within)) (m_isinstance : mg "isinstance" = none) (m_tuple : mg "tuple" = none) (m_len : mg "len" = none) : Cal P w K mg base "is_tie" 3 ["many", "thing"] (Pm T A_is_tie) := by
  refine mk_pm D sc_is_tie (fun ds d ⟨n, p, h, _⟩ => by rw [h]; rfl) (fun _ _ _ _ _ _ us hl => match us, hl with | [_, _], _ => rfl) fun f cdv Ar outer s H vs Q E hr Hb ds d e a hA q => ?_
  obtain ⟨n, p, rfl, h1, h2, rfl⟩ := hA
  obtain ⟨x0, r0, rfl, a0, x1, r1, rfl, a1, a2⟩ := (show ∃ u r, vs = u :: r ∧ (dn n).At Hb u ∧ ∃ u2 r2, r = u2 :: r2 ∧ (dTie p).At Hb u2 ∧ AtL Hb [] r2 from a)
  have a2 : r1 = [] := a2
  subst a2
  refine ⟨_, (pss_cons (ps_if (PW.pt (pw_or (pt_not (pt_val (pe_callB call_isi (by rfl) m_isinstance (by decide +kernel) (pa_cons (pv 1) (pa_cons (pe_bltn (v := .ty "tuple") rfl m_tuple (by decide +kernel) rfl) pa_nil))))) (pw_or1 (pt_cmpR op_ne (pe_callB call_len_seq (by rfl) m_len PySem.boot_len (pa_cons (pv 1) pa_nil)) pe_int (nomark _))))) (pss_one (ps_ret pe_bl)) pss_nil)
      (pss_cons (ps_if (PW.pt (pw_or (pt_not (pt_val (pe_cal c_is_within hr (by decide) rfl (pa_cons (pe_ix ix_tup (pv 1) pe_int (fun _ _ => rfl)) (pa_cons pe_int (pa_cons (pe_op op_sub (pv 0) pe_int) pa_nil)))))) (pw_or1 (pt_not (pt_val (pe_cal c_is_within hr (by decide) rfl (pa_cons (pe_ix ix_tup (pv 1) pe_int (fun _ _ => rfl)) (pa_cons pe_int (pa_cons (pe_op op_sub (pv 0) pe_int) pa_nil))))))))) (pss_one (ps_ret pe_bl)) pss_nil)
      (pss_one (ps_ret (pe_cmpR op_lt (pe_ix ix_tup (pv 1) pe_int (fun _ _ => rfl)) (pe_ix ix_tup (pv 1) pe_int (fun _ _ => rfl)) (nomark _)))))), ?_⟩
  have hn : ∀ {Hb1 : Hp}, Ex T Hb Hb1 → EvD T (tVar 0) (start ["many", "thing"] [x0, x1]) Hb1 (dn n) := fun e => ev_var rfl (a0.mono e)
  have ht : ∀ {Hb1 : Hp}, Ex T Hb Hb1 → EvD T (tVar 1) (start ["many", "thing"] [x0, x1]) Hb1 (dTie p) := fun e => ev_var rfl (a1.mono e)
  have e0 : Ex T Hb Hb := .refl e.t1
  refine q_no ((et_or (et_not (et_B (ev_cb (ea_cons (ht e0) (ea_cons ev_c ea_nil)) (cv_isT (k := true) (by decide +kernel))))) fun _ => et_test (ev_op (ev_cb (ea_cons (ht e0) ea_nil) cv_lenT) ev_c (rv_ne rfl))).is rfl) e fun Hb1 H1 s1 => ?_
  have g1 : ∀ {Hb1 : Hp}, Ex T Hb Hb1 → EvD T (tOp (rIxT K) (tVar 1) (tC (.int 0))) (start ["many", "thing"] [x0, x1]) Hb1 (dn p.1) := fun e => ev_op (ht e) ev_c (rv_ixT (n := 0) rfl)
  have g2 : ∀ {Hb1 : Hp}, Ex T Hb Hb1 → EvD T (tOp (rIxT K) (tVar 1) (tC (.int 1))) (start ["many", "thing"] [x0, x1]) Hb1 (dn p.2) := fun e => ev_op (ht e) ev_c (rv_ixT (n := 1) rfl)
  refine q_no ((et_or (et_not (et_B (ev_call (ea_cons (g1 s1.e1) (ea_cons ev_c (ea_cons (ev_op (hn s1.e1) ev_c rv_I0) ea_nil))) ⟨(p.1 : Int), 0, (n : Int) - 1, rfl, by omega, by omega, rfl⟩)))
    fun _ => et_not (et_B (ev_call (ea_cons (g2 s1.e1) (ea_cons ev_c (ea_cons (ev_op (hn s1.e1) ev_c rv_I0) ea_nil))) ⟨(p.2 : Int), 0, (n : Int) - 1, rfl, by omega, by omega, rfl⟩))).is rfl) s1.e2 fun Hb2 H2 s2 => ?_
  have e2 := s1.e1.trans s2.e1
  refine s_ret ((ev_op (g1 e2) (g2 e2) rv_I0).is ?_) s2.e2 fun v Hb' H' s a => q v Hb' H' ((s1.trans s2).trans s) a
  rw [decide_eq_true (show (p.1 : Int) < (p.2 : Int) by omega)]
/-! ### look_at_web -/
abbrev s_look_at_web : Stmt := topS 11
abbrev n_look_at_web : List Str := ["thing", "many", "ties", "ahead", "number", "tie"]
theorem sc_look_at_web : FnScope n_look_at_web ["thing"] (defScope s_look_at_web) := ⟨rfl, rfl, rfl, by decide +kernel, rfl, by decide +kernel, by decide +kernel⟩
def A_look_at_web (ds : List Da) (d : Da) : Prop := ∃ W : Web, ds = [dWeb W] ∧ WebOk W ∧ d = .v .non
theorem rv_leT {a b c d : Int} (h : c < a ∨ (c = a ∧ d < b)) : RvD T (rLeT K) (.t [dI a, dI b]) (.t [dI c, dI d]) (.v (.bl false)) := fun Hb Hc x y e a1 a2 Q q => by
  obtain ⟨p, us, rfl, h2, h3⟩ := (show ∃ a' us, x = .ref a' ∧ Hb a' = some (.tup us) ∧ AtL Hb [dI a, dI b] us from a1)
  obtain ⟨p', us', rfl, h2', h3'⟩ := (show ∃ a' us, y = .ref a' ∧ Hb a' = some (.tup us) ∧ AtL Hb [dI c, dI d] us from a2)
  have h3 := AtL.flat_eq (xs := [.int a, .int b]) h3
  have h3' := AtL.flat_eq (xs := [.int c, .int d]) h3'
  subst h3
  subst h3'
  refine ⟨p, p', [a, b], [c, d], rfl, rfl, sqT (e.at h2 True.intro), sqT (e.at h2' True.intro), ?_⟩
  have hv : (Ob.lexAt (fun j => decide (([a, b] : List Int).getD j 0 = ([c, d] : List Int).getD j 0)) (fun j => decide (([a, b] : List Int).getD j 0 ≤ ([c, d] : List Int).getD j 0)) (decide (([a, b] : List Int).length ≤ ([c, d] : List Int).length)) 0 (min ([a, b] : List Int).length ([c, d] : List Int).length)) = false := by
    show (if decide (a = c) = true then (if decide (b = d) = true then decide (2 ≤ 2) else decide (b ≤ d)) else decide (a ≤ c)) = false
    rcases h with h | ⟨h, h'⟩
    · rw [decide_eq_false (show ¬ a = c by omega), if_neg Bool.false_ne_true, decide_eq_false (show ¬ a ≤ c by omega)]
    · rw [decide_eq_true (show a = c from h.symm), if_pos rfl, decide_eq_false (show ¬ b = d by omega), if_neg Bool.false_ne_true, decide_eq_false (show ¬ b ≤ d by omega)]
  rw [hv]
  exact q _ Hb Hc (.refl e) rfl
theorem dTie_eq (p : Nat × Nat) : dTie p = .t [dI p.1, dI p.2] := rfl
theorem ok_look_at_web (D : Df K mg "look_at_web" s_look_at_web) (c_is_within : Cal P w K mg base "is_within" 2 ["thing", "least", "most"] (Pm T A_is_within)) (c_is_tie : Cal P w K mg base "is_tie" 3 ["many", "thing"] (Pm T A_is_tie))
    (m_isinstance : mg "isinstance" = none) (m_tuple : mg "tuple" = none) (m_list : mg "list" = none) (m_len : mg "len" = none) (m_enumerate : mg "enumerate" = none) (t1 t2 : Tok) (k_MOST_PLACES : mg "MOST_PLACES" = some (.int 40 t1)) (k_MOST_TIES : mg "MOST_TIES" = some (.int 120 t2)) : Cal P w K mg base "look_at_web" 4 ["thing"] (Pm T A_look_at_web) := by
  refine mk_pm D sc_look_at_web (fun ds d ⟨W, h, _⟩ => by rw [h]; rfl) (fun _ _ _ _ _ _ us hl => match us, hl with | [_], _ => rfl) fun f cdv Ar outer s H vs Q E hr Hb ds d e a hA q => ?_
  obtain ⟨W, rfl, ok, rfl⟩ := hA
  obtain ⟨x0, r0, rfl, a0, a2⟩ := (show ∃ u r, vs = u :: r ∧ (dWeb W).At Hb u ∧ AtL Hb [] r from a)
  have a2 : r0 = [] := a2
  subst a2
  have nd := sc_look_at_web.nd
  refine ⟨_, (pss_cons (ps_if (PW.pt (pw_or (pt_not (pt_val (pe_callB call_isi (by rfl) m_isinstance (by decide +kernel) (pa_cons (pv 0) (pa_cons (pe_bltn (v := .ty "tuple") rfl m_tuple (by decide +kernel) rfl) pa_nil))))) (pw_or1 (pt_cmpR op_ne (pe_callB call_len_seq (by rfl) m_len PySem.boot_len (pa_cons (pv 0) pa_nil)) pe_int (nomark _))))) (pss_one ps_never) pss_nil)
      (pss_cons (ps_asg (pv 0) (pg_tup rfl (pgs_cons (pg_name (i := 1) nd rfl (Or.inl rfl)) (pgs_cons (pg_name (i := 2) nd rfl (Or.inl rfl)) pgs_nil))))
      (pss_cons (ps_if (pt_not (pt_val (pe_cal c_is_within hr (by decide) rfl (pa_cons (pv 1) (pa_cons pe_int (pa_cons (pe_glob (v := .int 40) rfl k_MOST_PLACES ⟨_, rfl⟩) pa_nil)))))) (pss_one ps_never) pss_nil)
      (pss_cons (ps_if (PW.pt (pw_or (pt_not (pt_val (pe_callB call_isi (by rfl) m_isinstance (by decide +kernel) (pa_cons (pv 2) (pa_cons (pe_bltn (v := .ty "list") rfl m_list (by decide +kernel) rfl) pa_nil))))) (pw_or1 (pt_cmpR op_gt (pe_callB call_len_seq (by rfl) m_len PySem.boot_len (pa_cons (pv 2) pa_nil)) (pe_glob (v := .int 120) rfl k_MOST_TIES ⟨_, rfl⟩) (nomark _))))) (pss_one ps_never) pss_nil)
      (pss_cons (ps_set (i := 3) nd rfl (Or.inl rfl) (pe_tup (pa_cons (pe_un un_neg pe_int) (pa_cons (pe_un un_neg pe_int) pa_nil))))
      (pss_one (ps_for PassesOwn.never rfl (pi_enum (by rfl) m_enumerate (pa_cons (pv 2) pa_nil)) (pg_tup rfl (pgs_cons (pg_name (i := 4) nd rfl (Or.inl rfl)) (pgs_cons (pg_name (i := 5) nd rfl (Or.inl rfl)) pgs_nil))) (pss_cons (ps_if (PW.pt (pw_or (pt_not (pt_val (pe_cal c_is_tie hr (by decide) rfl (pa_cons (pv 1) (pa_cons (pv 5) pa_nil))))) (pw_or1 (pt_cmpR (op_leT hr.units0) (pv 5) (pv 3) (nomark _))))) (pss_one ps_never) pss_nil)
      (pss_one (ps_set (i := 3) nd rfl (Or.inl rfl) (pv 5))))))))))), ?_⟩
  have hx : EvD T (tVar 0) (start n_look_at_web [x0]) Hb (dWeb W) := ev_var rfl a0
  -- the tuple
  refine q_no ((et_or (et_not (et_B (ev_cb (ea_cons hx (ea_cons ev_c ea_nil)) (cv_isT (k := true) (by decide +kernel))))) fun _ => et_test (ev_op (ev_cb (ea_cons hx ea_nil) cv_lenT) ev_c (rv_ne rfl))).is rfl) e fun Hb1 H1 s1 => ?_
  -- many, ties = thing
  obtain ⟨p, us, rfl, h2, h3⟩ := (show ∃ a' us, x0 = .ref a' ∧ Hb a' = some (.tup us) ∧ AtL Hb [dn W.n, .l (W.ts.map dTie)] us from a0)
  obtain ⟨x1, r1, rfl, a1, x2, r2, rfl, a2, a3⟩ := (show ∃ u r, us = u :: r ∧ (dn W.n).At Hb u ∧ ∃ u2 r2, r = u2 :: r2 ∧ (Da.l (W.ts.map dTie)).At Hb u2 ∧ AtL Hb [] r2 from h3)
  have a3 : r2 = [] := a3
  subst a3
  have a1 : x1 = .int (W.n : Int) := a1
  subst a1
  refine ⟨.ref p, rfl, p, _, rfl, sqT ((s1.e1.trans s1.e2).at h2 True.intro), rfl, _, _, rfl, _, _, rfl, rfl, ?_⟩
  -- many
  refine q_no ((et_not (et_B (ev_call (ea_cons (ev_var (d := dn W.n) rfl rfl) (ea_cons ev_c (ea_cons ev_c ea_nil))) ⟨(W.n : Int), 1, 40, rfl, by have := ok.pos; omega, by have := ok.most; omega, rfl⟩))).is rfl) s1.e2 fun Hb2 H2 s2 => ?_
  have E2 := s1.e1.trans s2.e1
  have hy : EvD T (tVar 2) [some (.ref p), some (.int (W.n : Int)), some x2, none, none, none] Hb2 (.l (W.ts.map dTie)) := ev_var rfl (a2.mono E2)
  -- ties
  refine q_no (EvT.is (et_or (et_not (et_B (ev_cb (ea_cons hy (ea_cons ev_c ea_nil)) (cv_isL (k := true) (by decide +kernel))))) fun _ => et_test (b := decide ((120 : Int) < (((W.ts.map dTie).length : Nat) : Int))) (ev_op (ev_cb (ea_cons hy ea_nil) cv_len) ev_c rv_I0)) ?_) s2.e2 fun Hb3 H3 s3 => ?_
  · rw [decide_eq_false (show ¬ (120 : Int) < (((W.ts.map dTie).length : Nat) : Int) by rw [List.length_map]; have := ok.few; omega)]
    rfl
  have E3 := E2.trans s3.e1
  -- ahead
  refine q_asg (d := .t [dI (-1), dI (-1)]) (ev_tup (ea_cons (ev_neg ev_c) (ea_cons (ev_neg ev_c) ea_nil)) (by decide)) s3.e2 fun x3 Hb4 H4 s4 a4 => ?_
  have E4 := E3.trans s4.e1
  have S4 := ((s1.trans s2).trans s3).trans s4
  refine s_for (src_enum (ea_cons (ev_var rfl (a2.mono E4)) ea_nil)) s4.e2 (fun i σ Hb' Hc' => Stp T Hb H Hb' Hc' ∧ ∃ y3 y4 y5, σ = [some (.ref p), some (.int (W.n : Int)), some x2, some y3, y4, y5] ∧ ∃ c d : Int, (Da.t [dI c, dI d]).At Hb' y3 ∧ ∀ q : Nat × Nat, W.ts[i]? = some q → (c < (q.1 : Int) ∨ (c = (q.1 : Int) ∧ d < (q.2 : Int))))
    (fun Hb5 H5 s5 => ⟨S4.trans s5, x3, none, none, rfl, -1, -1, a4.mono s5.e1, fun q _ => .inl (by omega)⟩) (fun i σ' Hb5 H5 vs Hb6 H6 hi x5 x6 hJ s6 a6 => ?_) (fun σ' Hb5 H5 x5 x6 hJ => ?_)
  · obtain ⟨S5, y3, y4, y5, rfl, c, d, hy3, hlt⟩ := hJ
    rw [List.length_map] at hi
    have hq : W.ts[i]? = some (W.ts.getD i (0, 0)) := get_lt hi _
    generalize W.ts.getD i (0, 0) = tq at hq
    have hqd : (W.ts.map dTie).getD i (.v .non) = dTie tq := by
      rw [List.getD_eq_getElem?_getD, List.getElem?_map, hq]
      rfl
    rw [hqd] at a6
    obtain ⟨z0, r0, rfl, b0, z1, r1, rfl, b1, b2⟩ := (show ∃ u r, vs = u :: r ∧ (dn i).At Hb6 u ∧ ∃ u2 r2, r = u2 :: r2 ∧ (dTie tq).At Hb6 u2 ∧ AtL Hb6 [] r2 from a6)
    have hm : tq ∈ W.ts := List.mem_of_getElem? hq
    obtain ⟨t1, t2⟩ := ok.tie tq hm
    refine q_no (EvT.is (et_or (et_not (et_B (ev_call (ea_cons (ev_var (d := dn W.n) rfl rfl) (ea_cons (ev_var rfl b1) ea_nil)) ⟨W.n, tq, rfl, t1, t2, rfl⟩))) fun _ => et_test (ev_op (dx := .t [dI tq.1, dI tq.2]) (ev_var rfl b1) (ev_var rfl (hy3.mono s6.e1)) (rv_leT (hlt tq hq)))) rfl) s6.e2 fun Hb7 H7 s7 => ?_
    refine s_asg (d := dTie tq) (ev_var rfl (b1.mono s7.e1)) s7.e2 fun u Hb8 H8 s8 a8 => ?_
    refine ⟨Hb8, (s6.e1.trans s7.e1).trans s8.e1, s8.e2, ((S5.trans s6).trans s7).trans s8, u, _, _, rfl, tq.1, tq.2, a8, fun q2 h2 => ?_⟩
    have := List.pairwise_iff_getElem.mp ok.rise i (i + 1) hi (lt_of_get h2) (by omega)
    rw [List.getElem?_eq_getElem hi] at hq
    rw [List.getElem?_eq_getElem (lt_of_get h2)] at h2
    rw [Option.some.inj hq, Option.some.inj h2] at this
    rcases this with h | ⟨h, h'⟩
    · exact .inl (by omega)
    · exact .inr ⟨by omega, by omega⟩
  · exact q .non Hb5 H5 hJ.1 rfl
end
end K68
end

section
namespace K68
open PySem PySem.Spec PyProof.Rows L2
section
variable {P : Program} {w : World} {K : PySem.W.Frag} {mg : Str → Option Value} {base : Heap} {T : Addr × Str}
theorem at1 {H : Hp} {a : Da} {vs : List V} (h : AtL H [a] vs) : ∃ x, vs = [x] ∧ a.At H x := by
  obtain ⟨x, r, rfl, h1, h2⟩ := (show ∃ u r, vs = u :: r ∧ a.At H u ∧ AtL H [] r from h)
  have h2 : r = [] := h2
  exact ⟨x, by rw [h2], h1⟩
theorem at2 {H : Hp} {a b : Da} {vs : List V} (h : AtL H [a, b] vs) : ∃ x y, vs = [x, y] ∧ a.At H x ∧ b.At H y := by
  obtain ⟨x, r, rfl, h1, h2⟩ := (show ∃ u r, vs = u :: r ∧ a.At H u ∧ AtL H [b] r from h)
  obtain ⟨y, rfl, h3⟩ := at1 h2
  exact ⟨x, y, rfl, h1, h3⟩
theorem at3 {H : Hp} {a b c : Da} {vs : List V} (h : AtL H [a, b, c] vs) : ∃ x y z, vs = [x, y, z] ∧ a.At H x ∧ b.At H y ∧ c.At H z := by
  obtain ⟨x, r, rfl, h1, h2⟩ := (show ∃ u r, vs = u :: r ∧ a.At H u ∧ AtL H [b, c] r from h)
  obtain ⟨y, z, rfl, h3, h4⟩ := at2 h2
  exact ⟨x, y, z, rfl, h1, h3, h4⟩
theorem at4 {H : Hp} {a b c d : Da} {vs : List V} (h : AtL H [a, b, c, d] vs) : ∃ x y z u, vs = [x, y, z, u] ∧ a.At H x ∧ b.At H y ∧ c.At H z ∧ d.At H u := by
  obtain ⟨x, r, rfl, h1, h2⟩ := (show ∃ u r, vs = u :: r ∧ a.At H u ∧ AtL H [b, c, d] r from h)
  obtain ⟨y, z, u, rfl, h3, h4, h5⟩ := at3 h2
  exact ⟨x, y, z, u, rfl, h1, h3, h4, h5⟩
theorem getD_map {α : Type} {f : α → Da} {l : List α} {i : Nat} {a : α} (h : l[i]? = some a) : (l.map f).getD i (.v .non) = f a := by
  rw [List.getD_eq_getElem?_getD, List.getElem?_map, h]
  rfl
theorem get_some {α : Type} {l : List α} {i : Nat} (h : i < l.length) : ∃ a, l[i]? = some a := ⟨_, List.getElem?_eq_getElem h⟩
/-! ### look_at_webs -/
abbrev s_look_at_webs : Stmt := topS 15
abbrev n_look_at_webs : List Str := ["thing", "number", "web"]
theorem sc_look_at_webs : FnScope n_look_at_webs ["thing"] (defScope s_look_at_webs) := ⟨rfl, rfl, rfl, by decide +kernel, rfl, by decide +kernel, by decide +kernel⟩
def A_look_at_webs (ds : List Da) (d : Da) : Prop := ∃ ws : List Web, ds = [dWebs ws] ∧ WebsOk ws ∧ d = .v .non
theorem ok_look_at_webs (D : Df K mg "look_at_webs" s_look_at_webs) (c_look_at_web : Cal P w K mg base "look_at_web" 4 ["thing"] (Pm T A_look_at_web))
    (m_isinstance : mg "isinstance" = none) (m_list : mg "list" = none) (m_len : mg "len" = none) (m_enumerate : mg "enumerate" = none) (t1 : Tok) (k_MOST_WEBS : mg "MOST_WEBS" = some (.int 12 t1)) : Cal P w K mg base "look_at_webs" 5 ["thing"] (Pm T A_look_at_webs) := by
  refine mk_pm D sc_look_at_webs (fun ds d ⟨W, h, _⟩ => by rw [h]; rfl) (fun _ _ _ _ _ _ us hl => match us, hl with | [_], _ => rfl) fun f cdv Ar outer s H vs Q E hr Hb ds d e a hA q => ?_
  obtain ⟨ws, rfl, ok, rfl⟩ := hA
  obtain ⟨x0, rfl, a0⟩ := at1 a
  have nd := sc_look_at_webs.nd
  refine ⟨_, (pss_cons (ps_if (PW.pt (pw_or (pt_not (pt_val (pe_callB (r := rIsi K) call_isi (by rfl) m_isinstance (by decide +kernel) (pa_cons (pv 0) (pa_cons (pe_bltn (v := .ty "list") rfl m_list (by decide +kernel) rfl) pa_nil))))) (pw_or1 (pt_cmpR op_gt (pe_callB (r := rLen K) call_len_seq (by rfl) m_len PySem.boot_len (pa_cons (pv 0) pa_nil)) (pe_glob (v := .int 12) rfl k_MOST_WEBS ⟨_, rfl⟩) (nomark _))))) (pss_one ps_never) pss_nil)
      (pss_one (ps_for PassesOwn.never rfl (pi_enum (by rfl) m_enumerate (pa_cons (pv 0) pa_nil)) (pg_tup rfl (pgs_cons (pg_name (i := 1) nd rfl (Or.inl rfl)) (pgs_cons (pg_name (i := 2) nd rfl (Or.inl rfl)) pgs_nil))) (pss_one (ps_try_thru0 (pss_one (ps_expr (pe_cal c_look_at_web hr (by decide) rfl (pa_cons (pv 2) pa_nil))))))))), ?_⟩
  have hx : EvD T (tVar 0) (start n_look_at_webs [x0]) Hb (dWebs ws) := ev_var rfl a0
  refine q_no (EvT.is (et_or (et_not (et_B (ev_cb (ea_cons hx (ea_cons ev_c ea_nil)) (cv_isL (k := true) (by decide +kernel))))) fun _ => et_test (b := decide ((12 : Int) < (((ws.map dWeb).length : Nat) : Int))) (ev_op (ev_cb (ea_cons hx ea_nil) cv_len) ev_c rv_I0)) ?_) e fun Hb1 H1 s1 => ?_
  · rw [decide_eq_false (show ¬ (12 : Int) < (((ws.map dWeb).length : Nat) : Int) by rw [List.length_map]; have := ok.few; omega)]
    rfl
  refine s_for (src_enum (ea_cons (ev_var rfl (a0.mono s1.e1)) ea_nil)) s1.e2 (fun i σ Hb' Hc' => Stp T Hb H Hb' Hc' ∧ ∃ y1 y2, σ = [some x0, y1, y2])
    (fun Hb5 H5 s5 => ⟨s1.trans s5, none, none, rfl⟩) (fun i σ' Hb5 H5 vs Hb6 H6 hi x5 x6 hJ s6 a6 => ?_) (fun σ' Hb5 H5 x5 x6 hJ => ?_)
  · obtain ⟨S5, y1, y2, rfl⟩ := hJ
    rw [List.length_map] at hi
    obtain ⟨W, hW⟩ := get_some hi
    rw [getD_map hW] at a6
    obtain ⟨z0, z1, rfl, b0, b1⟩ := at2 a6
    refine s_drop (ev_call (ea_cons (ev_var rfl b1) ea_nil) ⟨W, rfl, ok.ok W (List.mem_of_getElem? hW), rfl⟩) s6.e2 fun Hb7 H7 s7 => ?_
    exact ⟨Hb7, s6.e1.trans s7.e1, s7.e2, (S5.trans s6).trans s7, _, _, rfl⟩
  · exact q .non Hb5 H5 hJ.1 rfl
/-! ### is_row_in -/
abbrev s_is_row_in : Stmt := topS 16
abbrev n_is_row_in : List Str := ["webs", "thing", "place", "web"]
theorem sc_is_row_in : FnScope n_is_row_in ["webs", "thing"] (defScope s_is_row_in) := ⟨rfl, rfl, rfl, by decide +kernel, rfl, by decide +kernel, by decide +kernel⟩
def A_is_row_in (ds : List Da) (d : Da) : Prop := ∃ (ws : List Web) (r : List Nat), ds = [dWebs ws, dNL r] ∧ RowOk ws r ∧ ws.length ≤ 12 ∧ d = .v (.bl true)
theorem RowOk.get : ∀ {ws : List Web} {as : List Nat} {i : Nat} {w : Web} {a : Nat}, RowOk ws as → ws[i]? = some w → as[i]? = some a → a < w.n
  | w :: ws, a :: as, 0, w', a', h, h1, h2 => by
    rw [← Option.some.inj h1, ← Option.some.inj h2]
    exact h.1
  | w :: ws, a :: as, i + 1, w', a', h, h1, h2 => RowOk.get (i := i) h.2 h1 h2
  | [], [], i, w', a', h, h1, h2 => by cases h1
theorem ok_is_row_in (D : Df K mg "is_row_in" s_is_row_in) (c_is_whole : Cal P w K mg base "is_whole" 1 ["thing"] (Pm T A_is_whole))
    (m_isinstance : mg "isinstance" = none) (m_list : mg "list" = none) (m_len : mg "len" = none) (m_zip : mg "zip" = none) (m_all : mg "all" = none) : Cal P w K mg base "is_row_in" 2 ["webs", "thing"] (Pm T A_is_row_in) := by
  refine mk_pm D sc_is_row_in (fun ds d ⟨_, _, h, _⟩ => by rw [h]; rfl) (fun _ _ _ _ _ _ us hl => match us, hl with | [_, _], _ => rfl) fun f cdv Ar outer s H vs Q E hr Hb ds d e a hA q => ?_
  obtain ⟨ws, r, rfl, ok, few, rfl⟩ := hA
  obtain ⟨x0, x1, rfl, a0, a1⟩ := at2 a
  have nd := sc_is_row_in.nd
  refine ⟨_, (pss_cons (ps_if (PW.pt (pw_or (pt_not (pt_val (pe_callB (r := rIsi K) call_isi (by rfl) m_isinstance (by decide +kernel) (pa_cons (pv 1) (pa_cons (pe_bltn (v := .ty "list") rfl m_list (by decide +kernel) rfl) pa_nil))))) (pw_or1 (pt_cmpR op_ne (pe_callB (r := rLen K) call_len_seq (by rfl) m_len PySem.boot_len (pa_cons (pv 1) pa_nil)) (pe_callB (r := rLen K) call_len_seq (by rfl) m_len PySem.boot_len (pa_cons (pv 0) pa_nil)) (nomark _))))) (pss_one (ps_ret pe_bl)) pss_nil)
      (pss_one (ps_ret (pe_callB (r := rAll K) (cr_all rfl) (by rfl) m_all (by decide +kernel) (pa_cons (pe_lc (own := [("place", 2), ("web", 3)]) (g := g2 K 2 3) rfl nd (pi_zip (by rfl) m_zip (pa_cons (pv 1) (pa_cons (pv 0) pa_nil))) (blkOk_by (own := [("place", 2), ("web", 3)]) (N := n_is_row_in) (sc := (defScope s_is_row_in)) (by decide +kernel)) (fun _ _ _ _ _ => (pg_tup rfl (pgs_cons (pg_name (i := 2) nd rfl (Or.inl rfl) (hf := Or.inr rfl)) (pgs_cons (pg_name (i := 3) nd rfl (Or.inl rfl) (hf := Or.inr rfl)) pgs_nil)))) (fun _ _ _ _ _ => pts_nil) (fun _ _ _ _ _ => (pe_and (pe_cal c_is_whole hr (by decide) rfl (pa_cons (pv 2) pa_nil)) (pe_one (pe_chain op_le op_lt pe_int (pv 2) (pe_ix (r := rIxT K) ix_tup (pv 3) pe_int (fun _ _ => rfl))))))) pa_nil))))), ?_⟩
  have hx : EvD T (tVar 0) (start n_is_row_in [x0, x1]) Hb (dWebs ws) := ev_var rfl a0
  have hy : EvD T (tVar 1) (start n_is_row_in [x0, x1]) Hb (dNL r) := ev_var rfl a1
  have hl : (r.map dn).length = (ws.map dWeb).length := by rw [List.length_map, List.length_map, ok.len]
  refine q_no (EvT.is (et_or (et_not (et_B (ev_cb (ea_cons hy (ea_cons ev_c ea_nil)) (cv_isL (k := true) (by decide +kernel))))) fun _ => et_test (b := false) (EvD.is (ev_op (ev_cb (ea_cons hy ea_nil) cv_len) (ev_cb (ea_cons hx ea_nil) cv_len) (rv_ne rfl)) ?_)) rfl) e fun Hb1 H1 s1 => ?_
  · rw [hl, decide_eq_true rfl]
    rfl
  refine s_ret (ev_cb (ea_cons (EvD.is (d := .l (((List.replicate ws.length true).map V.bl).map Da.v)) (ev_lc (fun _ => true) (fun _ => .v (.bl true)) (src_zip (ea_cons (ev_var rfl (a1.mono s1.e1)) (ea_cons (ev_var rfl (a0.mono s1.e1)) ea_nil))) ?_ fun i vs Hb2 hi e2 a2 => ?_) ?_) ea_nil) (cv_all (bs := List.replicate ws.length true))) s1.e2 fun v Hb' H' s a => ?_
  · rw [hl, Nat.min_self, List.length_map]
    omega
  · rw [hl, Nat.min_self, List.length_map] at hi
    obtain ⟨W, hW⟩ := get_some hi
    obtain ⟨p, hp⟩ := get_some (l := r) (i := i) (by rw [ok.len]; exact hi)
    rw [getD_map hW, getD_map hp] at a2
    obtain ⟨z0, z1, rfl, b0, b1⟩ := at2 a2
    have hlt := ok.get hW hp
    refine ⟨rfl, et_yes, fun _ => EvD.is (ev_andV (ev_call (ea_cons (ev_var rfl b0) ea_nil) ⟨(p : Int), rfl, rfl⟩) fun _ => ev_chain (b := decide ((0 : Int) ≤ (p : Int))) (c := decide ((p : Int) < (W.n : Int))) ev_c (ev_var rfl b0) rv_I0 (fun _ => ev_op (ev_var rfl b1) ev_c (rv_ixT (n := 0) rfl)) fun _ => rv_I0) ?_⟩
    rw [decide_eq_true (show (0 : Int) ≤ (p : Int) by omega), decide_eq_true (show (p : Int) < (W.n : Int) by omega)]
    rfl
  · rw [hl, Nat.min_self, List.length_map, given_all, List.map_map]
    congr 1
    rw [List.map_replicate, List.map_const', List.length_range]
    rfl
  · rw [show (List.replicate ws.length true).all id = true by simp] at a
    exact q v Hb' H' (s1.trans s) a
/-! ### look_at_row -/
abbrev s_look_at_row : Stmt := topS 17
abbrev n_look_at_row : List Str := ["webs", "thing"]
theorem sc_look_at_row : FnScope n_look_at_row ["webs", "thing"] (defScope s_look_at_row) := ⟨rfl, rfl, rfl, by decide +kernel, rfl, by decide +kernel, by decide +kernel⟩
def A_look_at_row (ds : List Da) (d : Da) : Prop := ∃ (ws : List Web) (r : List Nat), ds = [dWebs ws, dNL r] ∧ RowOk ws r ∧ ws.length ≤ 12 ∧ d = .v .non
theorem ok_look_at_row (D : Df K mg "look_at_row" s_look_at_row) (c_is_row_in : Cal P w K mg base "is_row_in" 2 ["webs", "thing"] (Pm T A_is_row_in)) : Cal P w K mg base "look_at_row" 3 ["webs", "thing"] (Pm T A_look_at_row) := by
  refine mk_pm D sc_look_at_row (fun ds d ⟨_, _, h, _⟩ => by rw [h]; rfl) (fun _ _ _ _ _ _ us hl => match us, hl with | [_, _], _ => rfl) fun f cdv Ar outer s H vs Q E hr Hb ds d e a hA q => ?_
  obtain ⟨ws, r, rfl, ok, few, rfl⟩ := hA
  obtain ⟨x0, x1, rfl, a0, a1⟩ := at2 a
  refine ⟨_, (pss_one (ps_if (pt_not (pt_val (pe_cal c_is_row_in hr (by decide) rfl (pa_cons (pv 0) (pa_cons (pv 1) pa_nil))))) (pss_one ps_never) pss_nil)), ?_⟩
  exact s_no (EvT.is (et_not (et_B (ev_call (ea_cons (ev_var rfl a0) (ea_cons (ev_var rfl a1) ea_nil)) ⟨ws, r, rfl, ok, few, rfl⟩))) rfl) e fun Hb1 H1 s1 => q .non Hb1 H1 s1 rfl
/-! ### look_at_rows -/
abbrev s_look_at_rows : Stmt := topS 26
abbrev n_look_at_rows : List Str := ["webs", "rows", "row"]
theorem sc_look_at_rows : FnScope n_look_at_rows ["webs", "rows"] (defScope s_look_at_rows) := ⟨rfl, rfl, rfl, by decide +kernel, rfl, by decide +kernel, by decide +kernel⟩
def A_look_at_rows (ds : List Da) (d : Da) : Prop := ∃ (ws : List Web) (rs : List (List Nat)), ds = [dWebs ws, .t (rs.map dNL)] ∧ WebsOk ws ∧ (∀ r ∈ rs, RowOk ws r) ∧ d = .v .non
theorem ok_look_at_rows (D : Df K mg "look_at_rows" s_look_at_rows) (c_look_at_webs : Cal P w K mg base "look_at_webs" 5 ["thing"] (Pm T A_look_at_webs)) (c_look_at_row : Cal P w K mg base "look_at_row" 3 ["webs", "thing"] (Pm T A_look_at_row)) :
    Cal P w K mg base "look_at_rows" 6 ["webs", "rows"] (Pm T A_look_at_rows) := by
  refine mk_pm D sc_look_at_rows (fun ds d ⟨_, _, h, _⟩ => by rw [h]; rfl) (fun _ _ _ _ _ _ us hl => match us, hl with | [_, _], _ => rfl) fun f cdv Ar outer s H vs Q E hr Hb ds d e a hA q => ?_
  obtain ⟨ws, rs, rfl, ok, rok, rfl⟩ := hA
  obtain ⟨x0, x1, rfl, a0, a1⟩ := at2 a
  have nd := sc_look_at_rows.nd
  refine ⟨_, (pss_cons (ps_expr (pe_cal c_look_at_webs hr (by decide) rfl (pa_cons (pv 0) pa_nil)))
      (pss_one (ps_for PassesOwn.never rfl (pi_tup (pv 1)) (pg_name (i := 2) nd rfl (Or.inl rfl)) (pss_one (ps_expr (pe_cal c_look_at_row hr (by decide) rfl (pa_cons (pv 0) (pa_cons (pv 2) pa_nil)))))))), ?_⟩
  refine q_drop (ev_call (ea_cons (ev_var rfl a0) ea_nil) ⟨ws, rfl, ok, rfl⟩) e fun Hb1 H1 s1 => ?_
  refine s_for (src_tup (ev_var rfl (a1.mono s1.e1))) s1.e2 (fun i σ Hb' Hc' => Stp T Hb H Hb' Hc' ∧ ∃ y2, σ = [some x0, some x1, y2])
    (fun Hb5 H5 s5 => ⟨s1.trans s5, none, rfl⟩) (fun i σ' Hb5 H5 vs Hb6 H6 hi x5 x6 hJ s6 a6 => ?_) (fun σ' Hb5 H5 x5 x6 hJ => ?_)
  · obtain ⟨S5, y2, rfl⟩ := hJ
    rw [List.length_map] at hi
    obtain ⟨r, hr2⟩ := get_some hi
    rw [getD_map hr2] at a6
    obtain ⟨z0, rfl, b0⟩ := at1 a6
    refine s_drop (ev_call (ea_cons (ev_var rfl ((a0.mono (s1.e1.trans x5)).mono s6.e1)) (ea_cons (ev_var rfl b0) ea_nil)) ⟨ws, r, rfl, rok r (List.mem_of_getElem? hr2), ok.few, rfl⟩) s6.e2 fun Hb7 H7 s7 => ?_
    exact ⟨Hb7, s6.e1.trans s7.e1, s7.e2, (S5.trans s6).trans s7, _, rfl⟩
  · exact q .non Hb5 H5 hJ.1 rfl
end
end K68
end

section
/-! K68Stm2: new objects of one's own, sources as they stand, telling many. -/
namespace K68
open PySem PySem.Spec PyProof.Rows L2
section
variable {T : Addr × Str} {K : PySem.W.Frag}
variable {σ : L2.St} {Hb Hb' Hb1 Hc H H1 Hx : Hp} {te ta tb tc tl : TE} {tt : TT} {tA tr : TA} {wi : TI} {g : TG} {n : Nat} {js : List Nat} {rs : Nat → List Da} {d dx dy dz : Da} {ds es : List Da} {x y : V} {b c : Bool} {p q : Addr} {o u : HO}
/-- a step whose told part is let go -/
theorem Stp.drop (a : Stp T Hx H Hb1 H1) (e : Ex T Hb H) : Stp T Hb H Hb H1 := ⟨.refl e.t1, e.trans a.e3, a.e3, fun _ _ h _ _ => h⟩
theorem Ex.self (e : Ex T Hb H) : Ex T H H := .refl e.t2
/-- a new list, one's own -/
def EvN (T : Addr × Str) (te : TE) (σ : L2.St) (Hb : Hp) (ds : List Da) : Prop :=
  ∀ Hb1 Hc, Ex T Hb Hb1 → Ex T Hb1 Hc → ∀ Q : VK, (∀ p us Hb2 Hc2, Stp T Hb1 Hc Hb2 Hc2 → Hc p = none → Hb2 p = none → Hc2 p = some (.lst us) → AtL Hb2 ds us → Q (.ref p) Hc2) → te σ Hc Q
theorem en_lst (h : EvA T tA σ Hb ds) (hl : ds.length ≤ 100000) : EvN T (tLst tA) σ Hb ds := fun Hb1 Hc e1 e2 Q q =>
  h Hb1 Hc e1 e2 _ fun vs H2 Hc2 s1 a1 => ⟨sz_of (by rw [a1.length]; exact hl), fun p hp => q p vs H2 _ (s1.own hp) (s1.fresh hp) (s1.e2.none hp) upd_same a1⟩
theorem en_rep {k : Nat} (ha : EvD T ta σ Hb (.l [d])) (hb : EvD T tb σ Hb (dn k)) (hk : k ≤ 100000) : EvN T (tOp rRep ta tb) σ Hb (List.replicate k d) := fun Hb1 Hc e1 e2 Q q =>
  ha Hb1 Hc e1 e2 _ fun x H2 Hc2 s1 a1 => hb H2 Hc2 (e1.trans s1.e1) s1.e2 _ fun y H3 Hc3 s2 a2 => by
    obtain ⟨a, us, rfl, h2, h3⟩ := (show ∃ a us, x = .ref a ∧ H2 a = some (.lst us) ∧ AtL H2 [d] us from a1)
    have ek : ((k : Int)).toNat = k := Int.toNat_natCast k
    have e : Ex T H2 Hc3 := s2.e1.trans s2.e2
    refine ⟨a, (k : Int), us, rfl, a2, e.at h2 True.intro, by omega, by omega, sz_of (by rw [ek, h3.length, List.length_singleton, Nat.one_mul]; exact hk), fun p hp => ?_⟩
    rw [ek]
    refine q p _ H3 _ ((s1.trans s2).own hp) ((s1.trans s2).fresh hp) (s2.e2.none hp) upd_same ?_
    rw [← rep_one]
    exact (h3.mono s2.e1).flatten k
/-- a comprehension's list, kept to oneself -/
theorem en_lc {ws : List Nat} (f : Nat → Bool) (v : Nat → Da) (src : SrcD T wi g σ Hb n js rs) (hn : n ≤ 50000)
    (turn : ∀ i vs Hb1, i < n → Ex T Hb Hb1 → AtL Hb1 (rs i) vs → wipe (sets (wipe σ ws) js vs) ws = wipe σ ws ∧ EvT T tt (sets (wipe σ ws) js vs) Hb1 (f i) ∧ (f i = true → EvD T te (sets (wipe σ ws) js vs) Hb1 (v i))) :
    EvN T (tLc wi g tt te ws) σ Hb (given n f v) := fun Hb1 Hc e1 e2 Q q => src Hb1 Hc e1 e2 _ fun J Hb2 Hc2 s1 G D hD => by
  refine ⟨fun i m H => m = n - i ∧ i ≤ n ∧ ∃ Hb' us, Stp T Hb2 Hc2 Hb' H ∧ Hb' D = none ∧ H D = some (.lst us) ∧ AtL Hb' (given i f v) us, ⟨n, rfl, Nat.zero_le _, Hb2, [], (Stp.refl s1.e2).own hD, s1.e2.none hD, upd_same, rfl⟩, ?_⟩
  rintro i m H ⟨rfl, hi, Hb', us, S, hb, hd, ha⟩
  obtain ⟨g1, g2⟩ := G i Hb' H S.e1 S.e2
  by_cases hlt : i < n
  · obtain ⟨go, step⟩ := g1 hlt
    refine .inr ⟨go, fun H' => ∃ Hb' us, Stp T Hb2 Hc2 Hb' H' ∧ Hb' D = none ∧ H' D = some (.lst us) ∧ AtL Hb' (given (i + 1) f v) us, fun H' hN => ⟨n - (i + 1), by omega, rfl, hlt, hN⟩, fun x H' y => ?_⟩
    refine step x H' y _ _ fun vs Hb5 Hc5 s5 a5 => ?_
    obtain ⟨t1, t2, t3⟩ := turn i vs Hb5 hlt ((e1.trans (s1.e1.trans S.e1)).trans s5.e1) a5
    refine ⟨t1, t2 Hb5 Hc5 (.refl s5.e1.t2) s5.e2 _ fun Hb6 Hc6 s6 => ?_⟩
    have hb5 := s5.hidden hb hd
    have hd5 := s5.kept hd True.intro
    have hb6 := s6.hidden hb5 hd5
    have hd6 := s6.kept hd5 True.intro
    cases hf : f i with
    | true =>
      show te _ Hc6 _
      refine t3 hf Hb6 Hc6 s6.e1 s6.e2 _ fun w Hb7 Hc7 s7 a7 => ?_
      have hb7 := s7.hidden hb6 hd6
      have hd7 := s7.kept hd6 True.intro
      have S7 := ((S.trans s5).trans s6).trans s7
      refine ⟨us, hd7, ?_, Hb7, us ++ [w], S7.mut hD hb7 hd7 True.intro, hb7, upd_same, ?_⟩
      · rw [ha.length]
        have := given_len i f v
        exact sz_lt (by omega)
      · rw [given_yes hf]
        exact (ha.mono ((s5.e1.trans s6.e1).trans s7.e1)).snoc a7
    | false =>
      show ∃ Hb' us, _
      refine ⟨Hb6, us, (S.trans s5).trans s6, hb6, hd6, ?_⟩
      rw [given_no hf]
      exact ha.mono (s5.e1.trans s6.e1)
  · have e : i = n := by omega
    subst e
    exact .inl ⟨g2 rfl, q D us Hb' H (s1.trans S) (s1.fresh hD) hb hd ha⟩
theorem EvN.told (h : EvN T te σ Hb ds) : EvD T te σ Hb (.l ds) := fun Hb1 Hc e1 e2 Q q => h Hb1 Hc e1 e2 _ fun p us H2 Hc2 s h0 hb hc a => q _ _ _ (s.tell h0 hb hc) ⟨p, us, rfl, upd_same, a.mono (Ex.new s.e1.t2 hb)⟩
variable {D : Ends} {tu tz tw : TS}
theorem s_new {i : Nat} (h : EvN T te σ Hb ds) (e : Ex T Hb Hc) (k : ∀ p us Hb' Hc', Stp T Hb Hc Hb' Hc' → Hc p = none → Hb' p = none → Hc' p = some (.lst us) → AtL Hb' ds us → D.nx (σ.set i (some (.ref p))) Hc') : tAsg te (gName i) D σ Hc := h Hb Hc (.refl e.t1) e _ k
theorem q_new {i : Nat} (h : EvN T te σ Hb ds) (e : Ex T Hb Hc) (k : ∀ p us Hb' Hc', Stp T Hb Hc Hb' Hc' → Hc p = none → Hb' p = none → Hc' p = some (.lst us) → AtL Hb' ds us → tz D (σ.set i (some (.ref p))) Hc') : tSeq (tAsg te (gName i)) tz D σ Hc := s_new (D := { D with nx := tz D }) h e k
/-! ### sources as they stand -/
def SrcAt (T : Addr × Str) (wi : TI) (g : TG) (σ : L2.St) (Hb Hc : Hp) (n : Nat) (js : List Nat) (rs : Nat → List Da) : Prop :=
  ∀ R : It → Hp → Prop, (∀ J Hb2 Hc2, Stp T Hb Hc Hb2 Hc2 → Gd T J g Hb2 n js rs → R J Hc2) → wi σ Hc R
theorem SrcD.now (h : SrcD T wi g σ Hb n js rs) (e : Ex T Hb Hc) : SrcAt T wi g σ Hb Hc n js rs := fun R q => h Hb Hc (.refl e.t1) e R q
theorem Gd.list {a : Addr} {us : List V} {j : Nat} (h2 : Hb a = some (.lst us)) (h3 : AtL Hb ds us) : Gd T (Itl K a) (gName j) Hb ds.length [j] (fun i => [ds.getD i (.v .non)]) := fun i Hb3 Hc3 e3 e4 => by
  have hs : SqL K Hc3 a us := sqL ((e3.trans e4).at h2 True.intro)
  refine ⟨fun hi => ?_, fun hi => ⟨us, hs, by rw [h3.length]; exact Nat.le_of_eq hi.symm⟩⟩
  obtain ⟨u, hu, hd⟩ := h3.get (get_lt hi (.v .non))
  refine ⟨⟨us, u, hs, hu⟩, fun x H4 y σ' Q k => ?_⟩
  obtain ⟨rfl, y2⟩ := y
  have ex : x = u := Option.some.inj ((y2 us hs).symm.trans hu)
  rw [ex]
  exact k [u] Hb3 H4 (.refl e4) (.cons (hd.mono e3) .nil)
/-- for .. in xs[e]: xs a told list of lists, e read off the heap as it stands -/
theorem src_ix {i j m : Nat} (hx : σ[i]? = some (some x)) (ha : (Da.l ds).At Hb x) (hi : EvD T tb σ Hc (dn m)) (hn : ds[m]? = some (.l es)) (e : Ex T Hb Hc) :
    SrcAt T (iList K (tOp (rIxL K) (tVar i) tb)) (gName j) σ Hb Hc es.length [j] (fun i => [es.getD i (.v .non)]) := fun R q => by
  refine ⟨x, hx, hi Hc Hc e.self e.self _ fun w Hb2 Hc2 s a => ?_⟩
  obtain ⟨p, us, rfl, h2, h3⟩ := (show ∃ a us, x = .ref a ∧ Hb a = some (.lst us) ∧ AtL Hb ds us from ha)
  obtain ⟨v, hv, hd⟩ := h3.get hn
  obtain ⟨p', us', rfl, h2', h3'⟩ := (show ∃ a us, v = .ref a ∧ Hb a = some (.lst us) ∧ AtL Hb es us from hd)
  have e2 : Ex T Hb Hc2 := e.trans s.e3
  refine ⟨p, us, (m : Int), .ref p', rfl, a, sqL (e2.at h2 True.intro), ?_, p', rfl, ⟨us', sqL (e2.at h2' True.intro)⟩, q _ Hb Hc2 (s.drop e) (Gd.list h2' h3')⟩
  show (ixN us.length (m : Int)).bind (fun j => us[j]?) = some (.ref p')
  rw [h3.length, ixN_nat (lt_of_get hn)]
  exact hv
theorem s_forA (src : SrcAt T wi g σ Hb Hc n js rs) (J : Nat → L2.St → Hp → Hp → Prop) (h0 : ∀ Hb1 Hc1, Stp T Hb Hc Hb1 Hc1 → J 0 σ Hb1 Hc1)
    (hs : ∀ i σ' Hb1 Hc1 vs Hb2 Hc2, i < n → Ex T Hb Hb1 → Ex T Hb1 Hc1 → J i σ' Hb1 Hc1 → Stp T Hb1 Hc1 Hb2 Hc2 → AtL Hb2 (rs i) vs →
      tu { D with nx := fun σ2 H2 => ∃ Hb3, Ex T Hb1 Hb3 ∧ Ex T Hb3 H2 ∧ J (i + 1) σ2 Hb3 H2, ct := fun σ2 H2 => ∃ Hb3, Ex T Hb1 Hb3 ∧ Ex T Hb3 H2 ∧ J (i + 1) σ2 Hb3 H2, bk := D.nx } (sets σ' js vs) Hc2)
    (hd : ∀ σ' Hb1 Hc1, Ex T Hb Hb1 → Ex T Hb1 Hc1 → J n σ' Hb1 Hc1 → D.nx σ' Hc1) : tFor wi g tu D σ Hc := by
  refine src _ fun J' Hb1 Hc1 s1 G => ?_
  refine ⟨fun i m σ' H => m = n - i ∧ i ≤ n ∧ ∃ Hb', Ex T Hb1 Hb' ∧ Ex T Hb' H ∧ J i σ' Hb' H, ⟨n, rfl, Nat.zero_le _, Hb1, .refl s1.e1.t2, s1.e2, h0 Hb1 Hc1 s1⟩, ?_⟩
  rintro i m σ' H ⟨rfl, hi, Hb', x1, x2, hJ⟩
  obtain ⟨g1, g2⟩ := G i Hb' H x1 x2
  by_cases hlt : i < n
  · obtain ⟨go, step⟩ := g1 hlt
    refine .inr ⟨go, fun σ2 H2 => ∃ Hb3, Ex T Hb' Hb3 ∧ Ex T Hb3 H2 ∧ J (i + 1) σ2 Hb3 H2, fun σ2 H2 ⟨Hb3, y1, y2, y3⟩ => ⟨n - (i + 1), by omega, rfl, hlt, Hb3, x1.trans y1, y2, y3⟩, fun x H' y => ?_⟩
    exact step x H' y σ' _ fun vs Hb5 Hc5 s5 a5 => hs i σ' Hb' H vs Hb5 Hc5 hlt (s1.e1.trans x1) x2 hJ s5 a5
  · have ei : i = n := by omega
    subst ei
    exact .inl ⟨g2 rfl, hd σ' Hb' H (s1.e1.trans x1) x2 hJ⟩
theorem q_forA (src : SrcAt T wi g σ Hb Hc n js rs) (J : Nat → L2.St → Hp → Hp → Prop) (h0 : ∀ Hb1 Hc1, Stp T Hb Hc Hb1 Hc1 → J 0 σ Hb1 Hc1)
    (hs : ∀ i σ' Hb1 Hc1 vs Hb2 Hc2, i < n → Ex T Hb Hb1 → Ex T Hb1 Hc1 → J i σ' Hb1 Hc1 → Stp T Hb1 Hc1 Hb2 Hc2 → AtL Hb2 (rs i) vs →
      tu { D with nx := fun σ2 H2 => ∃ Hb3, Ex T Hb1 Hb3 ∧ Ex T Hb3 H2 ∧ J (i + 1) σ2 Hb3 H2, ct := fun σ2 H2 => ∃ Hb3, Ex T Hb1 Hb3 ∧ Ex T Hb3 H2 ∧ J (i + 1) σ2 Hb3 H2, bk := tz D } (sets σ' js vs) Hc2)
    (hd : ∀ σ' Hb1 Hc1, Ex T Hb Hb1 → Ex T Hb1 Hc1 → J n σ' Hb1 Hc1 → tz D σ' Hc1) : tSeq (tFor wi g tu) tz D σ Hc := s_forA (D := { D with nx := tz D }) src J h0 hs hd
end
end K68
end

section
namespace K68
open PySem PySem.Spec PyProof.Rows L2
section
variable {P : Program} {w : World} {K : PySem.W.Frag} {mg : Str → Option Value} {base : Heap} {T : Addr × Str}
theorem sz1 : 1 ≤ 100000 := by decide
def dAdj (W : Web) : Da := .l ((List.range W.n).map fun p => dNL (nb W p))
def dOL (l : List (Option Nat)) : Da := .l (l.map dO)
noncomputable def dists1 (W : Web) (p : Nat) : List (Option Nat) := (List.range W.n).map (dist W p)
theorem at_dOL_mk {H : Hp} {l : List (Option Nat)} {a : Addr} (h : H a = some (.lst (l.map vO))) : (dOL l).At H (.ref a) := ⟨a, _, rfl, h, by rw [map_dO]; exact AtL.flat _⟩
theorem at_dOL {H : Hp} {l : List (Option Nat)} {u : V} (h : (dOL l).At H u) : ∃ a, u = .ref a ∧ H a = some (.lst (l.map vO)) := by
  obtain ⟨a, us, h1, h2, h3⟩ := (show ∃ a us, u = .ref a ∧ H a = some (.lst us) ∧ AtL H (l.map dO) us from h)
  rw [map_dO] at h3
  rw [AtL.flat_eq h3] at h2
  exact ⟨a, h1, h2⟩
theorem map_at {α : Type} {f : α → Da} {l : List α} {i : Nat} {a : α} (h : l[i]? = some a) : (l.map f)[i]? = some (f a) := by
  rw [List.getElem?_map, h]
  rfl
theorem range_at {n i : Nat} (h : i < n) : (List.range n)[i]? = some i := List.getElem?_range h
/-! ### far_by -/
abbrev s_far_by : Stmt := topS 23
abbrev n_far_by : List Str := ["beside", "place", "found", "row", "at", "other"]
theorem sc_far_by : FnScope n_far_by ["beside", "place"] (defScope s_far_by) := ⟨rfl, rfl, rfl, by decide +kernel, rfl, by decide +kernel, by decide +kernel⟩
def A_far_by (ds : List Da) (d : Da) : Prop := ∃ (W : Web) (p : Nat), ds = [dAdj W, dn p] ∧ p < W.n ∧ W.n ≤ 40 ∧ d = dOL (dists1 W p)
theorem ok_far_by (D : Df K mg "far_by" s_far_by) (m_len : mg "len" = none) : Cal P w K mg base "far_by" 1 ["beside", "place"] (Pm T A_far_by) := by
  refine mk_pm D sc_far_by (fun ds d ⟨_, _, h, _⟩ => by rw [h]; rfl) (fun _ _ _ _ _ _ us hl => match us, hl with | [_, _], _ => rfl) fun f cdv Ar outer s H vs Q E hr Hb ds d e a hA q => ?_
  obtain ⟨W, p, rfl, hp, hn, rfl⟩ := hA
  obtain ⟨x0, x1, rfl, a0, a1⟩ := at2 a
  have a1 : x1 = .int (p : Int) := a1
  subst a1
  have nd := sc_far_by.nd
  refine ⟨_, (pss_cons (ps_set (i := 2) nd rfl (Or.inl rfl) (pe_op op_rep (pe_lst (pa_cons pe_non pa_nil)) (pe_callB (r := rLen K) call_len_seq (by rfl) m_len PySem.boot_len (pa_cons (pv 0) pa_nil))))
      (pss_cons (ps_asg pe_int (pg_sub (pv 2) (pv 1) set_list))
      (pss_cons (ps_set (i := 3) nd rfl (Or.inl rfl) (pe_lst (pa_cons (pv 1) pa_nil)))
      (pss_cons (ps_set (i := 4) nd rfl (Or.inl rfl) pe_int)
      (pss_cons (ps_while PassesOwn.never (pt_cmpR op_lt (pv 4) (pe_callB (r := rLen K) call_len_seq (by rfl) m_len PySem.boot_len (pa_cons (pv 3) pa_nil)) (nomark _)) (pss_cons (ps_for PassesOwn.never rfl (pi_list (pe_ix (r := rIxL K) ix_list (pv 0) (pe_ix (r := rIxL K) ix_list (pv 3) (pv 4) (fun _ _ => rfl)) (fun _ _ => rfl))) (pg_name (i := 5) nd rfl (Or.inl rfl)) (pss_one (ps_if (pt_cmp (pc_isN (pe_ix (r := rIxL K) ix_list (pv 2) (pv 5) (fun _ _ => rfl)))) (pss_cons (ps_asg (pe_op op_add (pe_ix (r := rIxL K) ix_list (pv 2) (pe_ix (r := rIxL K) ix_list (pv 3) (pv 4) (fun _ _ => rfl)) (fun _ _ => rfl)) pe_int) (pg_sub (pv 2) (pv 5) set_list))
      (pss_one (ps_expr (pe_bm PySem.F.plainAttrs_list PySem.F.slot_list_append PySem.F.type_list_append mt_append (pv 3) (pa_cons (pv 5) pa_nil))))) pss_nil)))
      (pss_one (ps_aug (i := 4) nd rfl (Or.inl rfl) pe_int ip_add))))
      (pss_one (ps_ret (pv 2)))))))), ?_⟩
  have ln : ((List.range W.n).map fun p => dNL (nb W p)).length = W.n := by rw [List.length_map, List.length_range]
  -- found
  refine q_new (en_rep (k := W.n) (ev_lst (ea_cons ev_c ea_nil) (by decide)) (EvD.is (ev_cb (ea_cons (ev_var rfl a0) ea_nil) cv_len) (by rw [ln])) (by omega)) e fun pf us Hb1 H1 s1 f1 b1 c1 a1 => ?_
  have hus : us = (List.replicate W.n (none : Option Nat)).map vO := by
    rw [List.map_replicate]
    exact AtL.flat_eq (xs := List.replicate W.n V.non) (by rw [List.map_replicate]; exact a1)
  subst hus
  have f0 : H pf = none := f1
  refine q_set (n := p) (d := .v (.int 0)) rfl c1 ev_c (ev_var rfl rfl) (by rw [List.length_map, List.length_replicate]; exact hp) s1.e2 fun u Hb2 H2 s2 c2 a2 => ?_
  have a2 : u = .int 0 := a2
  subst a2
  have b2 := s2.hidden b1 c1
  have S2 : Stp T Hb H Hb2 (upd H2 pf (.lst (((List.replicate W.n (none : Option Nat)).map vO).set p (.int 0)))) := (s1.trans s2).mut f0 b2 c2 True.intro
  -- row, at
  refine q_new (en_lst (ds := [dn p]) (ea_cons (ev_var rfl rfl) ea_nil) sz1) S2.e2 fun pr us Hb3 H3 s3 f3 b3 c3 a3 => ?_
  have hus : us = ([p] : List Nat).map vn := AtL.flat_eq (xs := [.int (p : Int)]) a3
  subst hus
  refine q_asg (d := .v (.int 0)) ev_c s3.e2 fun u Hb4 H4 s4 a4 => ?_
  have a4 : u = .int 0 := a4
  subst a4
  have S4 := (S2.trans s3).trans s4
  have f0r : H pr = none := S2.fresh f3
  have ne : pf ≠ pr := fun z => by
    rw [← z, upd_same] at f3
    cases f3
  have b4f : Hb4 pf = none := s4.hidden (s3.hidden b2 upd_same) (s3.kept upd_same True.intro)
  have b4r : Hb4 pr = none := s4.hidden b3 c3
  have c4f := s4.kept (s3.kept (p := pf) upd_same True.intro) True.intro
  have c4r := s4.kept c3 True.intro
  have A0 : ∀ {H'}, Ex T Hb4 H' → (dAdj W).At H' x0 := fun e' => a0.mono (S4.e1.trans e')
  rw [show (.int 0 : V) = vO (some 0) from rfl, ← List.map_set] at c4f
  refine q_while (T := T) (fun m σ Hc => ∃ F R k y5, m = W.n - k ∧ Bfs W p F R k ∧ Stp T Hb H Hb4 Hc ∧ Hc pf = some (.lst (F.map vO)) ∧ Hc pr = some (.lst (R.map vn)) ∧ σ = [some x0, some (.int (p : Int)), some (.ref pf), some (.ref pr), some (.int (k : Int)), y5]) W.n
    ⟨_, _, 0, none, rfl, Bfs.start hp, S4, c4f, c4r, rfl⟩ (fun m σ Hc hW => ?_)
  obtain ⟨F, R, k, y5, rfl, bf, S, cf, cr, rfl⟩ := hW
  have tst : EvT T (tTest (tOp (rI0 fun i j => .bl (decide (i < j))) (tVar 4) (tCB (rLen K) (tCons (tVar 3) tNil)))) [some x0, some (.int (p : Int)), some (.ref pf), some (.ref pr), some (.int (k : Int)), y5] Hc (decide (k < R.length)) := by
    refine EvT.is (et_test (b := decide ((k : Int) < ((((R.map dn).length : Nat)) : Int))) (ev_op (dx := dn k) (ev_var rfl rfl) (ev_cb (ea_cons (ev_var rfl (at_dNL_mk cr)) ea_nil) cv_len) rv_I0)) ?_
    rw [List.length_map]
    by_cases z : k < R.length
    · rw [decide_eq_true z, decide_eq_true (by omega)]
    · rw [decide_eq_false z, decide_eq_false (by omega)]
  refine ⟨_, Hc, S.e2.self, tst, fun hk Hbx Hcx sx => ?_, fun hk Hbx Hcx sx => ?_⟩
  · have hk : k < R.length := of_decide_eq_true hk
    obtain ⟨u, hu⟩ := get_some hk
    have huR := List.mem_of_getElem? hu
    have hun := bf.lt u huR
    have sx' := sx.drop S.e2
    have Sx : Stp T Hb H Hb4 Hcx := S.trans sx'
    have cfx := sx.kept cf True.intro
    have crx := sx.kept cr True.intro
    -- for other in beside[row[at]]
    refine q_forA (src_ix (m := u) (es := (nb W u).map dn) rfl (A0 (.refl Sx.e2.t1)) (ev_op (dx := dNL R) (dy := dn k) (ev_var rfl (at_dNL_mk crx)) (ev_var rfl rfl) (rv_ixL (map_at hu))) (map_at (range_at hun)) Sx.e2)
      (fun j σ' Hb' Hc' => ∃ F R y5, Bfs W p F R k ∧ R[k]? = some u ∧ (∀ r ∈ (nb W u).take j, r ∈ R) ∧ Stp T Hb H Hb' Hc' ∧ Hb' pf = none ∧ Hb' pr = none ∧ Hc' pf = some (.lst (F.map vO)) ∧ Hc' pr = some (.lst (R.map vn)) ∧ σ' = [some x0, some (.int (p : Int)), some (.ref pf), some (.ref pr), some (.int (k : Int)), y5])
      (fun Hb5 H5 s5 => ⟨F, R, y5, bf, hu, fun r hr => absurd hr (by simp), Sx.trans s5, s5.hidden b4f cfx, s5.hidden b4r crx, s5.kept cfx True.intro, s5.kept crx True.intro, rfl⟩)
      (fun j σ' Hb5 H5 vs Hb6 H6 hj x5 x6 hJ s6 a6 => ?_) (fun σ' Hb5 H5 x5 x6 hJ => ?_)
    · obtain ⟨F, R, y5, bf, hu, hin, S5, b5f, b5r, c5f, c5r, rfl⟩ := hJ
      rw [List.length_map] at hj
      obtain ⟨o, ho⟩ := get_some hj
      rw [getD_map ho] at a6
      obtain ⟨z, rfl, hz⟩ := at1 a6
      have hz : z = .int (o : Int) := hz
      subst hz
      have hoM := List.mem_of_getElem? ho
      have hon := nb_lt hoM
      have S6 := S5.trans s6
      have c6f := s6.kept c5f True.intro
      have c6r := s6.kept c5r True.intro
      have b6f := s6.hidden b5f c5f
      have b6r := s6.hidden b5r c5r
      have hFo : ∃ v, F[o]? = some v := get_some (by rw [bf.len]; exact hon)
      obtain ⟨v, hv⟩ := hFo
      have htk : (nb W u).take (j + 1) = (nb W u).take j ++ [o] := by rw [List.take_add_one, ho]; rfl
      -- if found[other] is None
      refine s_if (Hb := H6) (et_B (ev_isN (o := v) (ev_op (dx := dOL F) (dy := dn o) (ev_var rfl (at_dOL_mk c6f)) (ev_var rfl rfl) (rv_ixL (map_at hv))))) S6.e2.self (fun hb Hb7 H7 s7 => ?_) (fun hb Hb7 H7 s7 => ?_)
      · have hv0 : v = none := by
          cases v with
          | none => rfl
          | some _ => cases hb
        subst hv0
        have S7 := S6.trans (s7.drop S6.e2)
        have c7f := s7.kept c6f True.intro
        have c7r := s7.kept c6r True.intro
        obtain ⟨hFu, hdu⟩ := bf.ok u (List.mem_of_getElem? hu)
        obtain ⟨du, hdu⟩ : ∃ du, dist W p u = some du := by
          cases h : dist W p u with
          | none => exact absurd h hdu
          | some du => exact ⟨du, rfl⟩
        rw [hdu] at hFu
        obtain ⟨bf', hu'⟩ := bf.add hu hoM hv hdu
        -- found[other] = found[row[at]] + 1
        refine q_set (Hb := H7) (n := o) (d := .v (.int ((du : Int) + 1))) rfl c7f (ev_op (ev_op (dx := dOL F) (dy := dn u) (d := dI (du : Int)) (ev_var rfl (at_dOL_mk c7f)) (ev_op (dx := dNL R) (dy := dn k) (ev_var rfl (at_dNL_mk c7r)) (ev_var rfl rfl) (rv_ixL (map_at hu))) (rv_ixL (map_at (f := dO) hFu))) ev_c rv_I0) (ev_var rfl rfl)
          (by rw [List.length_map, bf.len]; exact hon) S7.e2.self fun w Hb8 H8 s8 c8f a8 => ?_
        have a8 : w = .int ((du : Int) + 1) := a8
        subst a8
        have S8 := S7.trans (s8.drop S7.e2)
        have c8r := s8.kept c7r True.intro
        have S9 : Stp T Hb H Hb6 (upd H8 pf (.lst ((F.map vO).set o (.int ((du : Int) + 1))))) := S8.mut f0 b6f c8f True.intro
        have c9r : (upd H8 pf (.lst ((F.map vO).set o (.int ((du : Int) + 1))))) pr = some (.lst (R.map vn)) := by rw [upd_ne ne.symm]; exact c8r
        -- row.append(other)
        refine s_app (Hb := upd H8 pf (.lst ((F.map vO).set o (.int ((du : Int) + 1))))) (d := dn o) rfl c9r (ev_var rfl rfl) S9.e2.self (by rw [List.length_map]; have := bf.few; omega) fun w Hb10 H10 s10 c10 a10 => ?_
        have a10 : w = .int (o : Int) := a10
        subst a10
        have S10 := S9.trans (s10.drop S9.e2)
        have c10f := s10.kept (p := pf) upd_same True.intro
        refine ⟨Hb6, s6.e1, ?_, F.set o (some (du + 1)), R ++ [o], _, bf', hu', fun r hr => ?_, S10.mut f0r b6r c10 True.intro, b6f, b6r, ?_, ?_, rfl⟩
        · exact (S10.mut f0r b6r c10 True.intro).e2
        · rw [htk] at hr
          rcases List.mem_append.mp hr with z | z
          · exact List.mem_append_left _ (hin r z)
          · exact List.mem_append_right _ z
        · rw [upd_ne ne, c10f, List.map_set]
          rfl
        · rw [upd_same, List.map_append]
          rfl
      · have hvs : v ≠ none := fun z => by
          rw [z] at hb
          cases hb
        have hoR : o ∈ R := Classical.byContradiction fun z => by
          have := bf.out o hon z
          rw [hv] at this
          exact hvs (Option.some.inj this)
        have S7 := S6.trans (s7.drop S6.e2)
        refine ⟨Hb6, s6.e1, S7.e2, F, R, _, bf, hu, fun r hr => ?_, S7, b6f, b6r, s7.kept c6f True.intro, s7.kept c6r True.intro, rfl⟩
        rw [htk] at hr
        rcases List.mem_append.mp hr with z | z
        · exact hin r z
        · rw [List.mem_singleton.mp z]
          exact hoR
    · -- at += 1
      obtain ⟨F, R, y5, bf, hu, hin, S5, b5f, b5r, c5f, c5r, rfl⟩ := hJ
      rw [List.length_map, List.take_length] at hin
      have S5' : Stp T Hb H Hb4 H5 := ⟨S4.e1, x5.trans x6, S5.e3, S4.hid⟩
      refine s_aug (Hb := H5) (a := (k : Int)) (b := 1) rfl ev_c S5.e2.self fun Hb6 H6 s6 => ?_
      have hkl := lt_of_get hu
      have hf := bf.few
      exact ⟨W.n - (k + 1), by omega, F, R, k + 1, _, rfl, bf.next hu hin, S5'.trans (s6.drop S5'.e2), s6.kept c5f True.intro, s6.kept c5r True.intro, rfl⟩
  · -- return found
    have hk : ¬ k < R.length := of_decide_eq_false hk
    have hkl : k = R.length := by have := bf.kle; omega
    subst hkl
    have Sx := S.trans (sx.drop S.e2)
    have cfx := sx.kept cf True.intro
    refine ⟨.ref pf, rfl, q _ _ _ (Sx.tell f0 b4f cfx) ?_⟩
    rw [show dists1 W p = F from bf.found.symm]
    exact at_dOL_mk upd_same
end
end K68
end

section
/-! K68Zip: zip of any number of lists. -/
namespace K68
open PySem PySem.Spec PyProof.Rows L2
/-- a zip over list iterators, ahead of its turn i -/
structure ZSt (h : Heap) (zp tI tO : Addr) (its ls : List Addr) (i : Nat) : Prop where
  hz : IsZip h zp tI tO .none
  hI : h.get? tI = some { cls := .type "tuple", data := .seq (its.map Value.ref).toArray }
  hO : ∃ vs : Array Value, vs.size = its.length ∧ h.get? tO = some { cls := .type "tuple", data := .seq vs }
  hit : ∀ (k : Nat) (it l : Addr), its[k]? = some it → ls[k]? = some l → h.IsListIter it l i
structure ZAp (zp tI tO : Addr) (its ls : List Addr) : Prop where
  Iz : tI ≠ zp
  Oz : tO ≠ zp
  IO : tI ≠ tO
  off : ∀ it ∈ its, it ≠ zp ∧ it ≠ tI ∧ it ≠ tO
  nd : its.Nodup
  len : ls.length = its.length
  pos : 0 < its.length
  few : its.length ≤ 8
theorem isList_ne {h : Heap} {l b : Addr} {items : Array Value} {o : Obj} (x : h.IsList l items) (e : h.get? b = some o) (c : o.cls ≠ .type "list") : l ≠ b := fun z => by
  obtain ⟨ol, hol, hc, _⟩ := x
  rw [z, e] at hol
  cases hol
  exact c hc
section
variable {prog : Program} {w : World} {A : Around} {E : Value → Shared → Prop} {s : Shared} {zp tI tO : Addr} {its ls : List Addr} {i : Nat}
theorem ZSt.at {h h' : Heap} (x : ZSt h zp tI tO its ls i) (k : ∀ b, b = zp ∨ b = tI ∨ b = tO ∨ b ∈ its → ∀ o, h.get? b = some o → h'.get? b = some o) : ZSt h' zp tI tO its ls i :=
  ⟨k _ (.inl rfl) _ x.hz, k _ (.inr (.inl rfl)) _ x.hI, let ⟨vs, h1, h2⟩ := x.hO; ⟨vs, h1, k _ (.inr (.inr (.inl rfl))) _ h2⟩,
    fun n it l h1 h2 => (x.hit n it l h1 h2).at fun o e => k it (.inr (.inr (.inr (List.mem_of_getElem? h1)))) o e⟩
/-- within a turn: the first k have been drawn; all but the zip, its tuple and the iterators stand -/
structure ZIn (h0 h : Heap) (zp tI tO : Addr) (its ls : List Addr) (i k : Nat) (R : List Value → Prop) : Prop where
  hz : IsZip h zp tI tO .ellipsis
  hO : ∃ vs : List Value, vs.length = its.length ∧ R vs ∧ h.get? tO = some { cls := .type "tuple", data := .seq vs.toArray }
  done : ∀ (j : Nat) (it l : Addr), j < k → its[j]? = some it → ls[j]? = some l → h.IsListIter it l (i + 1)
  todo : ∀ (j : Nat) (it l : Addr), k ≤ j → its[j]? = some it → ls[j]? = some l → h.IsListIter it l i
  keep : ∀ c o, c ≠ zp → c ≠ tO → c ∉ its → h0.get? c = some o → h.get? c = some o
  size : h.objs.size = h0.objs.size
theorem upd_tup {h : Heap} {t : Addr} {vs : List Value} {k : Nat} {x : Value} (e : h.get? t = some { cls := .type "tuple", data := .seq vs.toArray }) :
    (h.update t (Obj.mapSeq (·.setIfInBounds k x))).get? t = some { cls := .type "tuple", data := .seq (vs.set k x).toArray } := by
  rw [Heap.get?_update_self _ e rfl]
  simp [Obj.mapSeq]
theorem take_set {α : Type} {vs xs : List α} {k : Nat} {x : α} (h1 : vs.take k = xs.take k) (hk : k < vs.length) (hx : xs[k]? = some x) : (vs.set k x).take (k + 1) = xs.take (k + 1) := by
  rw [List.take_add_one, List.take_add_one, hx, List.getElem?_set_self hk, ← h1]
  congr 1
  rw [List.take_set_of_le (Nat.le_refl k)]
/-- one turn of the draw: an item -/
theorem zip_item {xs : List Value} {Q : Value → Shared → Prop} (D : ZAp zp tI tO its ls) (Z : ZSt s.heap zp tI tO its ls i) (hxs : xs.length = its.length)
    (hl : ∀ (k : Nat) (l : Addr), ls[k]? = some l → ∃ (items : Array Value) (x : Value), s.heap.IsList l items ∧ items[i]? = some x ∧ xs[k]? = some x)
    (hQ : ∀ h', IsZip h' zp tI tO (rawInt s.heap.objs.size) → (∀ h'', IsZip h'' zp tI tO .none → (∀ b o, b ≠ zp → h'.get? b = some o → h''.get? b = some o) → ZSt h'' zp tI tO its ls (i + 1)) →
      h'.get? s.heap.objs.size = some { cls := .type "tuple", data := .seq xs.toArray } → (∀ c o, c ≠ zp → c ≠ tO → c ∉ its → s.heap.get? c = some o → h'.get? c = some o) → Q (.ref s.heap.objs.size) { s with heap := h' }) :
    wpAny (model prog w) A (Builtin.«zip.__next__» ⟨[.ref zp], []⟩) (fun fin s' => ∃ v, fin = .done (.ret v) ∧ Q v s') E s := by
  have hemp : (its.map Value.ref).toArray.isEmpty = false := by
    cases h : its with
    | nil =>
      have := D.pos
      rw [h] at this
      exact absurd this (Nat.lt_irrefl 0)
    | cons a l => rfl
  show wpAny _ _ (field (.ref zp) 2 >>= _) _ _ _
  refine wpAny_bind (wpAny_field Z.hz rfl (x := .bool false) rfl ?_)
  show wpAny _ _ (field (.ref zp) 3 >>= _) _ _ _
  refine wpAny_bind (wpAny_field Z.hz rfl (x := .ref tI) rfl ?_)
  refine wpAny_bind (wpAny_seqItems Z.hI rfl ?_)
  dsimp only
  rw [hemp]
  show wpAny _ _ (Builtin.SmallTypes.ownedTupleIsFree (.ref zp) >>= _) _ _ _
  refine wpAny_bind ?_
  unfold Builtin.SmallTypes.ownedTupleIsFree
  refine wpAny_bind (wpAny_field Z.hz rfl (x := .none) rfl (wpAny_pure ?_))
  simp only [if_true]
  refine wpAny_bind (wpAny_rule ?_)
  refine wpAny_bind (wpAny_field Z.hz rfl (x := .ref tO) rfl ?_)
  refine wpAny_bind (wpAny_setField_rec Z.hz (by simp) fun h1 z1 sb1 => ?_)
  replace z1 : IsZip h1 zp tI tO .ellipsis := z1
  have nO := D.Oz
  have In0 : ZIn s.heap h1 zp tI tO its ls i 0 (fun vs => vs.take 0 = xs.take 0) := by
    obtain ⟨vs, v1, v2⟩ := Z.hO
    refine ⟨z1, ⟨vs.toList, by rw [Array.length_toList]; exact v1, rfl, sb1.extBut _ _ nO (by simpa using v2)⟩, fun j it l hj => absurd hj (Nat.not_lt_zero _), fun j it l _ g1 g2 => (Z.hit j it l g1 g2).extBut sb1.extBut (D.off it (List.mem_of_getElem? g1)).1, fun c o c1 _ _ e => sb1.extBut _ _ c1 e, sb1.1⟩
  refine wpAny_bind (wpAny_forIn_list _ (fun rest b s' => b = (none, ⟨⟩) ∧ ∃ k h', s' = { s with heap := h' } ∧ rest = ((its.map Value.ref).zipIdx).drop k ∧ k ≤ its.length ∧ ZIn s.heap h' zp tI tO its ls i k (fun vs => vs.take k = xs.take k)) _ ?turn ?fin _ _ ⟨rfl, 0, h1, rfl, by simp, Nat.zero_le _, In0⟩)
  case turn =>
    rintro ⟨u, n⟩ rest b s' ⟨rfl, k, h2, rfl, hr, hk, I⟩
    have hk2 : ((its.map Value.ref).zipIdx)[k]? = some (u, n) := by
      have := congrArg (fun l => l[0]?) hr
      simpa [List.getElem?_drop] using this.symm
    have hrest : rest = ((its.map Value.ref).zipIdx).drop (k + 1) := by
      have := congrArg List.tail hr
      simpa [List.tail_drop] using this
    rw [List.getElem?_zipIdx, List.getElem?_map] at hk2
    obtain ⟨it, hit⟩ : ∃ it, its[k]? = some it := by
      cases q : its[k]? with
      | none =>
        rw [q] at hk2
        cases hk2
      | some it => exact ⟨it, rfl⟩
    rw [hit] at hk2
    have e2 := Option.some.inj hk2
    have en : n = k := by
      have := (congrArg Prod.snd e2).symm
      simpa using this
    have eu : u = .ref it := (congrArg Prod.fst e2).symm
    subst eu
    subst en
    have hkl := (List.getElem?_eq_some_iff.mp hit).1
    obtain ⟨l, hll⟩ : ∃ l, ls[n]? = some l := ⟨_, List.getElem?_eq_getElem (by rw [D.len]; exact hkl)⟩
    obtain ⟨items, x, hL, hx, hxk⟩ := hl n l hll
    obtain ⟨oZ, oI, oO⟩ := D.off it (List.mem_of_getElem? hit)
    have lz : l ≠ zp := isList_ne hL Z.hz (show Value.type "zip" ≠ Value.type "list" by decide)
    have lO : l ≠ tO := by
      obtain ⟨vs, _, v2⟩ := Z.hO
      exact isList_ne hL v2 (show Value.type "tuple" ≠ Value.type "list" by decide)
    have lits : l ∉ its := fun z => by
      obtain ⟨j, hj, ej⟩ := List.mem_iff_getElem.mp z
      obtain ⟨o, ho, hc, _⟩ := Z.hit j l _ (by rw [← ej]; exact List.getElem?_eq_getElem hj) (List.getElem?_eq_getElem (by rw [D.len]; exact hj))
      refine isList_ne hL ho ?_ rfl
      rw [hc]
      decide
    have hL2 : h2.IsList l items := by
      obtain ⟨ol, g1, g2⟩ := hL
      exact ⟨ol, I.keep l ol lz lO lits g1, g2⟩
    dsimp only
    refine wpAny_bind (wpAny_onRaise ?_)
    show wpAny _ _ (Builtin.SmallTypes.nextOf (.ref it) >>= _) _ _ _
    refine wpAny_bind (wpAny_nextOf_list_item (s := { s with heap := h2 }) (I.todo n it l (Nat.le_refl _) hit hll) hL2 hx fun h3 t3 sb3 => wpAny_pure ?_)
    replace sb3 : Heap.SameBut it h2 h3 := sb3
    obtain ⟨vs, v1, v2, v3⟩ := I.hO
    have v3' : h3.get? tO = some { cls := .type "tuple", data := .seq vs.toArray } := (sb3.2 _ oO.symm).trans v3
    refine wpAny_bind (wpAny_seqItems (s := { s with heap := h3 }) v3' rfl ?_)
    have vf : vs.length ≤ 8 := by rw [v1]; exact D.few
    refine wpAny_bind (wpAny_updateSeq (s := { s with heap := h3 }) v3' rfl ?_ (by rw [List.size_toArray]; exact Nat.le_trans vf (by decide)) (by rw [Array.size_setIfInBounds, List.size_toArray]; exact Nat.le_trans vf (by decide)))
    refine wpAny_bind (wpAny_letGo (wpAny_pure ⟨rfl, n + 1, _, rfl, hrest, hkl, ?_⟩))
    have sb4 := Heap.SameBut.update h3 tO (Obj.mapSeq (·.setIfInBounds n x))
    refine ⟨(sb4.2 _ D.Oz.symm).trans ((sb3.2 _ oZ.symm).trans I.hz), ⟨vs.set n x, by rw [List.length_set]; exact v1, take_set v2 (by rw [v1]; exact hkl) hxk, upd_tup v3'⟩, fun j it' l' hj g1 g2 => ?_, fun j it' l' hj g1 g2 => ?_, fun c o c1 c2 c3 e => ?_, ?_⟩
    · have oO' := (D.off it' (List.mem_of_getElem? g1)).2.2
      by_cases ej : j = n
      · subst ej
        rw [hit] at g1
        rw [hll] at g2
        cases g1
        cases g2
        exact t3.at fun o e => (sb4.2 _ oO').trans e
      · have ne : it' ≠ it := fun z => ej (nd_ix D.nd g1 (by rw [z]; exact hit))
        exact (I.done j it' l' (by omega) g1 g2).at fun o e => (sb4.2 _ oO').trans ((sb3.2 _ ne).trans e)
    · have oO' := (D.off it' (List.mem_of_getElem? g1)).2.2
      have ne : it' ≠ it := fun z => by
        have := nd_ix D.nd g1 (show its[n]? = some it' by rw [z]; exact hit)
        omega
      exact (I.todo j it' l' (by omega) g1 g2).at fun o e => (sb4.2 _ oO').trans ((sb3.2 _ ne).trans e)
    · exact (sb4.2 c c2).trans ((sb3.2 c fun z => c3 (by rw [z]; exact List.mem_of_getElem? hit)).trans (I.keep c o c1 c2 c3 e))
    · rw [sb4.1, sb3.1, I.size]
  case fin =>
    rintro b s' ⟨rfl, k, h2, rfl, hr, hk, I⟩
    have ek : k = its.length := by
      have := congrArg List.length hr
      rw [List.length_nil, List.length_drop, List.length_zipIdx, List.length_map] at this
      omega
    subst ek
    obtain ⟨vs, v1, v2, v3⟩ := I.hO
    have evs : vs = xs := by
      rw [List.take_of_length_le (by omega), List.take_of_length_le (by omega)] at v2
      exact v2
    subst evs
    dsimp only
    refine wpAny_bind (wpAny_seqItems (s := { s with heap := h2 }) v3 rfl ?_)
    refine wpAny_bind (wpAny_newTuple ?_ ?_)
    · have hzl : zp < h2.objs.size := Heap.lt_size I.hz
      show wpAny _ _ (Builtin.SmallTypes.ownedTupleHandOut (.ref zp) (.ref h2.objs.size) >>= _) _ _ _
      refine wpAny_bind ?_
      unfold Builtin.SmallTypes.ownedTupleHandOut
      have z6 : IsZip (h2.push { cls := .type "tuple", data := .seq vs.toArray }) zp tI tO .ellipsis := Heap.get?_push_of_some _ I.hz
      refine wpAny_bind (wpAny_setField_rec z6 (by simp) fun h7 z7 sb7 => ?_)
      replace z7 : IsZip h7 zp tI tO (rawInt h2.objs.size) := z7
      refine wpAny_setField_rec z7 (by simp) fun h8 z8 sb8 => ?_
      replace z8 : IsZip h8 zp tI tO (rawInt h2.objs.size) := z8
      have up8 : ∀ c o, c ≠ zp → h2.get? c = some o → h8.get? c = some o := fun c o c1 e => sb8.extBut _ _ c1 (sb7.extBut _ _ c1 (Heap.get?_push_of_some _ e))
      have t8 : h8.get? h2.objs.size = some { cls := .type "tuple", data := .seq vs.toArray } := sb8.extBut _ _ (Nat.ne_of_gt hzl) (sb7.extBut _ _ (Nat.ne_of_gt hzl) (Heap.get?_push_size _ rfl))
      rw [I.size] at z8 t8
      refine wpAny_pure ⟨_, rfl, ?_⟩
      show Q (.ref h2.objs.size) _
      rw [I.size]
      refine hQ h8 z8 (fun h9 z9 k9 => ⟨z9, ?_, ⟨vs.toArray, by rw [List.size_toArray]; exact v1, k9 _ _ D.Oz (up8 _ _ D.Oz v3)⟩, fun j it l g1 g2 => ?_⟩) t8 (fun c o c1 c2 c3 e => up8 c o c1 (I.keep c o c1 c2 c3 e))
      · have nI : tI ∉ its := fun z => (D.off _ z).2.1 rfl
        exact k9 _ _ D.Iz (up8 _ _ D.Iz (I.keep _ _ D.Iz D.IO nI Z.hI))
      · have oz := (D.off it (List.mem_of_getElem? g1)).1
        exact (I.done j it l (List.getElem?_eq_some_iff.mp g1).1 g1 g2).at fun o e => k9 _ _ oz (up8 _ _ oz e)
    · rw [v1]
      exact Nat.le_trans D.few (by decide)
theorem first_none (n : Nat) (p : Nat → Prop) (h : ∃ k, k < n ∧ p k) : ∃ k, k < n ∧ p k ∧ ∀ j, j < k → ¬ p j := by
  obtain ⟨k, hk, hp⟩ := h
  induction k using Nat.strongRecOn with
  | ind k ih =>
    by_cases z : ∃ j, j < k ∧ p j
    · obtain ⟨j, hj, pj⟩ := z
      exact ih j hj (by omega) pj
    · exact ⟨k, hk, hp, fun j hj pj => z ⟨j, hj, pj⟩⟩
/-- the draw ends: the k-th list is the first that has no item -/
theorem zip_ends {Q : PySem.Fin → Shared → Prop} {k0 : Nat} (hh : A.handled = none) (D : ZAp zp tI tO its ls) (Z : ZSt s.heap zp tI tO its ls i) (h0 : k0 < its.length)
    (hl : ∀ (k : Nat) (l : Addr), ls[k]? = some l → ∃ items : Array Value, s.heap.IsList l items ∧ (k < k0 → ∃ x, items[i]? = some x) ∧ (k = k0 → items[i]? = none))
    (hE : ∀ h' e, (∀ c o, c ≠ zp → c ≠ tO → c ∉ its → s.heap.get? c = some o → h'.get? c = some o) → (∃ o, h'.get? e = some o ∧ o.cls = .type "StopIteration") → E (.ref e) { s with heap := h' }) :
    wpAny (model prog w) A (Builtin.«zip.__next__» ⟨[.ref zp], []⟩) Q E s := by
  have hemp : (its.map Value.ref).toArray.isEmpty = false := by
    cases h : its with
    | nil =>
      have := D.pos
      rw [h] at this
      exact absurd this (Nat.lt_irrefl 0)
    | cons a l => rfl
  show wpAny _ _ (field (.ref zp) 2 >>= _) _ _ _
  refine wpAny_bind (wpAny_field Z.hz rfl (x := .bool false) rfl ?_)
  show wpAny _ _ (field (.ref zp) 3 >>= _) _ _ _
  refine wpAny_bind (wpAny_field Z.hz rfl (x := .ref tI) rfl ?_)
  refine wpAny_bind (wpAny_seqItems Z.hI rfl ?_)
  dsimp only
  rw [hemp]
  show wpAny _ _ (Builtin.SmallTypes.ownedTupleIsFree (.ref zp) >>= _) _ _ _
  refine wpAny_bind ?_
  unfold Builtin.SmallTypes.ownedTupleIsFree
  refine wpAny_bind (wpAny_field Z.hz rfl (x := .none) rfl (wpAny_pure ?_))
  simp only [if_true]
  refine wpAny_bind (wpAny_rule ?_)
  refine wpAny_bind (wpAny_field Z.hz rfl (x := .ref tO) rfl ?_)
  refine wpAny_bind (wpAny_setField_rec Z.hz (by simp) fun h1 z1 sb1 => ?_)
  replace z1 : IsZip h1 zp tI tO .ellipsis := z1
  have nO := D.Oz
  have In0 : ZIn s.heap h1 zp tI tO its ls i 0 (fun _ => True) := by
    obtain ⟨vs, v1, v2⟩ := Z.hO
    refine ⟨z1, ⟨vs.toList, by rw [Array.length_toList]; exact v1, True.intro, sb1.extBut _ _ nO (by simpa using v2)⟩, fun j it l hj => absurd hj (Nat.not_lt_zero _), fun j it l _ g1 g2 => (Z.hit j it l g1 g2).extBut sb1.extBut (D.off it (List.mem_of_getElem? g1)).1, fun c o c1 _ _ e => sb1.extBut _ _ c1 e, sb1.1⟩
  refine wpAny_bind (wpAny_forIn_list _ (fun rest b s' => b = (none, ⟨⟩) ∧ ∃ k h', s' = { s with heap := h' } ∧ rest = ((its.map Value.ref).zipIdx).drop k ∧ k ≤ k0 ∧ ZIn s.heap h' zp tI tO its ls i k (fun _ => True)) _ ?turn ?fin _ _ ⟨rfl, 0, h1, rfl, by simp, Nat.zero_le _, In0⟩)
  case turn =>
    rintro ⟨u, n⟩ rest b s' ⟨rfl, k, h2, rfl, hr, hk, I⟩
    have hk2 : ((its.map Value.ref).zipIdx)[k]? = some (u, n) := by
      have := congrArg (fun l => l[0]?) hr
      simpa [List.getElem?_drop] using this.symm
    have hrest : rest = ((its.map Value.ref).zipIdx).drop (k + 1) := by
      have := congrArg List.tail hr
      simpa [List.tail_drop] using this
    rw [List.getElem?_zipIdx, List.getElem?_map] at hk2
    obtain ⟨it, hit⟩ : ∃ it, its[k]? = some it := by
      cases q : its[k]? with
      | none =>
        rw [q] at hk2
        cases hk2
      | some it => exact ⟨it, rfl⟩
    rw [hit] at hk2
    have e2 := Option.some.inj hk2
    have en : n = k := by
      have := (congrArg Prod.snd e2).symm
      simpa using this
    have eu : u = .ref it := (congrArg Prod.fst e2).symm
    subst eu
    subst en
    have hkl := (List.getElem?_eq_some_iff.mp hit).1
    obtain ⟨l, hll⟩ : ∃ l, ls[n]? = some l := ⟨_, List.getElem?_eq_getElem (by rw [D.len]; exact hkl)⟩
    obtain ⟨items, hL, hlo, hat⟩ := hl n l hll
    obtain ⟨oZ, oI, oO⟩ := D.off it (List.mem_of_getElem? hit)
    have lz : l ≠ zp := isList_ne hL Z.hz (show Value.type "zip" ≠ Value.type "list" by decide)
    have lO : l ≠ tO := by
      obtain ⟨vs, _, v2⟩ := Z.hO
      exact isList_ne hL v2 (show Value.type "tuple" ≠ Value.type "list" by decide)
    have lits : l ∉ its := fun z => by
      obtain ⟨j, hj, ej⟩ := List.mem_iff_getElem.mp z
      obtain ⟨o, ho, hc, _⟩ := Z.hit j l _ (by rw [← ej]; exact List.getElem?_eq_getElem hj) (List.getElem?_eq_getElem (by rw [D.len]; exact hj))
      refine isList_ne hL ho ?_ rfl
      rw [hc]
      decide
    have hL2 : h2.IsList l items := by
      obtain ⟨ol, g1, g2⟩ := hL
      exact ⟨ol, I.keep l ol lz lO lits g1, g2⟩
    dsimp only
    refine wpAny_bind (wpAny_onRaise ?_)
    show wpAny _ _ (Builtin.SmallTypes.nextOf (.ref it) >>= _) _ _ _
    by_cases hn0 : n = k0
    · refine wpAny_bind (wpAny_nextOf_list_end (s := { s with heap := h2 }) hh (I.todo n it l (Nat.le_refl _) hit hll) hL2 (hat hn0) fun h3 e x3 he => ?_)
      replace x3 : Heap.ExtBut it h2 h3 := x3
      obtain ⟨oe, hoe, hce⟩ := he
      replace hoe : h3.get? e = some oe := hoe
      have z3 : IsZip h3 zp tI tO .ellipsis := x3 _ _ oZ.symm I.hz
      have ez : e ≠ zp := fun x => by
        rw [x, z3] at hoe
        cases hoe
        simp at hce
      refine wpAny_setField_rec (s := { s with heap := h3 }) z3 (by simp) fun h4 _ sb4 => ?_
      replace sb4 : Heap.SameBut zp h3 h4 := sb4
      exact hE h4 e (fun c o c1 c2 c3 e => sb4.extBut _ _ c1 (x3 _ _ (fun z => c3 (by rw [z]; exact List.mem_of_getElem? hit)) (I.keep c o c1 c2 c3 e))) ⟨oe, sb4.extBut _ _ ez hoe, hce⟩
    · obtain ⟨x, hx⟩ := hlo (by omega)
      refine wpAny_bind (wpAny_nextOf_list_item (s := { s with heap := h2 }) (I.todo n it l (Nat.le_refl _) hit hll) hL2 hx fun h3 t3 sb3 => wpAny_pure ?_)
      replace sb3 : Heap.SameBut it h2 h3 := sb3
      obtain ⟨vs, v1, v2, v3⟩ := I.hO
      have v3' : h3.get? tO = some { cls := .type "tuple", data := .seq vs.toArray } := (sb3.2 _ oO.symm).trans v3
      refine wpAny_bind (wpAny_seqItems (s := { s with heap := h3 }) v3' rfl ?_)
      have vf : vs.length ≤ 8 := by rw [v1]; exact D.few
      refine wpAny_bind (wpAny_updateSeq (s := { s with heap := h3 }) v3' rfl ?_ (by rw [List.size_toArray]; exact Nat.le_trans vf (by decide)) (by rw [Array.size_setIfInBounds, List.size_toArray]; exact Nat.le_trans vf (by decide)))
      refine wpAny_bind (wpAny_letGo (wpAny_pure ⟨rfl, n + 1, _, rfl, hrest, by omega, ?_⟩))
      have sb4 := Heap.SameBut.update h3 tO (Obj.mapSeq (·.setIfInBounds n x))
      refine ⟨(sb4.2 _ D.Oz.symm).trans ((sb3.2 _ oZ.symm).trans I.hz), ⟨vs.set n x, by rw [List.length_set]; exact v1, True.intro, upd_tup v3'⟩, fun j it' l' hj g1 g2 => ?_, fun j it' l' hj g1 g2 => ?_, fun c o c1 c2 c3 e => ?_, ?_⟩
      · have oO' := (D.off it' (List.mem_of_getElem? g1)).2.2
        by_cases ej : j = n
        · subst ej
          rw [hit] at g1
          rw [hll] at g2
          cases g1
          cases g2
          exact t3.at fun o e => (sb4.2 _ oO').trans e
        · have ne : it' ≠ it := fun z => ej (nd_ix D.nd g1 (by rw [z]; exact hit))
          exact (I.done j it' l' (by omega) g1 g2).at fun o e => (sb4.2 _ oO').trans ((sb3.2 _ ne).trans e)
      · have oO' := (D.off it' (List.mem_of_getElem? g1)).2.2
        have ne : it' ≠ it := fun z => by
          have := nd_ix D.nd g1 (show its[n]? = some it' by rw [z]; exact hit)
          omega
        exact (I.todo j it' l' (by omega) g1 g2).at fun o e => (sb4.2 _ oO').trans ((sb3.2 _ ne).trans e)
      · exact (sb4.2 c c2).trans ((sb3.2 c fun z => c3 (by rw [z]; exact List.mem_of_getElem? hit)).trans (I.keep c o c1 c2 c3 e))
      · rw [sb4.1, sb3.1, I.size]
  case fin =>
    rintro b s' ⟨rfl, k, h2, rfl, hr, hk, I⟩
    have := congrArg List.length hr
    rw [List.length_nil, List.length_drop, List.length_zipIdx, List.length_map] at this
    omega
theorem zip_pyNext_item {xs : List Value} {Q : Option Value → Shared → Prop} (D : ZAp zp tI tO its ls) (Z : ZSt s.heap zp tI tO its ls i) (hxs : xs.length = its.length)
    (hl : ∀ (k : Nat) (l : Addr), ls[k]? = some l → ∃ (items : Array Value) (x : Value), s.heap.IsList l items ∧ items[i]? = some x ∧ xs[k]? = some x)
    (hQ : ∀ h', IsZip h' zp tI tO (rawInt s.heap.objs.size) → (∀ h'', IsZip h'' zp tI tO .none → (∀ b o, b ≠ zp → h'.get? b = some o → h''.get? b = some o) → ZSt h'' zp tI tO its ls (i + 1)) →
      h'.get? s.heap.objs.size = some { cls := .type "tuple", data := .seq xs.toArray } → (∀ c o, c ≠ zp → c ≠ tO → c ∉ its → s.heap.get? c = some o → h'.get? c = some o) → Q (some (.ref s.heap.objs.size)) { s with heap := h' }) :
    wpAny (model prog w) A (pyNext (.ref zp)) Q E s := by
  have ty : s.TypeIs (.ref zp) "zip" := ⟨_, Z.hz, rfl⟩
  unfold pyNext
  refine wpAny_bind (wpAny_attempt (wpAny_callSpecial?_slot (name := Str.ofString "__next__") ty F.slot_zip_next (wpAny_call_entry F.slot_zip_next ty F.entry_zip_next ?_ (F.args_zip_next_1 _))))
  exact zip_item D Z hxs hl fun h' a1 a2 a3 a4 => wpAny_pure (hQ h' a1 a2 a3 a4)
theorem zip_pyNext_end {Q : Option Value → Shared → Prop} {k0 : Nat} (hh : A.handled = none) (D : ZAp zp tI tO its ls) (Z : ZSt s.heap zp tI tO its ls i) (h0 : k0 < its.length)
    (hl : ∀ (k : Nat) (l : Addr), ls[k]? = some l → ∃ items : Array Value, s.heap.IsList l items ∧ (k < k0 → ∃ x, items[i]? = some x) ∧ (k = k0 → items[i]? = none))
    (hQ : ∀ h', (∀ c o, c ≠ zp → c ≠ tO → c ∉ its → s.heap.get? c = some o → h'.get? c = some o) → Q none { s with heap := h' }) : wpAny (model prog w) A (pyNext (.ref zp)) Q E s := by
  have ty : s.TypeIs (.ref zp) "zip" := ⟨_, Z.hz, rfl⟩
  unfold pyNext
  refine wpAny_bind (wpAny_attempt (wpAny_callSpecial?_slot (name := Str.ofString "__next__") ty F.slot_zip_next (wpAny_call_entry F.slot_zip_next ty F.entry_zip_next (zip_ends (A := A.in1) hh D Z h0 hl fun h' e hk he => ?_) (F.args_zip_next_1 _))))
  obtain ⟨o, ho, hc⟩ := he
  refine wpAny_bind (wpAny_isInstance (T := "StopIteration") (b := true) ⟨o, ho, hc⟩ isSubtype_stop ?_)
  exact wpAny_pure (hQ _ hk)
/-! ### a zip made -/
abbrev litO (l : Addr) : Obj := { cls := .type "list_iterator", data := .fields #[.ref l, .int 0 0] }
abbrev tupO (xs : Array Value) : Obj := { cls := .type "tuple", data := .seq xs }
abbrev zipO (a b : Addr) : Obj := { cls := .type "zip", data := .fields #[.none, .bool false, .bool false, .ref a, .ref b] }
theorem tc_zip4 (a b c d : Value) : checkTypeCall "zip" ⟨[a, b, c, d], []⟩ = pure () := by kernel_rfl
theorem nc_zip4 (a b c d : Value) : checkBuiltinCall "zip.__new__" ⟨[.type "zip", a, b, c, d], []⟩ = pure () := by kernel_rfl
theorem ao_init5 (obj a b c d : Value) : argsOk "object.__init__" ⟨[obj, a, b, c, d], []⟩ := by unfold argsOk; kernel_rfl
abbrev zq1 (h : Heap) (a : Addr) : Heap := h.push (litO a)
abbrev zq2 (h : Heap) (a b : Addr) : Heap := (zq1 h a).push (litO b)
abbrev zq3 (h : Heap) (a b c : Addr) : Heap := (zq2 h a b).push (litO c)
abbrev zq4 (h : Heap) (a b c d : Addr) : Heap := (zq3 h a b c).push (litO d)
abbrev zqI (h : Heap) (a b c d : Addr) : Heap := (zq4 h a b c d).push (tupO #[.ref h.objs.size, .ref (zq1 h a).objs.size, .ref (zq2 h a b).objs.size, .ref (zq3 h a b c).objs.size])
abbrev zqO (h : Heap) (a b c d : Addr) : Heap := (zqI h a b c d).push (tupO #[.none, .none, .none, .none])
abbrev zqZ (h : Heap) (a b c d : Addr) : Heap := (zqO h a b c d).push (zipO (zq4 h a b c d).objs.size (zqI h a b c d).objs.size)
theorem meets_zip4 (l1 l2 l3 l4 : Addr) (x1 x2 x3 x4 : Array Value) :
    Meets (Builtin.«zip.__new__» ⟨[.type "zip", .ref l1, .ref l2, .ref l3, .ref l4], []⟩) (fun _ R s => (s.heap.IsList l1 x1 ∧ s.heap.IsList l2 x2 ∧ s.heap.IsList l3 x3 ∧ s.heap.IsList l4 x4) ∧
      R (.ok (.ret (.ref (zqO s.heap l1 l2 l3 l4).objs.size))) { s with heap := zqZ s.heap l1 l2 l3 l4 }) :=
  .of_wp fun prog w A R s h => by
    obtain ⟨hp, g, d, tk, os⟩ := s
    obtain ⟨⟨k1, k2, k3, k4⟩, h⟩ := h
    have hsub := sub_zip
    have L1 : Heap.IsList (Shared.heap ⟨hp, g, d, tk, os⟩) l1 x1 := k1
    have L2 : Heap.IsList (Shared.heap ⟨zq1 hp l1, g, d, tk, os⟩) l2 x2 := Heap.IsList.push k2 _
    have L3 : Heap.IsList (Shared.heap ⟨zq2 hp l1 l2, g, d, tk, os⟩) l3 x3 := Heap.IsList.push (Heap.IsList.push k3 _) _
    have L4 : Heap.IsList (Shared.heap ⟨zq3 hp l1 l2 l3, g, d, tk, os⟩) l4 x4 := Heap.IsList.push (Heap.IsList.push (Heap.IsList.push k4 _) _) _
    wp_walk using wpAny_pyIter_list L1, wpAny_pyIter_list L2, wpAny_pyIter_list L3, wpAny_pyIter_list L4
    exact ⟨_, rfl, h⟩
/-- what is known of a zip just made -/
def ZNew (h h' : Heap) (zp tI tO : Addr) (its ls : List Addr) : Prop :=
  ZAp zp tI tO its ls ∧ ZSt h' zp tI tO its ls 0 ∧ (∀ b, b = zp ∨ b = tI ∨ b = tO ∨ b ∈ its → h.objs.size ≤ b) ∧ ∀ c o, h.get? c = some o → h'.get? c = some o
theorem call_zip4 {l1 l2 l3 l4 : Addr} {x1 x2 x3 x4 : Array Value} {Q : Value → Shared → Prop} (k1 : s.heap.IsList l1 x1) (k2 : s.heap.IsList l2 x2) (k3 : s.heap.IsList l3 x3) (k4 : s.heap.IsList l4 x4)
    (h : ∀ h' zp tI tO its, ZNew s.heap h' zp tI tO its [l1, l2, l3, l4] → Q (.ref zp) { s with heap := h' }) : wpAny (model prog w) A (call (.type "zip") [.ref l1, .ref l2, .ref l3, .ref l4]) Q E s := by
  refine callType_new F.called_zip (by decide) (tc_zip4 _ _ _ _) (nc_zip4 _ _ _ _) (fun obj => ao_init5 obj _ _ _ _) F.entry_zip_new (meets_zip4 l1 l2 l3 l4 x1 x2 x3 x4) ⟨⟨k1, k2, k3, k4⟩, ?_⟩
  have n1 : (zq1 s.heap l1).objs.size = s.heap.objs.size + 1 := Heap.size_push ..
  have n2 : (zq2 s.heap l1 l2).objs.size = s.heap.objs.size + 2 := by rw [Heap.size_push, n1]
  have n3 : (zq3 s.heap l1 l2 l3).objs.size = s.heap.objs.size + 3 := by rw [Heap.size_push, n2]
  have n4 : (zq4 s.heap l1 l2 l3 l4).objs.size = s.heap.objs.size + 4 := by rw [Heap.size_push, n3]
  have n5 : (zqI s.heap l1 l2 l3 l4).objs.size = s.heap.objs.size + 5 := by rw [Heap.size_push, n4]
  have n6 : (zqO s.heap l1 l2 l3 l4).objs.size = s.heap.objs.size + 6 := by rw [Heap.size_push, n5]
  have gZ : (zqZ s.heap l1 l2 l3 l4).get? (zqO s.heap l1 l2 l3 l4).objs.size = some (zipO (zq4 s.heap l1 l2 l3 l4).objs.size (zqI s.heap l1 l2 l3 l4).objs.size) := Heap.get?_push_size _ rfl
  have gO : (zqZ s.heap l1 l2 l3 l4).get? (zqI s.heap l1 l2 l3 l4).objs.size = some (tupO #[.none, .none, .none, .none]) := Heap.get?_push_of_some _ (Heap.get?_push_size _ rfl)
  have gI : (zqZ s.heap l1 l2 l3 l4).get? (zq4 s.heap l1 l2 l3 l4).objs.size = some (tupO #[.ref s.heap.objs.size, .ref (zq1 s.heap l1).objs.size, .ref (zq2 s.heap l1 l2).objs.size, .ref (zq3 s.heap l1 l2 l3).objs.size]) := Heap.get?_push_of_some _ (Heap.get?_push_of_some _ (Heap.get?_push_size _ rfl))
  have g4 : (zqZ s.heap l1 l2 l3 l4).get? (zq3 s.heap l1 l2 l3).objs.size = some (litO l4) := Heap.get?_push_of_some _ (Heap.get?_push_of_some _ (Heap.get?_push_of_some _ (Heap.get?_push_size _ rfl)))
  have g3 : (zqZ s.heap l1 l2 l3 l4).get? (zq2 s.heap l1 l2).objs.size = some (litO l3) := Heap.get?_push_of_some _ (Heap.get?_push_of_some _ (Heap.get?_push_of_some _ (Heap.get?_push_of_some _ (Heap.get?_push_size _ rfl))))
  have g2 : (zqZ s.heap l1 l2 l3 l4).get? (zq1 s.heap l1).objs.size = some (litO l2) := Heap.get?_push_of_some _ (Heap.get?_push_of_some _ (Heap.get?_push_of_some _ (Heap.get?_push_of_some _ (Heap.get?_push_of_some _ (Heap.get?_push_size _ rfl)))))
  have g1 : (zqZ s.heap l1 l2 l3 l4).get? s.heap.objs.size = some (litO l1) := Heap.get?_push_of_some _ (Heap.get?_push_of_some _ (Heap.get?_push_of_some _ (Heap.get?_push_of_some _ (Heap.get?_push_of_some _ (Heap.get?_push_of_some _ (Heap.get?_push_size _ rfl))))))
  rw [n6, n5, n4] at gZ
  rw [n5] at gO
  rw [n4, n3, n2, n1] at gI
  rw [n3] at g4
  rw [n2] at g3
  rw [n1] at g2
  show _ ∧ _
  rw [n6]
  have mem4 : ∀ b, b ∈ [s.heap.objs.size, s.heap.objs.size + 1, s.heap.objs.size + 2, s.heap.objs.size + 3] → s.heap.objs.size ≤ b ∧ b < s.heap.objs.size + 4 := fun b hb => by
    simp only [List.mem_cons, List.not_mem_nil, or_false] at hb
    rcases hb with rfl | rfl | rfl | rfl
    · exact ⟨Nat.le_refl _, Nat.lt_add_of_pos_right (by decide)⟩
    · exact ⟨Nat.le_add_right _ _, Nat.add_lt_add_left (by decide) _⟩
    · exact ⟨Nat.le_add_right _ _, Nat.add_lt_add_left (by decide) _⟩
    · exact ⟨Nat.le_add_right _ _, Nat.add_lt_add_left (by decide) _⟩
  refine ⟨⟨_, gZ, rfl⟩, h _ (s.heap.objs.size + 6) (s.heap.objs.size + 4) (s.heap.objs.size + 5) [s.heap.objs.size, s.heap.objs.size + 1, s.heap.objs.size + 2, s.heap.objs.size + 3] ⟨⟨?_, ?_, ?_, fun it hi => ?_, ?_, rfl, by show 0 < 4; decide, by show 4 ≤ 8; decide⟩, ⟨gZ, gI, ⟨_, rfl, gO⟩, fun k it l e1 e2 => ?_⟩, fun b hb => ?_, fun c o e => ?_⟩⟩
  · exact Nat.ne_of_lt (Nat.add_lt_add_left (by decide) _)
  · exact Nat.ne_of_lt (Nat.add_lt_add_left (by decide) _)
  · exact Nat.ne_of_lt (Nat.add_lt_add_left (by decide) _)
  · have := (mem4 it hi).2
    exact ⟨Nat.ne_of_lt (Nat.lt_of_lt_of_le this (Nat.add_le_add_left (by decide) _)), Nat.ne_of_lt this, Nat.ne_of_lt (Nat.lt_of_lt_of_le this (Nat.add_le_add_left (by decide) _))⟩
  · show List.Nodup [s.heap.objs.size, s.heap.objs.size + 1, s.heap.objs.size + 2, s.heap.objs.size + 3]
    simp
  · match k, e1, e2 with
    | 0, e1, e2 => cases e1; cases e2; exact ⟨_, g1, rfl, rfl⟩
    | 1, e1, e2 => cases e1; cases e2; exact ⟨_, g2, rfl, rfl⟩
    | 2, e1, e2 => cases e1; cases e2; exact ⟨_, g3, rfl, rfl⟩
    | 3, e1, e2 => cases e1; cases e2; exact ⟨_, g4, rfl, rfl⟩
  · rcases hb with rfl | rfl | rfl | hb
    · exact Nat.le_add_right _ _
    · exact Nat.le_add_right _ _
    · exact Nat.le_add_right _ _
    · exact (mem4 b hb).1
  · exact Heap.get?_push_of_some _ (Heap.get?_push_of_some _ (Heap.get?_push_of_some _ (Heap.get?_push_of_some _ (Heap.get?_push_of_some _ (Heap.get?_push_of_some _ (Heap.get?_push_of_some _ e))))))
theorem call_zip3 {l1 l2 l3 : Addr} {x1 x2 x3 : Array Value} {Q : Value → Shared → Prop} (k1 : s.heap.IsList l1 x1) (k2 : s.heap.IsList l2 x2) (k3 : s.heap.IsList l3 x3)
    (h : ∀ h' zp tI tO its, ZNew s.heap h' zp tI tO its [l1, l2, l3] → Q (.ref zp) { s with heap := h' }) : wpAny (model prog w) A (call (.type "zip") [.ref l1, .ref l2, .ref l3]) Q E s := by
  refine zip_begins3 (begins_list l1 x1) (begins_list l2 x2) (begins_list l3 x3) k1 k2 k3 fun h' gZ gI gO g1 g2 g3 hsz hk => ?_
  have mem3 : ∀ b, b ∈ [s.heap.objs.size, s.heap.objs.size + 1, s.heap.objs.size + 2] → s.heap.objs.size ≤ b ∧ b < s.heap.objs.size + 3 := fun b hb => by
    simp only [List.mem_cons, List.not_mem_nil, or_false] at hb
    rcases hb with rfl | rfl | rfl
    · exact ⟨Nat.le_refl _, Nat.lt_add_of_pos_right (by decide)⟩
    · exact ⟨Nat.le_add_right _ _, Nat.add_lt_add_left (by decide) _⟩
    · exact ⟨Nat.le_add_right _ _, Nat.add_lt_add_left (by decide) _⟩
  refine h h' (s.heap.objs.size + 5) (s.heap.objs.size + 3) (s.heap.objs.size + 4) [s.heap.objs.size, s.heap.objs.size + 1, s.heap.objs.size + 2] ⟨⟨?_, ?_, ?_, fun it hi => ?_, ?_, rfl, by show 0 < 3; decide, by show 3 ≤ 8; decide⟩, ⟨gZ, gI, ⟨_, rfl, gO⟩, fun k it l e1 e2 => ?_⟩, fun b hb => ?_, hk⟩
  · exact Nat.ne_of_lt (Nat.add_lt_add_left (by decide) _)
  · exact Nat.ne_of_lt (Nat.add_lt_add_left (by decide) _)
  · exact Nat.ne_of_lt (Nat.add_lt_add_left (by decide) _)
  · have := (mem3 it hi).2
    exact ⟨Nat.ne_of_lt (Nat.lt_of_lt_of_le this (Nat.add_le_add_left (by decide) _)), Nat.ne_of_lt this, Nat.ne_of_lt (Nat.lt_of_lt_of_le this (Nat.add_le_add_left (by decide) _))⟩
  · show List.Nodup [s.heap.objs.size, s.heap.objs.size + 1, s.heap.objs.size + 2]
    simp
  · match k, e1, e2 with
    | 0, e1, e2 => cases e1; cases e2; exact ⟨_, g1, rfl, rfl⟩
    | 1, e1, e2 => cases e1; cases e2; exact ⟨_, g2, rfl, rfl⟩
    | 2, e1, e2 => cases e1; cases e2; exact ⟨_, g3, rfl, rfl⟩
  · rcases hb with rfl | rfl | rfl | hb
    · exact Nat.le_add_right _ _
    · exact Nat.le_add_right _ _
    · exact Nat.le_add_right _ _
    · exact (mem3 b hb).1
end
end K68
end

section
namespace K68
open PySem PySem.Spec PyProof.Rows L2
/-! ### over the layer -/
theorem pick_list {α β : Type} : ∀ (ls : List α) (R : Nat → α → β → Prop), (∀ k a, ls[k]? = some a → ∃ u, R k a u) → ∃ us : List β, us.length = ls.length ∧ ∀ k a, ls[k]? = some a → ∃ u, us[k]? = some u ∧ R k a u
  | [], R, _ => ⟨[], rfl, fun k a h => by cases h⟩
  | a :: ls, R, h => by
    obtain ⟨u, hu⟩ := h 0 a rfl
    obtain ⟨us, h1, h2⟩ := pick_list ls (fun k => R (k + 1)) fun k b e => h (k + 1) b e
    refine ⟨u :: us, by rw [List.length_cons, List.length_cons, h1], fun k b e => ?_⟩
    cases k with
    | zero =>
      have e : a = b := Option.some.inj e
      rw [← e]
      exact ⟨u, rfl, hu⟩
    | succ k => exact h2 k b e
theorem vals_of {xs : List V} {us : List Value} (hl : xs.length = us.length) (h : ∀ (k : Nat) (x : V) (u : Value), xs[k]? = some x → us[k]? = some u → RelV x u) : Vals xs us := vals_of_at hl h
/-- the lists at as, item by item, in new tuples -/
def Izn (K : PySem.W.Frag) (as : List Addr) : It :=
  ⟨fun i H => ∀ a ∈ as, ∃ (xs : List V) (x : V), SqL K H a xs ∧ xs[i]? = some x,
    fun i H v H' => ∃ S vs, v = .ref S ∧ H S = none ∧ H' = upd H S (.tup vs) ∧ vs.length = as.length ∧ ∀ (k : Nat) (a : Addr) (xs : List V), as[k]? = some a → SqL K H a xs → ∃ v, vs[k]? = some v ∧ xs[i]? = some v,
    fun i H => (∀ a ∈ as, ∃ xs : List V, SqL K H a xs) ∧ ∃ a ∈ as, ∃ xs : List V, SqL K H a xs ∧ xs.length ≤ i⟩
theorem turn_zipn {P : Program} {w : World} {K : PySem.W.Frag} {elts : List Expr} {kk : Nat} {tpos : Pos} {zp tI tO : Addr} {its ls : List Addr} (D : ZAp zp tI tO its ls) :
    Turn P w K (.Tuple elts kk tpos) (Izn K ls) (zp :: tI :: tO :: its) zp (fun i h => ZSt h zp tI tO its ls i) where
  mem := List.mem_cons_self
  obj := fun i h st b hb => by
    rcases List.mem_cons.mp hb with rfl | hb
    · exact ⟨_, st.hz, fun v q => nomatch q⟩
    · rcases List.mem_cons.mp hb with rfl | hb
      · exact ⟨_, st.hI, fun v q => nomatch q⟩
      · rcases List.mem_cons.mp hb with rfl | hb
        · obtain ⟨vs, _, h2⟩ := st.hO
          exact ⟨_, h2, fun v q => nomatch q⟩
        · obtain ⟨j, hj, ej⟩ := List.mem_iff_getElem.mp hb
          obtain ⟨o, e1, _, d1⟩ := st.hit j b _ (by rw [← ej]; exact List.getElem?_eq_getElem hj) (List.getElem?_eq_getElem (by rw [D.len]; exact hj))
          exact ⟨o, e1, fun v q => by rw [d1] at q; cases q⟩
  keep := fun i h h' st k => ZSt.at st fun b hb o e => k b (by
    rcases hb with rfl | rfl | rfl | hb
    · exact List.mem_cons_self
    · exact List.mem_cons_of_mem _ List.mem_cons_self
    · exact List.mem_cons_of_mem _ (List.mem_cons_of_mem _ List.mem_cons_self)
    · exact List.mem_cons_of_mem _ (List.mem_cons_of_mem _ (List.mem_cons_of_mem _ hb))) o e
  item := by
    intro X hP hw hK hc i pins s σ H E I hf st hg
    subst hP hw hK
    obtain ⟨ps, hpl, hps⟩ := pick_list ls (fun k a (p : V × Value) => ∃ xs items, SqL X.K H a xs ∧ xs[i]? = some p.1 ∧ RelV p.1 p.2 ∧ s.heap.IsList a items ∧ items[i]? = some p.2) fun k a e => by
      obtain ⟨xs, x, h1, h2⟩ := hg a (List.mem_of_getElem? e)
      obtain ⟨itsv, rv, pl, _⟩ := I.list h1
      obtain ⟨u, hu, ru⟩ := rv.get h2
      exact ⟨(x, u), xs, itsv.toArray, h1, h2, ru, pl.isList, by simpa using hu⟩
    have zl : zp < s.heap.objs.size := Heap.lt_size st.hz
    refine zip_pyNext_item (xs := ps.map Prod.snd) D st (by rw [List.length_map, hpl, D.len]) (fun k l e => ?_) fun h' z' Z' hT hk => ?_
    · obtain ⟨p, hp, xs, items, _, _, _, h4, h5⟩ := hps k l e
      exact ⟨items, p.2, h4, h5, by rw [List.getElem?_map, hp]; rfl⟩
    refine ⟨_, rfl, wpAny_letOwnedTupleGo_zip (s := { s with heap := h' }) z' fun h'' z'' sb => ?_⟩
    replace sb : Heap.SameBut zp h' h'' := sb
    have pl2 : (ps.map Prod.fst).length ≤ 8 := by
      rw [List.length_map, hpl, D.len]
      exact D.few
    have hT2 : h''.get? s.heap.objs.size = some { cls := .type "tuple", data := .seq (ps.map Prod.snd).toArray } := (sb.2 _ (Nat.ne_of_gt zl)).trans hT
    have vals : Vals (ps.map Prod.fst) (ps.map Prod.snd) := vals_of (by rw [List.length_map, List.length_map]) fun k x u e1 e2 => by
      rw [List.getElem?_map] at e1 e2
      cases hp : ps[k]? with
      | none =>
        rw [hp] at e1
        cases e1
      | some p =>
        rw [hp] at e1 e2
        cases e1
        cases e2
        obtain ⟨l, hl⟩ : ∃ l, ls[k]? = some l := ⟨_, List.getElem?_eq_getElem (by rw [← hpl]; exact lt_of_get hp)⟩
        obtain ⟨p', hp', _, _, _, _, r, _⟩ := hps k l hl
        rw [hp] at hp'
        cases hp'
        exact r
    have new : ObjOk X.prog X.w (upd H s.heap.objs.size (.tup (ps.map Prod.fst))) h'' s.heap.objs.size (.tup (ps.map Prod.fst)) := ⟨Nat.le_trans pl2 (by decide), ps.map Prod.snd, vals, ⟨_, hT2, rfl, _, rfl⟩⟩
    have I1 : Inv X pins σ (upd H s.heap.objs.size (.tup (ps.map Prod.fst))) { s with heap := h'' } :=
      I.turnedNew (t' := s.toks) (ch := zp :: tI :: tO :: its) (fun c o hb q => (sb.2 c fun z => hb (by rw [z]; exact List.mem_cons_self)).trans (hk c o (fun z => hb (by rw [z]; exact List.mem_cons_self)) (fun z => hb (by rw [z]; exact List.mem_cons_of_mem _ (List.mem_cons_of_mem _ List.mem_cons_self)))
        (fun z => hb (List.mem_cons_of_mem _ (List.mem_cons_of_mem _ (List.mem_cons_of_mem _ z)))) q)) hf (Nat.le_refl _) new
    refine ⟨.ref s.heap.objs.size, _, I1, rfl, ⟨_, ps.map Prod.fst, rfl, I.hok.fresh (Nat.le_refl _), rfl, by rw [List.length_map, hpl], fun k a xs e hx => ?_⟩, Z' h'' z'' fun b o hb e => (sb.2 b hb).trans e, fun c hcm => ?_⟩
    · obtain ⟨p, hp, xs', items, h1, h2, _⟩ := hps k a e
      refine ⟨p.1, by rw [List.getElem?_map, hp]; rfl, ?_⟩
      rw [I.list_inj hx h1]
      exact h2
    · have hlt : c < s.heap.objs.size := by
        rcases List.mem_cons.mp hcm with rfl | hb
        · exact zl
        · rcases List.mem_cons.mp hb with rfl | hb
          · exact Heap.lt_size st.hI
          · rcases List.mem_cons.mp hb with rfl | hb
            · obtain ⟨vs, _, h2⟩ := st.hO
              exact Heap.lt_size h2
            · obtain ⟨j, hj, ej⟩ := List.mem_iff_getElem.mp hb
              obtain ⟨o, e1, _⟩ := st.hit j c _ (by rw [← ej]; exact List.getElem?_eq_getElem hj) (List.getElem?_eq_getElem (by rw [D.len]; exact hj))
              exact Heap.lt_size e1
      rw [upd_ne (Nat.ne_of_lt hlt)]
      exact (hf c hcm).1
  done := by
    intro X hP hw hK hc i pins s σ H E I hf st hg
    subst hP hw hK
    obtain ⟨hall, a, ha, xs, hx, hle⟩ := hg
    have lists : ∀ (k : Nat) (l : Addr), ls[k]? = some l → ∃ (xs : List V) (items : Array Value), SqL X.K H l xs ∧ s.heap.IsList l items ∧ xs.length = items.size := fun k l e => by
      obtain ⟨xs, h1⟩ := hall l (List.mem_of_getElem? e)
      obtain ⟨itsv, rv, pl, _⟩ := I.list h1
      exact ⟨xs, itsv.toArray, h1, pl.isList, by rw [List.size_toArray]; exact rv.length⟩
    obtain ⟨j, hj, ej⟩ := List.mem_iff_getElem.mp ha
    obtain ⟨k0, hk0, hp0, hlo⟩ := first_none its.length (fun k => ∃ l xs, ls[k]? = some l ∧ SqL X.K H l xs ∧ xs.length ≤ i) ⟨j, by rw [← D.len]; exact hj, a, xs, by rw [← ej]; exact List.getElem?_eq_getElem hj, hx, hle⟩
    refine zip_pyNext_end (I.ok.hd hc) D st hk0 (fun k l e => ?_) fun h' hk => ⟨rfl, I.turnedL (t' := s.toks) (ch := zp :: tI :: tO :: its) (fun c o hb q => hk c o (fun z => hb (by rw [z]; exact List.mem_cons_self)) (fun z => hb (by rw [z]; exact List.mem_cons_of_mem _ (List.mem_cons_of_mem _ List.mem_cons_self)))
        (fun z => hb (List.mem_cons_of_mem _ (List.mem_cons_of_mem _ (List.mem_cons_of_mem _ z)))) q) hf⟩
    obtain ⟨xs', items, h1, h2, h3⟩ := lists k l e
    refine ⟨items, h2, fun hlt => ?_, fun he => ?_⟩
    · have : ¬ xs'.length ≤ i := fun z => hlo k hlt ⟨l, xs', e, h1, z⟩
      exact ⟨_, Array.getElem?_eq_getElem (by omega)⟩
    · obtain ⟨l', xs2, e', h1', hle'⟩ := hp0
      rw [he] at e
      rw [e] at e'
      cases e'
      rw [I.list_inj h1' h1] at hle'
      exact Array.getElem?_eq_none (by omega)
  self := fun A i s Q E st h => wpAny_pyIter_zip st.hz h
def iZip3 (K : PySem.W.Frag) (ta : TA) : TI := fun σ H R => ta σ H fun vs H1 => ∃ a b c, vs = [.ref a, .ref b, .ref c] ∧ (∀ l ∈ [a, b, c], ∃ xs : List V, SqL K H1 l xs) ∧ R (Izn K [a, b, c]) H1
def iZip4 (K : PySem.W.Frag) (ta : TA) : TI := fun σ H R => ta σ H fun vs H1 => ∃ a b c d, vs = [.ref a, .ref b, .ref c, .ref d] ∧ (∀ l ∈ [a, b, c, d], ∃ xs : List V, SqL K H1 l xs) ∧ R (Izn K [a, b, c, d]) H1
section
variable {X : Cx} {tA : TA} {p pos tpos : Pos} {elts : List Expr} {kk : Nat}
/-- a zip that was just made, as what is walked -/
theorem pie_new {pins : List (Addr × Obj)} {σ : L2.St} {H : Hp} {s : Shared} {R : It → Hp → Prop} {E : Value → Shared → Prop} {h' : Heap} {zp tI tO : Addr} {its ls : List Addr} (I : Inv X pins σ H s) (Z : ZNew s.heap h' zp tI tO its ls) (q : R (Izn X.K ls) H) :
    wpAny (model X.prog X.w) X.A (pyIter (.ref zp)) (PIE X pins σ (.Tuple elts kk tpos) R) E { s with heap := h' } := by
  obtain ⟨D, S, ab, kp⟩ := Z
  refine wpAny_pyIter_zip S.hz ?_
  refine ⟨zp, zp :: tI :: tO :: its, _, Izn X.K ls, H, rfl, I.kept (t' := s.toks) kp, turn_zipn D, S, fun c hc => ?_, q⟩
  have hle : s.heap.objs.size ≤ c := ab c (by
    rcases List.mem_cons.mp hc with rfl | hb
    · exact .inl rfl
    · rcases List.mem_cons.mp hb with rfl | hb
      · exact .inr (.inl rfl)
      · rcases List.mem_cons.mp hb with rfl | hb
        · exact .inr (.inr (.inl rfl))
        · exact .inr (.inr (.inr hb)))
  exact I.fpOk hle (I.hok.fresh hle)
theorem valsT {a b c : V} {us : List Value} (h : Vals [a, b, c] us) : ∃ x y z, us = [x, y, z] ∧ RelV a x ∧ RelV b y ∧ RelV c z := by
  cases h with
  | cons r t =>
    obtain ⟨y, z, e, r2, r3⟩ := vals2 t
    exact ⟨_, y, z, by rw [e], r, r2, r3⟩
theorem valsQ {a b c d : V} {us : List Value} (h : Vals [a, b, c, d] us) : ∃ x y z u, us = [x, y, z, u] ∧ RelV a x ∧ RelV b y ∧ RelV c z ∧ RelV d u := by
  cases h with
  | cons r t =>
    obtain ⟨y, z, u, e, r2, r3, r4⟩ := valsT t
    exact ⟨_, y, z, u, by rw [e], r, r2, r3, r4⟩
theorem pi_zip3 {e1 e2 e3 : Expr} (hg : Gl X "zip") (hm : X.mg "zip" = none) (ha : PA X [e1, e2, e3] tA)
    (hs : starEach [e1, e2, e3] X.env = (false, eval e1 X.env) :: starEach [e2, e3] X.env := by rfl) (hpl : (backTo pos (starEach [e2, e3] X.env)).any (·.1) = false := by rfl) :
    PI X (.Tuple elts kk tpos) (.Call (.Name "zip" p) [e1, e2, e3] [] pos) (iZip3 X.K tA) := by
  refine ⟨fun pins s σ H R I h => ?_⟩
  refine Call_ (ld_blt I hg hm PyProof.Rows.boot_zip (PyProof.Rows.callWith_type1 (thn (ha.run pos pins s σ H _ I h) fun us s1 ⟨vs, H1, I1, r1, q1⟩ => ?_) hs hpl))
  obtain ⟨a, b, c, rfl, hl, q⟩ := q1
  obtain ⟨w1, w2, w3, rfl, y1, y2, y3⟩ := valsT r1
  have y1 : w1 = Value.ref a := y1
  have y2 : w2 = Value.ref b := y2
  have y3 : w3 = Value.ref c := y3
  subst y1
  subst y2
  subst y3
  · skip
    obtain ⟨x1, h1⟩ := hl a (by simp)
    obtain ⟨x2, h2⟩ := hl b (by simp)
    obtain ⟨x3, h3⟩ := hl c (by simp)
    obtain ⟨_, _, p1, _⟩ := I1.list h1
    obtain ⟨_, _, p2, _⟩ := I1.list h2
    obtain ⟨_, _, p3, _⟩ := I1.list h3
    exact call_zip3 p1.isList p2.isList p3.isList fun h' zp tI tO its Z => pie_new I1 Z q
theorem pi_zip4 {e1 e2 e3 e4 : Expr} (hg : Gl X "zip") (hm : X.mg "zip" = none) (ha : PA X [e1, e2, e3, e4] tA)
    (hs : starEach [e1, e2, e3, e4] X.env = (false, eval e1 X.env) :: starEach [e2, e3, e4] X.env := by rfl) (hpl : (backTo pos (starEach [e2, e3, e4] X.env)).any (·.1) = false := by rfl) :
    PI X (.Tuple elts kk tpos) (.Call (.Name "zip" p) [e1, e2, e3, e4] [] pos) (iZip4 X.K tA) := by
  refine ⟨fun pins s σ H R I h => ?_⟩
  refine Call_ (ld_blt I hg hm PyProof.Rows.boot_zip (PyProof.Rows.callWith_type1 (thn (ha.run pos pins s σ H _ I h) fun us s1 ⟨vs, H1, I1, r1, q1⟩ => ?_) hs hpl))
  obtain ⟨a, b, c, d, rfl, hl, q⟩ := q1
  obtain ⟨w1, w2, w3, w4, rfl, y1, y2, y3, y4⟩ := valsQ r1
  have y1 : w1 = Value.ref a := y1
  have y2 : w2 = Value.ref b := y2
  have y3 : w3 = Value.ref c := y3
  have y4 : w4 = Value.ref d := y4
  subst y1
  subst y2
  subst y3
  subst y4
  · skip
    obtain ⟨x1, h1⟩ := hl a (by simp)
    obtain ⟨x2, h2⟩ := hl b (by simp)
    obtain ⟨x3, h3⟩ := hl c (by simp)
    obtain ⟨x4, h4⟩ := hl d (by simp)
    obtain ⟨_, _, p1, _⟩ := I1.list h1
    obtain ⟨_, _, p2, _⟩ := I1.list h2
    obtain ⟨_, _, p3, _⟩ := I1.list h3
    obtain ⟨_, _, p4, _⟩ := I1.list h4
    exact call_zip4 p1.isList p2.isList p3.isList p4.isList fun h' zp tI tO its Z => pie_new I1 Z q
end
end K68
end

section
namespace K68
open PySem PySem.Spec PyProof.Rows L2
section
variable {T : Addr × Str} {K : PySem.W.Frag} {σ : L2.St} {Hb : Hp} {tA : TA} {n : Nat} {ds es fs gs : List Da}
theorem at3s {H : Hp} {a b c : Da} {vs : List V} (h : AtL H [a, b, c] vs) : ∃ x y z, vs = [x, y, z] ∧ a.At H x ∧ b.At H y ∧ c.At H z := by
  obtain ⟨x, r, rfl, h1, y, r2, rfl, h2, z, r3, rfl, h3, h4⟩ := (show ∃ u r, vs = u :: r ∧ a.At H u ∧ ∃ u2 r2, r = u2 :: r2 ∧ b.At H u2 ∧ ∃ u3 r3, r2 = u3 :: r3 ∧ c.At H u3 ∧ AtL H [] r3 from h)
  have h4 : r3 = [] := h4
  exact ⟨x, y, z, by rw [h4], h1, h2, h3⟩
theorem at4s {H : Hp} {a b c d : Da} {vs : List V} (h : AtL H [a, b, c, d] vs) : ∃ x y z u, vs = [x, y, z, u] ∧ a.At H x ∧ b.At H y ∧ c.At H z ∧ d.At H u := by
  obtain ⟨x, r, rfl, h1, h2⟩ := (show ∃ u r, vs = u :: r ∧ a.At H u ∧ AtL H [b, c, d] r from h)
  obtain ⟨y, z, u, rfl, h3, h4, h5⟩ := at3s h2
  exact ⟨x, y, z, u, rfl, h1, h3, h4, h5⟩
theorem src_zip3 {j k l : Nat} (h : EvA T tA σ Hb [.l ds, .l es, .l fs]) (h1 : ds.length = n) (h2 : es.length = n) (h3 : fs.length = n) :
    SrcD T (iZip3 K tA) (g3 K j k l) σ Hb n [j, k, l] (fun i => [ds.getD i (.v .non), es.getD i (.v .non), fs.getD i (.v .non)]) := fun Hb1 Hc e1 e2 R q =>
  h Hb1 Hc e1 e2 _ fun vs H2 Hc2 s1 a => by
    obtain ⟨x, y, z, rfl, a1, a2, a3⟩ := at3s a
    obtain ⟨p1, u1, rfl, b1, c1⟩ := (show ∃ a us, x = .ref a ∧ H2 a = some (.lst us) ∧ AtL H2 ds us from a1)
    obtain ⟨p2, u2, rfl, b2, c2⟩ := (show ∃ a us, y = .ref a ∧ H2 a = some (.lst us) ∧ AtL H2 es us from a2)
    obtain ⟨p3, u3, rfl, b3, c3⟩ := (show ∃ a us, z = .ref a ∧ H2 a = some (.lst us) ∧ AtL H2 fs us from a3)
    have all : ∀ {Hx}, Ex T H2 Hx → ∀ a ∈ [p1, p2, p3], ∃ xs : List V, SqL K Hx a xs ∧ xs.length = n := fun {Hx} e a ha => by
      simp only [List.mem_cons, List.not_mem_nil, or_false] at ha
      rcases ha with rfl | rfl | rfl
      · exact ⟨u1, sqL (e.at b1 True.intro), by rw [c1.length, h1]⟩
      · exact ⟨u2, sqL (e.at b2 True.intro), by rw [c2.length, h2]⟩
      · exact ⟨u3, sqL (e.at b3 True.intro), by rw [c3.length, h3]⟩
    refine ⟨p1, p2, p3, rfl, fun a ha => (all s1.e2 a ha).imp fun _ h => h.1, q _ H2 Hc2 s1 fun i Hb3 Hc3 e3 e4 => ⟨fun hi => ⟨fun a ha => ?_, fun x H4 y σ' Q k' => ?_⟩, fun hi => ⟨fun a ha => (all (e3.trans e4) a ha).imp fun _ h => h.1, p1, by simp, ?_⟩⟩⟩
    · obtain ⟨xs, h4, h5⟩ := all (e3.trans e4) a ha
      exact ⟨xs, xs[i], h4, List.getElem?_eq_getElem (by omega)⟩
    · obtain ⟨S, vs, rfl, hS, rfl, hl, hv⟩ := y
      have hs1 : SqL K Hc3 p1 u1 := sqL ((e3.trans e4).at b1 True.intro)
      have hs2 : SqL K Hc3 p2 u2 := sqL ((e3.trans e4).at b2 True.intro)
      have hs3 : SqL K Hc3 p3 u3 := sqL ((e3.trans e4).at b3 True.intro)
      obtain ⟨v1, g1, f1⟩ := hv 0 p1 u1 rfl hs1
      obtain ⟨v2, g2, f2⟩ := hv 1 p2 u2 rfl hs2
      obtain ⟨v3, g3, f3⟩ := hv 2 p3 u3 rfl hs3
      have evs : vs = [v1, v2, v3] := by
        match vs, hl, g1, g2, g3 with
        | [a, b, c], _, g1, g2, g3 =>
          cases g1
          cases g2
          cases g3
          rfl
      subst evs
      obtain ⟨w1, q1, d1⟩ := c1.get (get_lt (show i < ds.length by omega) (.v .non))
      obtain ⟨w2, q2, d2⟩ := c2.get (get_lt (show i < es.length by omega) (.v .non))
      obtain ⟨w3, q3, d3⟩ := c3.get (get_lt (show i < fs.length by omega) (.v .non))
      rw [q1] at f1
      rw [q2] at f2
      rw [q3] at f3
      cases f1
      cases f2
      cases f3
      exact ⟨S, _, rfl, sqT upd_same, rfl, _, _, rfl, _, _, rfl, _, _, rfl, rfl, k' _ Hb3 _ ((Stp.refl e4).own hS) (.cons (d1.mono e3) (.cons (d2.mono e3) (.cons (d3.mono e3) .nil)))⟩
    · obtain ⟨xs, h4, h5⟩ := all (e3.trans e4) p1 (by simp)
      exact ⟨xs, h4, by omega⟩
theorem src_zip4 {j k l m : Nat} (h : EvA T tA σ Hb [.l ds, .l es, .l fs, .l gs]) (h1 : ds.length = n) (h2 : es.length = n) (h3 : fs.length = n) (h4 : gs.length = n) :
    SrcD T (iZip4 K tA) (g4 K j k l m) σ Hb n [j, k, l, m] (fun i => [ds.getD i (.v .non), es.getD i (.v .non), fs.getD i (.v .non), gs.getD i (.v .non)]) := fun Hb1 Hc e1 e2 R q =>
  h Hb1 Hc e1 e2 _ fun vs H2 Hc2 s1 a => by
    obtain ⟨x, y, z, t, rfl, a1, a2, a3, a4⟩ := at4s a
    obtain ⟨p1, u1, rfl, b1, c1⟩ := (show ∃ a us, x = .ref a ∧ H2 a = some (.lst us) ∧ AtL H2 ds us from a1)
    obtain ⟨p2, u2, rfl, b2, c2⟩ := (show ∃ a us, y = .ref a ∧ H2 a = some (.lst us) ∧ AtL H2 es us from a2)
    obtain ⟨p3, u3, rfl, b3, c3⟩ := (show ∃ a us, z = .ref a ∧ H2 a = some (.lst us) ∧ AtL H2 fs us from a3)
    obtain ⟨p4, u4, rfl, b4, c4⟩ := (show ∃ a us, t = .ref a ∧ H2 a = some (.lst us) ∧ AtL H2 gs us from a4)
    have all : ∀ {Hx}, Ex T H2 Hx → ∀ a ∈ [p1, p2, p3, p4], ∃ xs : List V, SqL K Hx a xs ∧ xs.length = n := fun {Hx} e a ha => by
      simp only [List.mem_cons, List.not_mem_nil, or_false] at ha
      rcases ha with rfl | rfl | rfl | rfl
      · exact ⟨u1, sqL (e.at b1 True.intro), by rw [c1.length, h1]⟩
      · exact ⟨u2, sqL (e.at b2 True.intro), by rw [c2.length, h2]⟩
      · exact ⟨u3, sqL (e.at b3 True.intro), by rw [c3.length, h3]⟩
      · exact ⟨u4, sqL (e.at b4 True.intro), by rw [c4.length, h4]⟩
    refine ⟨p1, p2, p3, p4, rfl, fun a ha => (all s1.e2 a ha).imp fun _ h => h.1, q _ H2 Hc2 s1 fun i Hb3 Hc3 e3 e4 => ⟨fun hi => ⟨fun a ha => ?_, fun x H4 y σ' Q k' => ?_⟩, fun hi => ⟨fun a ha => (all (e3.trans e4) a ha).imp fun _ h => h.1, p1, by simp, ?_⟩⟩⟩
    · obtain ⟨xs, h4, h5⟩ := all (e3.trans e4) a ha
      exact ⟨xs, xs[i], h4, List.getElem?_eq_getElem (by omega)⟩
    · obtain ⟨S, vs, rfl, hS, rfl, hl, hv⟩ := y
      have hs1 : SqL K Hc3 p1 u1 := sqL ((e3.trans e4).at b1 True.intro)
      have hs2 : SqL K Hc3 p2 u2 := sqL ((e3.trans e4).at b2 True.intro)
      have hs3 : SqL K Hc3 p3 u3 := sqL ((e3.trans e4).at b3 True.intro)
      have hs4 : SqL K Hc3 p4 u4 := sqL ((e3.trans e4).at b4 True.intro)
      obtain ⟨v1, g1, f1⟩ := hv 0 p1 u1 rfl hs1
      obtain ⟨v2, g2, f2⟩ := hv 1 p2 u2 rfl hs2
      obtain ⟨v3, g3, f3⟩ := hv 2 p3 u3 rfl hs3
      obtain ⟨v4, g4, f4⟩ := hv 3 p4 u4 rfl hs4
      have evs : vs = [v1, v2, v3, v4] := by
        match vs, hl, g1, g2, g3, g4 with
        | [a, b, c, d], _, g1, g2, g3, g4 =>
          cases g1
          cases g2
          cases g3
          cases g4
          rfl
      subst evs
      obtain ⟨w1, q1, d1⟩ := c1.get (get_lt (show i < ds.length by omega) (.v .non))
      obtain ⟨w2, q2, d2⟩ := c2.get (get_lt (show i < es.length by omega) (.v .non))
      obtain ⟨w3, q3, d3⟩ := c3.get (get_lt (show i < fs.length by omega) (.v .non))
      obtain ⟨w4, q4, d4⟩ := c4.get (get_lt (show i < gs.length by omega) (.v .non))
      rw [q1] at f1
      rw [q2] at f2
      rw [q3] at f3
      rw [q4] at f4
      cases f1
      cases f2
      cases f3
      cases f4
      exact ⟨S, _, rfl, sqT upd_same, rfl, _, _, rfl, _, _, rfl, _, _, rfl, _, _, rfl, rfl, k' _ Hb3 _ ((Stp.refl e4).own hS) (.cons (d1.mono e3) (.cons (d2.mono e3) (.cons (d3.mono e3) (.cons (d4.mono e3) .nil))))⟩
    · obtain ⟨xs, h4, h5⟩ := all (e3.trans e4) p1 (by simp)
      exact ⟨xs, h4, by omega⟩
end
end K68
end

section
/-! K68Own: many lists of one's own, told together. -/
namespace K68
open PySem PySem.Spec PyProof.Rows L2
section
variable {T : Addr × Str} {K : PySem.W.Frag} {σ : L2.St} {Hb Hb' Hb1 Hc Hc' H H1 Hx H0b H0 : Hp} {te ta tb : TE} {tt : TT} {wi : TI} {g : TG} {n : Nat} {js : List Nat} {rs : Nat → List Da} {ps : List Addr} {gf : Nat → List Nat}
/-- lists of numbers, one's own -/
structure Ow (H Hb Hc : Hp) (ps : List Addr) (gf : Nat → List Nat) : Prop where
  at_ : ∀ i p, ps[i]? = some p → Hc p = some (.lst ((gf i).map vn)) ∧ Hb p = none ∧ H p = none
  nd : ps.Nodup
theorem Ow.step (o : Ow H Hb Hc ps gf) (s : Stp T Hb Hc Hb' Hc') : Ow H Hb' Hc' ps gf := ⟨fun i p h => by
  obtain ⟨h1, h2, h3⟩ := o.at_ i p h
  exact ⟨s.kept h1 True.intro, s.hidden h2 h1, h3⟩, o.nd⟩
theorem Ow.keep (o : Ow H Hb Hc ps gf) (e : Ex T Hc Hc') : Ow H Hb Hc' ps gf := ⟨fun i p h => by
  obtain ⟨h1, h2, h3⟩ := o.at_ i p h
  exact ⟨e.at h1 True.intro, h2, h3⟩, o.nd⟩
theorem Ow.other {q : Addr} {u : HO} (o : Ow H Hb Hc ps gf) (hq : ∀ p ∈ ps, p ≠ q) : Ow H Hb (upd Hc q u) ps gf := ⟨fun i p h => by
  obtain ⟨h1, h2, h3⟩ := o.at_ i p h
  exact ⟨by rw [upd_ne (hq p (List.mem_of_getElem? h))]; exact h1, h2, h3⟩, o.nd⟩
theorem Ow.grow {q : Addr} (o : Ow H Hb Hc ps gf) (e : gf ps.length = l) (hc : Hc q = none) (hb : Hb q = none) (h : H q = none) : Ow H Hb (upd Hc q (.lst (l.map vn))) (ps ++ [q]) gf := by
  have nq : ∀ p ∈ ps, p ≠ q := fun p hp z => by
    obtain ⟨i, hi⟩ := List.mem_iff_getElem?.mp hp
    rw [← z, (o.at_ i p hi).1] at hc
    cases hc
  refine ⟨fun i p hp => ?_, ?_⟩
  · rcases Nat.lt_or_ge i ps.length with hi | hi
    · rw [List.getElem?_append_left hi] at hp
      exact (o.other nq).at_ i p hp
    · rw [List.getElem?_append_right hi] at hp
      have h0 : i - ps.length = 0 := by
        have := lt_of_get hp
        rw [List.length_singleton] at this
        omega
      rw [h0] at hp
      have hp : q = p := Option.some.inj hp
      have hi : i = ps.length := by omega
      rw [← hp, hi, e]
      exact ⟨upd_same, hb, h⟩
  · rw [List.nodup_append]
    refine ⟨o.nd, List.nodup_cons.mpr ⟨List.not_mem_nil, List.nodup_nil⟩, fun a ha b hb => ?_⟩
    rw [List.mem_singleton.mp hb]
    exact nq a ha
theorem Ow.set {i q : Nat} {p : Addr} (o : Ow H Hb Hc ps gf) (hi : ps[i]? = some p) : Ow H Hb (upd Hc p (.lst (((gf i).map vn) ++ [vn q]))) ps (fun j => if j = i then gf i ++ [q] else gf j) := ⟨fun j p' h => by
  obtain ⟨h1, h2, h3⟩ := o.at_ j p' h
  by_cases hj : j = i
  · subst hj
    rw [hi] at h
    cases h
    refine ⟨?_, h2, h3⟩
    rw [upd_same, if_pos rfl, List.map_append]
    rfl
  · have hp : p' ≠ p := fun z => by
      rw [z] at h
      exact hj ((List.getElem?_inj (lt_of_get h) o.nd).mp (by rw [h, hi]))
    refine ⟨?_, h2, h3⟩
    rw [upd_ne hp, if_neg hj]
    exact h1, o.nd⟩
/-- all is told -/
theorem tell_all (S : Stp T H0b H0 Hb Hc) : ∀ (ps : List Addr), (∀ p ∈ ps, (∃ o, Hc p = some o) ∧ Hb p = none ∧ H0 p = none) → ps.Nodup → ∃ Hb', Stp T H0b H0 Hb' Hc ∧ Ex T Hb Hb' ∧ (∀ p ∈ ps, Hb' p = Hc p) ∧ ∀ q, Hb q = none → q ∉ ps → Hb' q = none
  | [], _, _ => ⟨Hb, S, .refl S.e1.t2, fun p hp => absurd hp List.not_mem_nil, fun q h _ => h⟩
  | p :: ps, h, nd => by
    obtain ⟨n1, n2⟩ := List.nodup_cons.mp nd
    obtain ⟨Hb', S', e', h1, h2⟩ := tell_all S ps (fun q hq => h q (List.mem_cons_of_mem _ hq)) n2
    obtain ⟨⟨o, ho⟩, hb, h0⟩ := h p List.mem_cons_self
    have hb' := h2 p hb n1
    refine ⟨upd Hb' p o, S'.tell h0 hb' ho, e'.trans (.new S'.e1.t2 hb'), fun q hq => ?_, fun q hq hn => ?_⟩
    · rcases List.mem_cons.mp hq with rfl | hq
      · rw [upd_same, ho]
      · rw [upd_ne (fun z : q = p => n1 (by rw [← z]; exact hq))]
        exact h1 q hq
    · rw [upd_ne (fun z : q = p => hn (by rw [z]; exact List.mem_cons_self))]
      exact h2 q hq (fun z => hn (List.mem_cons_of_mem _ z))
theorem Ow.tell {pf : Addr} (S : Stp T H0b H0 Hb Hc) (o : Ow H0 Hb Hc ps gf) (hf : Hc pf = some (.lst (ps.map V.ref))) (bf : Hb pf = none) (f0 : H0 pf = none) (nf : pf ∉ ps) :
    ∃ Hb', Stp T H0b H0 Hb' Hc ∧ Ex T Hb Hb' ∧ (Da.l ((List.range ps.length).map fun i => dNL (gf i))).At Hb' (.ref pf) := by
  obtain ⟨Hb', S', e', h1, _⟩ := tell_all S (pf :: ps) (fun p hp => by
    rcases List.mem_cons.mp hp with rfl | hp
    · exact ⟨⟨_, hf⟩, bf, f0⟩
    · obtain ⟨i, hi⟩ := List.mem_iff_getElem?.mp hp
      obtain ⟨a1, a2, a3⟩ := o.at_ i p hi
      exact ⟨⟨_, a1⟩, a2, a3⟩) (List.nodup_cons.mpr ⟨nf, o.nd⟩)
  refine ⟨Hb', S', e', pf, ps.map V.ref, rfl, by rw [h1 pf List.mem_cons_self, hf], .of (by rw [List.length_map, List.length_map, List.length_range]) fun i d u hd hu => ?_⟩
  rw [List.getElem?_map] at hd hu
  obtain ⟨p, hp, rfl⟩ := Option.map_eq_some_iff.mp hu
  have hi := lt_of_get hp
  rw [List.getElem?_range hi] at hd
  have hd : dNL (gf i) = d := Option.some.inj hd
  rw [← hd]
  exact at_dNL_mk (by rw [h1 p (List.mem_cons_of_mem _ (List.mem_of_getElem? hp)), (o.at_ i p hp).1])
variable {D : Ends} {tu tz tw : TS}
/-- [[] for ..], one's own -/
theorem q_newE {i : Nat} {ws : List Nat} (src : SrcD T wi g σ Hb n js rs) (hn : n ≤ 50000) (e : Ex T Hb Hc)
    (turn : ∀ i vs Hb1, i < n → Ex T Hb Hb1 → AtL Hb1 (rs i) vs → wipe (sets (wipe σ ws) js vs) ws = wipe σ ws)
    (k : ∀ pf ps Hb' Hc', Stp T Hb Hc Hb' Hc' → Hb' pf = none → Hc pf = none → Hc' pf = some (.lst (ps.map V.ref)) → ps.length = n → Ow Hc Hb' Hc' ps (fun _ => []) → pf ∉ ps → tz D (σ.set i (some (.ref pf))) Hc') :
    tSeq (tAsg (tLc wi g tYes (tLst tNil) ws) (gName i)) tz D σ Hc := src Hb Hc (.refl e.t1) e _ fun J Hb2 Hc2 s1 G Df hD => by
  refine ⟨fun i m H => m = n - i ∧ i ≤ n ∧ ∃ Hb' ps, Stp T Hb2 Hc2 Hb' H ∧ Hb' Df = none ∧ H Df = some (.lst (ps.map V.ref)) ∧ ps.length = i ∧ Ow Hc2 Hb' H ps (fun _ => []) ∧ Df ∉ ps, ⟨n, rfl, Nat.zero_le _, Hb2, [], (Stp.refl s1.e2).own hD, s1.e2.none hD, upd_same, rfl, Ow.mk (fun i p h => nomatch h) List.nodup_nil, List.not_mem_nil⟩, ?_⟩
  rintro i m H ⟨rfl, hi, Hb', ps, S, hb, hd, hl, O, nD⟩
  obtain ⟨g1, g2⟩ := G i Hb' H S.e1 S.e2
  by_cases hlt : i < n
  · obtain ⟨go, step⟩ := g1 hlt
    refine .inr ⟨go, fun H' => ∃ Hb' ps, Stp T Hb2 Hc2 Hb' H' ∧ Hb' Df = none ∧ H' Df = some (.lst (ps.map V.ref)) ∧ ps.length = i + 1 ∧ Ow Hc2 Hb' H' ps (fun _ => []) ∧ Df ∉ ps, fun H' hN => ⟨n - (i + 1), by omega, rfl, hlt, hN⟩, fun x H' y => ?_⟩
    refine step x H' y _ _ fun vs Hb5 Hc5 s5 a5 => ?_
    refine ⟨turn i vs Hb5 hlt ((s1.e1.trans S.e1).trans s5.e1) a5, ?_⟩
    show ([] : List V).length ≤ sizeLine ∧ _
    refine ⟨Nat.zero_le _, fun p hp => ?_⟩
    have hb5 := s5.hidden hb hd
    have hd5 := s5.kept hd True.intro
    have S5 := S.trans s5
    have np : Df ≠ p := fun z => by
      rw [← z, hd5] at hp
      cases hp
    have O5 := (O.step s5).grow (q := p) (l := []) rfl hp (s5.e2.none hp) (S5.e3.none hp)
    have d6 : (upd Hc5 p (.lst (([] : List Nat).map vn))) Df = some (.lst (ps.map V.ref)) := by rw [upd_ne np]; exact hd5
    have np2 : Df ∉ ps ++ [p] := fun z => by
      rcases List.mem_append.mp z with z | z
      · exact nD z
      · exact np (List.mem_singleton.mp z)
    refine ⟨ps.map V.ref, d6, ?_, Hb5, ps ++ [p], (S5.own hp).mut hD hb5 d6 True.intro, hb5, ?_, ?_, O5.other fun q hq z => np2 (z ▸ hq), np2⟩
    · rw [List.length_map, hl]
      exact sz_lt (by omega)
    · rw [upd_same, List.map_append]
      rfl
    · rw [List.length_append, hl]
      rfl
  · have e : i = n := by omega
    subst e
    refine .inl ⟨g2 rfl, k Df ps Hb' H (s1.trans S) hb (s1.fresh hD) hd hl ⟨fun i p h => ?_, O.nd⟩ nD⟩
    obtain ⟨a1, a2, a3⟩ := O.at_ i p h
    exact ⟨a1, a2, s1.e3.none a3⟩
/-- xs[e].append(f), xs and its lists one's own -/
theorem s_app2 {i m q : Nat} {p pf : Addr} {us : List V} (hx : σ[i]? = some (some (.ref pf))) (hf : Hc pf = some (.lst (ps.map V.ref))) (hi : EvD T tb σ Hb (dn m)) (hm : ps[m]? = some p) (hp : Hc p = some (.lst us)) (h : EvD T te σ Hb (dn q)) (e : Ex T Hb Hc) (hl : us.length < 100000)
    (k : ∀ Hb' Hc', Stp T Hb Hc Hb' Hc' → Hc' p = some (.lst us) → D.nx σ (upd Hc' p (.lst (us ++ [vn q])))) : tDrop (tBM K "list" rAppend (tOp (rIxL K) (tVar i) tb) (tCons te tNil)) D σ Hc :=
  ⟨.ref pf, hx, hi Hb Hc (.refl e.t1) e _ fun w Hb2 Hc2 s2 a2 => ⟨pf, _, (m : Int), .ref p, rfl, a2, sqL (s2.kept hf True.intro), (by
      show (ixN (ps.map V.ref).length (m : Int)).bind (fun j => (ps.map V.ref)[j]?) = _
      rw [List.length_map, ixN_nat (lt_of_get hm)]
      show (ps.map V.ref)[m]? = _
      rw [List.getElem?_map, hm]
      rfl), .inl ⟨rfl, us, sqL (s2.kept hp True.intro)⟩, h Hb2 Hc2 s2.e1 s2.e2 _ fun u Hb3 Hc3 s3 a3 => ⟨p, us, u, rfl, rfl, (s2.trans s3).kept hp True.intro, sz_lt hl, by
        have a3 : u = vn q := a3
        rw [a3]
        exact k Hb3 Hc3 (s2.trans s3) ((s2.trans s3).kept hp True.intro)⟩⟩⟩
theorem q_app2 {i m q : Nat} {p pf : Addr} {us : List V} (hx : σ[i]? = some (some (.ref pf))) (hf : Hc pf = some (.lst (ps.map V.ref))) (hi : EvD T tb σ Hb (dn m)) (hm : ps[m]? = some p) (hp : Hc p = some (.lst us)) (h : EvD T te σ Hb (dn q)) (e : Ex T Hb Hc) (hl : us.length < 100000)
    (k : ∀ Hb' Hc', Stp T Hb Hc Hb' Hc' → Hc' p = some (.lst us) → tz D σ (upd Hc' p (.lst (us ++ [vn q])))) : tSeq (tDrop (tBM K "list" rAppend (tOp (rIxL K) (tVar i) tb) (tCons te tNil))) tz D σ Hc := s_app2 (D := { D with nx := tz D }) hx hf hi hm hp h e hl k
end
end K68
end

section
namespace K68
open PySem PySem.Spec PyProof.Rows L2
section
variable {P : Program} {w : World} {K : PySem.W.Frag} {mg : Str → Option Value} {base : Heap} {T : Addr × Str}
theorem map_getD {α : Type} (l : List α) (f : α → Da) (z : α) : (List.range l.length).map (fun i => f (l.getD i z)) = l.map f := by
  refine List.ext_getElem? fun i => ?_
  rw [List.getElem?_map, List.getElem?_map]
  rcases Nat.lt_or_ge i l.length with h | h
  · rw [List.getElem?_range h, get_lt h z]
    rfl
  · rw [List.getElem?_eq_none (by rw [List.length_range]; exact h), List.getElem?_eq_none h]
    rfl
/-! ### places_in -/
abbrev s_places_in : Stmt := topS 18
abbrev n_places_in : List Str := ["webs", "found", "many", "ties"]
theorem sc_places_in : FnScope n_places_in ["webs"] (defScope s_places_in) := ⟨rfl, rfl, rfl, by decide +kernel, rfl, by decide +kernel, by decide +kernel⟩
def A_places_in (ds : List Da) (d : Da) : Prop := ∃ ws : List Web, ds = [dWebs ws] ∧ WebsOk ws ∧ d = dn (plc ws)
theorem ok_places_in (D : Df K mg "places_in" s_places_in) : Cal P w K mg base "places_in" 1 ["webs"] (Pm T A_places_in) := by
  refine mk_pm D sc_places_in (fun ds d ⟨_, h, _⟩ => by rw [h]; rfl) (fun _ _ _ _ _ _ us hl => match us, hl with | [_], _ => rfl) fun f cdv Ar outer s H vs Q E hr Hb ds d e a hA q => ?_
  obtain ⟨ws, rfl, ok, rfl⟩ := hA
  obtain ⟨x0, rfl, a0⟩ := at1 a
  have nd := sc_places_in.nd
  refine ⟨_, (pss_cons (ps_set (i := 1) nd rfl (Or.inl rfl) pe_int)
      (pss_cons (ps_for PassesOwn.never rfl (pi_list (pv 0)) (pg_tup rfl (pgs_cons (pg_name (i := 2) nd rfl (Or.inl rfl)) (pgs_cons (pg_name (i := 3) nd rfl (Or.inl rfl)) pgs_nil))) (pss_one (ps_set (i := 1) nd rfl (Or.inl rfl) (pe_op op_mulW (pv 1) (pv 2)))))
      (pss_one (ps_ret (pv 1))))), ?_⟩
  refine q_asg (d := dn 1) ev_c e fun v Hb1 H1 s1 a1 => ?_
  have a1 : v = .int ((1 : Nat) : Int) := a1
  subst a1
  refine q_for (src_pairs (a := fun i => dn ((ws.map Web.n).getD i 0)) (b := fun i => .l ((ws.getD i ⟨0, []⟩).ts.map dTie)) (ev_var rfl (a0.mono s1.e1)) fun i hi => ?_) s1.e2 (fun i σ Hb' Hc' => Stp T Hb H Hb' Hc' ∧ ∃ y2 y3, σ = [some x0, some (.int ((((ws.map Web.n).take i).foldl (· * ·) 1 : Nat) : Int)), y2, y3])
    (fun Hb5 H5 s5 => ⟨s1.trans s5, none, none, rfl⟩) (fun i σ' Hb5 H5 vs Hb6 H6 hi x5 x6 hJ s6 a6 => ?_) (fun σ' Hb5 H5 x5 x6 hJ => ?_)
  · rw [List.length_map] at hi
    obtain ⟨W, hW⟩ := get_some hi
    rw [List.getElem?_map, hW, getD_of hW, getD_of (show (ws.map Web.n)[i]? = some W.n by rw [List.getElem?_map, hW]; rfl)]
    rfl
  · obtain ⟨S5, y2, y3, rfl⟩ := hJ
    rw [List.length_map] at hi
    obtain ⟨z0, z1, rfl, b0, b1⟩ := at2 a6
    have hm : (ws.map Web.n).take (i + 1) = (ws.map Web.n).take i ++ [(ws.map Web.n).getD i 0] := by
      rw [List.take_add_one, get_lt (by rw [List.length_map]; exact hi) 0]
      rfl
    have hle : ∀ x ∈ ws.map Web.n, x ≤ 40 := fun x hx => by
      obtain ⟨W, hW, rfl⟩ := List.mem_map.mp hx
      exact (ok.ok W hW).most
    have h1 : ((ws.map Web.n).take i).foldl (· * ·) 1 ≤ 1 * 40 ^ 12 := Nat.le_trans (fold_le (fun x hx => hle x (List.mem_of_mem_take hx)) 1) (Nat.mul_le_mul_left _ (Nat.pow_le_pow_right (by decide) (by rw [List.length_take, List.length_map]; have := ok.few; omega)))
    have h2 : (ws.map Web.n).getD i 0 ≤ 40 := hle _ (List.mem_of_getElem? (get_lt (by rw [List.length_map]; exact hi) 0))
    refine s_asg (Hb := Hb6) (d := dn ((((ws.map Web.n).take (i + 1)).foldl (· * ·) 1))) (EvD.is (ev_op (dx := dn ((((ws.map Web.n).take i).foldl (· * ·) 1))) (ev_var rfl rfl) (ev_var rfl b0) (rv_I (wide_mul (a := 100) (b := 100) ?_ ?_ (by decide) (by decide) (by decide)))) ?_) s6.e2 fun v Hb7 H7 s7 a7 => ?_
    · rw [Int.natAbs_natCast]
      exact Nat.lt_of_le_of_lt h1 (by decide)
    · rw [Int.natAbs_natCast]
      exact Nat.lt_of_le_of_lt h2 (by decide)
    · rw [hm, List.foldl_append]
      show Da.v (.int _) = Da.v (.int _)
      rw [List.foldl_cons, List.foldl_nil, Int.natCast_mul]
    · have a7 : v = .int ((((ws.map Web.n).take (i + 1)).foldl (· * ·) 1 : Nat) : Int) := a7
      subst a7
      exact ⟨Hb7, s6.e1.trans s7.e1, s7.e2, (S5.trans s6).trans s7, _, _, rfl⟩
  · obtain ⟨S5, y2, y3, rfl⟩ := hJ
    rw [List.length_map, ← List.length_map (f := Web.n), List.take_length]
    exact s_ret (d := dn (plc ws)) (ev_var rfl rfl) S5.e2 fun v Hb' H' s a => q v Hb' H' (S5.trans s) a
/-! ### places_of -/
abbrev s_places_of : Stmt := topS 19
abbrev n_places_of : List Str := ["webs"]
theorem sc_places_of : FnScope n_places_of ["webs"] (defScope s_places_of) := ⟨rfl, rfl, rfl, by decide +kernel, rfl, by decide +kernel, by decide +kernel⟩
theorem ok_places_of (D : Df K mg "places_of" s_places_of) (c_look_at_webs : Cal P w K mg base "look_at_webs" 5 ["thing"] (Pm T A_look_at_webs)) (c_places_in : Cal P w K mg base "places_in" 1 ["webs"] (Pm T A_places_in)) : Cal P w K mg base "places_of" 6 ["webs"] (Pm T A_places_in) := by
  refine mk_pm D sc_places_of (fun ds d ⟨_, h, _⟩ => by rw [h]; rfl) (fun _ _ _ _ _ _ us hl => match us, hl with | [_], _ => rfl) fun f cdv Ar outer s H vs Q E hr Hb ds d e a hA q => ?_
  obtain ⟨ws, rfl, ok, rfl⟩ := hA
  obtain ⟨x0, rfl, a0⟩ := at1 a
  have nd := sc_places_of.nd
  refine ⟨_, (pss_cons (ps_expr (pe_cal c_look_at_webs hr (by decide) rfl (pa_cons (pv 0) pa_nil)))
      (pss_one (ps_ret (pe_cal c_places_in hr (by decide) rfl (pa_cons (pv 0) pa_nil))))), ?_⟩
  refine q_drop (ev_call (ea_cons (ev_var rfl a0) ea_nil) ⟨ws, rfl, ok, rfl⟩) e fun Hb1 H1 s1 => ?_
  exact s_ret (ev_call (ea_cons (ev_var rfl (a0.mono s1.e1)) ea_nil) ⟨ws, rfl, ok, rfl⟩) s1.e2 fun v Hb' H' s a => q v Hb' H' (s1.trans s) a
/-! ### beside_all -/
abbrev s_beside_all : Stmt := topS 12
abbrev n_beside_all : List Str := ["web", "found", "place", "one", "other", "places"]
theorem sc_beside_all : FnScope n_beside_all ["web"] (defScope s_beside_all) := ⟨rfl, rfl, rfl, by decide +kernel, rfl, by decide +kernel, by decide +kernel⟩
def A_beside_all (ds : List Da) (d : Da) : Prop := ∃ W : Web, ds = [dWeb W] ∧ WebOk W ∧ d = dAdj W
theorem ok_beside_all (D : Df K mg "beside_all" s_beside_all) (m_range : mg "range" = none) (m_sorted : mg "sorted" = none) : Cal P w K mg base "beside_all" 1 ["web"] (Pm T A_beside_all) := by
  refine mk_pm D sc_beside_all (fun ds d ⟨_, h, _⟩ => by rw [h]; rfl) (fun _ _ _ _ _ _ us hl => match us, hl with | [_], _ => rfl) fun f cdv Ar outer s H vs Q E hr Hb ds d e a hA q => ?_
  obtain ⟨W, rfl, ok, rfl⟩ := hA
  obtain ⟨x0, rfl, a0⟩ := at1 a
  have nd := sc_beside_all.nd
  have hmost := ok.most
  refine ⟨_, (pss_cons (ps_setLc (i := 1) (own := [("place", 2)]) (g := gName 2) rfl nd rfl rfl (sw_true rfl rfl rfl (by decide +kernel)) (pi_range1 (by rfl) m_range (pa_cons (pe_ix (r := rIxT K) ix_tup (pv 0) pe_int (fun _ _ => rfl)) pa_nil)) (blkOk_by (own := [("place", 2)]) (N := n_beside_all) (sc := (defScope s_beside_all)) (by decide +kernel)) (fun _ _ _ _ _ => (pg_name (i := 2) nd rfl (Or.inl rfl) (hf := Or.inr rfl))) (fun _ _ _ _ _ => pts_nil) (fun _ _ _ _ _ => (pe_lst pa_nil)))
      (pss_cons (ps_for PassesOwn.never rfl (pi_list (pe_ix (r := rIxT K) ix_tup (pv 0) pe_int (fun _ _ => rfl))) (pg_tup rfl (pgs_cons (pg_name (i := 3) nd rfl (Or.inl rfl)) (pgs_cons (pg_name (i := 4) nd rfl (Or.inl rfl)) pgs_nil))) (pss_cons (ps_expr (pe_bm PySem.F.plainAttrs_list PySem.F.slot_list_append PySem.F.type_list_append mt_append (pe_ix (r := rIxL K) ix_list (pv 1) (pv 3) (fun _ _ => rfl)) (pa_cons (pv 4) pa_nil)))
      (pss_one (ps_expr (pe_bm PySem.F.plainAttrs_list PySem.F.slot_list_append PySem.F.type_list_append mt_append (pe_ix (r := rIxL K) ix_list (pv 1) (pv 4) (fun _ _ => rfl)) (pa_cons (pv 3) pa_nil))))))
      (pss_one (ps_ret (pe_lc (own := [("places", 5)]) (g := gName 5) rfl nd (pi_list (pv 1)) (blkOk_by (own := [("places", 5)]) (N := n_beside_all) (sc := (defScope s_beside_all)) (by decide +kernel)) (fun _ _ _ _ _ => (pg_name (i := 5) nd rfl (Or.inl rfl) (hf := Or.inr rfl))) (fun _ _ _ _ _ => pts_nil) (fun _ _ _ _ _ => (pe_callB (r := rSortedI K) cr_sortedI (by rfl) m_sorted (by decide +kernel) (pa_cons (pv 5) pa_nil)))))))), ?_⟩
  refine q_newE (n := W.n) (src_range1 (ea_cons (ev_op (ev_var rfl a0) ev_c (rv_ixT (n := 0) (d := dn W.n) rfl)) ea_nil) (by omega)) (by omega) e (fun i vs Hb1 hi e1 a1 => ?_) fun pf ps Hb1 H1 s1 b1 f1 c1 hl O nf => ?_
  · obtain ⟨z, rfl, hz⟩ := at1 a1
    rfl
  refine q_for (src_pairs (ds := W.ts.map dTie) (a := fun i => dn (W.ts.getD i (0, 0)).1) (b := fun i => dn (W.ts.getD i (0, 0)).2) (ev_op (ev_var rfl (a0.mono s1.e1)) ev_c (rv_ixT (n := 1) rfl)) fun i hi => ?_) s1.e2
    (fun i σ Hb' Hc' => Stp T Hb H Hb' Hc' ∧ Hb' pf = none ∧ Hc' pf = some (.lst (ps.map V.ref)) ∧ Ow H Hb' Hc' ps (adjOf (W.ts.take i)) ∧ ∃ y2 y3 y4 y5, σ = [some x0, some (.ref pf), y2, y3, y4, y5])
    (fun Hb5 H5 s5 => ⟨s1.trans s5, s5.hidden b1 c1, s5.kept c1 True.intro, O.step s5, none, none, none, none, rfl⟩) (fun i σ' Hb5 H5 vs Hb6 H6 hi x5 x6 hJ s6 a6 => ?_) (fun σ' Hb5 H5 x5 x6 hJ => ?_)
  · rw [List.length_map] at hi
    rw [List.getElem?_map, get_lt hi (0, 0)]
    rfl
  · obtain ⟨S5, b5, c5, O5, y2, y3, y4, y5, rfl⟩ := hJ
    rw [List.length_map] at hi
    obtain ⟨z0, z1, rfl, e0, e1⟩ := at2 a6
    have hti : W.ts[i]? = some (W.ts.getD i (0, 0)) := get_lt hi _
    have htk : W.ts.take (i + 1) = W.ts.take i ++ [W.ts.getD i (0, 0)] := by rw [List.take_add_one, hti]; rfl
    generalize W.ts.getD i (0, 0) = t at hti htk e0 e1
    have e0 : z0 = vn t.1 := e0
    have e1 : z1 = vn t.2 := e1
    subst e0
    subst e1
    obtain ⟨t1, t2⟩ := ok.tie t (List.mem_of_getElem? hti)
    have O6 := O5.step s6
    have S6 := S5.trans s6
    have b6 := s6.hidden b5 c5
    have c6 := s6.kept c5 True.intro
    have len : ∀ j, (adjOf (W.ts.take i) j).length ≤ 120 := fun j => Nat.le_trans (adjOf_len _ _) (by rw [List.length_take]; have := ok.few; omega)
    obtain ⟨p1, hp1⟩ := get_some (l := ps) (i := t.1) (by rw [hl]; omega)
    obtain ⟨p2, hp2⟩ := get_some (l := ps) (i := t.2) (by rw [hl]; exact t2)
    have n1 : pf ≠ p1 := fun z => nf (z ▸ List.mem_of_getElem? hp1)
    have n2 : pf ≠ p2 := fun z => nf (z ▸ List.mem_of_getElem? hp2)
    refine q_app2 (m := t.1) (q := t.2) rfl c6 (ev_var rfl rfl) hp1 (O6.at_ _ _ hp1).1 (ev_var rfl rfl) s6.e2 (by rw [List.length_map]; have := len t.1; omega) fun Hb7 H7 s7 c7 => ?_
    have O7 := (O6.step s7).set (q := t.2) hp1
    have S7 := (S6.trans s7).mut (o := .lst ((adjOf (W.ts.take i) t.1).map vn ++ [vn t.2])) (O6.at_ _ _ hp1).2.2 (s7.hidden (O6.at_ _ _ hp1).2.1 (O6.at_ _ _ hp1).1) c7 True.intro
    have b7 := s7.hidden b6 c6
    have c7f : (upd H7 p1 (.lst ((adjOf (W.ts.take i) t.1).map vn ++ [vn t.2]))) pf = some (.lst (ps.map V.ref)) := by rw [upd_ne n1]; exact s7.kept c6 True.intro
    have h2 := O7.at_ _ _ hp2
    rw [if_neg (show ¬ t.2 = t.1 by omega)] at h2
    refine s_app2 (Hb := Hb7) (m := t.2) (q := t.1) rfl c7f (ev_var rfl rfl) hp2 h2.1 (ev_var rfl rfl) S7.e2 (by rw [List.length_map]; have := len t.2; omega) fun Hb8 H8 s8 c8 => ?_
    have O8 := (O7.step s8).set (q := t.1) hp2
    rw [if_neg (show ¬ t.2 = t.1 by omega)] at O8
    have S8 := (S7.trans s8).mut (o := .lst ((adjOf (W.ts.take i) t.2).map vn ++ [vn t.1])) h2.2.2 (s8.hidden h2.2.1 h2.1) c8 True.intro
    refine ⟨Hb8, (s6.e1.trans s7.e1).trans s8.e1, S8.e2, S8, s8.hidden b7 c7f, by rw [upd_ne n2]; exact s8.kept c7f True.intro, ?_, _, _, _, _, rfl⟩
    have eg : adjOf (W.ts.take (i + 1)) = (fun j => if j = t.2 then adjOf (W.ts.take i) t.2 ++ [t.1] else if j = t.1 then adjOf (W.ts.take i) t.1 ++ [t.2] else adjOf (W.ts.take i) j) := by
      funext j
      rw [htk, adjOf_snoc]
      by_cases h1 : t.1 = j
      · subst h1
        rw [if_pos rfl, if_neg (show ¬ t.1 = t.2 by omega), if_pos rfl]
      · rw [if_neg h1]
        by_cases h2 : t.2 = j
        · subst h2
          rw [if_pos rfl, if_pos rfl]
        · rw [if_neg h2, if_neg (fun z => h2 z.symm), if_neg (fun z => h1 z.symm), List.append_nil]
    rw [eg]
    exact O8
  · obtain ⟨S5, b5, c5, O5, y2, y3, y4, y5, rfl⟩ := hJ
    rw [List.length_map, List.take_length] at O5
    have f0 : H pf = none := f1
    obtain ⟨Hb6, S6, e6, a6⟩ := O5.tell S5 c5 b5 f0 nf
    rw [hl] at a6
    refine s_ret (Hb := Hb6) (d := dAdj W) (EvD.is (ev_lc (fun _ => true) (fun i => dNL (nb W i)) (src_list (ev_var rfl a6)) (by rw [List.length_map, List.length_range]; omega) fun i vs Hb7 hi e7 a7 => ?_) ?_) S6.e2 fun v Hb' H' s a => q v Hb' H' (S6.trans s) a
    · rw [List.length_map, List.length_range] at hi
      rw [getD_map (range_at hi)] at a7
      obtain ⟨z, rfl, hz⟩ := at1 a7
      refine ⟨rfl, et_yes, fun _ => ev_cb (ea_cons (ev_var rfl hz) ea_nil) (cv_sorted (adjOf_perm ok.tie ok.rise i) (nb_rise W i))⟩
    · rw [given_all, List.length_map, List.length_range]
      rfl
/-! ### far_table -/
abbrev s_far_table : Stmt := topS 24
abbrev n_far_table : List Str := ["web", "beside", "place"]
theorem sc_far_table : FnScope n_far_table ["web"] (defScope s_far_table) := ⟨rfl, rfl, rfl, by decide +kernel, rfl, by decide +kernel, by decide +kernel⟩
noncomputable def dTable (W : Web) : Da := .l ((List.range W.n).map fun p => dOL (dists1 W p))
def A_far_table (ds : List Da) (d : Da) : Prop := ∃ W : Web, ds = [dWeb W] ∧ WebOk W ∧ d = dTable W
theorem ok_far_table (D : Df K mg "far_table" s_far_table) (c_beside_all : Cal P w K mg base "beside_all" 1 ["web"] (Pm T A_beside_all)) (c_far_by : Cal P w K mg base "far_by" 1 ["beside", "place"] (Pm T A_far_by)) (m_range : mg "range" = none) : Cal P w K mg base "far_table" 2 ["web"] (Pm T A_far_table) := by
  refine mk_pm D sc_far_table (fun ds d ⟨_, h, _⟩ => by rw [h]; rfl) (fun _ _ _ _ _ _ us hl => match us, hl with | [_], _ => rfl) fun f cdv Ar outer s H vs Q E hr Hb ds d e a hA q => ?_
  obtain ⟨W, rfl, ok, rfl⟩ := hA
  obtain ⟨x0, rfl, a0⟩ := at1 a
  have nd := sc_far_table.nd
  have hmost := ok.most
  refine ⟨_, (pss_cons (ps_set (i := 1) nd rfl (Or.inr rfl) (pe_cal c_beside_all hr (by decide) rfl (pa_cons (pv 0) pa_nil)))
      (pss_one (ps_ret (pe_lc (own := [("place", 2)]) (g := gName 2) rfl nd (pi_range1 (by rfl) m_range (pa_cons (pe_ix (r := rIxT K) ix_tup (pv 0) pe_int (fun _ _ => rfl)) pa_nil)) (blkOk_by (own := [("place", 2)]) (N := n_far_table) (sc := (defScope s_far_table)) (by decide +kernel)) (fun _ _ _ _ _ => (pg_name (i := 2) nd rfl (Or.inl rfl) (hf := Or.inr rfl))) (fun _ _ _ _ _ => pts_nil) (fun _ _ _ _ _ => (pe_cal c_far_by hr (by decide) rfl (pa_cons (pv 1) (pa_cons (pv 2) pa_nil)))))))), ?_⟩
  refine q_asg (ev_call (ea_cons (ev_var rfl a0) ea_nil) ⟨W, rfl, ok, rfl⟩) e fun x1 Hb1 H1 s1 a1 => ?_
  refine s_ret (d := dTable W) (EvD.is (ev_lc (n := W.n) (fun _ => true) (fun i => dOL (dists1 W i)) (src_range1 (ea_cons (ev_op (ev_var rfl (a0.mono s1.e1)) ev_c (rv_ixT (n := 0) (d := dn W.n) rfl)) ea_nil) (by omega)) (by omega) fun i vs Hb7 hi e7 a7 => ?_) (by rw [given_all]; rfl)) s1.e2 fun v Hb' H' s a => q v Hb' H' (s1.trans s) a
  obtain ⟨z, rfl, hz⟩ := at1 a7
  exact ⟨rfl, et_yes, fun _ => ev_call (ea_cons (ev_var rfl (a1.mono e7)) (ea_cons (ev_var rfl hz) ea_nil)) ⟨W, i, rfl, hi, ok.most, rfl⟩⟩
/-! ### far_in -/
abbrev s_far_in : Stmt := topS 28
abbrev n_far_in : List Str := ["webs", "one", "other", "web", "here", "there"]
theorem sc_far_in : FnScope n_far_in ["webs", "one", "other"] (defScope s_far_in) := ⟨rfl, rfl, rfl, by decide +kernel, rfl, by decide +kernel, by decide +kernel⟩
theorem dists_len : ∀ {ws : List Web} {as bs : List Nat}, RowOk ws as → RowOk ws bs → (dists ws as bs).length = ws.length
  | [], [], [], _, _ => rfl
  | w :: ws, a :: as, b :: bs, h1, h2 => by
    show (dists ws as bs).length + 1 = ws.length + 1
    rw [dists_len h1.2 h2.2]
theorem dists_get : ∀ {ws : List Web} {as bs : List Nat} {i : Nat} {w : Web} {a b : Nat}, ws[i]? = some w → as[i]? = some a → bs[i]? = some b → (dists ws as bs)[i]? = some (dist w a b)
  | w :: ws, a :: as, b :: bs, 0, _, _, _, h1, h2, h3 => by
    rw [← Option.some.inj h1, ← Option.some.inj h2, ← Option.some.inj h3]
    rfl
  | w :: ws, a :: as, b :: bs, i + 1, _, _, _, h1, h2, h3 => dists_get (i := i) h1 h2 h3
  | [], _, _, i, _, _, _, h1, _, _ => by cases h1
  | w :: ws, [], _, i, _, _, _, _, h2, _ => by cases h2
  | w :: ws, a :: as, [], i, _, _, _, _, _, h3 => by cases h3
theorem dists1_at {W : Web} {p q : Nat} (hq : q < W.n) : ((dists1 W p).map dO)[q]? = some (dO (dist W p q)) := map_at (by
  unfold dists1
  rw [List.getElem?_map, range_at hq]
  rfl)
def A_far_in (ds : List Da) (d : Da) : Prop := ∃ (ws : List Web) (a b : List Nat), ds = [dWebs ws, dNL a, dNL b] ∧ WebsOk ws ∧ RowOk ws a ∧ RowOk ws b ∧ d = dOL (dists ws a b)
theorem ok_far_in (D : Df K mg "far_in" s_far_in) (c_beside_all : Cal P w K mg base "beside_all" 1 ["web"] (Pm T A_beside_all)) (c_far_by : Cal P w K mg base "far_by" 1 ["beside", "place"] (Pm T A_far_by)) (m_zip : mg "zip" = none) : Cal P w K mg base "far_in" 2 ["webs", "one", "other"] (Pm T A_far_in) := by
  refine mk_pm D sc_far_in (fun ds d ⟨_, _, _, h, _⟩ => by rw [h]; rfl) (fun _ _ _ _ _ _ us hl => match us, hl with | [_, _, _], _ => rfl) fun f cdv Ar outer s H vs Q E hr Hb ds d e a hA q => ?_
  obtain ⟨ws, l, m, rfl, ok, ol, om, rfl⟩ := hA
  obtain ⟨x0, x1, x2, rfl, a0, a1, a2⟩ := at3 a
  have nd := sc_far_in.nd
  have few := ok.few
  refine ⟨_, (pss_one (ps_ret (pe_lc (own := [("web", 3), ("here", 4), ("there", 5)]) (g := g3 K 3 4 5) rfl nd (pi_zip3 (by rfl) m_zip (pa_cons (pv 0) (pa_cons (pv 1) (pa_cons (pv 2) pa_nil)))) (blkOk_by (own := [("web", 3), ("here", 4), ("there", 5)]) (N := n_far_in) (sc := (defScope s_far_in)) (by decide +kernel)) (fun _ _ _ _ _ => (pg_tup rfl (pgs_cons (pg_name (i := 3) nd rfl (Or.inl rfl) (hf := Or.inr rfl)) (pgs_cons (pg_name (i := 4) nd rfl (Or.inl rfl) (hf := Or.inr rfl)) (pgs_cons (pg_name (i := 5) nd rfl (Or.inl rfl) (hf := Or.inr rfl)) pgs_nil))))) (fun _ _ _ _ _ => pts_nil) (fun _ _ _ _ _ => (pe_ix (r := rIxL K) ix_list (pe_cal c_far_by hr (by decide) rfl (pa_cons (pe_cal c_beside_all hr (by decide) rfl (pa_cons (pv 3) pa_nil)) (pa_cons (pv 4) pa_nil))) (pv 5) (fun _ _ => rfl)))))), ?_⟩
  refine s_ret (d := dOL (dists ws l m)) (EvD.is (ev_lc (n := ws.length) (fun _ => true) (fun i => dO ((dists ws l m).getD i none)) (src_zip3 (ea_cons (ev_var rfl a0) (ea_cons (ev_var rfl a1) (ea_cons (ev_var rfl a2) ea_nil))) (List.length_map _) (by rw [List.length_map, ol.len]) (by rw [List.length_map, om.len])) (by omega) fun i vs Hb7 hi e7 a7 => ?_) (by rw [given_all, ← dists_len ol om, map_getD]; rfl)) e fun v Hb' H' s a => q v Hb' H' s a
  obtain ⟨W, hW⟩ := get_some hi
  obtain ⟨p, hp⟩ := get_some (l := l) (i := i) (by rw [ol.len]; exact hi)
  obtain ⟨p', hp'⟩ := get_some (l := m) (i := i) (by rw [om.len]; exact hi)
  rw [getD_map hW, getD_map hp, getD_map hp'] at a7
  obtain ⟨z0, z1, z2, rfl, b0, b1, b2⟩ := at3 a7
  have okW := ok.ok W (List.mem_of_getElem? hW)
  rw [getD_of (dists_get hW hp hp')]
  exact ⟨rfl, et_yes, fun _ => ev_op (dx := dOL (dists1 W p)) (dy := dn p') (ev_call (ea_cons (ev_call (ea_cons (ev_var rfl b0) ea_nil) ⟨W, rfl, okW, rfl⟩) (ea_cons (ev_var rfl b1) ea_nil)) ⟨W, p, rfl, ol.get hW hp, okW.most, rfl⟩) (ev_var rfl b2) (rv_ixL (dists1_at (om.get hW hp')))⟩
/-! ### far -/
abbrev s_far : Stmt := topS 29
abbrev n_far : List Str := ["webs", "one", "other", "found"]
theorem sc_far : FnScope n_far ["webs", "one", "other"] (defScope s_far) := ⟨rfl, rfl, rfl, by decide +kernel, rfl, by decide +kernel, by decide +kernel⟩
def A_far (ds : List Da) (d : Da) : Prop := ∃ (ws : List Web) (a b : List Nat), ds = [dWebs ws, dNL a, dNL b] ∧ WebsOk ws ∧ RowOk ws a ∧ RowOk ws b ∧ d = dO (pdist ws a b)
theorem inV_none (l : List (Option Nat)) : inV .non (l.map vO) = decide (none ∈ l) := by
  unfold inV
  rw [List.any_map]
  induction l with
  | nil => rfl
  | cons o l ih =>
    rw [List.any_cons, ih]
    cases o with
    | none => simp [Function.comp, vO, eqV]
    | some n => simp [Function.comp, vO, eqV]
theorem flat_vO (l : List (Option Nat)) : (l.map vO).all flatV = true := by
  rw [List.all_eq_true]
  intro x hx
  obtain ⟨o, _, rfl⟩ := List.mem_map.mp hx
  cases o <;> rfl
theorem dOL_some (m : List Nat) : dOL (m.map some) = dNL m := by
  unfold dOL dNL
  rw [List.map_map]
  rfl
theorem ok_far (D : Df K mg "far" s_far) (c_look_at_rows : Cal P w K mg base "look_at_rows" 6 ["webs", "rows"] (Pm T A_look_at_rows)) (c_far_in : Cal P w K mg base "far_in" 2 ["webs", "one", "other"] (Pm T A_far_in)) (m_sum : mg "sum" = none) : Cal P w K mg base "far" 7 ["webs", "one", "other"] (Pm T A_far) := by
  refine mk_pm D sc_far (fun ds d ⟨_, _, _, h, _⟩ => by rw [h]; rfl) (fun _ _ _ _ _ _ us hl => match us, hl with | [_, _, _], _ => rfl) fun f cdv Ar outer s H vs Q E hr Hb ds d e a hA q => ?_
  obtain ⟨ws, l, m, rfl, ok, ol, om, rfl⟩ := hA
  obtain ⟨x0, x1, x2, rfl, a0, a1, a2⟩ := at3 a
  have nd := sc_far.nd
  refine ⟨_, (pss_cons (ps_expr (pe_cal c_look_at_rows hr (by decide) rfl (pa_cons (pv 0) (pa_cons (pe_tup (pa_cons (pv 1) (pa_cons (pv 2) pa_nil))) pa_nil))))
      (pss_cons (ps_set (i := 3) nd rfl (Or.inl rfl) (pe_cal c_far_in hr (by decide) rfl (pa_cons (pv 0) (pa_cons (pv 1) (pa_cons (pv 2) pa_nil)))))
      (pss_cons (ps_if (pt_cmpR (r := rIn K false) op_in_seq pe_non (pv 3) (by rfl)) (pss_one (ps_ret pe_non)) pss_nil)
      (pss_one (ps_ret (pe_callB (r := rSum K) (cr_sum rfl) (by rfl) m_sum (by decide +kernel) (pa_cons (pv 3) pa_nil))))))), ?_⟩
  refine q_drop (ev_call (ea_cons (ev_var rfl a0) (ea_cons (ev_tup (ea_cons (ev_var rfl a1) (ea_cons (ev_var rfl a2) ea_nil)) (show 2 ≤ 100000 by decide)) ea_nil)) ⟨ws, [l, m], rfl, ok, fun r hr => by
    rcases List.mem_cons.mp hr with rfl | hr
    · exact ol
    · rw [List.mem_singleton.mp hr]
      exact om, rfl⟩) e fun Hb1 H1 s1 => ?_
  refine q_asg (ev_call (ea_cons (ev_var rfl (a0.mono s1.e1)) (ea_cons (ev_var rfl (a1.mono s1.e1)) (ea_cons (ev_var rfl (a2.mono s1.e1)) ea_nil))) ⟨ws, l, m, rfl, ok, ol, om, rfl⟩) s1.e2 fun x3 Hb2 H2 s2 a3 => ?_
  have S2 := s1.trans s2
  have tst := rv_in (T := T) (K := K) (neg := false) (x := .non) (xs := (dists ws l m).map vO) rfl (flat_vO _)
  rw [inV_none, ← map_dO] at tst
  refine q_if (et_test (ev_op ev_c (ev_var rfl a3) tst)) S2.e2 (fun hb Hb3 H3 s3 => ?_) (fun hb Hb3 H3 s3 => ?_)
  · have h0 : sumO (dists ws l m) = none := sumO_none.mpr (of_decide_eq_true hb)
    rw [pdist_sum ol om, h0] at q
    exact s_ret (d := .v .non) ev_c s3.e2 fun v Hb' H' s a => q v Hb' H' ((S2.trans s3).trans s) a
  · have h0 : sumO (dists ws l m) ≠ none := fun z => of_decide_eq_false hb (sumO_none.mp z)
    obtain ⟨t, ht⟩ := Option.ne_none_iff_exists'.mp h0
    rw [pdist_sum ol om, ht] at q
    obtain ⟨k, hk, hs⟩ := sumO_some ht
    have a3 := a3.mono s3.e1
    rw [hk, dOL_some] at a3
    rw [← hs] at q
    exact s_ret (ev_cb (ea_cons (ev_var rfl a3) ea_nil) cv_sum) s3.e2 fun v Hb' H' s a => q v Hb' H' ((S2.trans s3).trans s) a
end
end K68
end

section
namespace K68
open PySem PySem.Spec PyProof.Rows L2
/-- a comprehension's scope, a statement's parts -/
def lcS : Expr → Scope
  | .ListComp _ _ s _ => s
  | _ => defScope (topS 8)
def relab (sc o : Scope) : Scope := { sc with names := sc.names.map fun (n, k) => if (k == .free && o.kind == .function && o.names.lookup n == some .cell) then (n, .cell) else (n, k) }
def stB : Stmt → List Stmt
  | .For _ _ b _ _ => b
  | .If _ b _ _ => b
  | _ => []
def stV : Stmt → Expr
  | .Assign _ v _ => v
  | .Return (some v) _ => v
  | _ => .Name "x" ⟨0, 0, 0, 0⟩
def nth (l : List Stmt) (i : Nat) : Stmt := l.getD i (.Pass ⟨0, 0, 0, 0⟩)
section
variable {P : Program} {w : World} {K : PySem.W.Frag} {mg : Str → Option Value} {base : Heap} {T : Addr × Str}
theorem cutD_from {ds : List Da} {k : Nat} (h : k ≤ ds.length) : cutD ds (some (k : Int)) none = ds.drop k := by
  unfold cutD
  rw [HT.sIx_nat, HT.sIx_none, Nat.min_eq_left h, List.take_of_length_le (by rw [List.length_drop]; exact Nat.le_refl _)]
theorem cutD_to {ds : List Da} {k : Nat} (h : k ≤ ds.length) : cutD ds none (some (k : Int)) = ds.take k := by
  unfold cutD
  rw [HT.sIx_nat, HT.sIx_none, Nat.min_eq_left h, List.drop_zero, Nat.sub_zero]
/-! ### binomials -/
abbrev s_binomials : Stmt := topS 27
abbrev n_binomials : List Str := ["most", "found", "many", "last", "one", "other"]
theorem sc_binomials : FnScope n_binomials ["most"] (defScope s_binomials) := ⟨rfl, rfl, rfl, by decide +kernel, rfl, by decide +kernel, by decide +kernel⟩
def brow (i : Nat) : List Nat := (List.range (i + 1)).map (choose i)
def dBin (m : Nat) : Da := .l ((List.range (m + 1)).map fun i => dNL (brow i))
theorem brow_len (i : Nat) : (brow i).length = i + 1 := by unfold brow; rw [List.length_map, List.length_range]
theorem brow_at {i k : Nat} (h : k ≤ i) : (brow i)[k]? = some (choose i k) := by
  unfold brow
  rw [List.getElem?_map, range_at (by omega)]
  rfl
theorem brow_succ (i : Nat) : brow (i + 1) = [1] ++ (List.range i).map (fun k => choose i k + choose i (k + 1)) ++ [1] := by
  refine List.ext_getElem? fun k => ?_
  rcases Nat.lt_or_ge k (i + 2) with h | h
  · rw [brow_at (by omega)]
    cases k with
    | zero => rw [choose_zero]; rfl
    | succ k =>
      rcases Nat.lt_or_ge k i with h1 | h1
      · rw [List.getElem?_append_left (by simp; omega), List.getElem?_append_right (by simp), List.length_singleton, Nat.add_sub_cancel, List.getElem?_map, range_at h1, choose_succ]
        rfl
      · have h2 : k = i := by omega
        subst h2
        rw [List.getElem?_append_right (by simp), choose_self]
        simp
  · rw [List.getElem?_eq_none (by rw [brow_len]; exact h), List.getElem?_eq_none (by simp; omega)]
def A_binomials (ds : List Da) (d : Da) : Prop := ∃ m : Nat, ds = [dn m] ∧ m ≤ 1000 ∧ d = dBin m
theorem ok_binomials (D : Df K mg "binomials" s_binomials) (m_range : mg "range" = none) (m_zip : mg "zip" = none) : Cal P w K mg base "binomials" 1 ["most"] (Pm T A_binomials) := by
  refine mk_pm D sc_binomials (fun ds d ⟨_, h, _⟩ => by rw [h]; rfl) (fun _ _ _ _ _ _ us hl => match us, hl with | [_], _ => rfl) fun f cdv Ar outer s H vs Q E hr Hb ds d e a hA q => ?_
  obtain ⟨m, rfl, hm, rfl⟩ := hA
  obtain ⟨x0, rfl, a0⟩ := at1 a
  have nd := sc_binomials.nd
  refine ⟨_, (pss_cons (ps_set (i := 1) nd rfl (Or.inl rfl) (pe_lst (pa_cons (pe_lst (pa_cons pe_int pa_nil)) pa_nil)))
      (pss_cons (ps_for PassesOwn.never rfl (pi_range1 (by rfl) m_range (pa_cons (pv 0) pa_nil)) (pg_name (i := 2) nd rfl (Or.inl rfl)) (pss_cons (ps_set (i := 3) nd rfl (Or.inl rfl) (pe_ix (r := rIxL K) ix_list (pv 1) (pe_un un_neg pe_int) (fun _ _ => rfl)))
      (pss_one (ps_expr (pe_bm PySem.F.plainAttrs_list PySem.F.slot_list_append PySem.F.type_list_append mt_append (pv 1) (pa_cons (pe_op op_cat (pe_op op_cat (pe_lst (pa_cons pe_int pa_nil)) (pe_lc (own := [("one", 4), ("other", 5)]) (g := g2 K 4 5) rfl nd (pi_zip (by rfl) m_zip (pa_cons (pv 3) (pa_cons (pe_slice (r := rSlL K) sl_list (pv 3) (po_some pe_int) po_none) pa_nil))) (blkOk_by (own := [("one", 4), ("other", 5)]) (N := n_binomials) (sc := (defScope s_binomials)) (by decide +kernel)) (fun _ _ _ _ _ => (pg_tup rfl (pgs_cons (pg_name (i := 4) nd rfl (Or.inl rfl) (hf := Or.inr rfl)) (pgs_cons (pg_name (i := 5) nd rfl (Or.inl rfl) (hf := Or.inr rfl)) pgs_nil)))) (fun _ _ _ _ _ => pts_nil) (fun _ _ _ _ _ => (pe_op op_add (pv 4) (pv 5))))) (pe_lst (pa_cons pe_int pa_nil))) pa_nil))))))
      (pss_one (ps_ret (pv 1))))), ?_⟩
  refine q_new (ds := [dNL (brow 0)]) (en_lst (ea_cons (EvD.is (ev_lst (ea_cons ev_c ea_nil) sz1) rfl) ea_nil) sz1) e fun pf us Hb1 H1 s1 f1 b1 c1 a1 => ?_
  have f0 : H pf = none := f1
  refine q_for (n := m) (src_range1 (ea_cons (ev_var rfl (a0.mono s1.e1)) ea_nil) (by omega)) s1.e2 (fun i σ Hb' Hc' => Stp T Hb H Hb' Hc' ∧ Hb' pf = none ∧ ∃ us y2 y3 y4 y5, Hc' pf = some (.lst us) ∧ AtL Hb' ((List.range (i + 1)).map fun i => dNL (brow i)) us ∧ σ = [some x0, some (.ref pf), y2, y3, y4, y5])
    (fun Hb5 H5 s5 => ⟨s1.trans s5, s5.hidden b1 c1, us, none, none, none, none, s5.kept c1 True.intro, a1.mono s5.e1, rfl⟩) (fun i σ' Hb5 H5 vs Hb6 H6 hi x5 x6 hJ s6 a6 => ?_) (fun σ' Hb5 H5 x5 x6 hJ => ?_)
  · obtain ⟨S5, b5, us, y2, y3, y4, y5, c5, a5, rfl⟩ := hJ
    obtain ⟨z, rfl, hz⟩ := at1 a6
    have c6 := s6.kept c5 True.intro
    have b6 := s6.hidden b5 c5
    have S6 := S5.trans s6
    have a5 := a5.mono s6.e1
    have hlen := a5.length
    rw [List.length_map, List.length_range] at hlen
    obtain ⟨u, hu, hd⟩ := a5.get (i := i) (d := dNL (brow i)) (by rw [List.getElem?_map, range_at (by omega)]; rfl)
    refine ⟨.ref pf, rfl, ⟨1, rfl, ⟨pf, us, -1, u, rfl, rfl, sqL c6, ?_, ?_⟩⟩⟩
    · show (ixN us.length (-1)).bind (fun j => us[j]?) = some u
      rw [ixN_last (by omega), hlen]
      exact hu
    have hlast : EvD T (tVar 3) [some x0, some (.ref pf), some z, some u, y4, y5] Hb6 (dNL (brow i)) := ev_var rfl hd
    have bl := brow_len i
    have hx : (brow (i + 1)).map dn = [dn 1] ++ (List.range i).map (fun k => dn (choose i k + choose i (k + 1))) ++ [dn 1] := by
      rw [brow_succ, List.map_append, List.map_append, List.map_map]
      rfl
    refine s_app (Hb := Hb6) (d := dNL (brow (i + 1))) rfl c6 (EvD.is (ev_op (ev_op (ev_lst (ds := [dn 1]) (ea_cons ev_c ea_nil) sz1) (ev_lc (fun _ => true) (fun k => dn (choose i k + choose i (k + 1))) (src_zip (ea_cons hlast (ea_cons (ev_sl hlast (eo_some (i := ((1 : Nat) : Int)) ev_c) eo_none) ea_nil))) ?_ fun k vs Hb8 hk e8 a8 => ?_) (rv_cat ?_)) (ev_lst (ds := [dn 1]) (ea_cons ev_c ea_nil) sz1) (rv_cat ?_)) ?_) s6.e2 (by omega) fun w Hb9 H9 s9 c9 a9 => ?_
    · rw [List.length_map, bl]
      omega
    · rw [cutD_from (by rw [List.length_map, bl]; omega), List.length_map, List.length_drop, List.length_map, bl] at hk
      have hk : k < i := by omega
      rw [cutD_from (by rw [List.length_map, bl]; omega), ← List.map_drop, getD_map (brow_at (Nat.le_of_lt hk)), getD_map (show (List.drop 1 (brow i))[k]? = some (choose i (k + 1)) by rw [List.getElem?_drop, Nat.add_comm]; exact brow_at hk)] at a8
      obtain ⟨z0, z1, rfl, e0, e1⟩ := at2 a8
      exact ⟨rfl, et_yes, fun _ => EvD.is (ev_op (dx := dn (choose i k)) (dy := dn (choose i (k + 1))) (ev_var rfl e0) (ev_var rfl e1) rv_I0) (by show Da.v (.int _) = Da.v (.int _); rw [Int.natCast_add])⟩
    · have := given_len (min ((brow i).map dn).length (cutD ((brow i).map dn) (some ((1 : Nat) : Int)) none).length) (fun _ => true) (fun k => dn (choose i k + choose i (k + 1)))
      rw [List.length_map, bl] at this
      rw [List.length_singleton, List.length_map, bl]
      omega
    · have := given_len (min ((brow i).map dn).length (cutD ((brow i).map dn) (some ((1 : Nat) : Int)) none).length) (fun _ => true) (fun k => dn (choose i k + choose i (k + 1)))
      rw [List.length_append, List.length_singleton]
      rw [List.length_map, bl] at this
      rw [List.length_map, bl]
      omega
    · have hk : min ((brow i).map dn).length (cutD ((brow i).map dn) (some ((1 : Nat) : Int)) none).length = i := by
        rw [cutD_from (by rw [List.length_map, bl]; omega), List.length_map, List.length_drop, List.length_map, bl]
        omega
      unfold dNL
      rw [hk, given_all, hx]
    · refine ⟨Hb9, s6.e1.trans s9.e1, ((S6.trans s9).mut f0 (s9.hidden b6 c6) c9 True.intro).e2, (S6.trans s9).mut f0 (s9.hidden b6 c6) c9 True.intro, s9.hidden b6 c6, us ++ [w], _, _, _, _, upd_same, ?_, rfl⟩
      rw [List.range_succ (n := i + 1), List.map_append]
      exact (a5.mono s9.e1).snoc a9
  · obtain ⟨S5, b5, us, y2, y3, y4, y5, c5, a5, rfl⟩ := hJ
    exact ⟨.ref pf, rfl, q _ _ _ (S5.tell f0 b5 c5) ⟨pf, us, rfl, upd_same, a5.mono (Ex.new S5.e1.t2 b5)⟩⟩
/-! ### walks_by -/
abbrev s_walks_by : Stmt := topS 32
abbrev n_walks_by : List Str := ["web", "one", "other", "steps", "beside", "many", "place", "found", "turn", "near"]
theorem sc_walks_by : FnScope n_walks_by ["web", "one", "other", "steps"] (defScope s_walks_by) := ⟨rfl, rfl, rfl, by decide +kernel, rfl, by decide +kernel, by decide +kernel⟩
def wrow (W : Web) (p q m : Nat) : List Nat := (List.range (m + 1)).map fun k => wk W k p q
def mrow (W : Web) (p k : Nat) : List Nat := (List.range W.n).map fun r => wk W k p r
def A_walks_by (ds : List Da) (d : Da) : Prop := ∃ (W : Web) (p q m : Nat), ds = [dWeb W, dn p, dn q, dn m] ∧ WebOk W ∧ p < W.n ∧ q < W.n ∧ m ≤ 1000 ∧ d = dNL (wrow W p q m)
theorem mrow_at {W : Web} {p k r : Nat} (h : r < W.n) : (mrow W p k)[r]? = some (wk W k p r) := by
  unfold mrow
  rw [List.getElem?_map, range_at h]
  rfl
theorem ok_walks_by (D : Df K mg "walks_by" s_walks_by) (c_beside_all : Cal P w K mg base "beside_all" 1 ["web"] (Pm T A_beside_all)) (m_range : mg "range" = none) (m_sum : mg "sum" = none) (m_int : mg "int" = none) : Cal P w K mg base "walks_by" 2 ["web", "one", "other", "steps"] (Pm T A_walks_by) := by
  refine mk_pm D sc_walks_by (fun ds d ⟨_, _, _, _, h, _⟩ => by rw [h]; rfl) (fun _ _ _ _ _ _ us hl => match us, hl with | [_, _, _, _], _ => rfl) fun f cdv Ar outer s H vs Q E hr Hb ds d e a hA q => ?_
  obtain ⟨W, p, o, m, rfl, ok, hp, ho, hm, rfl⟩ := hA
  obtain ⟨x0, x1, x2, x3, rfl, a0, a1, a2, a3⟩ := at4 a
  have a1 : x1 = vn p := a1
  have a2 : x2 = vn o := a2
  have a3 : x3 = vn m := a3
  subst a1
  subst a2
  subst a3
  have nd := sc_walks_by.nd
  have hmost := ok.most
  refine ⟨_, (pss_cons (ps_set (i := 4) nd rfl (Or.inr rfl) (pe_cal c_beside_all hr (by decide) rfl (pa_cons (pv 0) pa_nil)))
      (pss_cons (ps_set (i := 5) nd rfl (Or.inr rfl) (pe_lc (own := [("place", 6)]) (g := gName 6) rfl nd (pi_range1 (by rfl) m_range (pa_cons (pe_ix (r := rIxT K) ix_tup (pv 0) pe_int (fun _ _ => rfl)) pa_nil)) (blkOk_by (own := [("place", 6)]) (N := n_walks_by) (sc := (defScope s_walks_by)) (by decide +kernel)) (fun _ _ _ _ _ => (pg_name (i := 6) nd rfl (Or.inl rfl) (hf := Or.inr rfl))) (fun _ _ _ _ _ => pts_nil) (fun _ _ _ _ _ => (pe_callTy (r := rInt1) call_int1 (by rfl) m_int (by decide +kernel) (pa_cons (pe_cmpR op_eq (pv 6) (pv 1) (nomark _)) pa_nil)))))
      (pss_cons (ps_set (i := 7) nd rfl (Or.inl rfl) (pe_lst (pa_cons (pe_ix (r := rIxL K) ix_list (pv 5) (pv 2) (fun _ _ => rfl)) pa_nil)))
      (pss_cons (ps_for PassesOwn.never rfl (pi_range1 (by rfl) m_range (pa_cons (pv 3) pa_nil)) (pg_name (i := 8) nd rfl (Or.inl rfl)) (pss_cons (ps_set (i := 5) nd rfl (Or.inr rfl) (pe_lc (own := [("place", 6)]) (g := gName 6) rfl nd (pi_range1 (by rfl) m_range (pa_cons (pe_ix (r := rIxT K) ix_tup (pv 0) pe_int (fun _ _ => rfl)) pa_nil)) (blkOk_by (own := [("place", 6)]) (N := n_walks_by) (sc := (defScope s_walks_by)) (by decide +kernel)) (fun _ _ _ _ _ => (pg_name (i := 6) nd rfl (Or.inl rfl) (hf := Or.inr rfl))) (fun _ _ _ _ _ => pts_nil) (fun _ _ _ _ _ => (pe_callB (r := rSum K) (cr_sum rfl) (by rfl) m_sum (by decide +kernel) (pa_cons (pe_lc (wi := iList K _) (own := [("near", 9)]) (g := gName 9) rfl nd (pi_list (pe_ix (r := rIxL K) ix_list (pv 4) (pv 6) (fun _ _ => rfl))) (blkOk_by (own := [("near", 9)]) (N := n_walks_by) (sc := (relab (lcS (stV (nth (stB (nth (defBody s_walks_by) 3)) 0))) (defScope s_walks_by))) (by decide +kernel)) (fun _ _ _ _ _ => (pg_name (i := 9) nd rfl (Or.inl rfl) (hf := Or.inr rfl))) (fun _ _ _ _ _ => pts_nil) (fun _ _ _ _ _ => (pe_ix (r := rIxL K) ix_list (pv 5) (pv 9) (fun _ _ => rfl)))) pa_nil)))))
      (pss_one (ps_expr (pe_bm PySem.F.plainAttrs_list PySem.F.slot_list_append PySem.F.type_list_append mt_append (pv 7) (pa_cons (pe_ix (r := rIxL K) ix_list (pv 5) (pv 2) (fun _ _ => rfl)) pa_nil))))))
      (pss_one (ps_ret (pv 7))))))), ?_⟩
  refine q_asg (ev_call (ea_cons (ev_var rfl a0) ea_nil) ⟨W, rfl, ok, rfl⟩) e fun x4 Hb1 H1 s1 a4 => ?_
  refine q_asg (d := dNL (mrow W p 0)) (EvD.is (ev_lc (n := W.n) (fun _ => true) (fun r => dn (wk W 0 p r)) (src_range1 (ea_cons (ev_op (ev_var rfl (a0.mono s1.e1)) ev_c (rv_ixT (n := 0) (d := dn W.n) rfl)) ea_nil) (by omega)) (by omega) fun i vs Hb7 hi e7 a7 => ?_) (by rw [given_all]; unfold dNL mrow; rw [List.map_map]; rfl)) s1.e2 fun x5 Hb2 H2 s2 a5 => ?_
  · obtain ⟨z, rfl, hz⟩ := at1 a7
    refine ⟨rfl, et_yes, fun _ => EvD.is (ev_cb (ea_cons (ev_op (dx := .v (vn i)) (dy := .v (vn p)) (ev_var rfl hz) (ev_var rfl rfl) (rv_eq rfl)) ea_nil) cv_intB) ?_⟩
    congr 1
    show (if decide (vn i = vn p) = true then 1 else 0) = if p = i then 1 else 0
    by_cases h : p = i
    · rw [h, decide_eq_true rfl]; simp
    · have h2 : ¬ vn i = vn p := fun z => by
        have z2 : (i : Int) = (p : Int) := V.int.inj z
        omega
      rw [decide_eq_false h2, if_neg h]; rfl
  have S2 := s1.trans s2
  refine q_new (ds := [dn (wk W 0 p o)]) (en_lst (ea_cons (ev_op (dx := dNL (mrow W p 0)) (dy := dn o) (ev_var rfl a5) (ev_var rfl rfl) (rv_ixL (map_at (mrow_at ho)))) ea_nil) sz1) S2.e2 fun pf us Hb3 H3 s3 f3 b3 c3 a6 => ?_
  have hus : us = (wrow W p o 0).map vn := AtL.flat_eq (xs := [vn (wk W 0 p o)]) a6
  subst hus
  have S3 := S2.trans s3
  have f0 : H pf = none := S2.fresh f3
  refine q_for (n := m) (src_range1 (ea_cons (ev_var (d := dn m) rfl rfl) ea_nil) (by omega)) s3.e2 (fun i σ Hb' Hc' => Stp T Hb H Hb' Hc' ∧ Hb' pf = none ∧ Hc' pf = some (.lst ((wrow W p o i).map vn)) ∧ ∃ y5 y6 y8 y9, (dNL (mrow W p i)).At Hb' y5 ∧ σ = [some x0, some (vn p), some (vn o), some (vn m), some x4, some y5, y6, some (.ref pf), y8, y9])
    (fun Hb5 H5 s5 => ⟨S3.trans s5, s5.hidden b3 c3, s5.kept c3 True.intro, x5, none, none, none, a5.mono (s3.e1.trans s5.e1), rfl⟩) (fun i σ' Hb5 H5 vs Hb6 H6 hi x5 x6 hJ s6 a6 => ?_) (fun σ' Hb5 H5 x5 x6 hJ => ?_)
  · obtain ⟨S5, b5, c5, y5, y6, y8, y9, m5, rfl⟩ := hJ
    obtain ⟨z, rfl, hz⟩ := at1 a6
    have c6 := s6.kept c5 True.intro
    have b6 := s6.hidden b5 c5
    have S6 := S5.trans s6
    have g4 : ∀ {Hx}, Ex T Hb6 Hx → (dAdj W).At Hx x4 := fun e => a4.mono (((s2.e1.trans s3.e1).trans (x5.trans s6.e1)).trans e)
    refine q_asg (d := dNL (mrow W p (i + 1))) (EvD.is (ev_lc (n := W.n) (fun _ => true) (fun r => dn (wk W (i + 1) p r)) (src_range1 (ea_cons (ev_op (ev_var rfl (a0.mono S6.e1)) ev_c (rv_ixT (n := 0) (d := dn W.n) rfl)) ea_nil) (by omega)) (by omega) fun r vs Hb7 hr e7 a7 => ?_) (by rw [given_all]; unfold dNL mrow; rw [List.map_map]; rfl)) s6.e2 fun w5 Hb8 H8 s8 a8 => ?_
    · obtain ⟨z, rfl, hz⟩ := at1 a7
      have hnb := nb_len W r
      refine ⟨rfl, et_yes, fun _ => EvD.is (ev_cb (ea_cons (EvD.is (d := dNL ((nb W r).map fun s => wk W i p s)) (ev_lc (n := (nb W r).length) (fun _ => true) (fun j => dn (wk W i p ((nb W r).getD j 0))) (SrcD.is (src_list (ev_op (dx := dAdj W) (dy := dn r) (d := dNL (nb W r)) (ev_var rfl (g4 e7)) (ev_var rfl hz) (rv_ixL (map_at (range_at hr))))) (List.length_map _) (fun _ _ => rfl)) (by omega) fun j vs Hb9 hj e9 a9 => ?_) ?_) ea_nil) cv_sum) rfl⟩
      · obtain ⟨t, ht⟩ := get_some hj
        rw [getD_map ht] at a9
        obtain ⟨z2, rfl, hz2⟩ := at1 a9
        rw [getD_of ht]
        exact ⟨rfl, et_yes, fun _ => ev_op (dx := dNL (mrow W p i)) (dy := dn t) (ev_var rfl (m5.mono ((s6.e1.trans e7).trans e9))) (ev_var rfl hz2) (rv_ixL (map_at (mrow_at (nb_lt (List.mem_of_getElem? ht)))))⟩
      · rw [given_all]
        unfold dNL
        rw [List.map_map]
        exact congrArg Da.l (map_getD (nb W r) (fun s => dn (wk W i p s)) 0)
    have S8 := S6.trans s8
    have c8 := s8.kept c6 True.intro
    have b8 := s8.hidden b6 c6
    refine s_app (Hb := Hb8) (d := dn (wk W (i + 1) p o)) rfl c8 (ev_op (dx := dNL (mrow W p (i + 1))) (dy := dn o) (ev_var rfl a8) (ev_var rfl rfl) (rv_ixL (map_at (mrow_at ho)))) s8.e2 (by rw [List.length_map]; unfold wrow; rw [List.length_map, List.length_range]; omega) fun w9 Hb9 H9 s9 c9 a9 => ?_
    have a9 : w9 = vn (wk W (i + 1) p o) := a9
    subst a9
    have S9 := (S8.trans s9).mut (o := .lst ((wrow W p o i).map vn ++ [vn (wk W (i + 1) p o)])) f0 (s9.hidden b8 c8) c9 True.intro
    refine ⟨Hb9, (s6.e1.trans s8.e1).trans s9.e1, S9.e2, S9, s9.hidden b8 c8, ?_, w5, _, _, _, a8.mono s9.e1, rfl⟩
    rw [upd_same]
    unfold wrow
    rw [List.range_succ (n := i + 1), List.map_append, List.map_append]
    rfl
  · obtain ⟨S5, b5, c5, y5, y6, y8, y9, m5, rfl⟩ := hJ
    exact ⟨.ref pf, rfl, q _ _ _ (S5.tell f0 b5 c5) (at_dNL_mk upd_same)⟩
end
end K68
end

section
namespace K68
open PySem PySem.Spec PyProof.Rows L2
section
variable {P : Program} {w : World} {K : PySem.W.Frag} {mg : Str → Option Value} {base : Heap} {T : Addr × Str}
/-! ### times_row -/
abbrev s_times_row : Stmt := topS 34
abbrev n_times_row : List Str := ["one", "other", "found", "here", "many", "there", "more"]
theorem sc_times_row : FnScope n_times_row ["one", "other"] (defScope s_times_row) := ⟨rfl, rfl, rfl, by decide +kernel, rfl, by decide +kernel, by decide +kernel⟩
def A_times_row (ds : List Da) (d : Da) : Prop := ∃ a b : List Nat, ds = [dNL a, dNL b] ∧ 0 < a.length ∧ a.length ≤ 1000 ∧ 0 < b.length ∧ b.length ≤ 1000 ∧ (∀ x ∈ a, x < 2 ^ 2000) ∧ (∀ x ∈ b, x < 2 ^ 2000) ∧ d = dNL (pmul a b)
/-- what is found behind turn i, j -/
def pcT (a b : List Nat) (i j s : Nat) : Nat := sumR i (fun i' => sumR b.length (fun j' => if i' + j' = s then a.getD i' 0 * b.getD j' 0 else 0)) + sumR j (fun j' => if i + j' = s then a.getD i 0 * b.getD j' 0 else 0)
theorem pcT_next (a b : List Nat) (i j s : Nat) : pcT a b i (j + 1) s = pcT a b i j s + (if i + j = s then a.getD i 0 * b.getD j 0 else 0) := by
  unfold pcT
  exact (Nat.add_assoc _ _ _).symm
theorem pcT_row (a b : List Nat) (i s : Nat) : pcT a b i b.length s = pcT a b (i + 1) 0 s := by
  unfold pcT
  show _ = (sumR i _ + _) + 0
  rfl
theorem set_range {L n : Nat} {f : Nat → V} {x : V} (h : n < L) : ((List.range L).map f).set n x = (List.range L).map fun s => if s = n then x else f s := by
  refine List.ext_getElem? fun i => ?_
  rcases Nat.lt_or_ge i L with hi | hi
  · by_cases e : n = i
    · subst e
      rw [List.getElem?_set_self (by rw [List.length_map, List.length_range]; exact hi), List.getElem?_map, range_at hi]
      simp
    · rw [List.getElem?_set_ne e, List.getElem?_map, List.getElem?_map, range_at hi]
      show some (f i) = some (if i = n then x else f i)
      rw [if_neg fun z => e z.symm]
  · rw [List.getElem?_eq_none (by rw [List.length_set, List.length_map, List.length_range]; exact hi), List.getElem?_eq_none (by rw [List.length_map, List.length_range]; exact hi)]
theorem ok_times_row (D : Df K mg "times_row" s_times_row) (m_len : mg "len" = none) (m_enumerate : mg "enumerate" = none) : Cal P w K mg base "times_row" 1 ["one", "other"] (Pm T A_times_row) := by
  refine mk_pm D sc_times_row (fun ds d ⟨_, _, h, _⟩ => by rw [h]; rfl) (fun _ _ _ _ _ _ us hl => match us, hl with | [_, _], _ => rfl) fun f cdv Ar outer s H vs Q E hr Hb ds d e a hA q => ?_
  obtain ⟨l, m, rfl, l1, l2, m1, m2, bl, bm, rfl⟩ := hA
  obtain ⟨x0, x1, rfl, a0, a1⟩ := at2 a
  have nd := sc_times_row.nd
  refine ⟨_, (pss_cons (ps_set (i := 2) nd rfl (Or.inl rfl) (pe_op op_rep (pe_lst (pa_cons pe_int pa_nil)) (pe_op op_sub (pe_op op_add (pe_callB (r := rLen K) call_len_seq (by rfl) m_len PySem.boot_len (pa_cons (pv 0) pa_nil)) (pe_callB (r := rLen K) call_len_seq (by rfl) m_len PySem.boot_len (pa_cons (pv 1) pa_nil))) pe_int)))
      (pss_cons (ps_for PassesOwn.never rfl (pi_enum (by rfl) m_enumerate (pa_cons (pv 0) pa_nil)) (pg_tup rfl (pgs_cons (pg_name (i := 3) nd rfl (Or.inl rfl)) (pgs_cons (pg_name (i := 4) nd rfl (Or.inl rfl)) pgs_nil))) (pss_one (ps_for PassesOwn.never rfl (pi_enum (by rfl) m_enumerate (pa_cons (pv 1) pa_nil)) (pg_tup rfl (pgs_cons (pg_name (i := 5) nd rfl (Or.inl rfl)) (pgs_cons (pg_name (i := 6) nd rfl (Or.inl rfl)) pgs_nil))) (pss_one (ps_augS (pv 2) (pe_op op_add (pv 3) (pv 5)) get_listL (pe_op op_mulW (pv 4) (pv 6)) ip_add set_list)))))
      (pss_one (ps_ret (pv 2))))), ?_⟩
  refine q_new (ds := List.replicate (l.length + m.length - 1) (dn 0)) (en_rep (ev_lst (ea_cons ev_c ea_nil) sz1) (EvD.is (ev_op (ev_op (ev_cb (ea_cons (ev_var rfl a0) ea_nil) cv_len) (ev_cb (ea_cons (ev_var rfl a1) ea_nil) cv_len) rv_I0) ev_c rv_I0) ?_) (by omega)) e fun pf us Hb1 H1 s1 f1 b1 c1 a2 => ?_
  · show Da.v (.int _) = Da.v (.int _)
    rw [List.length_map, List.length_map]
    congr 2
    omega
  have f0 : H pf = none := f1
  have hus : us = (List.range (l.length + m.length - 1)).map (fun s => vn (pcT l m 0 0 s)) := by
    have h := AtL.flat_eq (xs := List.replicate (l.length + m.length - 1) (vn 0)) (us := us) (by rw [List.map_replicate]; exact a2)
    rw [h]
    unfold pcT sumR
    rw [List.map_const', List.length_range]
  subst hus
  refine q_for (src_enum (ea_cons (ev_var rfl (a0.mono s1.e1)) ea_nil)) s1.e2 (fun i σ Hb' Hc' => Stp T Hb H Hb' Hc' ∧ Hb' pf = none ∧ Hc' pf = some (.lst ((List.range (l.length + m.length - 1)).map (fun s => vn (pcT l m i 0 s)))) ∧ ∃ y3 y4 y5 y6, σ = [some x0, some x1, some (.ref pf), y3, y4, y5, y6])
    (fun Hb5 H5 s5 => ⟨s1.trans s5, s5.hidden b1 c1, s5.kept c1 True.intro, none, none, none, none, rfl⟩) (fun i σ' Hb5 H5 vs Hb6 H6 hi x5 x6 hJ s6 a6 => ?_) (fun σ' Hb5 H5 x5 x6 hJ => ?_)
  · obtain ⟨S5, b5, c5, y3, y4, y5, y6, rfl⟩ := hJ
    rw [List.length_map] at hi
    have hli := get_lt hi 0
    rw [getD_map hli] at a6
    obtain ⟨z0, z1, rfl, e0, e1⟩ := at2 a6
    have S6 := S5.trans s6
    refine s_for (src_enum (ea_cons (ev_var rfl (a1.mono S6.e1)) ea_nil)) S6.e2 (fun j σ Hb' Hc' => Stp T Hb H Hb' Hc' ∧ Ex T Hb5 Hb' ∧ Hb' pf = none ∧ Hc' pf = some (.lst ((List.range (l.length + m.length - 1)).map (fun s => vn (pcT l m i j s)))) ∧ ∃ y5 y6, σ = [some x0, some x1, some (.ref pf), some z0, some z1, y5, y6])
      (fun Hb7 H7 s7 => ⟨S6.trans s7, s6.e1.trans s7.e1, s7.hidden (s6.hidden b5 c5) (s6.kept c5 True.intro), s7.kept (s6.kept c5 True.intro) True.intro, y5, y6, rfl⟩) (fun j σ' Hb7 H7 vs Hb8 H8 hj x7 x8 hJ s8 a8 => ?_) (fun σ' Hb7 H7 x7 x8 hJ => ?_)
    · obtain ⟨S7, E7, b7, c7, y5, y6, rfl⟩ := hJ
      rw [List.length_map] at hj
      have hmj := get_lt hj 0
      rw [getD_map hmj] at a8
      obtain ⟨z2, z3, rfl, e2, e3⟩ := at2 a8
      have S8 := S7.trans s8
      have c8 := s8.kept c7 True.intro
      have b8 := s8.hidden b7 c7
      have hb1 := bl _ (List.mem_of_getElem? hli)
      have hb2 := bm _ (List.mem_of_getElem? hmj)
      have hij : i + j < l.length + m.length - 1 := by omega
      refine s_augS (Hb := Hb8) (n := i + j) (a := ((pcT l m i j (i + j) : Nat) : Int)) (b := ((l.getD i 0 * m.getD j 0 : Nat) : Int)) rfl c8 (EvD.is (ev_op (dx := dn i) (dy := dn j) (ev_var rfl (e0.mono (x7.trans s8.e1))) (ev_var rfl e2) rv_I0) (by show Da.v (.int _) = Da.v (.int _); rw [Int.natCast_add])) (by rw [List.getElem?_map, range_at hij]; rfl)
        (EvD.is (ev_op (dx := dn (l.getD i 0)) (dy := dn (m.getD j 0)) (ev_var rfl (e1.mono (x7.trans s8.e1))) (ev_var rfl e3) (rv_I (wide_mul (a := 2000) (b := 2000) (by rw [Int.natAbs_natCast]; exact hb1) (by rw [Int.natAbs_natCast]; exact hb2) (by decide) (by decide) (by decide)))) (by show Da.v (.int _) = Da.v (.int _); rw [Int.natCast_mul])) s8.e2 fun Hb9 H9 s9 c9 => ?_
      have S9 := (S8.trans s9).mut (o := .lst (((List.range (l.length + m.length - 1)).map (fun s => vn (pcT l m i j s))).set (i + j) (.int (((pcT l m i j (i + j) : Nat) : Int) + ((l.getD i 0 * m.getD j 0 : Nat) : Int))))) f0 (s9.hidden b8 c8) c9 True.intro
      refine ⟨Hb9, s8.e1.trans s9.e1, S9.e2, S9, (E7.trans s8.e1).trans s9.e1, s9.hidden b8 c8, ?_, _, _, rfl⟩
      rw [upd_same, set_range hij]
      congr 2
      refine List.map_congr_left fun s _ => ?_
      rw [pcT_next]
      by_cases h : i + j = s
      · rw [if_pos h.symm, if_pos h, h]
        show V.int _ = V.int _
        rw [Int.natCast_add]
      · rw [if_neg fun z => h z.symm, if_neg h, Nat.add_zero]
    · obtain ⟨S7, E7, b7, c7, y5, y6, rfl⟩ := hJ
      refine ⟨Hb7, E7, S7.e2, S7, b7, ?_, _, _, _, _, rfl⟩
      rw [c7, List.length_map]
      congr 2
  · obtain ⟨S5, b5, c5, y3, y4, y5, y6, rfl⟩ := hJ
    refine ⟨.ref pf, rfl, q _ _ _ (S5.tell f0 b5 c5) (at_dNL_mk ?_)⟩
    rw [upd_same, List.length_map]
    unfold pmul
    rw [List.map_map]
    congr 2
/-! ### by_distance -/
abbrev s_by_distance : Stmt := topS 35
abbrev n_by_distance : List Str := ["webs", "row", "found", "web", "place", "away", "one", "own"]
theorem sc_by_distance : FnScope n_by_distance ["webs", "row"] (defScope s_by_distance) := ⟨rfl, rfl, rfl, by decide +kernel, rfl, by decide +kernel, by decide +kernel⟩
def A_by_distance (ds : List Da) (d : Da) : Prop := ∃ (ws : List Web) (r : List Nat), ds = [dWebs ws, dNL r] ∧ WebsOk ws ∧ RowOk ws r ∧ d = dNL (rings [1] ws r)
theorem rings_take : ∀ {ws : List Web} {as : List Nat} {f : List Nat} {i : Nat} {w : Web} {a : Nat}, ws[i]? = some w → as[i]? = some a → rings f (ws.take (i + 1)) (as.take (i + 1)) = pmul (rings f (ws.take i) (as.take i)) (ownr w a)
  | w :: ws, a :: as, f, 0, _, _, h1, h2 => by
    rw [← Option.some.inj h1, ← Option.some.inj h2]
    show rings (pmul f (ownr w a)) (ws.take 0) (as.take 0) = pmul f (ownr w a)
    rw [List.take_zero, List.take_zero]
    rfl
  | w :: ws, a :: as, f, i + 1, _, _, h1, h2 => by
    show rings (pmul f (ownr w a)) (ws.take (i + 1)) (as.take (i + 1)) = pmul (rings (pmul f (ownr w a)) (ws.take i) (as.take i)) _
    exact rings_take h1 h2
  | [], _, f, i, _, _, h1, _ => by cases h1
  | w :: ws, [], f, i, _, _, _, h2 => by cases h2
theorem rowOk_take : ∀ {ws : List Web} {as : List Nat} (i : Nat), RowOk ws as → RowOk (ws.take i) (as.take i)
  | [], [], i, _ => by rw [List.take_nil, List.take_nil]; trivial
  | w :: ws, a :: as, 0, _ => trivial
  | w :: ws, a :: as, i + 1, h => ⟨h.1, rowOk_take i h.2⟩
theorem ringOk_one : RingOk [1] := ⟨by decide, fun x hx => by rw [List.mem_singleton.mp hx]; decide, rfl⟩
theorem knowns_fit : ∀ {ws : List Web} {as : List Nat}, RowOk ws as → (∀ w ∈ ws, w.n ≤ 40) → knowns ws as ≤ 40 ^ ws.length ∧ eccs ws as ≤ 40 * ws.length
  | [], [], _, _ => ⟨Nat.le_refl _, Nat.le_refl _⟩
  | w :: ws, a :: as, o, h => by
    obtain ⟨h1, h2⟩ := knowns_fit o.2 fun v hv => h v (List.mem_cons_of_mem _ hv)
    have h3 := h w List.mem_cons_self
    have h4 := known_le w a
    have h5 := ecc_lt o.1
    refine ⟨?_, ?_⟩
    · show (known w a).length * knowns ws as ≤ 40 ^ (ws.length + 1)
      rw [Nat.pow_succ, Nat.mul_comm (40 ^ _)]
      exact Nat.mul_le_mul (by omega) h1
    · show ecc w a + eccs ws as ≤ 40 * (ws.length + 1)
      omega
/-- own, as it is counted -/
theorem count_take {l : List Nat} {i a : Nat} (h : l[i]? = some a) (k : Nat) : (l.take (i + 1)).count k = (l.take i).count k + (if k = a then 1 else 0) := by
  rw [List.take_add_one, h, List.count_append]
  congr 1
  show [a].count k = _
  rw [List.count_singleton]
  by_cases e : k = a
  · rw [if_pos e, e]; simp
  · rw [if_neg e]
    have : ¬ a = k := fun z => e z.symm
    simp [this]
theorem ok_by_distance (D : Df K mg "by_distance" s_by_distance) (c_look_at_rows : Cal P w K mg base "look_at_rows" 6 ["webs", "rows"] (Pm T A_look_at_rows)) (c_beside_all : Cal P w K mg base "beside_all" 1 ["web"] (Pm T A_beside_all)) (c_far_by : Cal P w K mg base "far_by" 1 ["beside", "place"] (Pm T A_far_by))
    (c_times_row : Cal P w K mg base "times_row" 1 ["one", "other"] (Pm T A_times_row)) (m_zip : mg "zip" = none) (m_max : mg "max" = none) : Cal P w K mg base "by_distance" 7 ["webs", "row"] (Pm T A_by_distance) := by
  refine mk_pm D sc_by_distance (fun ds d ⟨_, _, h, _⟩ => by rw [h]; rfl) (fun _ _ _ _ _ _ us hl => match us, hl with | [_, _], _ => rfl) fun f cdv Ar outer s H vs Q E hr Hb ds d e a hA q => ?_
  obtain ⟨ws, r, rfl, ok, ro, rfl⟩ := hA
  obtain ⟨x0, x1, rfl, a0, a1⟩ := at2 a
  have nd := sc_by_distance.nd
  refine ⟨_, (pss_cons (ps_expr (pe_cal c_look_at_rows hr (by decide) rfl (pa_cons (pv 0) (pa_cons (pe_tup (pa_cons (pv 1) pa_nil)) pa_nil))))
      (pss_cons (ps_set (i := 2) nd rfl (Or.inl rfl) (pe_lst (pa_cons pe_int pa_nil)))
      (pss_cons (ps_for PassesOwn.never rfl (pi_zip (by rfl) m_zip (pa_cons (pv 0) (pa_cons (pv 1) pa_nil))) (pg_tup rfl (pgs_cons (pg_name (i := 3) nd rfl (Or.inl rfl)) (pgs_cons (pg_name (i := 4) nd rfl (Or.inl rfl)) pgs_nil))) (pss_cons (ps_setLc (i := 5) (own := [("one", 6)]) (g := gName 6) rfl nd rfl rfl (sw_true rfl rfl rfl (by decide +kernel)) (pi_list (pe_cal c_far_by hr (by decide) rfl (pa_cons (pe_cal c_beside_all hr (by decide) rfl (pa_cons (pv 3) pa_nil)) (pa_cons (pv 4) pa_nil)))) (blkOk_by (own := [("one", 6)]) (N := n_by_distance) (sc := (defScope s_by_distance)) (by decide +kernel)) (fun _ _ _ _ _ => (pg_name (i := 6) nd rfl (Or.inl rfl) (hf := Or.inr rfl))) (fun _ _ _ _ _ => (pts_one (pt_cmp (pc_notN (pv 6))))) (fun _ _ _ _ _ => (pv 6)))
      (pss_cons (ps_set (i := 7) nd rfl (Or.inl rfl) (pe_op op_rep (pe_lst (pa_cons pe_int pa_nil)) (pe_op op_add (pe_callB (r := rMax K) (cr_max rfl) (by rfl) m_max (by decide +kernel) (pa_cons (pv 5) pa_nil)) pe_int)))
      (pss_cons (ps_for PassesOwn.never rfl (pi_list (pv 5)) (pg_name (i := 6) nd rfl (Or.inl rfl)) (pss_one (ps_augS (pv 7) (pv 6) get_listL pe_int ip_add set_list)))
      (pss_one (ps_set (i := 2) nd rfl (Or.inl rfl) (pe_cal c_times_row hr (by decide) rfl (pa_cons (pv 2) (pa_cons (pv 7) pa_nil)))))))))
      (pss_one (ps_ret (pv 2)))))), ?_⟩
  refine q_drop (ev_call (ea_cons (ev_var rfl a0) (ea_cons (ev_tup (ds := [dNL r]) (ea_cons (ev_var rfl a1) ea_nil) (show 1 ≤ 100000 by decide)) ea_nil)) ⟨ws, [r], rfl, ok, fun r' hr => by rw [List.mem_singleton.mp hr]; exact ro, rfl⟩) e fun Hb1 H1 s1 => ?_
  refine q_asg (d := dNL [1]) (ev_lst (ds := [dn 1]) (ea_cons ev_c ea_nil) sz1) s1.e2 fun x2 Hb2 H2 s2 a2 => ?_
  have S2 := s1.trans s2
  have few := ok.few
  refine q_for (src_zip (ea_cons (ev_var rfl (a0.mono S2.e1)) (ea_cons (ev_var rfl (a1.mono S2.e1)) ea_nil))) S2.e2 (fun i σ Hb' Hc' => Stp T Hb H Hb' Hc' ∧ ∃ y2 y3 y4 y5 y6 y7, (dNL (rings [1] (ws.take i) (r.take i))).At Hb' y2 ∧ σ = [some x0, some x1, some y2, y3, y4, y5, y6, y7])
    (fun Hb5 H5 s5 => ⟨S2.trans s5, x2, none, none, none, none, none, a2.mono s5.e1, rfl⟩) (fun i σ' Hb5 H5 vs Hb6 H6 hi x5 x6 hJ s6 a6 => ?_) (fun σ' Hb5 H5 x5 x6 hJ => ?_)
  · obtain ⟨S5, y2, y3, y4, y5, y6, y7, g2, rfl⟩ := hJ
    rw [List.length_map, List.length_map, ro.len, Nat.min_self] at hi
    obtain ⟨W, hW⟩ := get_some hi
    obtain ⟨p, hp⟩ := get_some (l := r) (i := i) (by rw [ro.len]; exact hi)
    rw [getD_map hW, getD_map hp] at a6
    obtain ⟨z0, z1, rfl, e0, e1⟩ := at2 a6
    have okW := ok.ok W (List.mem_of_getElem? hW)
    have hpW := ro.get hW hp
    have hmost := okW.most
    have S6 := S5.trans s6
    -- away
    refine q_asg (d := dNL (known W p)) (EvD.is (ev_lc (n := W.n) (fun i => (dist W p i).isSome) (fun i => dn ((dist W p i).getD 0)) (SrcD.is (rs' := fun i => [dO (dist W p i)]) (src_list (ev_call (d := dOL (dists1 W p)) (ea_cons (ev_call (ea_cons (ev_var rfl e0) ea_nil) ⟨W, rfl, okW, rfl⟩) (ea_cons (ev_var rfl e1) ea_nil)) ⟨W, p, rfl, hpW, okW.most, rfl⟩)) ?_ ?_) (by omega) fun j vs Hb7 hj e7 a7 => ?_) ?_) s6.e2 fun x5' Hb7 H7 s7 a7 => ?_
    · rw [List.length_map]
      unfold dists1
      rw [List.length_map, List.length_range]
    · intro j hj
      rw [List.length_map] at hj
      unfold dists1 at hj
      rw [List.length_map, List.length_range] at hj
      rw [List.getD_eq_getElem?_getD, dists1_at hj]
      rfl
    · obtain ⟨z, rfl, hz⟩ := at1 a7
      refine ⟨rfl, et_B (ev_notN (ev_var rfl hz)), fun hs => ?_⟩
      obtain ⟨d, hd⟩ := Option.isSome_iff_exists.mp hs
      rw [hd] at hz ⊢
      exact ev_var rfl hz
    · unfold given dNL known
      rw [List.map_map]
      rfl
    have kl := known_le W p
    have S7 := S6.trans s7
    have hecc := ecc_lt hpW
    -- own
    refine q_new (ds := List.replicate (ecc W p + 1) (dn 0)) (en_rep (ev_lst (ea_cons ev_c ea_nil) sz1) (EvD.is (ev_op (dx := dn (ecc W p)) (ev_cb (ea_cons (ev_var rfl a7) ea_nil) (cv_max (big_mem (known_pos hpW)) fun y hy => big_le hy)) ev_c rv_I0) rfl) (by omega)) S7.e2 fun pf us Hb8 H8 s8 f8 b8 c8 a8 => ?_
    have f0 : H pf = none := S7.fresh f8
    have f5 : H6 pf = none := s7.e3.none f8
    have hus : us = (List.range (ecc W p + 1)).map (fun k => vn (((known W p).take 0).count k)) := by
      have h := AtL.flat_eq (xs := List.replicate (ecc W p + 1) (vn 0)) (us := us) (by rw [List.map_replicate]; exact a8)
      rw [h, List.take_zero]
      show _ = (List.range (ecc W p + 1)).map (fun k => vn 0)
      rw [List.map_const', List.length_range]
    subst hus
    have S8 := S7.trans s8
    refine q_for (src_list (ev_var rfl (a7.mono s8.e1))) s8.e2 (fun j σ Hb' Hc' => Stp T Hb H Hb' Hc' ∧ Ex T Hb8 Hb' ∧ Hb' pf = none ∧ Hc' pf = some (.lst ((List.range (ecc W p + 1)).map (fun k => vn (((known W p).take j).count k)))) ∧ ∃ y6, σ = [some x0, some x1, some y2, some z0, some z1, some x5', y6, some (.ref pf)])
      (fun Hb9 H9 s9 => ⟨S8.trans s9, s9.e1, s9.hidden b8 c8, s9.kept c8 True.intro, y6, rfl⟩) (fun j σ' Hb9 H9 vs Hb10 H10 hj x9 x10 hJ s10 a10 => ?_) (fun σ' Hb9 H9 x9 x10 hJ => ?_)
    · obtain ⟨S9, E9, b9, c9, y6, rfl⟩ := hJ
      rw [List.length_map] at hj
      obtain ⟨o, ho⟩ := get_some hj
      rw [getD_map ho] at a10
      obtain ⟨z, rfl, hz⟩ := at1 a10
      have hoe : o < ecc W p + 1 := Nat.lt_succ_of_le (big_le (List.mem_of_getElem? ho))
      have c10 := s10.kept c9 True.intro
      have b10 := s10.hidden b9 c9
      have S10 := S9.trans s10
      refine s_augS (Hb := Hb10) (n := o) (a := ((((known W p).take j).count o : Nat) : Int)) (b := 1) rfl c10 (ev_var rfl hz) (by rw [List.getElem?_map, range_at hoe]; rfl) ev_c s10.e2 fun Hb11 H11 s11 c11 => ?_
      have S11 := (S10.trans s11).mut (o := .lst (((List.range (ecc W p + 1)).map (fun k => vn (((known W p).take j).count k))).set o (.int (((((known W p).take j).count o : Nat) : Int) + 1)))) f0 (s11.hidden b10 c10) c11 True.intro
      refine ⟨Hb11, s10.e1.trans s11.e1, S11.e2, S11, (E9.trans s10.e1).trans s11.e1, s11.hidden b10 c10, ?_, _, rfl⟩
      rw [upd_same, set_range hoe]
      congr 2
      refine List.map_congr_left fun k _ => ?_
      rw [count_take ho]
      by_cases h : k = o
      · rw [if_pos h, if_pos h, h]
        rfl
      · rw [if_neg h, if_neg h, Nat.add_zero]
    · obtain ⟨S9, E9, b9, c9, y6, rfl⟩ := hJ
      rw [List.length_map, List.take_length] at c9
      have S9' := S9.tell f0 b9 c9
      have E10 : Ex T Hb8 (upd Hb9 pf (.lst ((List.range (ecc W p + 1)).map (fun k => vn ((known W p).count k))))) := E9.trans (.new S9.e1.t2 b9)
      have a9 : (dNL (ownr W p)).At (upd Hb9 pf (.lst ((List.range (ecc W p + 1)).map (fun k => vn ((known W p).count k))))) (.ref pf) := at_dNL_mk (by
        rw [upd_same]
        unfold ownr
        rw [List.map_map]
        rfl)
      have rk := rings_ok (rowOk_take i ro) ringOk_one
      have rl := rings_len (rowOk_take i ro) ringOk_one
      have rs := rings_sum (rowOk_take i ro) ringOk_one
      obtain ⟨k1, k2⟩ := knowns_fit (rowOk_take i ro) fun v hv => (ok.ok v (List.mem_of_mem_take hv)).most
      have hlen : (ws.take i).length ≤ 12 := by rw [List.length_take]; omega
      have k3 : knowns (ws.take i) (r.take i) ≤ 40 ^ 12 := Nat.le_trans k1 (Nat.pow_le_pow_right (by decide) hlen)
      refine s_asg (Hb := upd Hb9 pf (.lst ((List.range (ecc W p + 1)).map (fun k => vn ((known W p).count k))))) (d := dNL (rings [1] (ws.take (i + 1)) (r.take (i + 1)))) (EvD.is (ev_call (d := dNL (pmul (rings [1] (ws.take i) (r.take i)) (ownr W p))) (ea_cons (ev_var rfl (g2.mono (((s6.e1.trans s7.e1).trans s8.e1).trans E10))) (ea_cons (ev_var rfl a9) ea_nil)) ⟨_, _, rfl, rk.len, ?_, ?_, ?_, fun x hx => ?_, fun x hx => ?_, rfl⟩) (by rw [rings_take hW hp])) S9'.e2 fun v Hb11 H11 s11 a11 => ?_
      · rw [rl]
        show 1 + _ ≤ _
        omega
      · rw [ownr_len]
        omega
      · rw [ownr_len]
        omega
      · have h1 := sum_ge hx
        rw [rs] at h1
        have h2 : x ≤ 40 ^ 12 := by
          refine Nat.le_trans h1 (Nat.le_trans (Nat.mul_le_mul_left _ k3) ?_)
          show 1 * 40 ^ 12 ≤ _
          omega
        exact Nat.lt_of_le_of_lt h2 (by decide +kernel)
      · have h1 := sum_ge hx
        rw [ownr_sum] at h1
        exact Nat.lt_of_le_of_lt (show x ≤ 40 by omega) (by decide +kernel)
      · exact ⟨Hb11, ((((s6.e1.trans s7.e1).trans s8.e1).trans E10)).trans s11.e1, s11.e2, S9'.trans s11, v, _, _, _, _, _, a11, rfl⟩
  · obtain ⟨S5, y2, y3, y4, y5, y6, y7, g2, rfl⟩ := hJ
    rw [List.length_map, List.length_map, ro.len, Nat.min_self, List.take_length, ← ro.len, List.take_length] at g2
    exact s_ret (ev_var rfl g2) S5.e2 fun v Hb' H' s a => q v Hb' H' (S5.trans s) a
end
end K68
end

section
namespace K68
open PySem PySem.Spec PyProof.Rows L2
section
variable {P : Program} {w : World} {K : PySem.W.Frag} {mg : Str → Option Value} {base : Heap} {T : Addr × Str}
/-! ### widest -/
abbrev s_widest : Stmt := topS 36
abbrev n_widest : List Str := ["webs", "found", "web", "row"]
theorem sc_widest : FnScope n_widest ["webs"] (defScope s_widest) := ⟨rfl, rfl, rfl, by decide +kernel, rfl, by decide +kernel, by decide +kernel⟩
open Classical in
noncomputable def widO (ws : List Web) : Option Nat := if (∀ w ∈ ws, conn w) then some ((ws.map wid).sum) else none
theorem widO_none {ws : List Web} {W : Web} (h : W ∈ ws) (c : ¬ conn W) : widO ws = none := by
  unfold widO
  rw [if_neg fun z => c (z W h)]
theorem widO_some {ws : List Web} (h : ∀ w ∈ ws, conn w) : widO ws = some ((ws.map wid).sum) := by
  unfold widO
  rw [if_pos h]
theorem known_conn {W : Web} (c : conn W) {p : Nat} (hp : p < W.n) : dists1 W p = (known W p).map some := by
  unfold dists1 known
  rw [List.map_map, List.filter_eq_self.mpr fun q hq => Option.isSome_iff_ne_none.mpr (c p q hp (List.mem_range.mp hq))]
  refine List.map_congr_left fun q hq => ?_
  obtain ⟨d, hd⟩ := Option.ne_none_iff_exists'.mp (c p q hp (List.mem_range.mp hq))
  show dist W p q = some ((dist W p q).getD 0)
  rw [hd]
  rfl
def A_widest (ds : List Da) (d : Da) : Prop := ∃ ws : List Web, ds = [dWebs ws] ∧ WebsOk ws ∧ d = dO (widO ws)
theorem ok_widest (D : Df K mg "widest" s_widest) (c_look_at_webs : Cal P w K mg base "look_at_webs" 5 ["thing"] (Pm T A_look_at_webs)) (c_far_table : Cal P w K mg base "far_table" 2 ["web"] (Pm T A_far_table)) (m_max : mg "max" = none) : Cal P w K mg base "widest" 6 ["webs"] (Pm T A_widest) := by
  refine mk_pm D sc_widest (fun ds d ⟨_, h, _⟩ => by rw [h]; rfl) (fun _ _ _ _ _ _ us hl => match us, hl with | [_], _ => rfl) fun f cdv Ar outer s H vs Q E hr Hb ds d e a hA q => ?_
  obtain ⟨ws, rfl, ok, rfl⟩ := hA
  obtain ⟨x0, rfl, a0⟩ := at1 a
  have nd := sc_widest.nd
  refine ⟨_, (pss_cons (ps_expr (pe_cal c_look_at_webs hr (by decide) rfl (pa_cons (pv 0) pa_nil)))
      (pss_cons (ps_set (i := 1) nd rfl (Or.inl rfl) pe_int)
      (pss_cons (ps_for PassesOwn.never rfl (pi_list (pv 0)) (pg_name (i := 2) nd rfl (Or.inl rfl)) (pss_cons (ps_for PassesOwn.never rfl (pi_list (pe_cal c_far_table hr (by decide) rfl (pa_cons (pv 2) pa_nil))) (pg_name (i := 3) nd rfl (Or.inl rfl)) (pss_one (ps_if (pt_cmpR (r := rIn K false) op_in_seq pe_non (pv 3) (by rfl)) (pss_one (ps_ret pe_non)) pss_nil)))
      (pss_one (ps_aug (i := 1) nd rfl (Or.inl rfl) (pe_callB (r := rMax K) (cr_max rfl) (by rfl) m_max (by decide +kernel) (pa_cons (pe_lc (own := [("row", 3)]) (g := gName 3) rfl nd (pi_list (pe_cal c_far_table hr (by decide) rfl (pa_cons (pv 2) pa_nil))) (blkOk_by (own := [("row", 3)]) (N := n_widest) (sc := (defScope s_widest)) (by decide +kernel)) (fun _ _ _ _ _ => (pg_name (i := 3) nd rfl (Or.inl rfl) (hf := Or.inr rfl))) (fun _ _ _ _ _ => pts_nil) (fun _ _ _ _ _ => (pe_callB (r := rMax K) (cr_max rfl) (by rfl) m_max (by decide +kernel) (pa_cons (pv 3) pa_nil)))) pa_nil)) ip_add))))
      (pss_one (ps_ret (pv 1)))))), ?_⟩
  refine q_drop (ev_call (ea_cons (ev_var rfl a0) ea_nil) ⟨ws, rfl, ok, rfl⟩) e fun Hb1 H1 s1 => ?_
  refine q_asg (d := dn 0) ev_c s1.e2 fun x1 Hb2 H2 s2 a1 => ?_
  have a1 : x1 = vn 0 := a1
  subst a1
  have S2 := s1.trans s2
  refine q_for (src_list (ev_var rfl (a0.mono S2.e1))) S2.e2 (fun i σ Hb' Hc' => Stp T Hb H Hb' Hc' ∧ (∀ w ∈ ws.take i, conn w) ∧ ∃ y2 y3, σ = [some x0, some (vn (((ws.take i).map wid).sum)), y2, y3])
    (fun Hb5 H5 s5 => ⟨S2.trans s5, (fun w hw => by rw [List.take_zero] at hw; cases hw), none, none, rfl⟩) (fun i σ' Hb5 H5 vs Hb6 H6 hi x5 x6 hJ s6 a6 => ?_) (fun σ' Hb5 H5 x5 x6 hJ => ?_)
  · obtain ⟨S5, hc, y2, y3, rfl⟩ := hJ
    rw [List.length_map] at hi
    obtain ⟨W, hW⟩ := get_some hi
    rw [getD_map hW] at a6
    obtain ⟨z0, rfl, e0⟩ := at1 a6
    have S6 := S5.trans s6
    have mW := List.mem_of_getElem? hW
    have okW := ok.ok W mW
    have hmost := okW.most
    have tbl : ∀ {σ : L2.St} {Hx}, Ex T Hb6 Hx → σ[2]? = some (some z0) → EvD T (tCall (Pm T A_far_table) [] E0 (tCons (tVar 2) tNil)) σ Hx (dTable W) := fun ex hs => ev_call (ea_cons (ev_var hs (e0.mono ex)) ea_nil) ⟨W, rfl, okW, rfl⟩
    refine q_for (n := W.n) (rs := fun j => [dOL (dists1 W j)]) (SrcD.is (src_list (tbl (.refl s6.e2.t1) rfl)) (by rw [List.length_map, List.length_range]) fun j hj => by
      rw [List.length_map, List.length_range] at hj
      rw [getD_map (range_at hj)]) s6.e2 (fun j σ Hb' Hc' => Stp T Hb H Hb' Hc' ∧ Ex T Hb6 Hb' ∧ (∀ p q, p < j → q < W.n → dist W p q ≠ none) ∧ ∃ y3, σ = [some x0, some (vn (((ws.take i).map wid).sum)), some z0, y3])
      (fun Hb7 H7 s7 => ⟨S6.trans s7, s7.e1, fun p q hp => absurd hp (Nat.not_lt_zero _), y3, rfl⟩) (fun j σ' Hb7 H7 vs Hb8 H8 hj x7 x8 hJ s8 a8 => ?_) (fun σ' Hb7 H7 x7 x8 hJ => ?_)
    · obtain ⟨S7, E7, hp, y3, rfl⟩ := hJ
      obtain ⟨z1, rfl, e1⟩ := at1 a8
      have S8 := S7.trans s8
      have tst := rv_in (T := T) (K := K) (neg := false) (x := .non) (xs := (dists1 W j).map vO) rfl (flat_vO _)
      rw [inV_none, ← map_dO] at tst
      refine s_if (et_test (ev_op ev_c (ev_var rfl e1) tst)) S8.e2 (fun hb Hb9 H9 s9 => ?_) (fun hb Hb9 H9 s9 => ?_)
      · have hm : none ∈ dists1 W j := of_decide_eq_true hb
        have nc : ¬ conn W := fun c => by
          unfold dists1 at hm
          obtain ⟨r, hr, hd⟩ := List.mem_map.mp hm
          exact c j r hj (List.mem_range.mp hr) hd
        rw [widO_none mW nc] at q
        exact s_ret (d := .v .non) ev_c s9.e2 fun v Hb' H' s a => q v Hb' H' ((S8.trans s9).trans s) a
      · have hm : none ∉ dists1 W j := of_decide_eq_false hb
        refine ⟨Hb9, s8.e1.trans s9.e1, s9.e2, S8.trans s9, (E7.trans s8.e1).trans s9.e1, fun p r hp' hr => ?_, _, rfl⟩
        rcases Nat.lt_or_ge p j with h | h
        · exact hp p r h hr
        · have : p = j := by omega
          rw [this]
          intro z
          refine hm ?_
          unfold dists1
          exact List.mem_map.mpr ⟨r, List.mem_range.mpr hr, z⟩
    · obtain ⟨S7, E7, hp, y3, rfl⟩ := hJ
      have cW : conn W := fun p r h1 h2 => hp p r h1 h2
      refine s_aug (Hb := Hb7) (a := ((((ws.take i).map wid).sum : Nat) : Int)) (b := ((wid W : Nat) : Int)) rfl (ev_cb (d := dn (wid W)) (ea_cons (EvD.is (d := dNL ((List.range W.n).map (ecc W))) (ev_lc (n := W.n) (fun _ => true) (fun p => dn (ecc W p)) (SrcD.is (rs' := fun j => [dOL (dists1 W j)]) (src_list (tbl E7 rfl)) (by rw [List.length_map, List.length_range]) fun j hj => by
        rw [List.length_map, List.length_range] at hj
        rw [getD_map (range_at hj)]) (by omega) fun j vs Hb8 hj e8 a8 => ?_) (by rw [given_all]; unfold dNL; rw [List.map_map]; rfl)) ea_nil) (cv_max (big_mem (by rw [List.length_map, List.length_range]; exact okW.pos)) fun y hy => big_le hy)) S7.e2 fun Hb8 H8 s8 => ?_
      · obtain ⟨z1, rfl, e1⟩ := at1 a8
        rw [known_conn cW hj, dOL_some] at e1
        exact ⟨rfl, et_yes, fun _ => ev_cb (d := dn (ecc W j)) (ea_cons (ev_var rfl e1) ea_nil) (cv_max (big_mem (known_pos hj)) fun y hy => big_le hy)⟩
      · have S8 := S7.trans s8
        have htk : ws.take (i + 1) = ws.take i ++ [W] := by rw [List.take_add_one, hW]; rfl
        refine ⟨Hb8, (s6.e1.trans E7).trans s8.e1, S8.e2, S8, fun v hv => ?_, some z0, y3, ?_⟩
        · rw [htk] at hv
          rcases List.mem_append.mp hv with hv | hv
          · exact hc v hv
          · rw [List.mem_singleton.mp hv]
            exact cW
        · rw [htk, List.map_append, List.sum_append]
          show [some x0, some (V.int _), _, _] = [some x0, some (V.int _), _, _]
          simp
  · obtain ⟨S5, hc, y2, y3, rfl⟩ := hJ
    rw [List.length_map, List.take_length] at hc ⊢
    rw [widO_some hc] at q
    exact s_ret (d := dn ((ws.map wid).sum)) (ev_var rfl rfl) S5.e2 fun v Hb' H' s a => q v Hb' H' (S5.trans s) a
/-! ### ways_many -/
abbrev s_ways_many : Stmt := topS 31
abbrev n_ways_many : List Str := ["webs", "one", "other", "away", "choose", "found", "gone", "web", "here", "there", "part"]
theorem sc_ways_many : FnScope n_ways_many ["webs", "one", "other"] (defScope s_ways_many) := ⟨rfl, rfl, rfl, by decide +kernel, rfl, by decide +kernel, by decide +kernel⟩
def A_shortest (ds : List Da) (d : Da) : Prop := ∃ (W : Web) (p q k : Nat), ds = [dWeb W, dn p, dn q] ∧ WebOk W ∧ p < W.n ∧ q < W.n ∧ dist W p q = some k ∧ d = dn (wk W k p q)
def A_ways (ds : List Da) (d : Da) : Prop := ∃ (ws : List Web) (a b : List Nat), ds = [dWebs ws, dNL a, dNL b] ∧ WebsOk ws ∧ RowOk ws a ∧ RowOk ws b ∧ d = dn (pways ws a b)
theorem pways_none {ws : List Web} {a b : List Nat} (h : pdist ws a b = none) : pways ws a b = 0 := by
  unfold pways
  rw [h]
theorem sumO_len {ws : List Web} (h : ∀ w ∈ ws, w.n ≤ 40) : ∀ {as bs : List Nat}, RowOk ws as → RowOk ws bs → ∀ {s : Nat}, sumO (dists ws as bs) = some s → s ≤ 40 * ws.length := by
  induction ws with
  | nil =>
    intro as bs o1 o2 s hs
    cases as with
    | nil =>
      cases bs with
      | nil => rw [← Option.some.inj hs]; exact Nat.le_refl _
      | cons b bs => cases o2
    | cons a as => cases o1
  | cons w ws ih =>
    intro as bs o1 o2 s hs
    cases as with
    | nil => cases o1
    | cons a as =>
      cases bs with
      | nil => cases o2
      | cons b bs =>
        have hs : sumO (dist w a b :: dists ws as bs) = some s := hs
        cases hd : dist w a b with
        | none => rw [hd] at hs; cases hs
        | some d =>
          rw [hd] at hs
          have hs : (sumO (dists ws as bs)).map (d + ·) = some s := hs
          obtain ⟨t, ht, hts⟩ := Option.map_eq_some_iff.mp hs
          have h1 := ih (fun v hv => h v (List.mem_cons_of_mem _ hv)) o1.2 o2.2 ht
          have h2 := dist_lt o2.1 hd
          have h3 := h w List.mem_cons_self
          rw [List.length_cons]
          omega
theorem rowOk_drop : ∀ {ws : List Web} {as : List Nat} (i : Nat), RowOk ws as → RowOk (ws.drop i) (as.drop i)
  | [], [], i, _ => by rw [List.drop_nil, List.drop_nil]; trivial
  | w :: ws, a :: as, 0, h => h
  | w :: ws, a :: as, i + 1, h => rowOk_drop (ws := ws) i h.2
theorem drop_at {α : Type} {l : List α} {i : Nat} {a : α} (h : l[i]? = some a) : l.drop i = a :: l.drop (i + 1) := by
  have hi := lt_of_get h
  rw [List.drop_eq_getElem_cons hi]
  rw [List.getElem?_eq_getElem hi] at h
  rw [Option.some.inj h]
theorem ok_ways_many (D : Df K mg "ways_many" s_ways_many) (c_look_at_rows : Cal P w K mg base "look_at_rows" 6 ["webs", "rows"] (Pm T A_look_at_rows)) (c_far_in : Cal P w K mg base "far_in" 2 ["webs", "one", "other"] (Pm T A_far_in)) (c_binomials : Cal P w K mg base "binomials" 1 ["most"] (Pm T A_binomials))
    (c_shortest_many : Cal P w K mg base "shortest_many" 3 ["web", "one", "other"] (Pm T A_shortest)) (m_sum : mg "sum" = none) (m_zip : mg "zip" = none) : Cal P w K mg base "ways_many" 7 ["webs", "one", "other"] (Pm T A_ways) := by
  refine mk_pm D sc_ways_many (fun ds d ⟨_, _, _, h, _⟩ => by rw [h]; rfl) (fun _ _ _ _ _ _ us hl => match us, hl with | [_, _, _], _ => rfl) fun f cdv Ar outer s H vs Q E hr Hb ds d e a hA q => ?_
  obtain ⟨ws, l, m, rfl, ok, ol, om, rfl⟩ := hA
  obtain ⟨x0, x1, x2, rfl, a0, a1, a2⟩ := at3 a
  have nd := sc_ways_many.nd
  refine ⟨_, (pss_cons (ps_expr (pe_cal c_look_at_rows hr (by decide) rfl (pa_cons (pv 0) (pa_cons (pe_tup (pa_cons (pv 1) (pa_cons (pv 2) pa_nil))) pa_nil))))
      (pss_cons (ps_set (i := 3) nd rfl (Or.inl rfl) (pe_cal c_far_in hr (by decide) rfl (pa_cons (pv 0) (pa_cons (pv 1) (pa_cons (pv 2) pa_nil)))))
      (pss_cons (ps_if (pt_cmpR (r := rIn K false) op_in_seq pe_non (pv 3) (by rfl)) (pss_one (ps_ret pe_int)) pss_nil)
      (pss_cons (ps_set (i := 4) nd rfl (Or.inl rfl) (pe_cal c_binomials hr (by decide) rfl (pa_cons (pe_callB (r := rSum K) (cr_sum rfl) (by rfl) m_sum (by decide +kernel) (pa_cons (pv 3) pa_nil)) pa_nil)))
      (pss_cons (ps_set (i := 5) nd rfl (Or.inl rfl) pe_int)
      (pss_cons (ps_set (i := 6) nd rfl (Or.inl rfl) pe_int)
      (pss_cons (ps_for PassesOwn.never rfl (pi_zip4 (by rfl) m_zip (pa_cons (pv 0) (pa_cons (pv 1) (pa_cons (pv 2) (pa_cons (pv 3) pa_nil))))) (pg_tup rfl (pgs_cons (pg_name (i := 7) nd rfl (Or.inl rfl)) (pgs_cons (pg_name (i := 8) nd rfl (Or.inl rfl)) (pgs_cons (pg_name (i := 9) nd rfl (Or.inl rfl)) (pgs_cons (pg_name (i := 10) nd rfl (Or.inl rfl)) pgs_nil))))) (pss_cons (ps_set (i := 6) nd rfl (Or.inl rfl) (pe_op op_add (pv 6) (pv 10)))
      (pss_one (ps_set (i := 5) nd rfl (Or.inl rfl) (pe_op op_mulW (pe_op op_mulW (pv 5) (pe_ix (r := rIxL K) ix_list (pe_ix (r := rIxL K) ix_list (pv 4) (pv 6) (fun _ _ => rfl)) (pv 10) (fun _ _ => rfl))) (pe_cal c_shortest_many hr (by decide) rfl (pa_cons (pv 7) (pa_cons (pv 8) (pa_cons (pv 9) pa_nil)))))))))
      (pss_one (ps_ret (pv 5)))))))))), ?_⟩
  refine q_drop (ev_call (ea_cons (ev_var rfl a0) (ea_cons (ev_tup (ea_cons (ev_var rfl a1) (ea_cons (ev_var rfl a2) ea_nil)) (show 2 ≤ 100000 by decide)) ea_nil)) ⟨ws, [l, m], rfl, ok, fun r hr => by
    rcases List.mem_cons.mp hr with rfl | hr
    · exact ol
    · rw [List.mem_singleton.mp hr]
      exact om, rfl⟩) e fun Hb1 H1 s1 => ?_
  refine q_asg (ev_call (ea_cons (ev_var rfl (a0.mono s1.e1)) (ea_cons (ev_var rfl (a1.mono s1.e1)) (ea_cons (ev_var rfl (a2.mono s1.e1)) ea_nil))) ⟨ws, l, m, rfl, ok, ol, om, rfl⟩) s1.e2 fun x3 Hb2 H2 s2 a3 => ?_
  have S2 := s1.trans s2
  have few := ok.few
  have tst := rv_in (T := T) (K := K) (neg := false) (x := .non) (xs := (dists ws l m).map vO) rfl (flat_vO _)
  rw [inV_none, ← map_dO] at tst
  refine q_if (et_test (ev_op ev_c (ev_var rfl a3) tst)) S2.e2 (fun hb Hb3 H3 s3 => ?_) (fun hb Hb3 H3 s3 => ?_)
  · have h0 : sumO (dists ws l m) = none := sumO_none.mpr (of_decide_eq_true hb)
    rw [pways_none (by rw [pdist_sum ol om, h0])] at q
    exact s_ret (d := dn 0) ev_c s3.e2 fun v Hb' H' s a => q v Hb' H' ((S2.trans s3).trans s) a
  have h0 : sumO (dists ws l m) ≠ none := fun z => of_decide_eq_false hb (sumO_none.mp z)
  obtain ⟨t, ht⟩ := Option.ne_none_iff_exists'.mp h0
  obtain ⟨k, hk, hs⟩ := sumO_some ht
  have a3k := a3.mono s3.e1
  rw [hk, dOL_some] at a3k
  rw [pways_prod ol om ht] at q
  have tle := sumO_len (fun v hv => (ok.ok v hv).most) ol om ht
  have S3 := S2.trans s3
  refine q_asg (d := dBin t) (ev_call (ea_cons (ev_cb (ea_cons (ev_var rfl a3k) ea_nil) cv_sum) ea_nil) ⟨t, by rw [hs], by omega, rfl⟩) s3.e2 fun x4 Hb4 H4 s4 a4 => ?_
  refine q_asg (d := dn 1) ev_c s4.e2 fun v5 Hb5 H5 s5 a5 => ?_
  have a5 : v5 = vn 1 := a5
  subst a5
  refine q_asg (d := dn 0) ev_c s5.e2 fun v6 Hb6 H6 s6 a6 => ?_
  have a6 : v6 = vn 0 := a6
  subst a6
  have E6 := s4.e1.trans (s5.e1.trans s6.e1)
  have S6 := ((S3.trans s4).trans s5).trans s6
  refine q_for (n := ws.length) (src_zip4 (ea_cons (ev_var rfl (a0.mono S6.e1)) (ea_cons (ev_var rfl (a1.mono S6.e1)) (ea_cons (ev_var rfl (a2.mono S6.e1)) (ea_cons (ev_var rfl (a3.mono (s3.e1.trans E6))) ea_nil)))) (List.length_map _) (by rw [List.length_map, ol.len]) (by rw [List.length_map, om.len]) (by rw [List.length_map, dists_len ol om])) S6.e2
    (fun i σ Hb' Hc' => Stp T Hb H Hb' Hc' ∧ ∃ v g r y7 y8 y9 y10, wprod 1 0 ws l m = wprod v g (ws.drop i) (l.drop i) (m.drop i) ∧ v < 2 ^ (1000 * i + 1) ∧ sumO (dists (ws.drop i) (l.drop i) (m.drop i)) = some r ∧ g + r = t ∧ σ = [some x0, some x1, some x2, some x3, some x4, some (vn v), some (vn g), y7, y8, y9, y10])
    (fun Hb7 H7 s7 => ⟨S6.trans s7, 1, 0, t, none, none, none, none, rfl, by decide, ht, Nat.zero_add _, rfl⟩) (fun i σ' Hb7 H7 vs Hb8 H8 hi x7 x8 hJ s8 a8 => ?_) (fun σ' Hb7 H7 x7 x8 hJ => ?_)
  · obtain ⟨S7, v, g, r, y7, y8, y9, y10, hw, hv, hr2, hg, rfl⟩ := hJ
    obtain ⟨W, hW⟩ := get_some hi
    obtain ⟨p, hp⟩ := get_some (l := l) (i := i) (by rw [ol.len]; exact hi)
    obtain ⟨o, ho⟩ := get_some (l := m) (i := i) (by rw [om.len]; exact hi)
    have hd := dists_get hW hp ho
    have okW := ok.ok W (List.mem_of_getElem? hW)
    have hmost := okW.most
    rw [getD_map hW, getD_map hp, getD_map ho, getD_map hd] at a8
    obtain ⟨z0, z1, z2, z3, rfl, e0, e1, e2, e3⟩ := at4 a8
    rw [drop_at hW, drop_at hp, drop_at ho] at hw hr2
    have hr2 : sumO (dist W p o :: dists (ws.drop (i + 1)) (l.drop (i + 1)) (m.drop (i + 1))) = some r := hr2
    cases hdd : dist W p o with
    | none => rw [hdd] at hr2; cases hr2
    | some d =>
      rw [hdd] at hr2 e3
      have hr2 : (sumO (dists (ws.drop (i + 1)) (l.drop (i + 1)) (m.drop (i + 1)))).map (d + ·) = some r := hr2
      obtain ⟨r', hr3, hr4⟩ := Option.map_eq_some_iff.mp hr2
      have hw : wprod 1 0 ws l m = wprod (v * choose (g + (dist W p o).getD 0) ((dist W p o).getD 0) * wk W ((dist W p o).getD 0) p o) (g + (dist W p o).getD 0) (ws.drop (i + 1)) (l.drop (i + 1)) (m.drop (i + 1)) := hw
      rw [hdd] at hw
      have hw : wprod 1 0 ws l m = wprod (v * choose (g + d) d * wk W d p o) (g + d) (ws.drop (i + 1)) (l.drop (i + 1)) (m.drop (i + 1)) := hw
      have S8 := S7.trans s8
      have dlt := dist_lt (om.get hW ho) hdd
      have gle : g + d ≤ t := by
        have : d + r' = r := hr4
        omega
      have hc1 : choose (g + d) d ≤ 2 ^ 500 := Nat.le_trans (choose_le _ _) (Nat.pow_le_pow_right (by decide) (by omega))
      have hc2 : wk W d p o ≤ 2 ^ 240 := by
        refine Nat.le_trans (wk_le W d p o) (Nat.le_trans (Nat.pow_le_pow_left (show W.n ≤ 2 ^ 6 by omega) d) ?_)
        rw [← Nat.pow_mul]
        exact Nat.pow_le_pow_right (by decide) (by omega)
      have hv1 : v * choose (g + d) d < 2 ^ (1000 * i + 1 + 500) := by
        rw [Nat.pow_add]
        exact Nat.lt_of_le_of_lt (Nat.mul_le_mul_left v hc1) (Nat.mul_lt_mul_of_pos_right hv (Nat.pow_pos (by decide)))
      have hv2 : v * choose (g + d) d * wk W d p o < 2 ^ (1000 * (i + 1) + 1) := by
        refine Nat.lt_of_lt_of_le ?_ (Nat.pow_le_pow_right (by decide) (show 1000 * i + 1 + 500 + 240 ≤ 1000 * (i + 1) + 1 by omega))
        rw [Nat.pow_add _ (1000 * i + 1 + 500)]
        exact Nat.lt_of_le_of_lt (Nat.mul_le_mul_left _ hc2) (Nat.mul_lt_mul_of_pos_right hv1 (Nat.pow_pos (by decide)))
      have e3 : z3 = vn d := e3
      subst e3
      refine q_asg (d := dn (g + d)) (EvD.is (ev_op (dx := dn g) (dy := dn d) (ev_var rfl rfl) (ev_var rfl rfl) rv_I0) (by show Da.v (.int _) = Da.v (.int _); rw [Int.natCast_add])) s8.e2 fun u9 Hb9 H9 s9 a9 => ?_
      have a9 : u9 = vn (g + d) := a9
      subst a9
      have E9 : Ex T Hb4 Hb9 := (((s5.e1.trans s6.e1).trans x7).trans s8.e1).trans s9.e1
      refine s_asg (d := dn (v * choose (g + d) d * wk W d p o)) (EvD.is (ev_op (dx := dn (v * choose (g + d) d)) (dy := dn (wk W d p o)) (EvD.is (ev_op (dx := dn v) (dy := dn (choose (g + d) d)) (ev_var rfl rfl) (ev_op (dx := dNL (brow (g + d))) (dy := dn d) (ev_op (dx := dBin t) (dy := dn (g + d)) (ev_var rfl (a4.mono E9)) (ev_var rfl rfl) (rv_ixL (map_at (range_at (by omega))))) (ev_var rfl rfl) (rv_ixL (map_at (brow_at (by omega))))) (rv_I (wide_mul (a := 20000) (b := 20000) ?_ ?_ (by decide) (by decide) (by decide)))) (by show Da.v (.int _) = Da.v (.int _); rw [Int.natCast_mul]))
        (ev_call (ea_cons (ev_var rfl (e0.mono s9.e1)) (ea_cons (ev_var rfl (e1.mono s9.e1)) (ea_cons (ev_var rfl (e2.mono s9.e1)) ea_nil))) ⟨W, p, o, d, rfl, okW, ol.get hW hp, om.get hW ho, hdd, rfl⟩) (rv_I (wide_mul (a := 20000) (b := 20000) ?_ ?_ (by decide) (by decide) (by decide)))) (by show Da.v (.int _) = Da.v (.int _); simp only [Int.natCast_mul])) s9.e2 fun u10 Hb10 H10 s10 a10 => ?_
      · rw [Int.natAbs_natCast]
        exact Nat.lt_of_lt_of_le hv (Nat.pow_le_pow_right (by decide) (by omega))
      · rw [Int.natAbs_natCast]
        exact Nat.lt_of_le_of_lt hc1 (Nat.pow_lt_pow_right (by decide) (by decide))
      · rw [Int.natAbs_natCast]
        exact Nat.lt_of_lt_of_le hv1 (Nat.pow_le_pow_right (by decide) (by omega))
      · rw [Int.natAbs_natCast]
        exact Nat.lt_of_le_of_lt hc2 (Nat.pow_lt_pow_right (by decide) (by decide))
      · have a10 : u10 = vn (v * choose (g + d) d * wk W d p o) := a10
        subst a10
        have : d + r' = r := hr4
        exact ⟨Hb10, (s8.e1.trans s9.e1).trans s10.e1, s10.e2, (S8.trans s9).trans s10, _, _, r', _, _, _, _, hw, hv2, hr3, by omega, rfl⟩
  · obtain ⟨S7, v, g, r, y7, y8, y9, y10, hw, hv, hr2, hg, rfl⟩ := hJ
    rw [List.drop_length] at hw
    have hw : wprod 1 0 ws l m = v := hw
    rw [hw] at q
    exact s_ret (d := dn v) (ev_var rfl rfl) S7.e2 fun v Hb' H' s a => q v Hb' H' (S7.trans s) a
end
end K68
end

section
/-! K68Kw: a def with a default, called with all of its values, one of them by name. -/
namespace K68
open PySem PySem.Spec PyProof.Rows L2
def DfD (K : PySem.W.Frag) (mg : Str → Option Value) (x : Str) (st : Stmt) (dvs : List V) : Prop := ∃ f fd, FunD K x x (defArgs st) (defBody st) (defScope st) dvs [] f fd ∧ mg x = some (.ref f)
def CalK (P : Program) (w : World) (K : PySem.W.Frag) (mg : Str → Option Value) (base : Heap) (x : Str) (k : Nat) (ps : List Str) (n : Nat) (ks : List Str) (sp : Sp) : Prop :=
  ∃ f fd its, FnOk P w K mg base CX0 k f fd ps sp ∧ KBn K fd ps n ks (fun us ws => us ++ (its : List Value).drop 1 ++ ws) (fun vs zs => vs ++ zs) ∧ mg x = some (.ref f) ∧ PySem.W.keepIn K (.ref f) = true
section
variable {P : Program} {w : World} {K : PySem.W.Frag} {mg : Str → Option Value} {base : Heap} {T : Addr × Str} {X : Cx}
theorem pe_calK {j k n : Nat} {x : Str} {ps ks : List Str} {sp : Sp} {p pos : Pos} {e : Expr} {es : List Expr} {kws : List Keyword} {t tk : TA} (C : CalK X.prog X.w X.K X.mg X.base x j ps n ks sp) (hr : Room k X.A) (h : j ≤ k) (hg : Gl X x)
    (ha : PA X (e :: es) t) (hkw : PK X kws tk) (hall : (backToKw pos (keywordEach kws X.env)).all (·.1.isSome) = true := by rfl) (hks : (backToKw pos (keywordEach kws X.env)).filterMap (·.1) = ks := by rfl)
    (hdb : (x == ("__debug__" : Str)) = false := by decide) (he : starEach (e :: es) X.env = (false, eval e X.env) :: starEach es X.env := by rfl)
    (hpl : ((backTo pos (starEach (e :: es) X.env)).any (·.1) || (backToKw pos (keywordEach kws X.env)).any (·.1.isNone)) = false := by rfl) :
    PE X (.Call (.Name x p) (e :: es) kws pos) (tCallN n ks.length sp (fun vs zs => vs ++ zs) E0 t tk) := by
  obtain ⟨f, fd, its, F, hb, hm, hk⟩ := C
  exact pe_callN F (hr.mono h) hg hm hk hb pass0 ha hkw hall hks hdb he hpl
theorem ev_callK {σ : L2.St} {Hb : Hp} {A : List Da → Da → Prop} {E : XK} {t tk : TA} {ds es : List Da} {d : Da} {n m : Nat} (h : EvA T t σ Hb ds) (hk : EvA T tk σ Hb es) (hn : ds.length = n) (hm : es.length = m) (hA : A (ds ++ es) d) : EvD T (tCallN n m (Pm T A) (fun vs zs => vs ++ zs) E t tk) σ Hb d := fun Hb1 Hc e1 e2 Q q =>
  h Hb1 Hc e1 e2 _ fun vs H2 Hc2 s1 a1 => hk H2 Hc2 (e1.trans s1.e1) s1.e2 _ fun zs H3 Hc3 s2 a2 => ⟨by rw [a1.length, hn], by rw [a2.length, hm], H3, ds ++ es, d, s2.e2, (a1.mono s2.e1).append a2, hA, fun v H4 Hc4 s3 a3 => q v H4 Hc4 ((s1.trans s2).trans s3) a3⟩
/-- both ways of calling, by one body; n + 1 parameters, the last has the default -/
theorem mk_pmD {x : Str} {st : Stmt} {N ps : List Str} {k n : Nat} {ks : List Str} {dv : V} {A : List Da → Da → Prop} (D : DfD K mg x st [dv]) (S : FnScope N ps (defScope st)) (len : ∀ ds d, A ds d → ds.length = ps.length)
    (hl : ps.length = n + 1)
    (hb : ∀ (T : Addr) (kV doc pm : Value) (an : Option Addr) (cdv ct : Value) (us its : List Value), us.length = n + 1 → its.length = 1 →
      ∃ k, bindArgs (PySem.W.fnOf x x (defArgs st) (defBody st) (defScope st) (.ref T) kV doc pm an cdv ct) ⟨us, []⟩ = seqItems? (.ref T) >>= k ∧ k (some its.toArray) = pure (ps.zip (us ++ its.drop 1)))
    (hbk : ∀ (T : Addr) (kV doc pm : Value) (an : Option Addr) (cdv ct : Value) (us its ws : List Value), us.length = n → its.length = 1 → ws.length = ks.length →
      ∃ k, bindArgs (PySem.W.fnOf x x (defArgs st) (defBody st) (defScope st) (.ref T) kV doc pm an cdv ct) ⟨us, ks.zip ws⟩ = seqItems? (.ref T) >>= k ∧ k (some its.toArray) = pure (ps.zip (us ++ its.drop 1 ++ ws)))
    (body : ∀ (f : Addr) (cdv : Value) (Ar : Around) (outer : List Env) (s : Shared) (H : Hp) (vs : List V) (Q : VK) (E : XK), Room k (Ar.deeper (envOfC x (defScope st) s.heap.objs.size f cdv)) →
      ∀ (Hb : Hp) (ds : List Da) (d : Da), Ex T Hb H → AtL Hb ds vs → A ds d → (∀ v Hb' H', Stp T Hb H Hb' H' → d.At Hb' v → Q v H') →
      ∃ t, PSs (cxOf CX0 P w K mg base N x (defScope st) f cdv Ar outer s H E).nox (defBody st) t ∧ t { nx := fun _ H' => Q .non H', rt := Q } (start N vs) H) : Cal P w K mg base x (k + 1) ps (Pm T A) ∧ CalK P w K mg base x (k + 1) ps n ks (Pm T A) := by
  obtain ⟨f, fd, F, hm⟩ := D
  have ok : FnOk P w K mg base CX0 (k + 1) f fd ps (Pm T A) := F.ok S (fun vs H Q E ⟨Hb, ds, d, _, a, hA, _⟩ => by rw [a.length]; exact len ds d hA) fun cdv Ar outer s H vs Q E hr ⟨Hb, ds, d, e, a, hA, q⟩ => by
    obtain ⟨t, h1, h2⟩ := body f cdv Ar outer s H vs Q E hr Hb ds d e a hA q
    exact ⟨t, h1.nox, h2⟩
  refine ⟨⟨f, fd, ok, ?_, hm, F.kp⟩, ?_⟩
  · obtain ⟨ds, h1, h2⟩ := F.binds1 (ps := ps) (n + 1) 1 (by simp) (by rw [hl]; rfl) hb
    have h1 : Vals [] ds := h1
    cases h1
    exact h2
  · obtain ⟨its, h⟩ := F.kbindsD (ps := ps) n ks (fun us its ws => us ++ its.drop 1 ++ ws) (by simp) (fun h1 h2 h3 => (h1.append (h2.drop 1)).append h3) hbk
    refine ⟨f, fd, its, ok, ⟨h.to, fun h1 h2 => ?_⟩, hm, F.kp⟩
    have h3 := h.rel h1 h2
    simpa using h3
end
end K68
end

section
namespace K68
open PySem PySem.Spec PyProof.Rows L2
section
variable {P : Program} {w : World} {K : PySem.W.Frag} {mg : Str → Option Value} {base : Heap} {T : Addr × Str}
/-! ### walks_many -/
abbrev s_walks_many : Stmt := topS 33
abbrev n_walks_many : List Str := ["webs", "one", "other", "steps", "choose", "found", "web", "here", "there", "own", "part", "whole"]
theorem sc_walks_many : FnScope n_walks_many ["webs", "one", "other", "steps"] (defScope s_walks_many) := ⟨rfl, rfl, rfl, by decide +kernel, rfl, by decide +kernel, by decide +kernel⟩
def A_walks (ds : List Da) (d : Da) : Prop := ∃ (ws : List Web) (a b : List Nat) (k : Nat), ds = [dWebs ws, dNL a, dNL b, dn k] ∧ WebsOk ws ∧ RowOk ws a ∧ RowOk ws b ∧ k ≤ 10 ∧ d = dn (pwk ws k a b)
theorem pw_take : ∀ {ws : List Web} {as bs : List Nat} {f : Nat → Nat} {i : Nat} {w : Web} {a b : Nat}, ws[i]? = some w → as[i]? = some a → bs[i]? = some b → pw f (ws.take (i + 1)) (as.take (i + 1)) (bs.take (i + 1)) = cv (pw f (ws.take i) (as.take i) (bs.take i)) (fun k => wk w k a b)
  | w :: ws, a :: as, b :: bs, f, 0, _, _, _, h1, h2, h3 => by
    rw [← Option.some.inj h1, ← Option.some.inj h2, ← Option.some.inj h3]
    show pw (cv f (fun k => wk w k a b)) (ws.take 0) (as.take 0) (bs.take 0) = cv f _
    rw [List.take_zero, List.take_zero, List.take_zero]
    rfl
  | w :: ws, a :: as, b :: bs, f, i + 1, _, _, _, h1, h2, h3 => by
    show pw (cv f (fun k => wk w k a b)) (ws.take (i + 1)) (as.take (i + 1)) (bs.take (i + 1)) = cv (pw (cv f (fun k => wk w k a b)) (ws.take i) (as.take i) (bs.take i)) _
    exact pw_take h1 h2 h3
  | [], _, _, f, i, _, _, _, h1, _, _ => by cases h1
  | w :: ws, [], _, f, i, _, _, _, _, h2, _ => by cases h2
  | w :: ws, a :: as, [], f, i, _, _, _, _, _, h3 => by cases h3
theorem cv_le {f g : Nat → Nat} {m F G n : Nat} (hf : ∀ k, k ≤ m → f k ≤ F) (hg : ∀ k, k ≤ m → g k ≤ G) (hn : n ≤ m) (hm : m ≤ 10) : cv f g n ≤ 2 ^ 14 * (F * G) := by
  unfold cv
  have h1 : ∀ k, k < n + 1 → choose n k * f k * g (n - k) ≤ 2 ^ 10 * (F * G) := fun k hk => by
    rw [Nat.mul_assoc]
    exact Nat.mul_le_mul (Nat.le_trans (choose_le n k) (Nat.pow_le_pow_right (by decide) (by omega))) (Nat.mul_le_mul (hf k (by omega)) (hg (n - k) (by omega)))
  refine Nat.le_trans (sumR_le h1) ?_
  rw [sumR_const, ← Nat.mul_assoc]
  refine Nat.mul_le_mul_right _ ?_
  have : n + 1 ≤ 16 := by omega
  calc (n + 1) * 2 ^ 10 ≤ 16 * 2 ^ 10 := Nat.mul_le_mul_right _ this
    _ = 2 ^ 14 := by decide
theorem wk_fit {W : Web} {k p q : Nat} (hn : W.n ≤ 40) (hk : k ≤ 10) : wk W k p q ≤ 2 ^ 60 := by
  refine Nat.le_trans (wk_le W k p q) (Nat.le_trans (Nat.pow_le_pow_left (show W.n ≤ 2 ^ 6 by omega) k) ?_)
  rw [← Nat.pow_mul]
  exact Nat.pow_le_pow_right (by decide) (by omega)
def pwrow (f : Nat → Nat) (m : Nat) : List Nat := (List.range (m + 1)).map f
theorem pwrow_at {f : Nat → Nat} {m k : Nat} (h : k ≤ m) : (pwrow f m)[k]? = some (f k) := by
  unfold pwrow
  rw [List.getElem?_map, range_at (by omega)]
  rfl
theorem one0_row (m : Nat) : [dn 1] ++ List.replicate m (dn 0) = (pwrow one0 m).map dn := by
  unfold pwrow
  rw [List.range_succ_eq_map, List.map_cons, List.map_cons, List.map_map, List.map_map]
  show dn 1 :: List.replicate m (dn 0) = dn 1 :: (List.range m).map (fun k => dn 0)
  rw [List.map_const', List.length_range]
theorem ok_walks_many (D : DfD K mg "walks_many" s_walks_many [.int 1]) (c_look_at_rows : Cal P w K mg base "look_at_rows" 6 ["webs", "rows"] (Pm T A_look_at_rows)) (c_binomials : Cal P w K mg base "binomials" 1 ["most"] (Pm T A_binomials))
    (c_walks_by : Cal P w K mg base "walks_by" 2 ["web", "one", "other", "steps"] (Pm T A_walks_by)) (m_range : mg "range" = none) (m_sum : mg "sum" = none) (m_zip : mg "zip" = none) :
    Cal P w K mg base "walks_many" 7 ["webs", "one", "other", "steps"] (Pm T A_walks) ∧ CalK P w K mg base "walks_many" 7 ["webs", "one", "other", "steps"] 3 ["steps"] (Pm T A_walks) := by
  refine mk_pmD D sc_walks_many (fun ds d ⟨_, _, _, _, h, _⟩ => by rw [h]; rfl) rfl (fun _ _ _ _ _ _ _ us its hl hi => match us, hl, its, hi with | [_, _, _, _], _, [_], _ => ⟨_, rfl, rfl⟩)
    (fun _ _ _ _ _ _ _ us its ws hl hi hw => match us, hl, its, hi, ws, hw with | [_, _, _], _, [_], _, [_], _ => ⟨_, rfl, rfl⟩) fun f cdv Ar outer s H vs Q E hr Hb ds d e a hA q => ?_
  obtain ⟨ws, l, m, k, rfl, ok, ol, om, hk, rfl⟩ := hA
  obtain ⟨x0, x1, x2, x3, rfl, a0, a1, a2, a3⟩ := at4 a
  have a3 : x3 = vn k := a3
  subst a3
  have nd := sc_walks_many.nd
  refine ⟨_, (pss_cons (ps_expr (pe_cal c_look_at_rows hr (by decide) rfl (pa_cons (pv 0) (pa_cons (pe_tup (pa_cons (pv 1) (pa_cons (pv 2) pa_nil))) pa_nil))))
      (pss_cons (ps_set (i := 4) nd rfl (Or.inr rfl) (pe_cal c_binomials hr (by decide) rfl (pa_cons (pv 3) pa_nil)))
      (pss_cons (ps_set (i := 5) nd rfl (Or.inr rfl) (pe_op op_cat (pe_lst (pa_cons pe_int pa_nil)) (pe_op op_rep (pe_lst (pa_cons pe_int pa_nil)) (pv 3))))
      (pss_cons (ps_for PassesOwn.never rfl (pi_zip3 (by rfl) m_zip (pa_cons (pv 0) (pa_cons (pv 1) (pa_cons (pv 2) pa_nil)))) (pg_tup rfl (pgs_cons (pg_name (i := 6) nd rfl (Or.inl rfl)) (pgs_cons (pg_name (i := 7) nd rfl (Or.inl rfl)) (pgs_cons (pg_name (i := 8) nd rfl (Or.inl rfl)) pgs_nil)))) (pss_cons (ps_set (i := 9) nd rfl (Or.inr rfl) (pe_cal c_walks_by hr (by decide) rfl (pa_cons (pv 6) (pa_cons (pv 7) (pa_cons (pv 8) (pa_cons (pv 3) pa_nil))))))
      (pss_one (ps_set (i := 5) nd rfl (Or.inr rfl) (pe_lc (own := [("whole", 11)]) (g := gName 11) rfl nd (pi_range1 (by rfl) m_range (pa_cons (pe_op op_add (pv 3) pe_int) pa_nil)) (blkOk_by (own := [("whole", 11)]) (N := n_walks_many) (sc := (defScope s_walks_many)) (by decide +kernel)) (fun _ _ _ _ _ => (pg_name (i := 11) nd rfl (Or.inr rfl) (hf := Or.inl rfl))) (fun _ _ _ _ _ => pts_nil) (fun _ _ _ _ _ => (pe_callB (r := rSum K) (cr_sum rfl) (by rfl) m_sum (by decide +kernel) (pa_cons (pe_lc (own := [("part", 10)]) (g := gName 10) rfl nd (pi_range1 (by rfl) m_range (pa_cons (pe_op op_add (pv 11) pe_int) pa_nil)) (blkOk_by (own := [("part", 10)]) (N := n_walks_many) (sc := (relab (lcS (stV (nth (stB (nth (defBody s_walks_many) 3)) 1))) (defScope s_walks_many))) (by decide +kernel)) (fun _ _ _ _ _ => (pg_name (i := 10) nd rfl (Or.inl rfl) (hf := Or.inr rfl))) (fun _ _ _ _ _ => pts_nil) (fun _ _ _ _ _ => (pe_op op_mulW (pe_op op_mulW (pe_ix (r := rIxL K) ix_list (pe_ix (r := rIxL K) ix_list (pv 4) (pv 11) (fun _ _ => rfl)) (pv 10) (fun _ _ => rfl)) (pe_ix (r := rIxL K) ix_list (pv 5) (pv 10) (fun _ _ => rfl))) (pe_ix (r := rIxL K) ix_list (pv 9) (pe_op op_sub (pv 11) (pv 10)) (fun _ _ => rfl))))) pa_nil))))))))
      (pss_one (ps_ret (pe_ix (r := rIxL K) ix_list (pv 5) (pv 3) (fun _ _ => rfl)))))))), ?_⟩
  refine q_drop (ev_call (ea_cons (ev_var rfl a0) (ea_cons (ev_tup (ea_cons (ev_var rfl a1) (ea_cons (ev_var rfl a2) ea_nil)) (show 2 ≤ 100000 by decide)) ea_nil)) ⟨ws, [l, m], rfl, ok, fun r hr => by
    rcases List.mem_cons.mp hr with rfl | hr
    · exact ol
    · rw [List.mem_singleton.mp hr]
      exact om, rfl⟩) e fun Hb1 H1 s1 => ?_
  have few := ok.few
  refine q_asg (d := dBin k) (ev_call (ea_cons (ev_var (d := dn k) rfl rfl) ea_nil) ⟨k, rfl, by omega, rfl⟩) s1.e2 fun x4 Hb2 H2 s2 a4 => ?_
  refine q_asg (d := dNL (pwrow one0 k)) (EvD.is (ev_op (ev_lst (ds := [dn 1]) (ea_cons ev_c ea_nil) sz1) (ev_op (ev_lst (ds := [dn 0]) (ea_cons ev_c ea_nil) sz1) (ev_var (d := dn k) rfl rfl) (rv_rep1 (by omega))) (rv_cat (by rw [List.length_singleton, List.length_replicate]; omega))) (by rw [one0_row]; rfl)) s2.e2 fun x5 Hb3 H3 s3 a5 => ?_
  have S3 := (s1.trans s2).trans s3
  refine q_for (n := ws.length) (src_zip3 (ea_cons (ev_var rfl (a0.mono S3.e1)) (ea_cons (ev_var rfl (a1.mono S3.e1)) (ea_cons (ev_var rfl (a2.mono S3.e1)) ea_nil))) (List.length_map _) (by rw [List.length_map, ol.len]) (by rw [List.length_map, om.len])) S3.e2
    (fun i σ Hb' Hc' => Stp T Hb H Hb' Hc' ∧ (∀ j, j ≤ k → pw one0 (ws.take i) (l.take i) (m.take i) j ≤ 2 ^ (100 * i)) ∧ ∃ y5 y6 y7 y8 y9 y10 y11, (dNL (pwrow (pw one0 (ws.take i) (l.take i) (m.take i)) k)).At Hb' y5 ∧ σ = [some x0, some x1, some x2, some (vn k), some x4, some y5, y6, y7, y8, y9, y10, y11])
    (fun Hb5 H5 s5 => ⟨S3.trans s5, fun j _ => by
      show one0 j ≤ 1
      unfold one0
      split <;> decide, x5, none, none, none, none, none, none, a5.mono s5.e1, rfl⟩) (fun i σ' Hb5 H5 vs Hb6 H6 hi x5' x6 hJ s6 a6 => ?_) (fun σ' Hb5 H5 x5' x6 hJ => ?_)
  · obtain ⟨S5, hB, y5, y6, y7, y8, y9, y10, y11, g5, rfl⟩ := hJ
    obtain ⟨W, hW⟩ := get_some hi
    obtain ⟨p, hp⟩ := get_some (l := l) (i := i) (by rw [ol.len]; exact hi)
    obtain ⟨o, ho⟩ := get_some (l := m) (i := i) (by rw [om.len]; exact hi)
    rw [getD_map hW, getD_map hp, getD_map ho] at a6
    obtain ⟨z0, z1, z2, rfl, e0, e1, e2⟩ := at3 a6
    have okW := ok.ok W (List.mem_of_getElem? hW)
    have hpW := ol.get hW hp
    have hoW := om.get hW ho
    have S6 := S5.trans s6
    refine q_asg (d := dNL (wrow W p o k)) (ev_call (ea_cons (ev_var rfl e0) (ea_cons (ev_var rfl e1) (ea_cons (ev_var rfl e2) (ea_cons (ev_var (d := dn k) rfl rfl) ea_nil)))) ⟨W, p, o, k, rfl, okW, hpW, hoW, by omega, rfl⟩) s6.e2 fun x9 Hb7 H7 s7 a9 => ?_
    have hw : ∀ j, j ≤ k → wk W j p o ≤ 2 ^ 60 := fun j hj => wk_fit okW.most (by omega)
    have E7 : Ex T Hb2 Hb7 := (((s3.e1.trans x5').trans s6.e1).trans s7.e1)
    have hnew : ∀ n, n ≤ k → cv (pw one0 (ws.take i) (l.take i) (m.take i)) (fun j => wk W j p o) n ≤ 2 ^ (100 * (i + 1)) := fun n hn => by
      refine Nat.le_trans (cv_le hB hw hn hk) ?_
      rw [show 100 * (i + 1) = 26 + (14 + (100 * i + 60)) by omega, Nat.pow_add _ 26, Nat.pow_add _ 14, Nat.pow_add _ (100 * i)]
      exact Nat.le_mul_of_pos_left _ (by decide)
    refine s_asg (Hb := Hb7) (d := dNL (pwrow (pw one0 (ws.take (i + 1)) (l.take (i + 1)) (m.take (i + 1))) k)) (EvD.is (ev_lc (n := k + 1) (fun _ => true) (fun n => dn (cv (pw one0 (ws.take i) (l.take i) (m.take i)) (fun j => wk W j p o) n)) (src_range1 (ea_cons (EvD.is (ev_op (dx := dn k) (ev_var rfl rfl) ev_c rv_I0) rfl) ea_nil) (by omega)) (by omega) fun n vs Hb8 hn e8 a8 => ?_) ?_) s7.e2 fun u Hb9 H9 s9 a10 => ?_
    · obtain ⟨z, rfl, hz⟩ := at1 a8
      refine ⟨rfl, et_yes, fun _ => EvD.is (ev_cb (ea_cons (EvD.is (d := dNL ((List.range (n + 1)).map fun j => choose n j * pw one0 (ws.take i) (l.take i) (m.take i) j * wk W (n - j) p o)) (ev_lc (n := n + 1) (fun _ => true) (fun j => dn (choose n j * pw one0 (ws.take i) (l.take i) (m.take i) j * wk W (n - j) p o)) (src_range1 (ea_cons (EvD.is (ev_op (dx := dn n) (ev_var rfl hz) ev_c rv_I0) rfl) ea_nil) (by omega)) (by omega) fun j vs Hb9 hj e9 a9' => ?_) (by rw [given_all]; unfold dNL; rw [List.map_map]; rfl)) ea_nil) cv_sum) (by rw [sum_range]; rfl)⟩
      obtain ⟨z2, rfl, hz2⟩ := at1 a9'
      have E9 := E7.trans (e8.trans e9)
      have hc : choose n j < 2 ^ 2000 := Nat.lt_of_le_of_lt (choose_le n j) (Nat.pow_lt_pow_right (by decide) (by omega))
      have hp2 : pw one0 (ws.take i) (l.take i) (m.take i) j < 2 ^ 2000 := Nat.lt_of_le_of_lt (hB j (by omega)) (Nat.pow_lt_pow_right (by decide) (by omega))
      have hw2 : wk W (n - j) p o < 2 ^ 2000 := Nat.lt_of_le_of_lt (hw (n - j) (by omega)) (Nat.pow_lt_pow_right (by decide) (by decide))
      refine ⟨rfl, et_yes, fun _ => EvD.is (ev_op (dx := dn (choose n j * pw one0 (ws.take i) (l.take i) (m.take i) j)) (dy := dn (wk W (n - j) p o)) (EvD.is (ev_op (dx := dn (choose n j)) (dy := dn (pw one0 (ws.take i) (l.take i) (m.take i) j))
          (ev_op (dx := dNL (brow n)) (dy := dn j) (ev_op (dx := dBin k) (dy := dn n) (ev_var rfl (a4.mono E9)) (ev_var rfl (hz.mono e9)) (rv_ixL (map_at (range_at (by omega))))) (ev_var rfl hz2) (rv_ixL (map_at (brow_at (by omega)))))
          (ev_op (dx := dNL (pwrow (pw one0 (ws.take i) (l.take i) (m.take i)) k)) (dy := dn j) (ev_var rfl (g5.mono ((s6.e1.trans s7.e1).trans (e8.trans e9)))) (ev_var rfl hz2) (rv_ixL (map_at (pwrow_at (by omega))))) (rv_I (wide_mul (a := 2000) (b := 2000) (by rw [Int.natAbs_natCast]; exact hc) (by rw [Int.natAbs_natCast]; exact hp2) (by decide) (by decide) (by decide)))) (by show Da.v (.int _) = Da.v (.int _); simp only [Int.natCast_mul]))
          (ev_op (dx := dNL (wrow W p o k)) (dy := dn (n - j)) (ev_var rfl (a9.mono (e8.trans e9))) (EvD.is (ev_op (dx := dn n) (dy := dn j) (ev_var rfl (hz.mono e9)) (ev_var rfl hz2) rv_I0) (by show Da.v (.int _) = Da.v (.int _); congr 2; omega)) (rv_ixL (map_at (pwrow_at (f := fun j => wk W j p o) (by omega))))) (rv_I (wide_mul (a := 4000) (b := 2000) ?_ (by rw [Int.natAbs_natCast]; exact hw2) (by decide) (by decide) (by decide)))) (by show Da.v (.int _) = Da.v (.int _); simp only [Int.natCast_mul])⟩
      rw [Int.natAbs_natCast, show 4000 = 2000 + 2000 from rfl, Nat.pow_add]
      exact Nat.mul_lt_mul'' hc hp2
    · rw [given_all, pw_take hW hp ho]
      unfold dNL pwrow
      rw [List.map_map]
      rfl
    · refine ⟨Hb9, (s6.e1.trans s7.e1).trans s9.e1, s9.e2, (S6.trans s7).trans s9, fun j hj => by rw [pw_take hW hp ho]; exact hnew j hj, u, _, _, _, _, _, _, a10, rfl⟩
  · obtain ⟨S5, hB, y5, y6, y7, y8, y9, y10, y11, g5, rfl⟩ := hJ
    rw [List.take_length, ← ol.len, List.take_length, ol.len, ← om.len, List.take_length] at g5
    exact s_ret (ev_op (dx := dNL (pwrow (pw one0 ws l m) k)) (dy := dn k) (ev_var rfl g5) (ev_var rfl rfl) (rv_ixL (map_at (pwrow_at (Nat.le_refl k))))) S5.e2 fun v Hb' H' s a => q v Hb' H' (S5.trans s) a
end
end K68
end

section
/-! K68Sort: sorted of lists of numbers. -/
namespace K68
open PySem PySem.Spec PyProof.Rows L2
theorem dp_ints {K : PySem.W.Frag} {H : Hp} : ∀ ns : List Int, DpAll K H (ns.map V.int) (ns.map PyData.int)
  | [] => .nil
  | n :: ns => .cons (.int n) (dp_ints ns)
theorem each_vals {xs : List V} {us : List Value} (r : Vals xs us) : PySem.W.EachIs (fun u x => RelV x u) us xs := by
  induction r with
  | nil => exact .nil
  | cons h _ ih => exact .cons h ih
theorem vals_each {xs : List V} {us : List Value} (r : PySem.W.EachIs (fun u x => RelV x u) us xs) : Vals xs us := by
  induction r with
  | nil => exact .nil
  | cons h _ ih => exact .cons h ih
theorem each_reads {K : PySem.W.Frag} {X : Cx} {pins : List (Addr × Obj)} {σ : L2.St} {H : Hp} {s : Shared} (I : Inv X pins σ H s) (enc : V → PyData) {xs : List V} {us : List Value} (r : Vals xs us) (h : ∀ x ∈ xs, Dp X.K H x (enc x)) :
    PySem.W.EachIs (fun v b => ∃ as, Reads s.heap v (enc b) as) us xs := by
  induction r with
  | nil => exact .nil
  | cons hr _ ih => exact .cons (Dp.reads I _ _ _ (h _ List.mem_cons_self) hr) (ih fun x hx => h x (List.mem_cons_of_mem _ hx))
/-- sorted(xs), the items lists of numbers: the same items in some order -/
def rSortedLL (K : PySem.W.Frag) : List V → Hp → VK → Prop := fun vs H Q => ∃ (a : Addr) (xs : List V) (k : V → List Int), vs = [V.ref a] ∧ SqL K H a xs ∧ (∀ x ∈ xs, ∃ p, x = .ref p ∧ SqL K H p ((k x).map V.int)) ∧
  ∀ (out : List V) (p : Addr), out.Perm xs → H p = none → Q (.ref p) (upd H p (.lst out))
theorem depth_row (ns : List Int) : (PyData.list (ns.map .int)).depth ≤ 1 := by
  have h := PySem.W.depth_ints ns
  simp [PyData.depth, h]
theorem cr_sortedLL {X : Cx} (hu : X.A.units + 64 < cLine) : CallR X (.builtin "sorted") (rSortedLL X.K) := by
  intro pins s σ H vs us Q I r h
  obtain ⟨a, xs, k, rfl, hs, hk, q⟩ := h
  obtain ⟨its, rv, hl, hz⟩ := I.list hs
  rw [Vals.ref1 r]
  have hdp : ∀ x ∈ xs, Dp X.K H x ((fun x => PyData.list ((k x).map .int)) x) := fun x hx => by
    obtain ⟨p, e, hp⟩ := hk x hx
    have : Dp X.K H (.ref p) (.list ((k x).map .int)) := .lst hp (dp_ints (k x))
    rw [← e] at this
    exact this
  refine PySem.W.sorted_data (β := V) (bs := xs) (enc := fun x => PyData.list ((k x).map .int)) (R := fun u x => RelV x u) hl.isList (each_vals rv) (each_reads (K := X.K) I _ rv hdp)
    (PySem.W.AllAlike.of fun b b' => by
      show PySem.W.alike (.list _) (.list _) = true
      simp only [PySem.W.alike]
      exact PySem.W.alike_ints _ _) (PySem.W.Sortable.others fun b => ⟨(fun z => by cases z), fun xs z => by cases z⟩) hz (fun b hb => ?_) fun out hlen he => ?_
  · have := depth_row (k b)
    show X.A.units + 2 + (PyData.list ((k b).map .int)).depth < cLine
    omega
  · have ro := vals_each he
    have pm : (xs.mergeSort (PySem.W.dataLe false fun x => PyData.list ((k x).map .int))).Perm xs := List.mergeSort_perm _ _
    obtain ⟨ep, he'⟩ := PyProof.Rows.sortedAll_at s.heap its out.toArray
    exact ⟨.ref _, upd H (s.heap.objs.size + 1) (.lst _), I.laid (t' := s.toks) (fun _ _ => PyProof.Rows.sortedAll_old) (Nat.le_succ _) ⟨by rw [pm.length_eq]; exact hz, out, ep, ro, he'⟩, rfl, q _ _ pm (I.hok.fresh (Nat.le_succ _))⟩
section
variable {T : Addr × Str} {K : PySem.W.Frag}
/-- what is found, told by data -/
theorem AtL.perm {H : Hp} : ∀ {us ws : List V}, us.Perm ws → ∀ {ds : List Da}, AtL H ds us → ∃ es : List Da, es.Perm ds ∧ AtL H es ws := by
  intro us ws h
  induction h with
  | nil => exact fun {ds} a => ⟨ds, .refl _, a⟩
  | cons x _ ih =>
    intro ds a
    cases ds with
    | nil => cases (show _ = [] from a)
    | cons d ds =>
      obtain ⟨u, r, e, a1, a2⟩ := (show ∃ u r, _ = u :: r ∧ d.At H u ∧ AtL H ds r from a)
      injection e with e1 e2
      subst e1
      subst e2
      obtain ⟨es, p, b⟩ := ih a2
      exact ⟨d :: es, p.cons d, .cons a1 b⟩
  | swap x y l =>
    intro ds a
    match ds, a with
    | [d], a =>
      obtain ⟨u, r, e, a1, a2⟩ := (show ∃ u r, _ = u :: r ∧ d.At H u ∧ AtL H [] r from a)
      have a2 : r = [] := a2
      subst a2
      cases e
    | d :: d2 :: ds, a =>
      obtain ⟨u, r, e, a1, u2, r2, e3, a2, a3⟩ := (show ∃ u r, _ = u :: r ∧ d.At H u ∧ ∃ u2 r2, r = u2 :: r2 ∧ d2.At H u2 ∧ AtL H ds r2 from a)
      subst e3
      injection e with e1 e2
      injection e2 with e2 e3
      subst e1
      subst e2
      subst e3
      exact ⟨d2 :: d :: ds, .swap _ _ _, .cons a2 (.cons a1 a3)⟩
  | trans _ _ ih1 ih2 =>
    intro ds a
    obtain ⟨es, p, b⟩ := ih1 a
    obtain ⟨fs, p2, c⟩ := ih2 b
    exact ⟨fs, p2.trans p, c⟩
/-- what the rows' values stand for -/
noncomputable def rowOf (H : Hp) (x : V) : List Int := match x with
  | .ref a => match H a with
    | some (.lst us) => us.map fun u => match u with | .int i => i | _ => 0
    | _ => []
  | _ => []
theorem rowOf_ref {H : Hp} {a : Addr} {ns : List Int} (h : H a = some (.lst (ns.map V.int))) : rowOf H (.ref a) = ns := by
  unfold rowOf
  simp only [h, List.map_map]
  exact List.map_id _
theorem perm_map {α β : Type} (f : α → β) {m n : List β} (h : m.Perm n) : ∀ l : List α, l.map f = n → ∃ l' : List α, l'.Perm l ∧ l'.map f = m := by
  intro l e
  exact L2.perm_lift f h l e
/-- sorted of rows: some order of them -/
theorem es_sortedLL {σ : L2.St} {Hb : Hp} {tA : TA} {rs : List (List Nat)} (h : EvA T tA σ Hb [.l (rs.map dNL)]) :
    ∀ Hb1 Hc, Ex T Hb Hb1 → Ex T Hb1 Hc → ∀ Q : VK, (∀ v Hb2 Hc2 rs', List.Perm rs' rs → Stp T Hb1 Hc Hb2 Hc2 → (Da.l (rs'.map dNL)).At Hb2 v → Q v Hc2) → tCB (rSortedLL K) tA σ Hc Q := fun Hb1 Hc e1 e2 Q q =>
  h Hb1 Hc e1 e2 _ fun vs H2 Hc2 s1 a => by
    obtain ⟨u, r, rfl, a1, a2⟩ := (show ∃ u r, vs = u :: r ∧ (Da.l (rs.map dNL)).At H2 u ∧ AtL H2 [] r from a)
    have a2 : r = [] := a2
    subst a2
    obtain ⟨p, us, rfl, h2, h3⟩ := (show ∃ a us, u = .ref a ∧ H2 a = some (.lst us) ∧ AtL H2 (rs.map dNL) us from a1)
    refine ⟨p, us, rowOf Hc2, rfl, sqL (s1.e2.at h2 True.intro), fun x hx => ?_, fun out p' hp hn => ?_⟩
    · obtain ⟨i, hi⟩ := List.mem_iff_getElem?.mp hx
      have hlen := h3.length
      rw [List.length_map] at hlen
      have hi2 : i < rs.length := by rw [← hlen]; exact (List.getElem?_eq_some_iff.mp hi).1
      obtain ⟨u, hu, hd⟩ := h3.get (i := i) (d := dNL rs[i]) (by rw [List.getElem?_map, List.getElem?_eq_getElem hi2]; rfl)
      rw [hi] at hu
      cases hu
      obtain ⟨b, rfl, hb⟩ := at_dNL hd
      rw [map_vn] at hb
      have hb2 := s1.e2.at hb True.intro
      exact ⟨b, rfl, by rw [rowOf_ref hb2]; exact sqL hb2⟩
    · obtain ⟨es, pe, ae⟩ := h3.perm hp.symm
      obtain ⟨rs', pr, er⟩ := perm_map dNL pe rs rfl
      rw [← er] at ae
      exact q _ _ _ rs' pr (s1.new hn) ⟨p', out, rfl, upd_same, ae.mono (Ex.new s1.e1.t2 (s1.e2.none hn))⟩
end
end K68
end

section
namespace K68
open PySem PySem.Spec PyProof.Rows L2
/-- a promise of one of many data: the def chooses -/
def PmS (T : Addr × Str) (A : List Da → (Da → Prop) → Prop) : Sp := fun vs H Q _ => ∃ Hb ds S, Ex T Hb H ∧ AtL Hb ds vs ∧ A ds S ∧ ∀ d v Hb' H', S d → Stp T Hb H Hb' H' → d.At Hb' v → Q v H'
section
variable {P : Program} {w : World} {K : PySem.W.Frag} {mg : Str → Option Value} {base : Heap} {T : Addr × Str}
theorem mk_pmS {x : Str} {st : Stmt} {N ps : List Str} {k : Nat} {A : List Da → (Da → Prop) → Prop} (D : Df K mg x st) (S : FnScope N ps (defScope st)) (len : ∀ ds S, A ds S → ds.length = ps.length)
    (hb : ∀ (kV doc pm : Value) (an : Option Addr) (cdv ct : Value) (us : List Value), us.length = ps.length → bindArgs (PySem.W.fnOf x x (defArgs st) (defBody st) (defScope st) .none kV doc pm an cdv ct) ⟨us, []⟩ = pure (ps.zip us))
    (body : ∀ (f : Addr) (cdv : Value) (Ar : Around) (outer : List Env) (s : Shared) (H : Hp) (vs : List V) (Q : VK) (E : XK), Room k (Ar.deeper (envOfC x (defScope st) s.heap.objs.size f cdv)) →
      ∀ (Hb : Hp) (ds : List Da) (S : Da → Prop), Ex T Hb H → AtL Hb ds vs → A ds S → (∀ d v Hb' H', S d → Stp T Hb H Hb' H' → d.At Hb' v → Q v H') →
      ∃ t, PSs (cxOf CX0 P w K mg base N x (defScope st) f cdv Ar outer s H E).nox (defBody st) t ∧ t { nx := fun _ H' => Q .non H', rt := Q } (start N vs) H) : Cal P w K mg base x (k + 1) ps (PmS T A) :=
  mk_cal D S (fun vs H Q E ⟨Hb, ds, d, _, a, hA, _⟩ => by rw [a.length]; exact len ds d hA) hb fun f cdv Ar outer s H vs Q E hr ⟨Hb, ds, d, e, a, hA, q⟩ => body f cdv Ar outer s H vs Q E hr Hb ds d e a hA q
/-- the value of such a call -/
theorem ev_callS {σ : L2.St} {Hb : Hp} {tA : TA} {ds : List Da} {A : List Da → (Da → Prop) → Prop} {S : Da → Prop} {E : XK} (h : EvA T tA σ Hb ds) (hA : A ds S) : Ev T (tCall (PmS T A) [] E tA) σ Hb fun v H => ∃ d, S d ∧ d.At H v := fun Hb1 Hc e1 e2 Q q =>
  h Hb1 Hc e1 e2 _ fun vs H2 Hc2 s1 a1 => ⟨H2, ds, S, s1.e2, by rw [List.append_nil]; exact a1, hA, fun d v H3 Hc3 hd s2 a2 => q v H3 Hc3 (s1.trans s2) ⟨d, hd, a2⟩⟩
theorem bes_flat : ∀ {ws : List Web} {as : List Nat}, RowOk ws as → bes ws as = (List.range ws.length).flatMap fun k => (nb (ws.getD k ⟨0, []⟩) (as.getD k 0)).map fun o => as.set k o
  | [], [], _ => rfl
  | w :: ws, a :: as, h => by
    show (nb w a).map (fun r => r :: as) ++ (bes ws as).map (fun r => a :: r) = _
    rw [bes_flat h.2, List.length_cons, List.range_succ_eq_map, List.flatMap_cons, List.flatMap_map, List.map_flatMap]
    congr 1
    refine congrArg (fun f => List.flatMap f (List.range ws.length)) (funext fun k => ?_)
    rw [List.map_map]
    rfl
/-! ### beside_by -/
abbrev s_beside_by : Stmt := topS 20
abbrev n_beside_by : List Str := ["lists", "row", "found", "k", "place", "other"]
theorem sc_beside_by : FnScope n_beside_by ["lists", "row"] (defScope s_beside_by) := ⟨rfl, rfl, rfl, by decide +kernel, rfl, by decide +kernel, by decide +kernel⟩
def A_beside_by (ds : List Da) (S : Da → Prop) : Prop := ∃ (ws : List Web) (r : List Nat), ds = [.l (ws.map dAdj), dNL r] ∧ WebsOk ws ∧ RowOk ws r ∧ S = fun d => ∃ rs : List (List Nat), rs.Perm (bes ws r) ∧ d = .l (rs.map dNL)
theorem flat_take (n : Nat) (f : Nat → List (List Nat)) : (List.range (n + 1)).flatMap f = (List.range n).flatMap f ++ f n := by
  rw [List.range_succ, List.flatMap_append, List.flatMap_cons, List.flatMap_nil, List.append_nil]
theorem flat_len {f : Nat → List (List Nat)} (h : ∀ i, (f i).length ≤ 40) : ∀ n : Nat, ((List.range n).flatMap f).length ≤ 40 * n
  | 0 => Nat.le_refl _
  | n + 1 => by
    rw [flat_take, List.length_append]
    have := flat_len h n
    have := h n
    omega
theorem ok_beside_by (D : Df K mg "beside_by" s_beside_by) (m_enumerate : mg "enumerate" = none) (m_sorted : mg "sorted" = none) : Cal P w K mg base "beside_by" 1 ["lists", "row"] (PmS T A_beside_by) := by
  refine mk_pmS D sc_beside_by (fun ds d ⟨_, _, h, _⟩ => by rw [h]; rfl) (fun _ _ _ _ _ _ us hl => match us, hl with | [_, _], _ => rfl) fun f cdv Ar outer s H vs Q E hr Hb ds S e a hA q => ?_
  obtain ⟨ws, r, rfl, ok, ro, rfl⟩ := hA
  obtain ⟨x0, x1, rfl, a0, a1⟩ := at2 a
  have nd := sc_beside_by.nd
  have few := ok.few
  have rl := ro.len
  refine ⟨_, (pss_cons (ps_set (i := 2) nd rfl (Or.inl rfl) (pe_lst pa_nil))
      (pss_cons (ps_for PassesOwn.never rfl (pi_enum (by rfl) m_enumerate (pa_cons (pv 1) pa_nil)) (pg_tup rfl (pgs_cons (pg_name (i := 3) nd rfl (Or.inr rfl)) (pgs_cons (pg_name (i := 4) nd rfl (Or.inl rfl)) pgs_nil))) (pss_one (ps_expr (pe_bm PySem.F.plainAttrs_list PySem.F.slot_list_extend PySem.F.type_list_extend mt_extend (pv 2) (pa_cons (pe_lc (own := [("other", 5)]) (g := gName 5) rfl nd (pi_list (pe_ix (r := rIxL K) ix_list (pe_ix (r := rIxL K) ix_list (pv 0) (pv 3) (fun _ _ => rfl)) (pv 4) (fun _ _ => rfl))) (blkOk_by (own := [("other", 5)]) (N := n_beside_by) (sc := (defScope s_beside_by)) (by decide +kernel)) (fun _ _ _ _ _ => (pg_name (i := 5) nd rfl (Or.inl rfl) (hf := Or.inr rfl))) (fun _ _ _ _ _ => pts_nil) (fun _ _ _ _ _ => (pe_op op_cat (pe_op op_cat (pe_slice (r := rSlL K) sl_list (pv 1) po_none (po_some (pv 3))) (pe_lst (pa_cons (pv 5) pa_nil))) (pe_slice (r := rSlL K) sl_list (pv 1) (po_some (pe_op op_add (pv 3) pe_int)) po_none)))) pa_nil)))))
      (pss_one (ps_ret (pe_callB (r := rSortedLL K) (cr_sortedLL hr.units) (by rfl) m_sorted (by decide +kernel) (pa_cons (pv 2) pa_nil)))))), ?_⟩
  refine q_new (ds := []) (en_lst ea_nil (by decide)) e fun pf us Hb1 H1 s1 f1 b1 c1 a2 => ?_
  have f0 : H pf = none := f1
  have hus : us = [] := a2
  subst hus
  have hf40 : ∀ k, ((nb (ws.getD k ⟨0, []⟩) (r.getD k 0)).map fun o => r.set k o).length ≤ 40 := fun k => by
    rw [List.length_map]
    refine Nat.le_trans (nb_len _ _) ?_
    rcases Nat.lt_or_ge k ws.length with h | h
    · exact (ok.ok _ (List.mem_of_getElem? (get_lt h _))).most
    · rw [List.getD_eq_getElem?_getD, List.getElem?_eq_none h]
      exact Nat.zero_le _
  refine q_for (src_enum (ea_cons (ev_var rfl (a1.mono s1.e1)) ea_nil)) s1.e2 (fun i σ Hb' Hc' => Stp T Hb H Hb' Hc' ∧ Hb' pf = none ∧ ∃ us y3 y4 y5, Hc' pf = some (.lst us) ∧ AtL Hb' (((List.range i).flatMap fun k => (nb (ws.getD k ⟨0, []⟩) (r.getD k 0)).map fun o => r.set k o).map dNL) us ∧ σ = [some x0, some x1, some (.ref pf), y3, y4, y5])
    (fun Hb5 H5 s5 => ⟨s1.trans s5, s5.hidden b1 c1, [], none, none, none, s5.kept c1 True.intro, rfl, rfl⟩) (fun i σ' Hb5 H5 vs Hb6 H6 hi x5 x6 hJ s6 a6 => ?_) (fun σ' Hb5 H5 x5 x6 hJ => ?_)
  · obtain ⟨S5, b5, us, y3, y4, y5, c5, a5, rfl⟩ := hJ
    rw [List.length_map] at hi
    have hiw : i < ws.length := by omega
    have hp := get_lt hi 0
    have hW := get_lt hiw (⟨0, []⟩ : Web)
    rw [getD_map hp] at a6
    obtain ⟨z0, z1, rfl, e0, e1⟩ := at2 a6
    have okW := ok.ok _ (List.mem_of_getElem? hW)
    have hpW := ro.get hW hp
    have c6 := s6.kept c5 True.intro
    have b6 := s6.hidden b5 c5
    have S6 := S5.trans s6
    have nl := nb_len (ws.getD i ⟨0, []⟩) (r.getD i 0)
    have hmost := okW.most
    have hul := a5.length
    rw [List.length_map] at hul
    have hul2 := flat_len hf40 i
    refine s_ext (Hb := Hb6) (ds := ((nb (ws.getD i ⟨0, []⟩) (r.getD i 0)).map fun o => r.set i o).map dNL) rfl c6 (EvD.is (ev_lc (n := (nb (ws.getD i ⟨0, []⟩) (r.getD i 0)).length) (fun _ => true) (fun j => dNL (r.set i ((nb (ws.getD i ⟨0, []⟩) (r.getD i 0)).getD j 0))) (SrcD.is (src_list (ev_op (dx := dAdj (ws.getD i ⟨0, []⟩)) (dy := dn (r.getD i 0)) (d := dNL (nb (ws.getD i ⟨0, []⟩) (r.getD i 0))) (ev_op (dx := .l (ws.map dAdj)) (dy := dn i) (ev_var rfl (a0.mono S6.e1)) (ev_var rfl e0) (rv_ixL (map_at hW))) (ev_var rfl e1) (rv_ixL (map_at (range_at hpW))))) (List.length_map _) (fun _ _ => rfl)) (by omega) fun j vs Hb7 hj e7 a7 => ?_) ?_) s6.e2 (by rw [hul, List.length_map, List.length_map]; omega) fun w7 Hb7 H7 s7 c7 a7 => ?_
    · obtain ⟨t, ht⟩ := get_some hj
      rw [getD_map ht] at a7
      obtain ⟨z2, rfl, hz2⟩ := at1 a7
      rw [getD_of ht]
      have hrow : EvD T (tVar 1) [some x0, some x1, some (.ref pf), some z0, some z1, some z2] Hb7 (dNL r) := ev_var rfl (a1.mono (S6.e1.trans e7))
      have hk : EvD T (tVar 3) [some x0, some x1, some (.ref pf), some z0, some z1, some z2] Hb7 (dI ((i : Nat) : Int)) := ev_var rfl (e0.mono e7)
      refine ⟨rfl, et_yes, fun _ => EvD.is (ev_op (ev_op (ev_sl hrow eo_none (eo_some hk)) (ev_lst (ds := [dn t]) (ea_cons (ev_var rfl hz2) ea_nil) sz1) (rv_cat ?_)) (ev_sl hrow (eo_some (i := ((i + 1 : Nat) : Int)) (EvD.is (ev_op hk ev_c rv_I0) (by show Da.v (.int _) = Da.v (.int _); rw [Int.natCast_add]; rfl))) eo_none) (rv_cat ?_)) ?_⟩
      · rw [cutD_to (by rw [List.length_map]; omega), List.length_take, List.length_map, List.length_singleton]
        omega
      · rw [cutD_to (by rw [List.length_map]; omega), cutD_from (by rw [List.length_map]; omega), List.length_append, List.length_take, List.length_map, List.length_singleton, List.length_drop, List.length_map]
        omega
      · rw [cutD_to (by rw [List.length_map]; omega), cutD_from (by rw [List.length_map]; omega), List.set_eq_take_append_cons_drop, if_pos hi]
        unfold dNL
        rw [List.map_append, List.map_cons, List.map_take, List.map_drop, List.append_assoc]
        rfl
    · rw [given_all]
      exact congrArg Da.l (by rw [List.map_map]; exact map_getD (nb (ws.getD i ⟨0, []⟩) (r.getD i 0)) (fun o => dNL (r.set i o)) 0)
    · have S7 := (S6.trans s7).mut (o := .lst (us ++ w7)) f0 (s7.hidden b6 c6) c7 True.intro
      refine ⟨Hb7, s6.e1.trans s7.e1, S7.e2, S7, s7.hidden b6 c6, us ++ w7, _, _, _, upd_same, ?_, rfl⟩
      rw [flat_take, List.map_append]
      exact (a5.mono (s6.e1.trans s7.e1)).append a7
  · obtain ⟨S5, b5, us, y3, y4, y5, c5, a5, rfl⟩ := hJ
    rw [List.length_map, rl, ← bes_flat ro] at a5
    have S5' := S5.tell f0 b5 c5
    refine es_sortedLL (Hb := upd Hb5 pf (.lst us)) (rs := bes ws r) (ea_cons (ev_var rfl ⟨pf, us, rfl, upd_same, a5.mono (Ex.new S5.e1.t2 b5)⟩) ea_nil) _ _ (.refl S5'.e1.t2) S5'.e2 _ fun v Hb' H' rs' hp s ha => ?_
    exact q _ v Hb' H' ⟨rs', hp, rfl⟩ (S5'.trans s) ha
/-! ### rows_beside -/
abbrev s_rows_beside : Stmt := topS 21
abbrev n_rows_beside : List Str := ["webs", "row", "web"]
theorem sc_rows_beside : FnScope n_rows_beside ["webs", "row"] (defScope s_rows_beside) := ⟨rfl, rfl, rfl, by decide +kernel, rfl, by decide +kernel, by decide +kernel⟩
def A_rows_beside (ds : List Da) (S : Da → Prop) : Prop := ∃ (ws : List Web) (r : List Nat), ds = [dWebs ws, dNL r] ∧ WebsOk ws ∧ RowOk ws r ∧ S = fun d => ∃ rs : List (List Nat), rs.Perm (bes ws r) ∧ d = .l (rs.map dNL)
theorem ok_rows_beside (D : Df K mg "rows_beside" s_rows_beside) (c_look_at_webs : Cal P w K mg base "look_at_webs" 5 ["thing"] (Pm T A_look_at_webs)) (c_look_at_row : Cal P w K mg base "look_at_row" 3 ["webs", "thing"] (Pm T A_look_at_row)) (c_beside_all : Cal P w K mg base "beside_all" 1 ["web"] (Pm T A_beside_all))
    (c_beside_by : Cal P w K mg base "beside_by" 1 ["lists", "row"] (PmS T A_beside_by)) : Cal P w K mg base "rows_beside" 6 ["webs", "row"] (PmS T A_rows_beside) := by
  refine mk_pmS D sc_rows_beside (fun ds d ⟨_, _, h, _⟩ => by rw [h]; rfl) (fun _ _ _ _ _ _ us hl => match us, hl with | [_, _], _ => rfl) fun f cdv Ar outer s H vs Q E hr Hb ds S e a hA q => ?_
  obtain ⟨ws, r, rfl, ok, ro, rfl⟩ := hA
  obtain ⟨x0, x1, rfl, a0, a1⟩ := at2 a
  have nd := sc_rows_beside.nd
  have few := ok.few
  refine ⟨_, (pss_cons (ps_expr (pe_cal c_look_at_webs hr (by decide) rfl (pa_cons (pv 0) pa_nil)))
      (pss_cons (ps_expr (pe_cal c_look_at_row hr (by decide) rfl (pa_cons (pv 0) (pa_cons (pv 1) pa_nil))))
      (pss_one (ps_ret (pe_cal c_beside_by hr (by decide) rfl (pa_cons (pe_lc (own := [("web", 2)]) (g := gName 2) rfl nd (pi_list (pv 0)) (blkOk_by (own := [("web", 2)]) (N := n_rows_beside) (sc := (defScope s_rows_beside)) (by decide +kernel)) (fun _ _ _ _ _ => (pg_name (i := 2) nd rfl (Or.inl rfl) (hf := Or.inr rfl))) (fun _ _ _ _ _ => pts_nil) (fun _ _ _ _ _ => (pe_cal c_beside_all hr (by decide) rfl (pa_cons (pv 2) pa_nil)))) (pa_cons (pv 1) pa_nil))))))), ?_⟩
  refine q_drop (ev_call (ea_cons (ev_var rfl a0) ea_nil) ⟨ws, rfl, ok, rfl⟩) e fun Hb1 H1 s1 => ?_
  refine q_drop (ev_call (ea_cons (ev_var rfl (a0.mono s1.e1)) (ea_cons (ev_var rfl (a1.mono s1.e1)) ea_nil)) ⟨ws, r, rfl, ro, ok.few, rfl⟩) s1.e2 fun Hb2 H2 s2 => ?_
  have S2 := s1.trans s2
  refine ev_callS (A := A_beside_by) (ds := [.l (ws.map dAdj), dNL r]) (ea_cons (EvD.is (ev_lc (n := ws.length) (fun _ => true) (fun i => dAdj (ws.getD i ⟨0, []⟩)) (SrcD.is (src_list (ev_var rfl (a0.mono S2.e1))) (List.length_map _) (fun _ _ => rfl)) (by omega) fun i vs Hb7 hi e7 a7 => ?_) (by rw [given_all, map_getD])) (ea_cons (ev_var rfl (a1.mono S2.e1)) ea_nil)) ⟨ws, r, rfl, ok, ro, rfl⟩ _ _ (.refl S2.e1.t2) S2.e2 _ fun v Hb' H' s ⟨d, hd, ha⟩ => q d v Hb' H' hd (S2.trans s) ha
  obtain ⟨W, hW⟩ := get_some hi
  rw [getD_map hW] at a7
  obtain ⟨z0, rfl, e0⟩ := at1 a7
  rw [getD_of hW]
  exact ⟨rfl, et_yes, fun _ => ev_call (ea_cons (ev_var rfl e0) ea_nil) ⟨W, rfl, ok.ok W (List.mem_of_getElem? hW), rfl⟩⟩
end
end K68
end

section
/-! K68Key: sorted(xs, key=lambda x: ys[x]), ys a captured list of numbers. -/
namespace K68
open PySem PySem.Spec PyProof.Rows L2
section
variable {X : Cx} {pins : List (Addr × Obj)} {σ : L2.St} {H : Hp} {s : Shared}
/-- where the lambda's function stands -/
abbrev lamO (params : Arguments) (body : Expr) (scope : Scope) (clo : List (Str × Addr)) (pm : Value) (nm : Str) (co : Addr) (tup : Value) : Obj := PySem.W.kla_obj "<lambda>" nm params body scope clo pm co tup
/-- a lambda that captures is made; one table alone may grow -/
theorem lam_made {tb : Addr × Str} {cd : Addr} {params : Arguments} {body : Expr} {scope : Scope} {pos : Pos} {Er : Value → Shared → Prop} {Go : Value → Shared → Prop} (I : Inv X pins σ H s) (B : LamX.TabB X.base X.mg cd tb.1) (hcode : X.env.code = .ref cd)
    (nm : tb.2 = X.env.qual ++ "<lambda>") (t : LamX.TabS H tb.1 tb.2) (hdef : defaultsOf params X.env = ([], [])) (fr : ∀ y ∈ scope.names, y.2 = .free → ∃ c, X.env.cells.lookup y.1 = some c)
    (go : ∀ (f co : Addr) (pm tup : Value) (H1 : Hp) (s1 : Shared), Inv X pins σ H1 s1 → Ex tb H H1 → s1.heap.get? f = some (lamO params body scope (cloFrom X.env.cells scope.names []) pm tb.2 co tup) → H1 co = some (LamX.CodeO co tb.2) → Go (.ref f) s1) :
    wpAny (model X.prog X.w) X.A (eval (.Lambda params body scope pos) X.env) Go Er s := by
  have t0 := t
  obtain ⟨arr, hP, tri, known⟩ := t
  refine PySem.W.kla_eval hdef ?_
  have blt : s.heap.BuiltinsAt X.mg tb.1 := B.bm.keeps I.bk
  have hPs : s.heap.get? tb.1 = some { cls := .none, data := .fields arr } := I.hok tb.1 _ hP
  rw [nm] at t0 known go
  cases look : codeAmong pos arr.toList with
  | none =>
    refine PySem.W.kla_makeFunction (mg := X.mg) (c := cd) (P := tb.1) (ps := arr) (closure_ok fr) I.ok.glob (I.mod.glob.keeps I.bk) hcode (B.code.keeps I.bk) hPs tri look B.gP blt fun co tup hp tk grow up below rec tab => ?_
    obtain ⟨_, oc, flds, tok, rfl', hoc, hdat, hnm⟩ := rec
    cases rfl'
    have nC : H co = none := I.hok.fresh up
    have I1 := LamX.inv_table (t' := tk) (more := #[rawInt pos.line, rawInt pos.col, .ref co]) (h' := hp.push (lamO params body scope (cloFrom X.env.cells scope.names []) ((X.mg "__name__").getD .none) (X.env.qual ++ "<lambda>") co tup)) I hP
      (fun b o nb eb => Heap.get?_push_of_some _ (grow b o nb eb)) (Heap.get?_push_of_some _ tab) up ⟨oc, flds, tok, Heap.get?_push_of_some _ hoc, hdat, hnm⟩
    have nPc : tb.1 ≠ co := ne_of_none hP nC
    have kp : ∀ b o, H b = some o → (∀ ps, o ≠ .tbl ps) → (upd (upd H tb.1 (.tbl (arr ++ #[rawInt pos.line, rawInt pos.col, .ref co]))) co (LamX.CodeO co (X.env.qual ++ "<lambda>"))) b = some o := fun b o eb n => by
      rw [upd_ne (ne_of_none eb nC), upd_ne (fun z => by rw [z, hP] at eb; exact n _ (Option.some.inj eb).symm)]
      exact eb
    refine go hp.objs.size co ((X.mg "__name__").getD .none) tup _ _ I1 ⟨kp, fun b hb => ?_, by rw [nm]; exact t0, ?_⟩ (Heap.get?_push_size _ rfl) upd_same
    · by_cases h1 : b = co
      · rw [h1, upd_same]
        exact Option.some_ne_none _
      · rw [upd_ne h1]
        by_cases h2 : b = tb.1
        · rw [h2, upd_same]
          exact Option.some_ne_none _
        · rw [upd_ne h2]
          exact hb
    · have eL : (arr ++ #[rawInt pos.line, rawInt pos.col, .ref co]).toList = arr.toList ++ [rawInt pos.line, rawInt pos.col, .ref co] := by simp
      rw [nm]
      refine ⟨_, by rw [upd_ne nPc, upd_same], by rw [eL]; exact PySem.TriplesOk_snoc _ _ _ _ tri, fun pos2 cv hcv => ?_⟩
      rw [eL] at hcv
      rcases LamX.among_app _ tri hcv with z | z
      · obtain ⟨c0, e1, e2⟩ := known pos2 cv z
        exact ⟨c0, e1, kp _ _ e2 LamX.codeO_ne⟩
      · exact ⟨co, z, upd_same⟩
  | some cv =>
    obtain ⟨co, rfl, hco⟩ := known pos cv look
    refine PySem.W.kla_makeFunctionHit (mg := X.mg) (c := cd) (P := tb.1) (ps := arr) (closure_ok fr) I.ok.glob (I.mod.glob.keeps I.bk) hcode (B.code.keeps I.bk) hPs tri look blt fun tup hp tk grow up => ?_
    exact go hp.objs.size co ((X.mg "__name__").getD .none) tup H _ (I.kept fun b o eb => Heap.get?_push_of_some _ (grow b o eb)) (.refl (by rw [nm]; exact t0)) (Heap.get?_push_size _ rfl) hco
/-- lambda x: ys[x], called -/
theorem lam_turn {A : Around} {f co l c : Addr} {params : Arguments} {scope : Scope} {nm aw pl : Str} {clo : List (Str × Addr)} {pm tup v : Value} {items : Array Value} {pa pp ps2 : Pos} {n k : Int} {tk : Tok} {Go : Value → Shared → Prop} {Er : Value → Shared → Prop}
    (dp : A.depth < recursionLimit) (lim : s.heap.NoLimit) (ho : s.heap.get? f = some (lamO params (.Subscript (.Name aw pa) (.Name pl pp) ps2) scope clo pm nm co tup)) (hrec : ∃ (oc : Obj) (vs : Array Value) (t : Tok), s.heap.get? co = some oc ∧ oc.data = .fields vs ∧ vs[1]? = some (.str nm t))
    (kind : scope.kind = .function) (cor : scope.isCoroutine = false) (gen : scope.isGenerator = false) (ncell : ∀ x ∈ scope.names, x.2 ≠ .cell) (lpl : scope.names.lookup pl = some .local) (law : scope.names.lookup aw = some .free)
    (hbind : bindArgs (PySem.W.kla_fn "<lambda>" nm params (.Subscript (.Name aw pa) (.Name pl pp) ps2) scope clo pm (.ref co) tup) ⟨[v], []⟩ = pure [(pl, v)]) (hv : v = .int n tk)
    (hc : clo.lookup aw = some c) (cel : s.heap.IsCell c (some (.ref l))) (hl : s.heap.IsList l items) (h0 : 0 ≤ n) (h63 : n < 2 ^ 63) {u : Value} (hit : items[n.toNat]? = some u)
    (d1 : (aw == ("__debug__" : Str)) = false) (d2 : (pl == ("__debug__" : Str)) = false) (d3 : (aw == ("__classdict__" : Str)) = false)
    (go : ∀ (h' : Heap) (tk : Nat), (∀ b o, s.heap.get? b = some o → h'.get? b = some o) → Go u { s with heap := h', toks := tk }) :
    wpAny (model X.prog X.w) A (call (.ref f) [v]) Go Er s := by
  refine wpAny_call (codeAny_mono (R := fun r s' => ∃ h' tk, (∀ b o, s.heap.get? b = some o → h'.get? b = some o) ∧ s' = { s with heap := h', toks := tk } ∧ r = .ok (.ret u)) ?_ fun r s' hq => ?_)
  · obtain ⟨oc, vs, t, e1, e2, e3⟩ := hrec
    refine PySem.W.kla_callFunE dp ho rfl cor gen rfl ⟨co, oc, vs, t, rfl, e1, e2, e3⟩ ?_
    rw [hbind]
    refine wpAny_pure (wpAny_newFunctionEnv ncell (fun y hy => by rw [List.mem_singleton.mp hy]; exact lpl) (fun h₁ hns hsb => ⟨lim.fresh _ hsb, ?_⟩) kind)
    have kp : ∀ b o, s.heap.get? b = some o → h₁.get? b = some o := fun b o e => hsb.extBut b o (Nat.ne_of_lt (Heap.lt_size e)) (Heap.get?_push_of_some _ e)
    obtain ⟨o1, g1, g2⟩ := cel
    obtain ⟨o2, g3, g4⟩ := hl
    refine PySem.W.kla_codeExpr (Subscript_ (wpAny_Name (wpAny_loadName_free kind law hc ⟨o1, kp _ _ g1, g2⟩ (wpAny_Name (wpAny_loadName_local (m := fun x => [(pl, v)].reverse.lookup x) kind lpl hns (v := v) (by simp) ?_) d2) d3) d1))
    rw [hv]
    exact item_listR (items := items) ⟨o2, kp _ _ g3, g4⟩ h0 h63 hit ⟨_, _, kp, rfl, rfl⟩
  · obtain ⟨h', tk2, kp, rfl, rfl⟩ := hq
    exact go h' tk2 kp
/-- what is wanted of sorted(xs, key=lambda x: ys[x]) -/
def AskK (K : PySem.W.Frag) (tb : Addr × Str) (j : Nat) (σ : L2.St) (Q : VK) (vs : List V) (H1 : Hp) : Prop := ∃ (a l : Addr) (ns : List Nat) (us : List V) (key : Nat → Int), vs = [.ref a] ∧ H1 a = some (.lst (ns.map vn)) ∧ σ[j]? = some (some (.ref l)) ∧ H1 l = some (.lst us) ∧
  (∀ n ∈ ns, us[n]? = some (.int (key n))) ∧ ns.length ≤ 100000 ∧ us.length ≤ 100000 ∧ LamX.TabS H1 tb.1 tb.2 ∧ ∀ (ns' : List Nat) (H2 : Hp) (p : Addr), ns'.Perm ns → ns'.Pairwise (fun x y => key x ≤ key y) → Ex tb H1 H2 → H2 p = none → Q (.ref p) (upd H2 p (.lst (ns'.map vn)))
def tSortK (K : PySem.W.Frag) (tb : Addr × Str) (j : Nat) (t : TA) : TE := fun σ H Q => t σ H (AskK K tb j σ Q)
def valN : V → Nat
  | .int i => i.toNat
  | _ => 0
theorem valN_vn (n : Nat) : valN (vn n) = n := Int.toNat_natCast n
theorem pe_sortK {tb : Addr × Str} {cd : Addr} {j k : Nat} {params : Arguments} {scope : Scope} {aw pl : Str} {e : Expr} {t : TA} {p pos pa pp ps2 lpos kpos : Pos} (ha : PA X [e] t) (hr : Room (k + 2) X.A) (hg : Gl X "sorted") (hm : X.mg "sorted" = none)
    (B : LamX.TabB X.base X.mg cd tb.1) (hcode : X.env.code = .ref cd) (nm : tb.2 = X.env.qual ++ "<lambda>") (hdef : defaultsOf params X.env = ([], [])) (hN : X.N[j]? = some aw) (hav : X.env.scope.names.lookup aw = some .cell)
    (kind : scope.kind = .function) (cor : scope.isCoroutine = false) (gen : scope.isGenerator = false) (nms : scope.names = [(pl, .local), (aw, .free)]) (hne : (aw == pl) = false)
    (hbind : ∀ (clo : List (Str × Addr)) (pm tup v : Value) (co : Addr), bindArgs (PySem.W.kla_fn "<lambda>" tb.2 params (.Subscript (.Name aw pa) (.Name pl pp) ps2) scope clo pm (.ref co) tup) ⟨[v], []⟩ = pure [(pl, v)])
    (d1 : (aw == ("__debug__" : Str)) = false) (d2 : (pl == ("__debug__" : Str)) = false) (d3 : (aw == ("__classdict__" : Str)) = false)
    (hst : backTo pos (starEach [e] X.env) = (false, eval e X.env) :: backTo pos (starEach [] X.env) := by rfl) (hpl : (backTo pos (starEach [e] X.env)).any (·.1) = false := by rfl) :
    PE X (.Call (.Name "sorted" p) [e] [⟨some "key", .Lambda params (.Subscript (.Name aw pa) (.Name pl pp) ps2) scope lpos, kpos⟩] pos) (tSortK X.K tb j t) := by
  have lpl : scope.names.lookup pl = some .local := by rw [nms]; simp [List.lookup]
  have law : scope.names.lookup aw = some .free := by rw [nms]; simp [List.lookup, hne]
  have nc : ∀ x ∈ scope.names, x.2 ≠ .cell := fun x hx z => by
    rw [nms] at hx
    simp only [List.mem_cons, List.not_mem_nil, or_false] at hx
    rcases hx with rfl | rfl <;> cases z
  have fr : ∀ y ∈ scope.names, y.2 = .free → y.1 = aw := fun y hy z => by
    rw [nms] at hy
    simp only [List.mem_cons, List.not_mem_nil, or_false] at hy
    rcases hy with rfl | rfl
    · cases z
    · rfl
  refine ⟨fun pins s σ H Q I h => ?_⟩
  refine wpAny_Call_Name_kw (ld_blt (u := .builtin "sorted") I hg hm rfl ?_ (by decide) (by decide))
  refine PyProof.Rows.callWith_kw (thn (ha.run pos pins s σ H (AskK X.K tb j σ Q) I h) fun us s1 ⟨vs, H1, I1, r1, q1⟩ => ?_) hst hpl (by rfl) (by rfl)
  obtain ⟨a, l, ns, ys, key, rfl, hxs, hj, hys, hk, hz1, hz2, ht, q⟩ := q1
  have r1 := Vals.ref1 r1
  subst r1
  show wpAny _ _ (evalAll ((do let v ← eval (.Lambda params (.Subscript (.Name aw pa) (.Name pl pp) ps2) scope lpos) X.env; standAt pos; pure v) :: [])) _ _ s1
  have hasc : ∀ y ∈ scope.names, y.2 = .free → ∃ c, X.env.cells.lookup y.1 = some c := fun y hy z => by
    rw [fr y hy z]
    exact I1.ok.has aw (.inl hav)
  refine wpAny_evalAll_cons (wpAny_bind (lam_made I1 B hcode nm ht hdef hasc fun f co pm tup H2 s2 I2 ex ho hco => wpAny_bind (wpAny_standAt (wpAny_pure (wpAny_evalAll_nil ?_)))))
  show wpAny _ _ (call (.builtin "sorted") [.ref a] [(Str.ofString "key", .ref f)]) _ _ s2
  have hxs2 := ex.at hxs True.intro
  have hys2 := ex.at hys True.intro
  obtain ⟨its, rv, hl, hz⟩ := I2.list (sqL hxs2)
  obtain ⟨yts, rw_, hly, hzy⟩ := I2.list (sqL hys2)
  -- the cell
  obtain ⟨m, hn, hloc⟩ := I2.loc
  obtain ⟨u, ru, hlook⟩ := hloc j aw (.ref l) hN hj (.inr (.inl hav))
  have eu : u = .ref l := ru
  subst eu
  obtain ⟨c, hc, cel⟩ : ∃ c, X.env.cells.lookup aw = some c ∧ s2.heap.IsCell c (some (.ref l)) := by
    rcases hlook with ⟨z, _⟩ | ⟨_, c, h1, h2⟩
    · have z : X.env.scope.names.lookup aw = some .local := z
      rw [hav] at z
      cases z
    · exact ⟨c, h1, h2⟩
  have hclo : (cloFrom X.env.cells scope.names []).lookup aw = some c := by
    have hy : (aw, NameKind.free) ∈ scope.names := PySem.mem_of_lookup law
    obtain ⟨c2, h2⟩ := mem_lookup (cloFrom_has (cells := X.env.cells) (acc := []) hy)
    rcases cloFrom_mem (PySem.mem_of_lookup h2) with hm | ⟨h1, h3⟩
    · cases hm
    · rw [hc] at h3
      have h3 : c2 = c := h3
      rw [← h3]
      exact h2
  obtain ⟨⟨oc, fl, tk0, hoc, hdc, hnc⟩, _, _⟩ := I2.hok co _ hco
  refine PySem.W.sorted_key_data (β := V) (bs := ns.map vn) (k := fun x => .int (key (valN x))) (b := false) (R := fun u x => RelV x u) hl.isList (each_vals rv)
    (PySem.W.AllAlike.of fun b b' => by simp [PySem.W.alike]) (PySem.W.Sortable.others fun b => ⟨(fun z => by cases z), fun xs z => by cases z⟩) hz (fun b hb => ?_) (ksk_s1 _ _) (fun _ => ksk_l1 _ _) (fun _ => ksk_t1 _ _)
    (fun v x hR hx h tk kp => ?_) fun out c' h' tk kp fresh hD hlen he => ?_
  · have hu := hr.units
    show X.A.units + 2 + (PyData.int (key (valN b))).depth < cLine
    have : (PyData.int (key (valN b))).depth = 0 := by simp [PyData.depth]
    omega
  · obtain ⟨n, hnn, rfl⟩ := List.mem_map.mp hx
    obtain ⟨tv, hv⟩ : ∃ t, v = .int (n : Int) t := hR
    obtain ⟨w', hw, tw, hw2⟩ : ∃ w', yts[n]? = some w' ∧ ∃ t, w' = .int (key n) t := rw_.get (hk n hnn)
    have hlen := (List.getElem?_eq_some_iff.mp (hk n hnn)).1
    obtain ⟨o1, g1, g2⟩ := cel
    obtain ⟨o2, g3, g4⟩ := hly.isList
    rw [valN_vn]
    refine lam_turn (s := { s2 with heap := h, toks := tk }) (n := (n : Int)) (k := 0) (u := w') (items := yts.toArray) (Room.in1 (Room.in1 hr)).depth (I2.nolimit.keeps kp) (kp _ _ ho) ⟨oc, fl, tk0, kp _ _ hoc, hdc, hnc⟩ kind cor gen nc lpl law (hbind _ _ _ _ _) hv hclo ⟨o1, kp _ _ g1, g2⟩ ⟨o2, kp _ _ g3, g4⟩ (by omega) (by omega) (by simpa using hw) d1 d2 d3
      fun h' tk' kp' => ⟨h', tk', rfl, kp', ?_⟩
    rw [hw2]
    exact Reads.int _ _
  · have ro := vals_each he
    rw [PySem.W.dataLe_int] at ro
    have pm : ((ns.map vn).mergeSort (fun a b => decide (key (valN a) ≤ key (valN b)))).Perm (ns.map vn) := List.mergeSort_perm _ _
    have pw : ((ns.map vn).mergeSort (fun a b => decide (key (valN a) ≤ key (valN b)))).Pairwise (fun a b => decide (key (valN a) ≤ key (valN b)) = true) := List.pairwise_mergeSort (fun a b c h1 h2 => by rw [decide_eq_true_iff] at *; omega) (fun a b => by rw [Bool.or_eq_true, decide_eq_true_iff, decide_eq_true_iff]; omega) _
    obtain ⟨ns', p1, p2⟩ := perm_map vn pm ns rfl
    rw [← p2] at ro pw
    have pw2 : ns'.Pairwise (fun x y => key x ≤ key y) := (List.pairwise_map.mp pw).imp fun {x y} h => by
      rw [valN_vn, valN_vn, decide_eq_true_iff] at h
      exact h
    exact ⟨.ref _, upd H2 (s2.heap.objs.size + 1) (.lst (ns'.map vn)), I2.laid (t' := tk) kp (Nat.le_succ _) ⟨by rw [List.length_map, p1.length_eq]; exact Nat.le_trans hz1 (by decide), out, c', ro, hD⟩, rfl, q ns' H2 _ p1 pw2 ex (I2.hok.fresh (Nat.le_succ _))⟩
end
end K68
end

section
namespace K68
open PySem PySem.Spec PyProof.Rows L2
/-- a def whose code object stands at cd -/
def DfC (K : PySem.W.Frag) (mg : Str → Option Value) (x : Str) (st : Stmt) (cd : Addr) : Prop := ∃ (f : Addr) (oc : Value) (od : Option Addr) (kV doc pm : Value) (an : Option Addr) (ct : Value) (osl : Array (Option Value)),
  K.lookup f = some ⟨oc, od, .func (PySem.W.fnOf x x (defArgs st) (defBody st) (defScope st) .none kV doc pm an (.ref cd) ct), osl⟩ ∧ PySem.W.codeIn K (.ref cd) x = true ∧ PySem.W.keepIn K (.ref f) = true ∧ mg x = some (.ref f)
section
variable {P : Program} {w : World} {K : PySem.W.Frag} {mg : Str → Option Value} {base : Heap} {T : Addr × Str}
theorem mk_pmC {x : Str} {st : Stmt} {N ps : List Str} {k : Nat} {cd : Addr} {A : List Da → Da → Prop} (D : DfC K mg x st cd) (S : FnScope N ps (defScope st)) (len : ∀ ds d, A ds d → ds.length = ps.length)
    (hb : ∀ (kV doc pm : Value) (an : Option Addr) (cdv ct : Value) (us : List Value), us.length = ps.length → bindArgs (PySem.W.fnOf x x (defArgs st) (defBody st) (defScope st) .none kV doc pm an cdv ct) ⟨us, []⟩ = pure (ps.zip us))
    (body : ∀ (f : Addr) (Ar : Around) (outer : List Env) (s : Shared) (H : Hp) (vs : List V) (Q : VK) (E : XK), Room k (Ar.deeper (envOfC x (defScope st) s.heap.objs.size f (.ref cd))) →
      ∀ (Hb : Hp) (ds : List Da) (d : Da), Ex T Hb H → AtL Hb ds vs → A ds d → (∀ v Hb' H', Stp T Hb H Hb' H' → d.At Hb' v → Q v H') →
      ∃ t, PSs (cxOf CX0 P w K mg base N x (defScope st) f (.ref cd) Ar outer s H E).nox (defBody st) t ∧ t { nx := fun _ H' => Q .non H', rt := Q } (start N vs) H) : Cal P w K mg base x (k + 1) ps (Pm T A) := by
  obtain ⟨f, oc, od, kV, doc, pm, an, ct, osl, lk, hcd, hk, hm⟩ := D
  refine ⟨f, _, fn_of lk hcd S (fun vs H Q E ⟨Hb, ds, d, _, a, hA, _⟩ => by rw [a.length]; exact len ds d hA) (fun A' outer s H vs Q E hr ⟨Hb, ds, d, e, a, hA, q⟩ => ?_), .all (hb kV doc pm an (.ref cd) ct), hm, hk⟩
  obtain ⟨t, h1, h2⟩ := body f A' outer s H vs Q E hr Hb ds d e a hA q
  exact ⟨t, h1.nox, h2⟩
theorem pt_truK {X : Cx} {Kx : PySem.W.Frag} {a : Expr} {ta : TE} (hk : X.K = Kx) (ha : PE X a ta) (he : ∀ whole, isTrue a X.env whole = (do let v ← whole; standAt a.pos; holding [v] (truthy v))) : PT X a (fun σ H Q => ta σ H fun x H' => ∃ k, TruV Kx x H' k ∧ Q k H') := hk ▸ pt_truth ha he
theorem given_filter {α : Type} (l : List α) (g : α → Bool) (h : α → Da) (z : α) : given l.length (fun j => g (l.getD j z)) (fun j => h (l.getD j z)) = (l.filter g).map h := by
  have e : (List.range l.length).map (fun j => l.getD j z) = l := by
    refine List.ext_getElem? fun i => ?_
    rw [List.getElem?_map]
    rcases Nat.lt_or_ge i l.length with hi | hi
    · rw [range_at hi, get_lt hi z]; rfl
    · rw [List.getElem?_eq_none (by rw [List.length_range]; exact hi), List.getElem?_eq_none hi]; rfl
  unfold given
  conv => rhs; rw [← e]
  rw [List.filter_map, List.map_map]
  rfl
/-- a loop over sorted(xs, key=lambda x: ys[x]) -/
theorem for_sortK {σ : L2.St} {Hb Hc : Hp} {D : Ends} {t : TA} {tu : TS} {i j : Nat} {l : Addr} {ns : List Nat} {F : List (Option Nat)} {key : Nat → Int} (h : EvA T t σ Hb [dNL ns]) (hj : σ[j]? = some (some (.ref l))) (ha : (dOL F).At Hb (.ref l)) (hk : ∀ n ∈ ns, ∃ k : Nat, F[n]? = some (some k) ∧ key n = (k : Int))
    (hz : ns.length ≤ 100000) (hz2 : F.length ≤ 100000) (e : Ex T Hb Hc)
    (body : ∀ (ns' : List Nat) (wi : TI), ns'.Perm ns → ns'.Pairwise (fun x y => key x ≤ key y) → SrcAt T wi (gName i) σ Hb Hc ns'.length [i] (fun m => [dn (ns'.getD m 0)]) → tFor wi (gName i) tu D σ Hc) : tFor (iList K (tSortK K T j t)) (gName i) tu D σ Hc := by
  refine h Hb Hc (.refl e.t1) e _ fun vs H2 Hc2 s1 a => ?_
  obtain ⟨x, rfl, a1⟩ := at1 a
  obtain ⟨p, rfl, hp⟩ := at_dNL a1
  obtain ⟨l', hl', hF⟩ := at_dOL ha
  cases hl'
  refine ⟨p, l, ns, F.map vO, key, rfl, s1.e2.at hp True.intro, hj, s1.e2.at (s1.e1.at hF True.intro) True.intro, fun n hn => ?_, hz, by rw [List.length_map]; exact hz2, s1.e2.t2, fun ns' H3 q pm pw ex hq => ?_⟩
  · obtain ⟨k, h1, h2⟩ := hk n hn
    rw [List.getElem?_map, h1, h2]
    rfl
  · have s2 : Stp T Hb Hc H2 H3 := s1.trans ⟨.refl s1.e1.t2, s1.e2.trans ex, ex, fun _ _ h _ _ => h⟩
    have s3 := s2.new (o := .lst (ns'.map vn)) hq
    exact ⟨q, rfl, ⟨_, sqL upd_same⟩, body ns' (fun _ _ R => R (Itl K q) (upd H3 q (.lst (ns'.map vn)))) pm pw fun R qR => qR _ _ _ s3 (Gd.is (rs := fun m => [(ns'.map dn).getD m (.v .non)]) (by
      have g := Gd.list (K := K) (T := T) (Hb := upd H2 q (.lst (ns'.map vn))) (a := q) (us := ns'.map vn) (ds := ns'.map dn) (j := i) upd_same (by rw [map_dn]; exact AtL.flat _)
      rw [List.length_map] at g
      exact g) fun m hm => by rw [getD_map (get_lt hm 0)])⟩
/-! ### shortest_many -/
abbrev s_shortest_many : Stmt := topS 30
abbrev n_shortest_many : List Str := ["web", "one", "other", "beside", "away", "many", "place", "near"]
theorem sc_shortest_many : FnScope n_shortest_many ["web", "one", "other"] (defScope s_shortest_many) := ⟨rfl, rfl, rfl, by decide +kernel, rfl, by decide +kernel, by decide +kernel⟩
theorem wk_near {W : Web} {p q d : Nat} (h : dist W p q = some (d + 1)) : wk W (d + 1) p q = sumL ((nb W q).filter fun r => decide (dist W p r = some d)) (fun r => wk W d p r) := by
  rw [sumL_filter]
  show sumL (nb W q) (fun r => wk W d p r) = _
  refine sumL_congr fun r hr => ?_
  by_cases e : dist W p r = some d
  · rw [if_pos (decide_eq_true e)]
  · rw [if_neg (by rw [decide_eq_false e]; exact Bool.false_ne_true)]
    refine Nat.eq_zero_of_not_pos fun z => ?_
    obtain ⟨c, hc, hle⟩ := dist_le z
    obtain ⟨c2, hc2, hle2⟩ := dist_le (wk_step hr (dist_pos hc))
    rw [h] at hc2
    have hc2 := Option.some.inj hc2
    exact e (by rw [hc]; congr 1; omega)
noncomputable def offs (W : Web) (p : Nat) : List Nat := (List.range W.n).filter fun i => truO (dist W p i)
theorem mem_offs {W : Web} {p q : Nat} : q ∈ offs W p ↔ q < W.n ∧ ∃ d, dist W p q = some (d + 1) := by
  unfold offs
  rw [List.mem_filter, List.mem_range]
  refine and_congr_right fun _ => ?_
  cases h : dist W p q with
  | none => simp [truO]
  | some d =>
    cases d with
    | zero => simp [truO]
    | succ d => simp [truO]
theorem ok_shortest_many {cd : Addr} (D : DfC K mg "shortest_many" s_shortest_many cd) (B : LamX.TabB base mg cd T.1) (hT : T.2 = "shortest_many.<locals>.<lambda>") (c_beside_all : Cal P w K mg base "beside_all" 1 ["web"] (Pm T A_beside_all)) (c_far_by : Cal P w K mg base "far_by" 1 ["beside", "place"] (Pm T A_far_by))
    (m_sorted : mg "sorted" = none) (m_range : mg "range" = none) (m_sum : mg "sum" = none) : Cal P w K mg base "shortest_many" 3 ["web", "one", "other"] (Pm T A_shortest) := by
  refine mk_pmC D sc_shortest_many (fun ds d ⟨_, _, _, _, h, _⟩ => by rw [h]; rfl) (fun _ _ _ _ _ _ us hl => match us, hl with | [_, _, _], _ => rfl) fun f Ar outer s H vs Q E hr Hb ds d e a hA q => ?_
  obtain ⟨W, p, o, k, rfl, ok, hp, ho, hd, rfl⟩ := hA
  obtain ⟨x0, x1, x2, rfl, a0, a1, a2⟩ := at3 a
  have a1 : x1 = vn p := a1
  have a2 : x2 = vn o := a2
  subst a1
  subst a2
  have nd := sc_shortest_many.nd
  have hmost := ok.most
  refine ⟨_, (pss_cons (ps_set (i := 3) nd rfl (Or.inl rfl) (pe_cal c_beside_all hr (by decide) rfl (pa_cons (pv 0) pa_nil)))
      (pss_cons (ps_set (i := 4) nd rfl (Or.inr rfl) (pe_cal c_far_by hr (by decide) rfl (pa_cons (pv 3) (pa_cons (pv 1) pa_nil))))
      (pss_cons (ps_set (i := 5) nd rfl (Or.inr rfl) (pe_op op_rep (pe_lst (pa_cons pe_int pa_nil)) (pe_ix (r := rIxT K) ix_tup (pv 0) pe_int (fun _ _ => rfl))))
      (pss_cons (ps_asg pe_int (pg_sub (pv 5) (pv 1) set_list))
      (pss_cons (ps_for PassesOwn.never rfl (pi_list (pe_sortK (tb := T) (j := 4) (k := 0) (hr := hr) (hg := rfl) (hm := m_sorted) (B := B) (hcode := rfl) (nm := hT) (hdef := rfl) (hN := rfl) (hav := rfl) (kind := rfl) (cor := rfl) (gen := rfl) (nms := rfl) (hne := by decide +kernel) (hbind := fun _ _ _ _ _ => rfl) (d1 := by decide +kernel) (d2 := by decide +kernel) (d3 := by decide +kernel) (pa_cons (pe_lc (own := [("place", 6)]) (g := gName 6) rfl nd (pi_range1 (by rfl) m_range (pa_cons (pe_ix (r := rIxT K) ix_tup (pv 0) pe_int (fun _ _ => rfl)) pa_nil)) (blkOk_by (own := [("place", 6)]) (N := n_shortest_many) (sc := (defScope s_shortest_many)) (by decide +kernel)) (fun _ _ _ _ _ => (pg_name (i := 6) nd rfl (Or.inl rfl) (hf := Or.inr rfl))) (fun _ _ _ _ _ => (pts_one (pt_truK (Kx := K) rfl (pe_ix (r := rIxL K) ix_list (pv 4) (pv 6) (fun _ _ => rfl)) (by intro _; rfl)))) (fun _ _ _ _ _ => (pv 6))) pa_nil))) (pg_name (i := 6) nd rfl (Or.inr rfl)) (pss_one (ps_asg (pe_callB (r := rSum K) (cr_sum rfl) (by rfl) m_sum (by decide +kernel) (pa_cons (pe_lc (own := [("near", 7)]) (g := gName 7) rfl nd (pi_list (pe_ix (r := rIxL K) ix_list (pv 3) (pv 6) (fun _ _ => rfl))) (blkOk_by (own := [("near", 7)]) (N := n_shortest_many) (sc := (defScope s_shortest_many)) (by decide +kernel)) (fun _ _ _ _ _ => (pg_name (i := 7) nd rfl (Or.inl rfl) (hf := Or.inr rfl))) (fun _ _ _ _ _ => (pts_one (pt_cmpR op_eq (pe_ix (r := rIxL K) ix_list (pv 4) (pv 7) (fun _ _ => rfl)) (pe_op op_sub (pe_ix (r := rIxL K) ix_list (pv 4) (pv 6) (fun _ _ => rfl)) pe_int) (nomark _)))) (fun _ _ _ _ _ => (pe_ix (r := rIxL K) ix_list (pv 5) (pv 7) (fun _ _ => rfl)))) pa_nil)) (pg_sub (pv 5) (pv 6) set_list))))
      (pss_one (ps_ret (pe_ix (r := rIxL K) ix_list (pv 5) (pv 2) (fun _ _ => rfl))))))))), ?_⟩
  have d1l : (dists1 W p).length = W.n := by unfold dists1; rw [List.length_map, List.length_range]
  have d1a : ∀ r, r < W.n → (dists1 W p)[r]? = some (dist W p r) := fun r hr => by unfold dists1; rw [List.getElem?_map, range_at hr]; rfl
  refine q_asg (ev_call (ea_cons (ev_var rfl a0) ea_nil) ⟨W, rfl, ok, rfl⟩) e fun x3 Hb1 H1 s1 a3 => ?_
  refine q_asg (d := dOL (dists1 W p)) (ev_call (ea_cons (ev_var rfl a3) (ea_cons (ev_var (d := dn p) rfl rfl) ea_nil)) ⟨W, p, rfl, hp, ok.most, rfl⟩) s1.e2 fun x4 Hb2 H2 s2 a4 => ?_
  have S2 := s1.trans s2
  obtain ⟨l, rfl, _⟩ := at_dOL a4
  refine q_new (ds := List.replicate W.n (dn 0)) (en_rep (ev_lst (ea_cons ev_c ea_nil) sz1) (ev_op (ev_var rfl (a0.mono S2.e1)) ev_c (rv_ixT (n := 0) (d := dn W.n) rfl)) (by omega)) S2.e2 fun pm us Hb3 H3 s3 f3 b3 c3 a5 => ?_
  have hus : us = (List.replicate W.n 0).map vn := by
    rw [List.map_replicate]
    exact AtL.flat_eq (xs := List.replicate W.n (vn 0)) (by rw [List.map_replicate]; exact a5)
  subst hus
  have f0 : H pm = none := S2.fresh f3
  have S3 := S2.trans s3
  refine q_set (Hb := Hb3) (n := p) (d := dn 1) rfl c3 ev_c (ev_var rfl rfl) (by rw [List.length_map, List.length_replicate]; exact hp) s3.e2 fun u Hb4 H4 s4 c4 a6 => ?_
  have a6 : u = vn 1 := a6
  subst a6
  have b4 := s4.hidden b3 c3
  have S4 := (S3.trans s4).mut (o := .lst (((List.replicate W.n 0).map vn).set p (vn 1))) f0 b4 c4 True.intro
  have E4 : Ex T Hb2 Hb4 := s3.e1.trans s4.e1
  have E4b : Ex T Hb1 Hb4 := s2.e1.trans E4
  refine for_sortK (Hb := Hb4) (D := { nx := _, rt := Q }) (ns := offs W p) (F := dists1 W p) (key := fun n => ((dN W p n : Nat) : Int)) (ea_cons (EvD.is (d := dNL (offs W p)) (ev_lc (n := W.n) (fun i => truO (dist W p i)) (fun i => dn i) (src_range1 (ea_cons (ev_op (ev_var rfl (a0.mono S4.e1)) ev_c (rv_ixT (n := 0) (d := dn W.n) rfl)) ea_nil) (by omega)) (by omega) fun i vs Hb7 hi e7 a7 => ?_) rfl) ea_nil) rfl (a4.mono E4) (fun n hn => ?_) ?_ (by rw [d1l]; omega) S4.e2 fun ns' wi perm pw src => ?_
  · obtain ⟨z, rfl, hz⟩ := at1 a7
    exact ⟨rfl, et_truO (ev_op (dx := dOL (dists1 W p)) (dy := dn i) (ev_var rfl (a4.mono (E4.trans e7))) (ev_var rfl hz) (rv_ixL (dists1_at hi))), fun _ => ev_var rfl hz⟩
  · obtain ⟨h1, d, h2⟩ := mem_offs.mp hn
    exact ⟨d + 1, by rw [d1a n h1, h2], by rw [dN_of h2]⟩
  · unfold offs
    have := List.length_filter_le (fun i => truO (dist W p i)) (List.range W.n)
    rw [List.length_range] at this
    omega
  refine s_forA src (fun m σ' Hb' Hc' => Stp T Hb H Hb' Hc' ∧ Ex T Hb4 Hb' ∧ Hb' pm = none ∧ ∃ M : List Nat, M.length = W.n ∧ Hc' pm = some (.lst (M.map vn)) ∧ (∀ r, (r = p ∨ r ∈ ns'.take m) → M[r]? = some (wk W (dN W p r) p r)) ∧ ∃ y6 y7, σ' = [some x0, some (vn p), some (vn o), some x3, some (.ref l), some (.ref pm), y6, y7])
    (fun Hb5 H5 s5 => ⟨S4.trans s5, s5.e1, s5.hidden b4 upd_same, (List.replicate W.n 0).set p 1, by rw [List.length_set, List.length_replicate], by rw [s5.kept (p := pm) upd_same True.intro, List.map_set], fun r hr => ?_, none, none, rfl⟩)
    (fun m σ' Hb5 H5 vs Hb6 H6 hi x5 x6 hJ s6 a6 => ?_) (fun σ' Hb5 H5 x5 x6 hJ => ?_)
  · rcases hr with rfl | hr
    · rw [List.getElem?_set_self (by rw [List.length_replicate]; exact hp), dN_of (dist_self W r)]
      show some 1 = some (if r = r then 1 else 0)
      rw [if_pos rfl]
    · rw [List.take_zero] at hr
      cases hr
  · obtain ⟨S5, E5, b5, M, lM, c5, hM, y6, y7, rfl⟩ := hJ
    obtain ⟨z, rfl, hz⟩ := at1 a6
    have hnm := get_lt hi 0
    have htk : ns'.take (m + 1) = ns'.take m ++ [ns'.getD m 0] := by rw [List.take_add_one, hnm]; rfl
    have hpw := List.pairwise_iff_getElem.mp pw
    have hmn : ns'.getD m 0 = ns'[m] := by rw [List.getElem?_eq_getElem hi] at hnm; exact (Option.some.inj hnm).symm
    generalize hr0 : ns'.getD m 0 = r at hnm htk hmn hz
    have hz : z = vn r := hz
    subst hz
    obtain ⟨hrn, d, hrd⟩ := mem_offs.mp (perm.mem_iff.mp (List.mem_of_getElem? hnm))
    have S6 := S5.trans s6
    have c6 := s6.kept c5 True.intro
    have b6 := s6.hidden b5 c5
    have nl := nb_len W r
    -- the near ones are done
    have done : ∀ q, q ∈ nb W r → dist W p q = some d → M[q]? = some (wk W d p q) := fun q hq hqd => by
      have h1 : q = p ∨ q ∈ ns'.take m := by
        cases d with
        | zero => exact .inl (dist_zero hqd).symm
        | succ d =>
          right
          have hq2 : q ∈ ns' := perm.mem_iff.mpr (mem_offs.mpr ⟨nb_lt hq, d, hqd⟩)
          obtain ⟨i, hi1, hi2⟩ := List.getElem_of_mem hq2
          rcases Nat.lt_or_ge i m with h | h
          · exact List.mem_take_iff_getElem.mpr ⟨i, by omega, hi2⟩
          · exfalso
            have hne : m ≠ i := fun z => by
              subst z
              rw [← hmn] at hi2
              rw [← hi2, hrd] at hqd
              have := Option.some.inj hqd
              omega
            have h3 := hpw m i hi hi1 (by omega)
            rw [hi2, ← hmn, dN_of hrd, dN_of hqd] at h3
            omega
      have := hM q h1
      rw [dN_of hqd] at this
      exact this
    have e6 : Ex T Hb4 H6 := (E5.trans s6.e1).trans s6.e2
    refine s_set (Hb := H6) (n := r) (d := dn (wk W (d + 1) p r)) rfl c6 (ev_cb (ea_cons (EvD.is (d := dNL (((nb W r).filter fun q => decide (dist W p q = some d)).map fun q => M.getD q 0)) (ev_lc (n := (nb W r).length) (fun j => decide (dist W p ((nb W r).getD j 0) = some d)) (fun j => dn (M.getD ((nb W r).getD j 0) 0)) (SrcD.is (src_list (ev_op (dx := dAdj W) (dy := dn r) (d := dNL (nb W r)) (ev_var rfl (a3.mono (E4b.trans e6))) (ev_var rfl rfl) (rv_ixL (map_at (range_at hrn))))) (List.length_map _) (fun _ _ => rfl)) (by omega) fun j vs Hb9 hj e9 a9 => ?_) ?_) ea_nil) ?_) (ev_var rfl rfl) (by rw [List.length_map, lM]; exact hrn) S6.e2.self fun w9 Hb9 H9 s9 c9 a9 => ?_
    · obtain ⟨q2, hq2⟩ := get_some hj
      rw [getD_map hq2] at a9
      obtain ⟨z2, rfl, hz2⟩ := at1 a9
      rw [getD_of hq2]
      have hq2m := List.mem_of_getElem? hq2
      have hq2n := nb_lt hq2m
      refine ⟨rfl, EvT.is (et_test (b := decide (vO (dist W p q2) = V.int ((d : Nat) : Int))) (EvD.is (ev_op (dx := .v (vO (dist W p q2))) (dy := dn d) (EvD.is (ev_op (dx := dOL (dists1 W p)) (dy := dn q2) (d := dO (dist W p q2)) (ev_var rfl (a4.mono ((E4.trans e6).trans e9))) (ev_var rfl hz2) (rv_ixL (dists1_at hq2n))) (dO_eq _)) (EvD.is (ev_op (dx := dn (d + 1)) (ev_op (dx := dOL (dists1 W p)) (dy := dn r) (d := dn (d + 1)) (ev_var rfl (a4.mono ((E4.trans e6).trans e9))) (ev_var rfl rfl) (rv_ixL (by have := dists1_at (W := W) (p := p) hrn; rw [hrd] at this; exact this))) ev_c rv_I0) (by show Da.v (.int _) = Da.v (.int _); congr 2; omega)) (rv_eq (by cases dist W p q2 <;> rfl))) rfl)) ?_, fun hf => ?_⟩
      · by_cases h : dist W p q2 = some d
        · rw [decide_eq_true h, h]
          exact decide_eq_true rfl
        · rw [decide_eq_false h]
          refine decide_eq_false fun z => h ?_
          cases hq : dist W p q2 with
          | none => rw [hq] at z; cases z
          | some e =>
            rw [hq] at z
            have z2 : ((e : Nat) : Int) = ((d : Nat) : Int) := V.int.inj z
            congr 1
            omega
      · have hmq : M[q2]? = some (M.getD q2 0) := get_lt (by rw [lM]; exact hq2n) 0
        exact ev_op (dx := dNL M) (dy := dn q2) (ev_var rfl (at_dNL_mk (e9.at c6 True.intro))) (ev_var rfl hz2) (rv_ixL (map_at hmq))
    · have := given_filter (nb W r) (fun q => decide (dist W p q = some d)) (fun q => dn (M.getD q 0)) 0
      rw [this]
      unfold dNL
      rw [List.map_map]
      rfl
    · rw [wk_near hrd]
      have : (((nb W r).filter fun q => decide (dist W p q = some d)).map fun q => M.getD q 0).sum = sumL ((nb W r).filter fun q => decide (dist W p q = some d)) (fun q => wk W d p q) := by
        show sumL _ _ = _
        refine sumL_congr fun q hq => ?_
        obtain ⟨h1, h2⟩ := List.mem_filter.mp hq
        exact getD_of (done q h1 (of_decide_eq_true h2))
      rw [← this]
      exact cv_sum
    · have a9 : w9 = vn (wk W (d + 1) p r) := a9
      subst a9
      have S9 := (S6.trans (s9.drop S6.e2)).mut (o := .lst ((M.map vn).set r (vn (wk W (d + 1) p r)))) f0 b6 c9 True.intro
      refine ⟨Hb6, s6.e1, S9.e2, S9, E5.trans s6.e1, b6, M.set r (wk W (d + 1) p r), by rw [List.length_set, lM], by rw [upd_same, List.map_set], fun q hq => ?_, _, _, rfl⟩
      by_cases h : r = q
      · subst h
        rw [List.getElem?_set_self (by rw [lM]; exact hrn), dN_of hrd]
      · rw [List.getElem?_set_ne h]
        refine hM q ?_
        rcases hq with hq | hq
        · exact .inl hq
        · rw [htk] at hq
          rcases List.mem_append.mp hq with hq | hq
          · exact .inr hq
          · exact absurd (List.mem_singleton.mp hq).symm h
  · obtain ⟨S5, E5, b5, M, lM, c5, hM, y6, y7, rfl⟩ := hJ
    rw [List.take_length] at hM
    have hMo : M[o]? = some (wk W k p o) := by
      have h1 : o = p ∨ o ∈ ns' := by
        cases k with
        | zero => exact .inl (dist_zero hd).symm
        | succ k => exact .inr (perm.mem_iff.mpr (mem_offs.mpr ⟨ho, k, hd⟩))
      have := hM o h1
      rw [dN_of hd] at this
      exact this
    exact s_ret (Hb := H5) (d := dn (wk W k p o)) (ev_op (dx := dNL M) (dy := dn o) (ev_var rfl (at_dNL_mk c5)) (ev_var rfl rfl) (rv_ixL (map_at hMo))) S5.e2.self fun v Hb' H' s a => q v _ H' (S5.trans (s.drop S5.e2)) (by
      have a : v = vn (wk W k p o) := a
      rw [a]
      rfl)
end
end K68
end

section
namespace K68
open PySem PySem.Spec PyProof.Rows L2
section
variable {P : Program} {w : World} {K : PySem.W.Frag} {mg : Str → Option Value} {base : Heap} {T : Addr × Str}
theorem lay_ints : ∀ r : List Int, PyData.canLayAll0 (r.map PyData.int) = true
  | [] => by simp [PyData.canLayAll0]
  | n :: r => by simp only [List.map, PyData.canLayAll0, PyData.canLay0, lay_ints r, Bool.and_true]
theorem shaped_row (ns : List Int) : PySem.SeqAt.shaped (PyData.list (ns.map .int)) = true := by
  refine Bool.and_eq_true_iff.mpr ⟨?_, decide_eq_true (Nat.le_trans (depth_row ns) (by decide))⟩
  simp only [PyData.canLay0, lay_ints]
theorem row_inj : ∀ {l m : List Nat}, (l.map fun n : Nat => (n : Int)) = (m.map fun n : Nat => (n : Int)) → l = m
  | [], [], _ => rfl
  | a :: l, b :: m, h => by
    rw [List.map_cons, List.map_cons] at h
    injection h with h1 h2
    rw [row_inj h2, show a = b by omega]
/-- == of two lists of numbers -/
theorem rv_eqD {l m : List Nat} : RvD T (rEqD K) (dNL l) (dNL m) (.v (.bl (decide (l = m)))) := fun Hb Hc x y e a1 a2 Q q => by
  obtain ⟨p, rfl, h1⟩ := at_dNL a1
  obtain ⟨p', rfl, h2⟩ := at_dNL a2
  rw [map_vn] at h1 h2
  refine ⟨.list ((l.map fun n : Nat => (n : Int)).map .int), .list ((m.map fun n : Nat => (n : Int)).map .int), .lst (sqL (e.at h1 True.intro)) (dp_ints _), .lst (sqL (e.at h2 True.intro)) (dp_ints _), shaped_row _, shaped_row _, ?_⟩
  have z : PyData.eqv (.list ((l.map fun n : Nat => (n : Int)).map .int)) (.list ((m.map fun n : Nat => (n : Int)).map .int)) = decide (l = m) := by
    simp only [PyData.eqv, PySem.W.ked_eqvAll]
    by_cases h : l = m
    · rw [h, decide_eq_true rfl, decide_eq_true rfl]
    · rw [decide_eq_false h, decide_eq_false fun z => h (row_inj z)]
  rw [z]
  exact q _ Hb Hc (.refl e) rfl
/-! ### _law_ways_right -/
abbrev s__law_ways_right : Stmt := topS 42
abbrev n__law_ways_right : List Str := ["_law_webs", "_law_one", "_law_other", "_law_beside", "_law_aways", "_law_row", "_law_here", "_law_known", "_law_away", "_law_nearer"]
theorem sc__law_ways_right : FnScope n__law_ways_right ["_law_webs", "_law_one", "_law_other", "_law_beside"] (defScope s__law_ways_right) := ⟨rfl, rfl, rfl, by decide +kernel, rfl, by decide +kernel, by decide +kernel⟩
def A_ways_right (ds : List Da) (d : Da) : Prop := ∃ (ws : List Web) (a b : List Nat) (rs : List (List Nat)), ds = [dWebs ws, dNL a, dNL b, .l (rs.map dNL)] ∧ WebsOk ws ∧ RowOk ws a ∧ RowOk ws b ∧ rs.Perm (bes ws a) ∧ d = .v (.bl true)
theorem bes_few {ws : List Web} {a : List Nat} (ok : WebsOk ws) (ro : RowOk ws a) : (bes ws a).length ≤ 480 := by
  rw [bes_flat ro]
  have h := flat_len (f := fun k => (nb (ws.getD k ⟨0, []⟩) (a.getD k 0)).map fun o => a.set k o) (fun k => by
    rw [List.length_map]
    refine Nat.le_trans (nb_len _ _) ?_
    rcases Nat.lt_or_ge k ws.length with h | h
    · exact (ok.ok _ (List.mem_of_getElem? (get_lt h _))).most
    · rw [List.getD_eq_getElem?_getD, List.getElem?_eq_none h]
      exact Nat.zero_le _) ws.length
  have := ok.few
  omega
theorem given_at {n : Nat} {f : Nat → Bool} {v v' : Nat → Da} (h : ∀ i, i < n → f i = true → v i = v' i) : given n f v = given n f v' := by
  unfold given
  refine List.map_congr_left fun i hi => ?_
  obtain ⟨h1, h2⟩ := List.mem_filter.mp hi
  exact h i (List.mem_range.mp h1) h2
theorem dn_inj {a b : Nat} : decide (vn a = vn b) = decide (a = b) := by
  by_cases h : a = b
  · rw [h, decide_eq_true rfl, decide_eq_true rfl]
  · rw [decide_eq_false h, decide_eq_false fun z => h (by have := V.int.inj z; omega)]
theorem vO_inj {o : Option Nat} {b : Nat} : decide (vO o = vn b) = decide (o = some b) := by
  cases o with
  | none => rw [decide_eq_false (fun z => by cases z), decide_eq_false (fun z => by cases z)]
  | some a =>
    by_cases h : a = b
    · rw [h]
      exact (decide_eq_true (show vO (some b) = vn b from rfl)).trans (decide_eq_true rfl).symm
    · rw [decide_eq_false (fun z => h (Option.some.inj z)), decide_eq_false fun z => h (by have := V.int.inj (show V.int _ = V.int _ from z); omega)]
theorem pdist_zero {ws : List Web} {a b : List Nat} (ha : RowOk ws a) (hb : RowOk ws b) (h : pdist ws a b = some 0) : a = b := by
  have h1 := (leastO_some.mp h).1
  rw [pwk_zero ha hb] at h1
  by_cases z : a = b
  · exact z
  · rw [if_neg z] at h1
    cases h1
theorem ok__law_ways_right (D : Df K mg "_law_ways_right" s__law_ways_right) (c_far : Cal P w K mg base "far" 7 ["webs", "one", "other"] (Pm T A_far)) (c_ways_many : Cal P w K mg base "ways_many" 7 ["webs", "one", "other"] (Pm T A_ways))
    (m_sum : mg "sum" = none) (m_min : mg "min" = none) (m_zip : mg "zip" = none) : Cal P w K mg base "_law_ways_right" 8 ["_law_webs", "_law_one", "_law_other", "_law_beside"] (Pm T A_ways_right) := by
  refine mk_pm D sc__law_ways_right (fun ds d ⟨_, _, _, _, h, _⟩ => by rw [h]; rfl) (fun _ _ _ _ _ _ us hl => match us, hl with | [_, _, _, _], _ => rfl) fun f cdv Ar outer s H vs Q E hr Hb ds d e a hA q => ?_
  obtain ⟨ws, l, m, rs, rfl, ok, ol, om, hp, rfl⟩ := hA
  obtain ⟨x0, x1, x2, x3, rfl, a0, a1, a2, a3⟩ := at4 a
  have nd := sc__law_ways_right.nd
  have few := bes_few ok ol
  have rlen : rs.length ≤ 480 := by rw [hp.length_eq]; exact few
  have rok : ∀ r ∈ rs, RowOk ws r := fun r hr => bes_ok ol (hp.mem_iff.mp hr)
  refine ⟨_, (pss_cons (ps_setLc (i := 4) (own := [("_law_row", 5)]) (g := gName 5) rfl nd rfl rfl (sw_true rfl rfl rfl (by decide +kernel)) (pi_list (pv 3)) (blkOk_by (own := [("_law_row", 5)]) (N := n__law_ways_right) (sc := (defScope s__law_ways_right)) (by decide +kernel)) (fun _ _ _ _ _ => (pg_name (i := 5) nd rfl (Or.inl rfl) (hf := Or.inr rfl))) (fun _ _ _ _ _ => pts_nil) (fun _ _ _ _ _ => (pe_cal c_far hr (by decide) rfl (pa_cons (pv 0) (pa_cons (pv 5) (pa_cons (pv 2) pa_nil))))))
      (pss_cons (ps_set (i := 6) nd rfl (Or.inr rfl) (pe_cal c_far hr (by decide) rfl (pa_cons (pv 0) (pa_cons (pv 1) (pa_cons (pv 2) pa_nil)))))
      (pss_cons (ps_setLc (i := 7) (own := [("_law_away", 8)]) (g := gName 8) rfl nd rfl rfl (sw_true rfl rfl rfl (by decide +kernel)) (pi_list (pv 4)) (blkOk_by (own := [("_law_away", 8)]) (N := n__law_ways_right) (sc := (defScope s__law_ways_right)) (by decide +kernel)) (fun _ _ _ _ _ => (pg_name (i := 8) nd rfl (Or.inl rfl) (hf := Or.inr rfl))) (fun _ _ _ _ _ => (pts_one (pt_cmp (pc_notN (pv 8))))) (fun _ _ _ _ _ => (pv 8)))
      (pss_cons (ps_if (pt_cmpR (r := rEqD K) (op_eqD hr.units) (pv 1) (pv 2) (nomark _)) (pss_one (ps_ret (pe_and (pe_cmpR op_eq (pv 6) pe_int (nomark _)) (pe_one (pe_cmpR op_eq (pe_cal c_ways_many hr (by decide) rfl (pa_cons (pv 0) (pa_cons (pv 1) (pa_cons (pv 2) pa_nil)))) pe_int (nomark _)))))) pss_nil)
      (pss_cons (ps_if (pt_cmp (pc_isN (pv 6))) (pss_one (ps_ret (pe_and (pe_cmpR (r := rEqD K) (op_eqD hr.units) (pv 7) (pe_lst pa_nil) (nomark _)) (pe_one (pe_cmpR op_eq (pe_cal c_ways_many hr (by decide) rfl (pa_cons (pv 0) (pa_cons (pv 1) (pa_cons (pv 2) pa_nil)))) pe_int (nomark _)))))) pss_nil)
      (pss_cons (ps_setLc (i := 9) (own := [("_law_row", 5), ("_law_away", 8)]) (g := g2 K 5 8) rfl nd rfl rfl (sw_true rfl rfl rfl (by decide +kernel)) (pi_zip (by rfl) m_zip (pa_cons (pv 3) (pa_cons (pv 4) pa_nil))) (blkOk_by (own := [("_law_row", 5), ("_law_away", 8)]) (N := n__law_ways_right) (sc := (defScope s__law_ways_right)) (by decide +kernel)) (fun _ _ _ _ _ => (pg_tup rfl (pgs_cons (pg_name (i := 5) nd rfl (Or.inl rfl) (hf := Or.inr rfl)) (pgs_cons (pg_name (i := 8) nd rfl (Or.inl rfl) (hf := Or.inr rfl)) pgs_nil)))) (fun _ _ _ _ _ => (pts_one (pt_cmpR op_eq (pv 8) (pe_op op_sub (pv 6) pe_int) (nomark _)))) (fun _ _ _ _ _ => (pv 5)))
      (pss_cons (ps_if (PW.pt (pw_or (pt_cmpR (r := rEqD K) (op_eqD hr.units) (pv 7) (pe_lst pa_nil) (nomark _)) (pw_or (pt_cmpR op_ne (pv 6) (pe_op op_add (pe_callB (r := rMin K) (cr_min rfl) (by rfl) m_min (by decide +kernel) (pa_cons (pv 7) pa_nil)) pe_int) (nomark _)) (pw_or1 (pt_cmpR op_ne (pe_cal c_far hr (by decide) rfl (pa_cons (pv 0) (pa_cons (pv 2) (pa_cons (pv 1) pa_nil)))) (pv 6) (nomark _)))))) (pss_one (ps_ret pe_bl)) pss_nil)
      (pss_one (ps_ret (pe_cmpR op_eq (pe_cal c_ways_many hr (by decide) rfl (pa_cons (pv 0) (pa_cons (pv 1) (pa_cons (pv 2) pa_nil)))) (pe_callB (r := rSum K) (cr_sum rfl) (by rfl) m_sum (by decide +kernel) (pa_cons (pe_lc (own := [("_law_row", 5)]) (g := gName 5) rfl nd (pi_list (pv 9)) (blkOk_by (own := [("_law_row", 5)]) (N := n__law_ways_right) (sc := (defScope s__law_ways_right)) (by decide +kernel)) (fun _ _ _ _ _ => (pg_name (i := 5) nd rfl (Or.inl rfl) (hf := Or.inr rfl))) (fun _ _ _ _ _ => pts_nil) (fun _ _ _ _ _ => (pe_cal c_ways_many hr (by decide) rfl (pa_cons (pv 0) (pa_cons (pv 5) (pa_cons (pv 2) pa_nil)))))) pa_nil)) (nomark _))))))))))), ?_⟩
  have far : ∀ {σ : L2.St} {Hx : Hp} {i j : Nat} {y z : V} {r r' : List Nat}, (dWebs ws).At Hx x0 → σ[0]? = some (some x0) → σ[i]? = some (some y) → σ[j]? = some (some z) → (dNL r).At Hx y → (dNL r').At Hx z → RowOk ws r → RowOk ws r' → EvD T (tCall (Pm T A_far) [] E0 (tCons (tVar 0) (tCons (tVar i) (tCons (tVar j) tNil)))) σ Hx (dO (pdist ws r r')) :=
    fun h0 g0 g1 g2 h1 h2 k1 k2 => ev_call (ea_cons (ev_var g0 h0) (ea_cons (ev_var g1 h1) (ea_cons (ev_var g2 h2) ea_nil))) ⟨ws, _, _, rfl, ok, k1, k2, rfl⟩
  have ways : ∀ {σ : L2.St} {Hx : Hp} {i j : Nat} {y z : V} {r r' : List Nat}, (dWebs ws).At Hx x0 → σ[0]? = some (some x0) → σ[i]? = some (some y) → σ[j]? = some (some z) → (dNL r).At Hx y → (dNL r').At Hx z → RowOk ws r → RowOk ws r' → EvD T (tCall (Pm T A_ways) [] E0 (tCons (tVar 0) (tCons (tVar i) (tCons (tVar j) tNil)))) σ Hx (dn (pways ws r r')) :=
    fun h0 g0 g1 g2 h1 h2 k1 k2 => ev_call (ea_cons (ev_var g0 h0) (ea_cons (ev_var g1 h1) (ea_cons (ev_var g2 h2) ea_nil))) ⟨ws, _, _, rfl, ok, k1, k2, rfl⟩
  -- aways
  refine q_asg (d := dOL (rs.map fun r => pdist ws r m)) (EvD.is (ev_lc (n := rs.length) (fun _ => true) (fun i => dO (pdist ws (rs.getD i []) m)) (SrcD.is (src_list (ev_var rfl a3)) (List.length_map _) (fun _ _ => rfl)) (by omega) fun i vs Hb7 hi e7 a7 => ?_) ?_) e fun x4 Hb1 H1 s1 a4 => ?_
  · obtain ⟨r, hr2⟩ := get_some hi
    rw [getD_map hr2] at a7
    obtain ⟨z, rfl, hz⟩ := at1 a7
    rw [getD_of hr2]
    exact ⟨rfl, et_yes, fun _ => far (a0.mono e7) rfl rfl rfl hz (a2.mono e7) (rok r (List.mem_of_getElem? hr2)) om⟩
  · rw [given_all]
    unfold dOL
    rw [List.map_map]
    exact congrArg Da.l (map_getD rs (fun r => dO (pdist ws r m)) [])
  -- here
  refine q_asg (far (a0.mono s1.e1) rfl rfl rfl (a1.mono s1.e1) (a2.mono s1.e1) ol om) s1.e2 fun x6 Hb2 H2 s2 a6 => ?_
  have S2 := s1.trans s2
  -- known
  refine q_asg (d := dNL ((rs.filter fun r => (pdist ws r m).isSome).map fun r => (pdist ws r m).getD 0)) (EvD.is (ev_lc (n := rs.length) (fun i => (pdist ws (rs.getD i []) m).isSome) (fun i => dn ((pdist ws (rs.getD i []) m).getD 0)) (SrcD.is (rs' := fun i => [dO (pdist ws (rs.getD i []) m)]) (src_list (ev_var rfl (a4.mono s2.e1))) (by rw [List.length_map, List.length_map]) fun i hi => ?_) (by omega) fun i vs Hb7 hi e7 a7 => ?_) ?_) S2.e2 fun x7 Hb3 H3 s3 a7 => ?_
  · rw [List.length_map, List.length_map] at hi
    rw [getD_map (show (rs.map fun r => pdist ws r m)[i]? = some (pdist ws (rs.getD i []) m) by rw [List.getElem?_map, get_lt hi []]; rfl)]
  · obtain ⟨z, rfl, hz⟩ := at1 a7
    refine ⟨rfl, et_B (ev_notN (ev_var rfl hz)), fun hs => ?_⟩
    obtain ⟨d, hd⟩ := Option.isSome_iff_exists.mp hs
    rw [hd] at hz ⊢
    exact ev_var rfl hz
  · have := given_filter rs (fun r => (pdist ws r m).isSome) (fun r => dn ((pdist ws r m).getD 0)) []
    rw [this]
    unfold dNL
    rw [List.map_map]
    rfl
  have S3 := S2.trans s3
  have E3 := S3.e1
  -- one == other
  refine q_if (et_test (ev_op (ev_var rfl (a1.mono E3)) (ev_var rfl (a2.mono E3)) rv_eqD)) S3.e2 (fun hb Hb4 H4 s4 => ?_) (fun hb Hb4 H4 s4 => ?_)
  · have hb : l = m := of_decide_eq_true hb
    subst hb
    have E4 := E3.trans s4.e1
    rw [pdist_self ol] at a6
    refine s_ret (EvD.is (ev_andV (ev_op (dx := .v (vn 0)) (dy := .v (vn 0)) (ev_var rfl (a6.mono (s3.e1.trans s4.e1))) ev_c (rv_eq rfl)) fun _ => ev_op (dx := .v (vn (pways ws l l))) (dy := .v (vn 1)) (ways (a0.mono E4) rfl rfl rfl (a1.mono E4) (a2.mono E4) ol ol) ev_c (rv_eq rfl)) ?_) s4.e2 fun v Hb' H' s a => q v Hb' H' ((S3.trans s4).trans s) a
    rw [pways_self ol, decide_eq_true rfl, decide_eq_true rfl]
    rfl
  have hne : l ≠ m := of_decide_eq_false hb
  have S4 := S3.trans s4
  have E4 := S4.e1
  have a6 := a6.mono (s3.e1.trans s4.e1)
  have a7 := a7.mono s4.e1
  -- here is None
  refine q_if (et_B (ev_isN (ev_var rfl a6))) S4.e2 (fun hb Hb5 H5 s5 => ?_) (fun hb Hb5 H5 s5 => ?_)
  · have hn : pdist ws l m = none := Option.isNone_iff_eq_none.mp hb
    have E5 := E4.trans s5.e1
    have hk : (rs.filter fun r => (pdist ws r m).isSome) = [] := List.filter_eq_nil_iff.mpr fun r hr => by
      rw [beside_none ol om hn (hp.mem_iff.mp hr)]
      decide
    rw [hk] at a7
    refine s_ret (EvD.is (ev_andV (ev_op (dx := dNL []) (dy := dNL []) (ev_var rfl (a7.mono s5.e1)) (ev_lst ea_nil (by decide)) rv_eqD) fun _ => ev_op (dx := .v (vn (pways ws l m))) (dy := .v (vn 0)) (ways (a0.mono E5) rfl rfl rfl (a1.mono E5) (a2.mono E5) ol om) ev_c (rv_eq rfl)) ?_) s5.e2 fun v Hb' H' s a => q v Hb' H' ((S4.trans s5).trans s) a
    rw [pways_none hn, decide_eq_true rfl, decide_eq_true rfl]
    rfl
  obtain ⟨d0, hd0⟩ : ∃ d, pdist ws l m = some d := by
    cases h : pdist ws l m with
    | none => rw [h] at hb; cases hb
    | some d => exact ⟨d, rfl⟩
  obtain ⟨d, rfl⟩ : ∃ d, d0 = d + 1 := by
    cases d0 with
    | zero => exact absurd (pdist_zero ol om hd0) hne
    | succ d => exact ⟨d, rfl⟩
  rw [hd0] at a6
  have S5 := S4.trans s5
  have E5 := S5.e1
  have a6 := a6.mono s5.e1
  have a7 := a7.mono s5.e1
  have a4 := a4.mono (s2.e1.trans ((s3.e1.trans s4.e1).trans s5.e1))
  -- nearer
  refine q_asg (d := .l ((rs.filter fun r => decide (pdist ws r m = some d)).map dNL)) (EvD.is (ev_lc (n := rs.length) (fun i => decide (pdist ws (rs.getD i []) m = some d)) (fun i => dNL (rs.getD i [])) (SrcD.is (rs' := fun i => [dNL (rs.getD i []), dO (pdist ws (rs.getD i []) m)]) (src_zip (ea_cons (ev_var rfl (a3.mono E5)) (ea_cons (ev_var rfl a4) ea_nil))) (by rw [List.length_map, List.length_map, List.length_map, Nat.min_self]) fun i hi => ?_) (by omega) fun i vs Hb7 hi e7 a8 => ?_) ?_) s5.e2 fun x9 Hb6 H6 s6 a9 => ?_
  · rw [List.length_map, List.length_map, List.length_map, Nat.min_self] at hi
    rw [getD_map (get_lt hi []), getD_map (show (rs.map fun r => pdist ws r m)[i]? = some (pdist ws (rs.getD i []) m) by rw [List.getElem?_map, get_lt hi []]; rfl)]
  · obtain ⟨z0, z1, rfl, h0, h1⟩ := at2 a8
    refine ⟨rfl, EvT.is (et_test (ev_op (dx := .v (vO (pdist ws (rs.getD i []) m))) (dy := .v (vn d)) (EvD.is (ev_var rfl h1) (dO_eq _)) (EvD.is (ev_op (dx := dn (d + 1)) (ev_var rfl (a6.mono e7)) ev_c rv_I0) (by show Da.v (.int _) = Da.v (.int _); congr 2; omega)) (rv_eq (by cases pdist ws (rs.getD i []) m <;> rfl)))) vO_inj, fun _ => ev_var rfl h0⟩
  · exact congrArg Da.l (given_filter rs (fun r => decide (pdist ws r m = some d)) dNL [])
  have S6 := S5.trans s6
  have E6 := S6.e1
  have a7 := a7.mono s6.e1
  have a6 := a6.mono s6.e1
  obtain ⟨r0, hr0, hrd0⟩ := beside_at ol om hd0
  have hr0' := hp.mem_iff.mpr hr0
  have hmem : d ∈ (rs.filter fun r => (pdist ws r m).isSome).map fun r => (pdist ws r m).getD 0 := List.mem_map.mpr ⟨r0, List.mem_filter.mpr ⟨hr0', by rw [hrd0]; rfl⟩, by rw [hrd0]; rfl⟩
  have hmin : ∀ y ∈ (rs.filter fun r => (pdist ws r m).isSome).map (fun r => (pdist ws r m).getD 0), d ≤ y := fun y hy => by
    obtain ⟨r, hr, rfl⟩ := List.mem_map.mp hy
    obtain ⟨h1, h2⟩ := List.mem_filter.mp hr
    obtain ⟨e, he⟩ := Option.isSome_iff_exists.mp h2
    rw [he]
    exact beside_ge ol om hd0 (hp.mem_iff.mp h1) he
  -- the checks
  refine q_no (EvT.is (et_or (et_test (b := false) (EvD.is (ev_op (dy := dNL []) (ev_var rfl a7) (ev_lst ea_nil (by decide)) rv_eqD) ?_)) fun _ => et_or (et_test (b := false) (EvD.is (ev_op (dx := .v (vn (d + 1))) (dy := .v (vn (d + 1))) (ev_var rfl a6) (EvD.is (ev_op (dx := dn d) (ev_cb (ea_cons (ev_var rfl a7) ea_nil) (cv_min hmem hmin)) ev_c rv_I0) rfl) (rv_ne rfl)) ?_)) fun _ => et_test (b := false) (EvD.is (ev_op (dx := .v (vn (d + 1))) (dy := .v (vn (d + 1))) (EvD.is (far (a0.mono E6) rfl rfl rfl (a2.mono E6) (a1.mono E6) om ol) (by rw [pdist_symm om ol, hd0]; rfl)) (ev_var rfl a6) (rv_ne rfl)) ?_)) rfl) S6.e2 fun Hb7 H7 s7 => ?_
  · rw [decide_eq_false fun z => by rw [z] at hmem; cases hmem]
  · rw [decide_eq_true rfl]; rfl
  · rw [decide_eq_true rfl]; rfl
  have S7 := S6.trans s7
  have E7 := S7.e1
  refine s_ret (EvD.is (ev_op (dx := .v (vn (pways ws l m))) (dy := .v (vn (((rs.filter fun r => decide (pdist ws r m = some d)).map fun r => pways ws r m).sum))) (ways (a0.mono E7) rfl rfl rfl (a1.mono E7) (a2.mono E7) ol om) (ev_cb (ea_cons (EvD.is (d := dNL ((rs.filter fun r => decide (pdist ws r m = some d)).map fun r => pways ws r m)) (ev_lc (n := (rs.filter fun r => decide (pdist ws r m = some d)).length) (fun _ => true) (fun i => dn (pways ws ((rs.filter fun r => decide (pdist ws r m = some d)).getD i []) m)) (SrcD.is (src_list (ev_var rfl (a9.mono s7.e1))) (List.length_map _) (fun _ _ => rfl)) (by have := List.length_filter_le (fun r => decide (pdist ws r m = some d)) rs; omega) fun i vs Hb8 hi e8 a8 => ?_) ?_) ea_nil) cv_sum) (rv_eq rfl)) ?_) s7.e2 fun v Hb' H' s a => q v Hb' H' (S7.trans s) a
  · obtain ⟨r, hr2⟩ := get_some hi
    rw [getD_map hr2] at a8
    obtain ⟨z, rfl, hz⟩ := at1 a8
    rw [getD_of hr2]
    exact ⟨rfl, et_yes, fun _ => ways (a0.mono (E7.trans e8)) rfl rfl rfl hz (a2.mono (E7.trans e8)) (rok r (List.mem_filter.mp (List.mem_of_getElem? hr2)).1) om⟩
  · rw [given_all]
    unfold dNL
    rw [List.map_map]
    exact congrArg Da.l (map_getD (rs.filter fun r => decide (pdist ws r m = some d)) (fun r => dn (pways ws r m)) [])
  · rw [pways_succ ol om hd0]
    have : sumL ((bes ws l).filter fun r => decide (pdist ws r m = some d)) (fun r => pways ws r m) = ((rs.filter fun r => decide (pdist ws r m = some d)).map fun r => pways ws r m).sum := sumL_perm (hp.symm.filter _) _
    rw [this, decide_eq_true rfl]
/-! ### _law_walks_right -/
abbrev s__law_walks_right : Stmt := topS 43
abbrev n__law_walks_right : List Str := ["_law_webs", "_law_one", "_law_other", "_law_beside", "_law_often", "_law_due", "_law_row"]
theorem sc__law_walks_right : FnScope n__law_walks_right ["_law_webs", "_law_one", "_law_other", "_law_beside", "_law_often"] (defScope s__law_walks_right) := ⟨rfl, rfl, rfl, by decide +kernel, rfl, by decide +kernel, by decide +kernel⟩
def A_walks_right (ds : List Da) (d : Da) : Prop := ∃ (ws : List Web) (a b : List Nat) (rs : List (List Nat)) (k : Nat), ds = [dWebs ws, dNL a, dNL b, .l (rs.map dNL), dn k] ∧ WebsOk ws ∧ RowOk ws a ∧ RowOk ws b ∧ rs.Perm (bes ws a) ∧ k ≤ 9 ∧ d = .v (.bl true)
theorem at5 {H : Hp} {a b c d e : Da} {vs : List V} (h : AtL H [a, b, c, d, e] vs) : ∃ x y z u v, vs = [x, y, z, u, v] ∧ a.At H x ∧ b.At H y ∧ c.At H z ∧ d.At H u ∧ e.At H v := by
  obtain ⟨x, r, rfl, h1, h2⟩ := (show ∃ u r, vs = u :: r ∧ a.At H u ∧ AtL H [b, c, d, e] r from h)
  obtain ⟨y, z, u, v, rfl, h3, h4, h5, h6⟩ := at4 h2
  exact ⟨x, y, z, u, v, rfl, h1, h3, h4, h5, h6⟩
theorem ok__law_walks_right (D : Df K mg "_law_walks_right" s__law_walks_right) (c_walks_many : Cal P w K mg base "walks_many" 7 ["webs", "one", "other", "steps"] (Pm T A_walks)) (c_walks_many_kw : CalK P w K mg base "walks_many" 7 ["webs", "one", "other", "steps"] 3 ["steps"] (Pm T A_walks))
    (m_sum : mg "sum" = none) : Cal P w K mg base "_law_walks_right" 8 ["_law_webs", "_law_one", "_law_other", "_law_beside", "_law_often"] (Pm T A_walks_right) := by
  refine mk_pm D sc__law_walks_right (fun ds d ⟨_, _, _, _, _, h, _⟩ => by rw [h]; rfl) (fun _ _ _ _ _ _ us hl => match us, hl with | [_, _, _, _, _], _ => rfl) fun f cdv Ar outer s H vs Q E hr Hb ds d e a hA q => ?_
  obtain ⟨ws, l, m, rs, k, rfl, ok, ol, om, hp, hk, rfl⟩ := hA
  obtain ⟨x0, x1, x2, x3, x4, rfl, a0, a1, a2, a3, a4⟩ := at5 a
  have nd := sc__law_walks_right.nd
  have few := bes_few ok ol
  have rlen : rs.length ≤ 480 := by rw [hp.length_eq]; exact few
  have rok : ∀ r ∈ rs, RowOk ws r := fun r hr => bes_ok ol (hp.mem_iff.mp hr)
  refine ⟨_, (pss_cons (ps_set (i := 5) nd rfl (Or.inl rfl) (pe_callB (r := rSum K) (cr_sum rfl) (by rfl) m_sum (by decide +kernel) (pa_cons (pe_lc (own := [("_law_row", 6)]) (g := gName 6) rfl nd (pi_list (pv 3)) (blkOk_by (own := [("_law_row", 6)]) (N := n__law_walks_right) (sc := (defScope s__law_walks_right)) (by decide +kernel)) (fun _ _ _ _ _ => (pg_name (i := 6) nd rfl (Or.inl rfl) (hf := Or.inr rfl))) (fun _ _ _ _ _ => pts_nil) (fun _ _ _ _ _ => (pe_cal c_walks_many hr (by decide) rfl (pa_cons (pv 0) (pa_cons (pv 6) (pa_cons (pv 2) (pa_cons (pv 4) pa_nil))))))) pa_nil)))
      (pss_one (ps_ret (pe_cmpR op_eq (pe_calK c_walks_many_kw hr (by decide) rfl (pa_cons (pv 0) (pa_cons (pv 1) (pa_cons (pv 2) pa_nil))) (pk_cons (pe_op op_add (pv 4) pe_int) pk_nil)) (pv 5) (nomark _))))), ?_⟩
  refine q_asg (d := dn ((rs.map fun r => pwk ws k r m).sum)) (ev_cb (ea_cons (EvD.is (d := dNL (rs.map fun r => pwk ws k r m)) (ev_lc (n := rs.length) (fun _ => true) (fun i => dn (pwk ws k (rs.getD i []) m)) (SrcD.is (src_list (ev_var rfl a3)) (List.length_map _) (fun _ _ => rfl)) (by omega) fun i vs Hb7 hi e7 a7 => ?_) ?_) ea_nil) cv_sum) e fun x5 Hb1 H1 s1 a5 => ?_
  · obtain ⟨r, hr2⟩ := get_some hi
    rw [getD_map hr2] at a7
    obtain ⟨z, rfl, hz⟩ := at1 a7
    rw [getD_of hr2]
    exact ⟨rfl, et_yes, fun _ => ev_call (ea_cons (ev_var rfl (a0.mono e7)) (ea_cons (ev_var rfl hz) (ea_cons (ev_var rfl (a2.mono e7)) (ea_cons (ev_var rfl (a4.mono e7)) ea_nil)))) ⟨ws, r, m, k, rfl, ok, rok r (List.mem_of_getElem? hr2), om, by omega, rfl⟩⟩
  · rw [given_all]
    unfold dNL
    rw [List.map_map]
    exact congrArg Da.l (map_getD rs (fun r => dn (pwk ws k r m)) [])
  refine s_ret (EvD.is (ev_op (dx := .v (vn (pwk ws (k + 1) l m))) (dy := .v (vn ((rs.map fun r => pwk ws k r m).sum))) (ev_callK (d := dn (pwk ws (k + 1) l m)) (ds := [dWebs ws, dNL l, dNL m]) (es := [dn (k + 1)]) (ea_cons (ev_var rfl (a0.mono s1.e1)) (ea_cons (ev_var rfl (a1.mono s1.e1)) (ea_cons (ev_var rfl (a2.mono s1.e1)) ea_nil))) (ea_cons (EvD.is (ev_op (dx := dn k) (ev_var rfl (a4.mono s1.e1)) ev_c rv_I0) rfl) ea_nil) rfl rfl ⟨ws, l, m, k + 1, rfl, ok, ol, om, by omega, rfl⟩) (ev_var rfl a5) (rv_eq rfl)) ?_) s1.e2 fun v Hb' H' s a => q v Hb' H' (s1.trans s) a
  rw [pwk_succ k ol om]
  have : sumL (bes ws l) (fun r => pwk ws k r m) = (rs.map fun r => pwk ws k r m).sum := sumL_perm hp.symm _
  rw [this, decide_eq_true rfl]
/-! ### _law_rings_right -/
abbrev s__law_rings_right : Stmt := topS 44
abbrev n__law_rings_right : List Str := ["_law_webs", "_law_one", "_law_other", "_law_beside", "_law_found", "_law_most", "_law_away"]
theorem sc__law_rings_right : FnScope n__law_rings_right ["_law_webs", "_law_one", "_law_other", "_law_beside"] (defScope s__law_rings_right) := ⟨rfl, rfl, rfl, by decide +kernel, rfl, by decide +kernel, by decide +kernel⟩
def A_rings_right (ds : List Da) (d : Da) : Prop := ∃ (ws : List Web) (a b : List Nat) (rs : List (List Nat)), ds = [dWebs ws, dNL a, dNL b, .l (rs.map dNL)] ∧ WebsOk ws ∧ RowOk ws a ∧ RowOk ws b ∧ rs.Perm (bes ws a) ∧ d = .v (.bl true)
theorem inV_zero (l : List Nat) : inV (vn 0) (l.map vn) = decide (0 ∈ l) := by
  unfold inV
  rw [List.any_map]
  induction l with
  | nil => rfl
  | cons n l ih =>
    rw [List.any_cons, ih]
    cases n with
    | zero => simp [Function.comp, vn, eqV]
    | succ n =>
      have : ¬ ((n : Int) + 1 = 0) := by omega
      simp [Function.comp, vn, eqV, this]
theorem flat_vn (l : List Nat) : (l.map vn).all flatV = true := by
  rw [List.all_eq_true]
  intro x hx
  obtain ⟨o, _, rfl⟩ := List.mem_map.mp hx
  rfl
theorem ok__law_rings_right (D : Df K mg "_law_rings_right" s__law_rings_right) (c_far : Cal P w K mg base "far" 7 ["webs", "one", "other"] (Pm T A_far)) (c_by_distance : Cal P w K mg base "by_distance" 7 ["webs", "row"] (Pm T A_by_distance)) (c_widest : Cal P w K mg base "widest" 6 ["webs"] (Pm T A_widest))
    (c_places_of : Cal P w K mg base "places_of" 6 ["webs"] (Pm T A_places_in)) (m_sum : mg "sum" = none) (m_len : mg "len" = none) : Cal P w K mg base "_law_rings_right" 8 ["_law_webs", "_law_one", "_law_other", "_law_beside"] (Pm T A_rings_right) := by
  refine mk_pm D sc__law_rings_right (fun ds d ⟨_, _, _, _, h, _⟩ => by rw [h]; rfl) (fun _ _ _ _ _ _ us hl => match us, hl with | [_, _, _, _], _ => rfl) fun f cdv Ar outer s H vs Q E hr Hb ds d e a hA q => ?_
  obtain ⟨ws, l, m, rs, rfl, ok, ol, om, hp, rfl⟩ := hA
  obtain ⟨x0, x1, x2, x3, rfl, a0, a1, a2, a3⟩ := at4 a
  have nd := sc__law_rings_right.nd
  have rk := rings_ok ol ringOk_one
  have rl := rings_len ol ringOk_one
  have rsum := rings_sum ol ringOk_one
  have r1 := rings_one ol ringOk_one
  obtain ⟨k1, k2⟩ := knowns_fit ol fun v hv => (ok.ok v hv).most
  have few := ok.few
  refine ⟨_, (pss_cons (ps_set (i := 4) nd rfl (Or.inl rfl) (pe_cal c_by_distance hr (by decide) rfl (pa_cons (pv 0) (pa_cons (pv 1) pa_nil))))
      (pss_cons (ps_set (i := 5) nd rfl (Or.inl rfl) (pe_cal c_widest hr (by decide) rfl (pa_cons (pv 0) pa_nil)))
      (pss_cons (ps_set (i := 6) nd rfl (Or.inl rfl) (pe_cal c_far hr (by decide) rfl (pa_cons (pv 0) (pa_cons (pv 1) (pa_cons (pv 2) pa_nil)))))
      (pss_cons (ps_if (PW.pt (pw_or (pt_cmpR op_ne (pe_ix (r := rIxL K) ix_list (pv 4) pe_int (fun _ _ => rfl)) pe_int (nomark _)) (pw_or (pt_cmpR (r := rIn K false) op_in_seq pe_int (pv 4) (by rfl)) (pw_or1 (pt_cmpR op_ne (pe_ix (r := rIxL K) ix_list (pe_op op_cat (pv 4) (pe_lst (pa_cons pe_int pa_nil))) pe_int (fun _ _ => rfl)) (pe_callB (r := rLen K) call_len_seq (by rfl) m_len PySem.boot_len (pa_cons (pv 3) pa_nil)) (nomark _)))))) (pss_one (ps_ret pe_bl)) pss_nil)
      (pss_cons (ps_if (pt_cmp (pc_isN (pv 5))) (pss_one (ps_ret (pe_cmpR op_lt (pe_callB (r := rSum K) (cr_sum rfl) (by rfl) m_sum (by decide +kernel) (pa_cons (pv 4) pa_nil)) (pe_cal c_places_of hr (by decide) rfl (pa_cons (pv 0) pa_nil)) (nomark _)))) pss_nil)
      (pss_one (ps_ret (pe_and (pe_cmpR op_eq (pe_callB (r := rSum K) (cr_sum rfl) (by rfl) m_sum (by decide +kernel) (pa_cons (pv 4) pa_nil)) (pe_cal c_places_of hr (by decide) rfl (pa_cons (pv 0) pa_nil)) (nomark _)) (pe_and (pe_cmpR op_le (pe_op op_sub (pe_callB (r := rLen K) call_len_seq (by rfl) m_len PySem.boot_len (pa_cons (pv 4) pa_nil)) pe_int) (pv 5) (nomark _)) (pe_one (pe_chain op_le op_le pe_int (pv 6) (pv 5)))))))))))), ?_⟩
  refine q_asg (d := dNL (rings [1] ws l)) (ev_call (ea_cons (ev_var rfl a0) (ea_cons (ev_var rfl a1) ea_nil)) ⟨ws, l, rfl, ok, ol, rfl⟩) e fun x4 Hb1 H1 s1 a4 => ?_
  refine q_asg (d := dO (widO ws)) (ev_call (ea_cons (ev_var rfl (a0.mono s1.e1)) ea_nil) ⟨ws, rfl, ok, rfl⟩) s1.e2 fun x5 Hb2 H2 s2 a5 => ?_
  have S2 := s1.trans s2
  refine q_asg (d := dO (pdist ws l m)) (ev_call (ea_cons (ev_var rfl (a0.mono S2.e1)) (ea_cons (ev_var rfl (a1.mono S2.e1)) (ea_cons (ev_var rfl (a2.mono S2.e1)) ea_nil))) ⟨ws, l, m, rfl, ok, ol, om, rfl⟩) S2.e2 fun x6 Hb3 H3 s3 a6 => ?_
  have S3 := S2.trans s3
  have a4 := a4.mono (s2.e1.trans s3.e1)
  have a5 := a5.mono s3.e1
  have tst := rv_in (T := T) (K := K) (neg := false) (x := vn 0) (xs := (rings [1] ws l).map vn) rfl (flat_vn _)
  rw [inV_zero, ← map_dn] at tst
  have h0 : (rings [1] ws l)[0]? = some 1 := by
    have h := rk.one
    rw [List.getD_eq_getElem?_getD, List.getElem?_eq_getElem rk.len] at h
    rw [List.getElem?_eq_getElem rk.len]
    exact congrArg some h
  have h1 : ((rings [1] ws l) ++ [0])[1]? = some rs.length := by
    rw [hp.length_eq]
    have r1 : (rings [1] ws l).getD 1 0 = (bes ws l).length := by rw [r1]; show 0 + _ = _; rw [Nat.zero_add]
    rcases Nat.lt_or_ge 1 (rings [1] ws l).length with z | z
    · rw [List.getElem?_append_left z, get_lt z 0, r1]
    · have h2 := rk.len
      rw [List.getElem?_append_right z, show 1 - (rings [1] ws l).length = 0 by omega, ← r1, getD_big z]
      rfl
  refine q_no (EvT.is (et_or (et_test (b := false) (EvD.is (ev_op (dx := .v (vn 1)) (dy := .v (vn 1)) (ev_op (dx := dNL (rings [1] ws l)) (dy := dn 0) (d := dn 1) (ev_var rfl a4) ev_c (rv_ixL (map_at (f := dn) h0))) ev_c (rv_ne rfl)) ?_)) fun _ => et_or (et_test (b := false) (EvD.is (ev_op (dx := .v (vn 0)) (dy := dNL (rings [1] ws l)) ev_c (ev_var rfl a4) tst) ?_)) fun _ => et_test (b := false) (EvD.is (ev_op (dx := .v (vn rs.length)) (dy := .v (vn rs.length)) (ev_op (dx := .l ((rings [1] ws l).map dn ++ [dn 0])) (dy := dn 1) (d := dn rs.length) (ev_op (dx := dNL (rings [1] ws l)) (dy := .l [dn 0]) (ev_var rfl a4) (ev_lst (ea_cons ev_c ea_nil) sz1) (rv_cat ?_)) ev_c (rv_ixL ?_)) (EvD.is (ev_cb (ea_cons (ev_var rfl (a3.mono S3.e1)) ea_nil) cv_len) (by rw [List.length_map]; rfl)) (rv_ne rfl)) ?_)) rfl) S3.e2 fun Hb4 H4 s4 => ?_
  · rw [decide_eq_true rfl]; rfl
  · rw [decide_eq_false fun z => absurd (rk.pos 0 z) (Nat.lt_irrefl 0)]; rfl
  · rw [List.length_map, rl, List.length_singleton, List.length_singleton]
    omega
  · have := map_at (f := dn) h1
    rw [List.map_append] at this
    exact this
  · rw [decide_eq_true rfl]; rfl
  have S4 := S3.trans s4
  have E4 := S4.e1
  have a4 := a4.mono s4.e1
  have a5 := a5.mono s4.e1
  have a6 := a6.mono s4.e1
  rw [List.sum_singleton, Nat.one_mul] at rsum
  have hsum : ∀ {σ : L2.St} {Hx}, Ex T Hb4 Hx → σ[4]? = some (some x4) → EvD T (tCB (rSum K) (tCons (tVar 4) tNil)) σ Hx (dn (knowns ws l)) := fun ex h => EvD.is (ev_cb (ea_cons (ev_var h (a4.mono ex)) ea_nil) cv_sum) (by rw [rsum])
  have hplc : ∀ {σ : L2.St} {Hx}, Ex T Hb4 Hx → σ[0]? = some (some x0) → EvD T (tCall (Pm T A_places_in) [] E0 (tCons (tVar 0) tNil)) σ Hx (dn (plc ws)) := fun ex h => ev_call (ea_cons (ev_var h (a0.mono (E4.trans ex))) ea_nil) ⟨ws, rfl, ok, rfl⟩
  refine q_if (et_B (ev_isN (ev_var rfl a5))) S4.e2 (fun hb Hb5 H5 s5 => ?_) (fun hb Hb5 H5 s5 => ?_)
  · have nc : ¬ ∀ w ∈ ws, conn w := fun c => by
      rw [widO_some c] at hb
      cases hb
    have hlt := knowns_lt ol nc
    refine s_ret (EvD.is (ev_op (hsum s5.e1 rfl) (hplc s5.e1 rfl) rv_I0) ?_) s5.e2 fun v Hb' H' s a => q v Hb' H' ((S4.trans s5).trans s) a
    rw [decide_eq_true (show ((knowns ws l : Nat) : Int) < ((plc ws : Nat) : Int) by omega)]
  · have c : ∀ w ∈ ws, conn w := Classical.byContradiction fun z => by
      obtain ⟨v, hv⟩ := Classical.not_forall.mp z
      obtain ⟨hv, hv2⟩ := Classical.not_imp.mp hv
      rw [widO_none hv hv2] at hb
      cases hb
    have keq := knowns_conn ol c
    have hle := eccs_le ol
    obtain ⟨d, hd, hdle⟩ := dists_le ol om c
    rw [pdist_sum ol om, hd] at a6
    rw [widO_some c] at a5
    have hw : EvD T (tVar 5) [some x0, some x1, some x2, some x3, some x4, some x5, some x6] Hb5 (dn ((ws.map wid).sum)) := ev_var rfl (a5.mono s5.e1)
    refine s_ret (EvD.is (ev_andV (ev_op (dx := .v (vn (knowns ws l))) (dy := .v (vn (plc ws))) (hsum s5.e1 rfl) (hplc s5.e1 rfl) (rv_eq rfl)) fun _ => ev_andV (b := decide (((((rings [1] ws l).map dn).length : Nat) : Int) - 1 ≤ (((ws.map wid).sum : Nat) : Int))) (ev_op (ev_op (ev_cb (ea_cons (ev_var rfl (a4.mono s5.e1)) ea_nil) cv_len) ev_c rv_I0) hw rv_I0) fun _ => ev_chain (b := decide ((0 : Int) ≤ ((d : Nat) : Int))) (c := decide (((d : Nat) : Int) ≤ (((ws.map wid).sum : Nat) : Int))) ev_c (ev_var (d := dn d) rfl (a6.mono s5.e1)) rv_I0 (fun _ => hw) fun _ => rv_I0) ?_) s5.e2 fun v Hb' H' s a => q v Hb' H' ((S4.trans s5).trans s) a
    rw [keq, decide_eq_true rfl, decide_eq_true (show (0 : Int) ≤ ((d : Nat) : Int) by omega), decide_eq_true (show ((d : Nat) : Int) ≤ (((ws.map wid).sum : Nat) : Int) by omega), decide_eq_true (show ((((rings [1] ws l).map dn).length : Nat) : Int) - 1 ≤ (((ws.map wid).sum : Nat) : Int) by rw [List.length_map, rl, List.length_singleton]; omega)]
    rfl
end
end K68
end

section
/-! K68SortD: sorted of a dict whose keys are pairs of numbers. -/
namespace K68
open PySem PySem.Spec PyProof.Rows L2
def pkey (p : Int × Int) : List L2.Key := [Sum.inl p.1, Sum.inl p.2]
def dPr (p : Int × Int) : Da := .t [dI p.1, dI p.2]
/-- what a key's value stands for -/
noncomputable def prH (H : Hp) (u : Value) : Int × Int := match u with
  | .ref b => match H b with
    | some (.tup [.int i, .int j]) => (i, j)
    | _ => (0, 0)
  | _ => (0, 0)
theorem prH_at {H : Hp} {b : Addr} {i j : Int} (h : H b = some (.tup [.int i, .int j])) : prH H (.ref b) = (i, j) := by
  unfold prH
  simp only [h]
def rSortedDT : List V → Hp → VK → Prop := fun vs H Q => ∃ (a : Addr) (kvs : List (List L2.Key × V)) (ks : List (Int × Int)), vs = [V.ref a] ∧ H a = some (.dT kvs) ∧ kvs.map (·.1) = ks.map pkey ∧
  ∀ (ks' : List (Int × Int)) (us : List V) (p : Addr), ks'.Perm ks → ks'.Pairwise (fun x y => SrtO.lexB y x = false) → AtL H (ks'.map dPr) us → H p = none → Q (.ref p) (upd H p (.lst us))
theorem keys_at {H : Hp} : ∀ {kvs : List (List L2.Key × V)} {xs : List (List L2.Key × Addr × Value)} {ks : List (Int × Int)}, Paired (fun (p : List L2.Key × V) (q : List L2.Key × Addr × Value) => p.1 = q.1 ∧ H q.2.1 = some (.tup (p.1.map kV)) ∧ RelV p.2 q.2.2) kvs xs → kvs.map (·.1) = ks.map pkey →
    (xs.map fun x => x.2.1).length = ks.length ∧ ∀ (i : Nat) (b : Addr) (k : Int × Int), (xs.map fun x => x.2.1)[i]? = some b → ks[i]? = some k → H b = some (.tup [.int k.1, .int k.2])
  | _, _, [], .nil, _ => ⟨rfl, fun i b k h _ => by cases h⟩
  | _, _, k :: ks, .cons h t, e => by
    rw [List.map_cons, List.map_cons] at e
    injection e with e1 e2
    obtain ⟨h1, h2⟩ := keys_at t e2
    refine ⟨by rw [List.map_cons, List.length_cons, h1, List.length_cons], fun i b k' hb hk => ?_⟩
    cases i with
    | zero =>
      have hb := Option.some.inj hb
      have hk := Option.some.inj hk
      rw [← hb, ← hk, h.2.1, e1]
      rfl
    | succ i => exact h2 i b k' hb hk
theorem cr_sortedDT {X : Cx} (hc : X.calm = true) : CallR X (.builtin "sorted") rSortedDT := by
  intro pins s σ H vs us Q I r h
  obtain ⟨a, kvs, ks, rfl, hd, hks, q⟩ := h
  rw [Vals.ref1 r]
  obtain ⟨hz, lo, xs, prs, ob, es, ep, hob, exd, hdat, hes, _⟩ := I.hok a _ hd
  obtain ⟨hlen, hat⟩ := keys_at prs hks
  have hsz : es.size = xs.length := size_of_entries hes
  have hkx : kvs.length = xs.length := Paired.length prs
  have hkl : ks.length = xs.length := by rw [← hlen, List.length_map]
  refine Calls.call_function_entry PyProof.Rows.kind_sorted PyProof.Rows.plain_sorted PyProof.Rows.entry_sorted (PyProof.Rows.args_sorted1 _) ?_
  unfold Builtin.«sorted»
  refine wpAny_bind (m := checkCount "sorted" 1 1 _) (wpAny_pure ?_)
  refine wpAny_bind (PySem.W.kdu_collect (A := X.A.in1) (kdl_raw lo exd hdat) (I.ok.hd hc) hob (by omega) fun hp tk acc grow got => ?_)
  have eacc : acc.toList = (xs.map fun x => x.2.1).map Value.ref := by
    have hl : acc.toList.length = xs.length := by rw [Array.length_toList, got.1, hsz]
    refine List.ext_getElem? fun j => ?_
    rw [List.getElem?_map, List.getElem?_map]
    cases hj : acc.toList[j]? with
    | none =>
      rw [List.getElem?_eq_none (l := xs) (by rw [← hl]; exact List.getElem?_eq_none_iff.mp hj)]
      rfl
    | some v =>
      obtain ⟨en, hen, hv⟩ := got.2 j v (by rw [← Array.getElem?_toList]; exact hj)
      have qe := entry_at hes j
      rw [hen] at qe
      cases hb : xs[j]? with
      | none => rw [hb] at qe; cases qe
      | some b =>
        rw [hb] at qe
        have e2 : en = entryOfKey (tupleKind (mixKind X.prog X.w)) b := Option.some.inj qe
        rw [hv, e2]
        rfl
  have I1 : Inv X pins σ H { s with heap := hp, toks := tk } := I.kept grow
  have hal : acc.toList.length = ks.length := by rw [eacc, List.length_map, hlen]
  refine wpAny_bind (wpAny_newList ?_ (by rw [hal]; omega))
  have hoL : (hp.push (seqObj "list" acc.toList.toArray 0)).get? hp.objs.size = some (seqObj "list" acc.toList.toArray 0) := Heap.get?_push_size _ rfl
  show wpAny _ _ _ _ _ { s with heap := hp.push (seqObj "list" acc.toList.toArray 0), toks := tk }
  have hmem : ∀ v ∈ acc.toList, ∃ (i : Nat) (b : Addr) (k : Int × Int), (xs.map fun x => x.2.1)[i]? = some b ∧ ks[i]? = some k ∧ v = .ref b ∧ H b = some (.tup [.int k.1, .int k.2]) := fun v hv => by
    rw [eacc] at hv
    obtain ⟨b, hb, rfl⟩ := List.mem_map.mp hv
    obtain ⟨i, hi⟩ := List.mem_iff_getElem?.mp hb
    have hi2 : i < ks.length := by rw [← hlen]; exact (List.getElem?_eq_some_iff.mp hi).1
    exact ⟨i, b, ks[i], hi, List.getElem?_eq_getElem hi2, rfl, hat i b _ hi (List.getElem?_eq_getElem hi2)⟩
  refine wpAny_bind (wpAny_holding (wpAny_call_entry PyProof.Rows.slot_list_sort ⟨_, hoL, rfl⟩ PyProof.Rows.entry_list_sort
    (SrtO.list_sort_ord (s := { s with heap := hp.push (seqObj "list" acc.toList.toArray 0), toks := tk }) (SrtO.swo_lex (prH H)) hoL (by rw [hal]; omega) (fun h2 => SrtO.pairs_sortableO (by omega) (fun v hv => ?_) fun o e => ?_) fun out g1 g2 => ⟨_, rfl, ?_⟩) (PyProof.Rows.args_list_sort _)))
  · obtain ⟨i, b, k, _, _, rfl, hb⟩ := hmem v hv
    rw [prH_at hb]
    obtain ⟨_, its2, r2, o, ho, hcl, n, hdd⟩ := I1.hok _ _ hb
    obtain ⟨u1, u2, rfl, ri, rj⟩ := vals2 r2
    obtain ⟨t1, rfl⟩ := ri
    obtain ⟨t2, rfl⟩ := rj
    exact ⟨b, o, t1, t2, n, rfl, Heap.get?_push_of_some _ ho, hcl, hdd⟩
  · have e' : some o = some (seqObj "list" acc.toList.toArray 0) := e.symm.trans hoL
    cases e'
    intro c
    exact absurd (Value.type.inj c) (by decide)
  · obtain ⟨e', he'⟩ := PyProof.Rows.sortedHeap_at (vs := acc.toList) (out := out.toArray) hoL
    have pm : out.Perm acc.toList := g2.perm
    obtain ⟨bs, pb, eb⟩ := L2.perm_lift Value.ref pm (xs.map fun x => x.2.1) eacc.symm
    have hvals : Vals (bs.map V.ref) out := by rw [← eb]; exact vals_refs bs
    have hin : ∀ b ∈ bs, ∃ k ∈ ks, H b = some (.tup [.int k.1, .int k.2]) := fun b hb => by
      obtain ⟨i, b', k, h1, h2, h3, h4⟩ := hmem (.ref b) (by rw [eacc]; exact List.mem_map.mpr ⟨b, pb.mem_iff.mp hb, rfl⟩)
      cases h3
      exact ⟨k, List.mem_of_getElem? h2, h4⟩
    have hAt : ∀ l : List Addr, (∀ b ∈ l, ∃ k ∈ ks, H b = some (.tup [.int k.1, .int k.2])) → AtL H ((l.map fun b => prH H (.ref b)).map dPr) (l.map V.ref) := fun l => by
      induction l with
      | nil => exact fun _ => rfl
      | cons b l ih =>
        intro hl
        obtain ⟨k, _, hk⟩ := hl b List.mem_cons_self
        refine .cons ?_ (ih fun c hc => hl c (List.mem_cons_of_mem _ hc))
        show (dPr (prH H (.ref b))).At H (V.ref b)
        rw [prH_at hk]
        exact ⟨b, _, rfl, hk, AtL.flat [.int k.1, .int k.2]⟩
    have eks : (xs.map fun x => x.2.1).map (fun b => prH H (.ref b)) = ks := by
      refine List.ext_getElem? fun i => ?_
      rw [List.getElem?_map]
      cases hi : (xs.map fun x => x.2.1)[i]? with
      | none =>
        rw [List.getElem?_eq_none (l := ks) (by rw [← hlen]; exact List.getElem?_eq_none_iff.mp hi)]
        rfl
      | some b =>
        have hi2 : i < ks.length := by rw [← hlen]; exact (List.getElem?_eq_some_iff.mp hi).1
        rw [List.getElem?_eq_getElem hi2]
        exact congrArg some (prH_at (hat i b _ hi (List.getElem?_eq_getElem hi2)))
    have pk : (bs.map fun b => prH H (.ref b)).Perm ks := by
      have := pb.map fun b => prH H (.ref b)
      rw [eks] at this
      exact this
    have pw : (bs.map fun b => prH H (.ref b)).Pairwise (fun x y => SrtO.lexB y x = false) := by
      rw [← eb] at g1
      exact List.pairwise_map.mpr (List.pairwise_map.mp g1)
    have hlen2 : (bs.map V.ref).length ≤ sizeLine := by
      rw [List.length_map, pb.length_eq, hlen]
      omega
    refine wpAny_pure ⟨_, rfl, .ref hp.objs.size, upd H hp.objs.size (.lst (bs.map V.ref)), I1.laid (t' := tk) (fun b u e => ?_) (Nat.le_refl _)
      (show ObjOk X.prog X.w _ _ _ (.lst (bs.map V.ref)) from ⟨hlen2, out, e', hvals, he'⟩), rfl, q _ _ _ pk pw (hAt bs hin) (I1.hok.fresh (Nat.le_refl _))⟩
    have hb : b < hp.objs.size := Heap.lt_size e
    rw [PyProof.Rows.sortedHeap_old (Nat.ne_of_lt hb) (by rw [size_push']; exact Nat.lt_succ_of_lt hb)]
    exact Heap.get?_push_of_some _ e
end K68
end

section
/-! K68Pool: a list that is written while all else is kept; comprehensions with any turns. -/
namespace K68
open PySem PySem.Spec PyProof.Rows L2
/-- all but p -/
def rm (p : Addr) (H : Hp) : Hp := fun b => if b = p then none else H b
section
variable {T : Addr × Str} {K : PySem.W.Frag} {σ : L2.St} {Hb Hb' Hb1 Hc Hc' H H1 H2 : Hp} {te ta tb : TE} {tt : TT} {tA : TA} {wi : TI} {g : TG} {n : Nat} {js : List Nat} {rs : Nat → List Da} {p q : Addr} {o u : HO}
theorem rm_ne {b : Addr} (h : b ≠ p) : rm p H b = H b := by unfold rm; rw [if_neg h]
theorem rm_same : rm p H p = none := by unfold rm; rw [if_pos rfl]
theorem rm_upd : rm p (upd H p o) = rm p H := by
  funext b
  by_cases h : b = p
  · rw [h, rm_same, rm_same]
  · rw [rm_ne h, rm_ne h, upd_ne h]
theorem rm_of {b : Addr} (h : rm p H b = some o) : H b = some o := by
  by_cases e : b = p
  · rw [e, rm_same] at h
    cases h
  · rw [rm_ne e] at h
    exact h
theorem tabS_rm (t : LamX.TabS H T.1 T.2) (h : H p = some u) (l : Pl u) : LamX.TabS (rm p H) T.1 T.2 := by
  obtain ⟨ps, h1, h2, h3⟩ := t
  have nT : T.1 ≠ p := fun z => by
    rw [z, h] at h1
    cases h1
    exact l
  refine ⟨ps, by rw [rm_ne nT]; exact h1, h2, fun pos cv hc => ?_⟩
  obtain ⟨c, e1, e2⟩ := h3 pos cv hc
  have nc : c ≠ p := fun z => by
    rw [z, h] at e2
    exact l.code p T.2 (Option.some.inj e2)
  exact ⟨c, e1, by rw [rm_ne nc]; exact e2⟩
theorem tabS_unrm (t : LamX.TabS (rm p H) T.1 T.2) : LamX.TabS H T.1 T.2 := by
  obtain ⟨ps, h1, h2, h3⟩ := t
  refine ⟨ps, rm_of h1, h2, fun pos cv hc => ?_⟩
  obtain ⟨c, e1, e2⟩ := h3 pos cv hc
  exact ⟨c, e1, rm_of e2⟩
theorem Ex.unrm (e : Ex T Hb (rm p H)) : Ex T Hb H := ⟨fun b o h n => rm_of (e.keep b o h n), fun b h z => e.dom b h (by
  by_cases hb : b = p
  · rw [hb, rm_same]
  · rw [rm_ne hb]
    exact z), e.t1, tabS_unrm e.t2⟩
theorem Ex.cut (e : Ex T Hb H) (hb : Hb p = Option.none) (h : H p = some u) (l : Pl u) : Ex T Hb (rm p H) := ⟨fun b o z n => by
  rw [rm_ne (ne_of_none z hb)]
  exact e.keep b o z n, fun b z => by
  rw [rm_ne (fun q => z (by rw [q]; exact hb))]
  exact e.dom b z, e.t1, tabS_rm e.t2 h l⟩
theorem Stp.cut (s : Stp T Hb Hc Hb' Hc') (hb : Hb p = none) (h : Hc p = some u) (l : Pl u) (mu : Mu u) : Stp T Hb (rm p Hc) Hb' (rm p Hc') := by
  have h' := s.kept h l
  refine ⟨s.e1, s.e2.cut (s.hidden hb h mu) h' l, ⟨fun b o z n => ?_, fun b z => ?_, tabS_rm s.e3.t1 h l, tabS_rm s.e3.t2 h' l⟩, fun b o h1 h2 m => ?_⟩
  · have nb : b ≠ p := fun q => by rw [q, rm_same] at z; cases z
    rw [rm_ne nb] at z ⊢
    exact s.e3.keep b o z n
  · have nb : b ≠ p := fun q => z (by rw [q, rm_same])
    rw [rm_ne nb] at z ⊢
    exact s.e3.dom b z
  · have nb : b ≠ p := fun q => by rw [q, rm_same] at h2; cases h2
    rw [rm_ne nb] at h2
    exact s.hid b o h1 h2 m
/-- the pool -/
def PoolAt (H : Hp) (p : Addr) : Prop := ∃ g n : Int, H p = some (.lst [.int g, .int n]) ∧ 0 ≤ n ∧ n < 2 ^ 31
theorem PoolAt.kept (h : PoolAt Hc p) (s : Ex T Hc Hc') : PoolAt Hc' p := by
  obtain ⟨g, n, h1, h2, h3⟩ := h
  exact ⟨g, n, s.at h1 True.intro, h2, h3⟩
theorem PoolAt.pl (h : PoolAt Hc p) : ∃ u, Hc p = some u ∧ Pl u ∧ Mu u := by
  obtain ⟨g, n, h1, h2, h3⟩ := h
  exact ⟨_, h1, True.intro, True.intro⟩
theorem PoolAt.mk {g n : Int} (h2 : 0 ≤ n) (h3 : n < 2 ^ 31) : PoolAt (upd H p (.lst [.int g, .int n])) p := ⟨g, n, upd_same, h2, h3⟩
/-- a step that may write the pool: S holds of all else -/
structure PSt (T : Addr × Str) (p : Addr) (Hb H Hb' H' : Hp) : Prop where
  st : Stp T Hb (rm p H) Hb' (rm p H')
  po : PoolAt H' p
  nb : Hb' p = none
theorem PSt.refl (e : Ex T Hb H) (h : PoolAt H p) (nb : Hb p = none) : PSt T p Hb H Hb H := by
  obtain ⟨u, h1, h2, h3⟩ := h.pl
  exact ⟨.refl (e.cut nb h1 h2), h, nb⟩
theorem PSt.step (a : PSt T p Hb H Hb1 H1) (s : Stp T Hb1 H1 Hb' H2) : PSt T p Hb H Hb' H2 := by
  obtain ⟨u, h1, h2, h3⟩ := a.po.pl
  exact ⟨a.st.trans (s.cut a.nb h1 h2 h3), a.po.kept s.e3, s.hidden a.nb h1 h3⟩
theorem PSt.take {g n : Int} (a : PSt T p Hb H Hb1 H1) (h2 : 0 ≤ n) (h3 : n < 2 ^ 31) : PSt T p Hb H Hb1 (upd H1 p (.lst [.int g, .int n])) := ⟨by rw [rm_upd]; exact a.st, .mk h2 h3, a.nb⟩
theorem PSt.trans {Hb2 : Hp} (a : PSt T p Hb H Hb1 H1) (b : PSt T p Hb1 H1 Hb2 H2) : PSt T p Hb H Hb2 H2 := ⟨a.st.trans b.st, b.po, b.nb⟩
theorem PSt.e2 (a : PSt T p Hb H Hb1 H1) : Ex T Hb1 H1 := a.st.e2.unrm
theorem PSt.e1 (a : PSt T p Hb H Hb1 H1) : Ex T Hb Hb1 := a.st.e1
/-- a list of one's own stands -/
theorem PSt.kept (a : PSt T p Hb H Hb1 H1) (hq : q ≠ p) (h : H q = some o) (l : Pl o) : H1 q = some o := by
  have : rm p H q = some o := by rw [rm_ne hq]; exact h
  exact rm_of (a.st.kept this l)
theorem PSt.hidden (a : PSt T p Hb H Hb1 H1) (hq : q ≠ p) (hb : Hb q = none) (h : H q = some o) (m : Mu o := by exact True.intro) : Hb1 q = none := a.st.hidden hb (by rw [rm_ne hq]; exact h) m
/-- one's own list changes -/
theorem PSt.mut (a : PSt T p Hb H Hb1 H1) (hq : q ≠ p) (h0 : H q = none) (hb : Hb1 q = none) (hc : H1 q = some u) (l : Pl u) : PSt T p Hb H Hb1 (upd H1 q o) := by
  have e : rm p (upd H1 q o) = upd (rm p H1) q o := by
    funext b
    by_cases h : b = p
    · rw [h, rm_same, upd_ne (fun z => hq z.symm), rm_same]
    · by_cases h2 : b = q
      · rw [h2, rm_ne hq, upd_same, upd_same]
      · rw [rm_ne h, upd_ne h2, upd_ne h2, rm_ne h]
  refine ⟨?_, ?_, a.nb⟩
  · rw [e]
    exact a.st.mut (by rw [rm_ne hq]; exact h0) hb (by rw [rm_ne hq]; exact hc) l
  · obtain ⟨g, n, h1, h2, h3⟩ := a.po
    exact ⟨g, n, by rw [upd_ne (fun z => hq z.symm)]; exact h1, h2, h3⟩
theorem PSt.tell (a : PSt T p Hb H Hb1 H1) (hq : q ≠ p) (h0 : H q = none) (hb : Hb1 q = none) (hc : H1 q = some o) : PSt T p Hb H (upd Hb1 q o) H1 :=
  ⟨a.st.tell (by rw [rm_ne hq]; exact h0) hb (by rw [rm_ne hq]; exact hc), a.po, by rw [upd_ne (fun z => hq z.symm)]; exact a.nb⟩
theorem PSt.fresh (a : PSt T p Hb H Hb1 H1) (hq : q ≠ p) (h : H1 q = none) : H q = none := by
  have := a.st.fresh (q := q) (by rw [rm_ne hq]; exact h)
  rw [rm_ne hq] at this
  exact this
/-- back to what the whole heap is, the pool one's own since the start -/
theorem PSt.whole (a : PSt T p Hb H Hb1 H1) {H0b H0 : Hp} (S : Stp T H0b H0 Hb H) (h0 : H0 p = none) : Stp T H0b H0 Hb1 H1 := by
  refine ⟨S.e1.trans a.e1, a.e2, ⟨fun b o h n => ?_, fun b h => ?_, S.e3.t1, a.e2.t2⟩, fun b o h1 h2 m => ?_⟩
  · have nb : b ≠ p := ne_of_none h h0
    have := a.st.e3.keep b o (by rw [rm_ne nb]; exact S.e3.keep b o h n) n
    exact rm_of this
  · have nb : b ≠ p := fun z => h (by rw [z]; exact h0)
    have := a.st.e3.dom b (by rw [rm_ne nb]; exact S.e3.dom b h)
    rw [rm_ne nb] at this
    exact this
  · have nb : b ≠ p := ne_of_none h2 h0
    exact a.st.hid b o (S.hid b o h1 h2 m) (by rw [rm_ne nb]; exact S.e3.keep b o h2 m.tbl) m
theorem PSt.own (a : PSt T p Hb H Hb1 H1) (hq : H1 q = none) : PSt T p Hb H Hb1 (upd H1 q o) ∧ q ≠ p ∧ H q = none ∧ Hb1 q = none := by
  have nq : q ≠ p := fun z => by
    obtain ⟨u, h1, _⟩ := a.po.pl
    rw [z, h1] at hq
    cases hq
  have e1 : rm p (upd H1 q o) = upd (rm p H1) q o := by
    funext b
    by_cases h : b = p
    · rw [h, rm_same, upd_ne (fun z => nq z.symm), rm_same]
    · by_cases h2 : b = q
      · rw [h2, rm_ne nq, upd_same, upd_same]
      · rw [rm_ne h, upd_ne h2, upd_ne h2, rm_ne h]
  refine ⟨⟨?_, ?_, a.nb⟩, nq, a.fresh nq hq, a.e2.none hq⟩
  · rw [e1]
    exact a.st.own (by rw [rm_ne nq]; exact hq)
  · obtain ⟨g, n, h1, h2, h3⟩ := a.po
    exact ⟨g, n, by rw [upd_ne (fun z => nq z.symm)]; exact h1, h2, h3⟩
/-- a new object, told -/
theorem PSt.new (a : PSt T p Hb H Hb1 H1) (hq : H1 q = none) : PSt T p Hb H (upd Hb1 q o) (upd H1 q o) := by
  obtain ⟨b, nq, f, n⟩ := a.own (o := o) hq
  exact b.tell nq f n upd_same
/-- all is told that one may tell -/
theorem PSt.all (a : PSt T p Hb H Hb1 H1) (e : Ex T Hb H) (hp : PoolAt H p) : ∃ Hb2, PSt T p Hb H Hb2 H1 ∧ Ex T Hb1 Hb2 ∧ ∀ b o, H1 b = some o → (∀ o', H b = some o' → ¬ Mu o') → Hb2 b = some o := by
  classical
  obtain ⟨u, hu, hu2, hu3⟩ := hp.pl
  have hbp : Hb p = none := by
    cases h : Hb p with
    | none => rfl
    | some o => exact absurd (a.e1.dom p (by rw [h]; exact Option.some_ne_none o)) (by rw [a.nb]; exact fun z => z rfl)
  let bad : Addr → Prop := fun b => Hb b = none ∧ ∃ o, H b = some o ∧ Mu o
  let H2 : Hp := fun b => if bad b then none else H1 b
  have h2 : ∀ b, ¬ bad b → H2 b = H1 b := fun b h => if_neg h
  have h2s : ∀ b o, H2 b = some o → H1 b = some o ∧ ¬ bad b := fun b o h => by
    by_cases z : bad b
    · rw [show H2 b = none from if_pos z] at h
      cases h
    · exact ⟨(h2 b z).symm.trans h, z⟩
  have bp : bad p := ⟨hbp, u, hu, hu3⟩
  have nbT : ∀ b ps, H1 b = some (.tbl ps) → ∀ o, H b = some o → ¬ Mu o := fun b ps h1 o h m => by
    have nb : b ≠ p := fun z => by
      obtain ⟨u', q1, q2, _⟩ := a.po.pl
      rw [z, q1] at h1
      cases h1
      exact q2
    have := rm_of (a.st.e3.keep b o (by rw [rm_ne nb]; exact h) m.tbl)
    rw [h1] at this
    cases this
    exact m
  have nb1 : ∀ b, Hb1 b ≠ none → ¬ bad b := fun b h ⟨z1, o, z2, z3⟩ => by
    by_cases e1 : b = p
    · rw [e1] at h
      exact h a.nb
    · exact h (a.st.hid b o z1 (by rw [rm_ne e1]; exact z2) z3)
  have t1 := a.e2.t2
  have tb : LamX.TabS H2 T.1 T.2 := by
    obtain ⟨ps, q1, q2, q3⟩ := t1
    refine ⟨ps, by rw [h2 _ fun ⟨_, o, z2, z3⟩ => nbT _ _ q1 o z2 z3]; exact q1, q2, fun pos cv hc => ?_⟩
    obtain ⟨c, w1, w2⟩ := q3 pos cv hc
    refine ⟨c, w1, ?_⟩
    have nbad : ¬ bad c := fun ⟨_, o, z2, z3⟩ => by
      have nb : c ≠ p := fun z => by
        obtain ⟨u', k1, k2, _⟩ := a.po.pl
        rw [z, k1] at w2
        exact k2.code p T.2 (Option.some.inj w2)
      have hk := rm_of (a.st.e3.keep c o (by rw [rm_ne nb]; exact z2) z3.tbl)
      rw [w2] at hk
      rw [← Option.some.inj hk] at z3
      exact z3
    rw [h2 c nbad]
    exact w2
  have ex1 : Ex T Hb1 H2 := ⟨fun b o h n => by rw [h2 b (nb1 b (by rw [h]; exact Option.some_ne_none o))]; exact a.e2.keep b o h n, fun b h => by rw [h2 b (nb1 b h)]; exact a.e2.dom b h, a.e2.t1, tb⟩
  refine ⟨H2, ⟨⟨a.e1.trans ex1, ⟨fun b o h n => ?_, fun b h => ?_, tb, a.st.e2.t2⟩, a.st.e3, fun b o h1 h3 m => ?_⟩, a.po, if_pos bp⟩, ex1, fun b o h1 h3 => ?_⟩
  · obtain ⟨q1, q2⟩ := h2s b o h
    rw [rm_ne (fun z => q2 (by rw [z]; exact bp))]
    exact q1
  · have nb : ¬ bad b := fun z => h (if_pos z)
    rw [rm_ne (fun z => nb (by rw [z]; exact bp)), ← h2 b nb]
    exact h
  · exact if_pos ⟨h1, o, rm_of h3, m⟩
  · rw [h2 b fun ⟨_, o', z2, z3⟩ => h3 o' z2 z3, h1]
/-! ### comprehensions with any turns -/
def Nxt (T : Addr × Str) (Hb1 : Hp) (J : List V → Hp → Hp → Prop) (H : Hp) : Prop := ∃ acc Hb3, Ex T Hb1 Hb3 ∧ Ex T Hb3 H ∧ J acc Hb3 H
theorem lc_any {ws : List Nat} {Q : VK} (src : SrcAt T wi g σ Hb Hc n js rs) (J : Addr → Nat → List V → Hp → Hp → Prop)
    (h0 : ∀ D Hb1 Hc1, Stp T Hb Hc Hb1 Hc1 → Hc1 D = none → J D 0 [] Hb1 (upd Hc1 D (.lst [])))
    (hs : ∀ D i acc Hb1 H1 vs Hb2 H2, i < n → Ex T Hb Hb1 → Ex T Hb1 H1 → J D i acc Hb1 H1 → Stp T Hb1 H1 Hb2 H2 → AtL Hb2 (rs i) vs →
      wipe (sets (wipe σ ws) js vs) ws = wipe σ ws ∧ tt (sets (wipe σ ws) js vs) H2 (fun b H3 => if b = true then te (sets (wipe σ ws) js vs) H3 (fun y H4 => ∃ acc', H4 D = some (.lst acc') ∧ acc'.length < sizeLine ∧ Nxt T Hb1 (J D (i + 1)) (upd H4 D (.lst (acc' ++ [y]))))
        else Nxt T Hb1 (J D (i + 1)) H3))
    (hd : ∀ D acc Hb1 H1, Ex T Hb Hb1 → Ex T Hb1 H1 → J D n acc Hb1 H1 → Q (.ref D) H1) : tLc wi g tt te ws σ Hc Q := src _ fun J' Hb2 Hc2 s1 G D hD => by
  refine ⟨fun i m H => m = n - i ∧ i ≤ n ∧ ∃ acc Hb', Ex T Hb2 Hb' ∧ Ex T Hb' H ∧ J D i acc Hb' H, ⟨n, rfl, Nat.zero_le _, [], Hb2, .refl s1.e1.t2, s1.e2.trans (.new s1.e2.t2 hD), h0 D Hb2 Hc2 s1 hD⟩, ?_⟩
  rintro i m H ⟨rfl, hi, acc, Hb', x1, x2, hJ⟩
  obtain ⟨g1, g2⟩ := G i Hb' H x1 x2
  by_cases hlt : i < n
  · obtain ⟨go, step⟩ := g1 hlt
    refine .inr ⟨go, Nxt T Hb' (J D (i + 1)), fun H' ⟨acc2, Hb3, y1, y2, y3⟩ => ⟨n - (i + 1), by omega, rfl, hlt, acc2, Hb3, x1.trans y1, y2, y3⟩, fun x H' y => ?_⟩
    refine step x H' y _ _ fun vs Hb5 Hc5 s5 a5 => ?_
    exact hs D i acc Hb' H vs Hb5 Hc5 hlt (s1.e1.trans x1) x2 hJ s5 a5
  · have e : i = n := by omega
    subst e
    exact .inl ⟨g2 rfl, hd D acc Hb' H (s1.e1.trans x1) x2 hJ⟩
end
end K68
end

section
namespace K68
open PySem PySem.Spec PyProof.Rows L2
section
variable {P : Program} {w : World} {K : PySem.W.Frag} {mg : Str → Option Value} {base : Heap} {T : Addr × Str}
/-! ### _law_take -/
abbrev s__law_take : Stmt := topS 39
abbrev n__law_take : List Str := ["_law_pool_here", "_law_many", "_law_found"]
theorem sc__law_take : FnScope n__law_take ["_law_pool_here", "_law_many"] (defScope s__law_take) := ⟨rfl, rfl, rfl, by decide +kernel, rfl, by decide +kernel, by decide +kernel⟩
/-- a number below m; the pool alone is written -/
def spTake : Sp := fun vs H Q _ => ∃ (p : Addr) (m : Int), vs = [.ref p, .int m] ∧ 1 ≤ m ∧ m ≤ 1000 ∧ PoolAt H p ∧ ∀ r g n : Int, 0 ≤ r → r < m → 0 ≤ n → n < 2 ^ 31 → Q (.int r) (upd H p (.lst [.int g, .int n]))
theorem ok__law_take (D : Df K mg "_law_take" s__law_take) : Cal P w K mg base "_law_take" 1 ["_law_pool_here", "_law_many"] spTake := by
  refine mk_cal D sc__law_take (fun vs H Q E ⟨p, m, h, _⟩ => by rw [h]; rfl) (fun _ _ _ _ _ _ us hl => match us, hl with | [_, _], _ => rfl) fun f cdv Ar outer s H vs Q E hr hsp => ?_
  obtain ⟨p, m, rfl, h1, h2, ⟨g, n, hp, n0, n1⟩, q⟩ := hsp
  have nd := sc__law_take.nd
  refine ⟨_, (pss_cons (ps_if (pt_cmpR op_gt (pe_ix (r := rIxL K) ix_list (pv 0) pe_int (fun _ _ => rfl)) pe_int (nomark _)) (pss_cons (ps_set (i := 2) nd rfl (Or.inl rfl) (pe_op op_mod (pe_ix (r := rIxL K) ix_list (pv 0) pe_int (fun _ _ => rfl)) (pv 1)))
      (pss_cons (ps_asg (pe_op op_fdiv (pe_ix (r := rIxL K) ix_list (pv 0) pe_int (fun _ _ => rfl)) (pv 1)) (pg_sub (pv 0) pe_int set_list))
      (pss_one (ps_ret (pv 2))))) pss_nil)
      (pss_cons (ps_asg (pe_op op_mod (pe_op op_add (pe_op op_mulW (pe_ix (r := rIxL K) ix_list (pv 0) pe_int (fun _ _ => rfl)) pe_int) pe_int) pe_int) (pg_sub (pv 0) pe_int set_list))
      (pss_one (ps_ret (pe_op op_mod (pe_op op_fdiv (pe_op op_mod (pe_op op_mulW (pe_ix (r := rIxL K) ix_list (pv 0) pe_int (fun _ _ => rfl)) (pe_ix (r := rIxL K) ix_list (pv 0) pe_int (fun _ _ => rfl))) pe_int) pe_int) (pv 1)))))), ?_⟩
  refine ⟨.ref p, rfl, p, _, 0, .int g, rfl, rfl, sqL hp, rfl, g, 0, rfl, rfl, decide (0 < g), rfl, ?_⟩
  by_cases hg : 0 < g
  · rw [decide_eq_true hg]
    refine ⟨.ref p, rfl, p, _, 0, .int g, rfl, rfl, sqL hp, rfl, .int m, rfl, g, m, rfl, rfl, (show 0 < m by omega), ?_⟩
    refine ⟨.ref p, rfl, p, _, 0, .int g, rfl, rfl, sqL hp, rfl, .int m, rfl, g, m, rfl, rfl, ⟨by omega, by omega⟩, ?_⟩
    refine ⟨.ref p, rfl, p, _, 0, 0, rfl, rfl, hp, rfl, ?_⟩
    exact ⟨.int (g % m), rfl, q _ _ _ (Int.emod_nonneg _ (by omega)) (Int.emod_lt_of_pos _ (by omega)) n0 n1⟩
  · rw [decide_eq_false hg]
    have c1 : CMulW n 48271 := wide_mul (a := 40) (b := 40) (by omega) (by decide) (by decide) (by decide) (by decide)
    refine ⟨.ref p, rfl, p, _, 1, .int n, rfl, rfl, sqL hp, rfl, n, 48271, rfl, rfl, c1, _, 11, rfl, rfl, _, 2147483647, rfl, rfl, (show (0 : Int) < 2147483647 by decide), ?_⟩
    have n2 : 0 ≤ (n * 48271 + 11) % 2147483647 := Int.emod_nonneg _ (by decide)
    have n3 : (n * 48271 + 11) % 2147483647 < 2147483647 := Int.emod_lt_of_pos _ (by decide)
    refine ⟨.ref p, rfl, p, _, 1, 1, rfl, rfl, hp, rfl, ?_⟩
    have hp' : (upd H p (.lst ([V.int g, .int n].set 1 (.int ((n * 48271 + 11) % 2147483647))))) p = some (.lst [.int g, .int ((n * 48271 + 11) % 2147483647)]) := upd_same
    have c2 : CMulW ((n * 48271 + 11) % 2147483647) ((n * 48271 + 11) % 2147483647) := wide_mul (a := 40) (b := 40) (by omega) (by omega) (by decide) (by decide) (by decide)
    refine ⟨.ref p, rfl, p, _, 1, .int ((n * 48271 + 11) % 2147483647), rfl, rfl, sqL hp', rfl, .ref p, rfl, p, _, 1, .int ((n * 48271 + 11) % 2147483647), rfl, rfl, sqL hp', rfl, ((n * 48271 + 11) % 2147483647), ((n * 48271 + 11) % 2147483647), rfl, rfl, c2, _, 2147483629, rfl, rfl, (show (0 : Int) < 2147483629 by decide), _, 16, rfl, rfl, (show (0 : Int) < 16 ∧ (16 : Int) < 1073741824 from ⟨by decide, by decide⟩), .int m, rfl, _, m, rfl, rfl, (show 0 < m by omega), ?_⟩
    exact q _ _ _ (Int.emod_nonneg _ (by omega)) (Int.emod_lt_of_pos _ (by omega)) n2 (by omega)
/-! ### _law_pool -/
abbrev s__law_pool : Stmt := topS 38
abbrev n__law_pool : List Str := ["_law_script", "_law_k", "_law_cell", "_law_number", "_law_great"]
theorem sc__law_pool : FnScope n__law_pool ["_law_script", "_law_k"] (defScope s__law_pool) := ⟨rfl, rfl, rfl, by decide +kernel, rfl, by decide +kernel, by decide +kernel⟩
/-- a new pool -/
def spPool (T : Addr × Str) (K : PySem.W.Frag) : Sp := fun vs H Q _ => ∃ (Hb : Hp) (a : Addr) (k : Nat) (ns : List Int), vs = [.ref a, vn k] ∧ Ex T Hb H ∧ SqL K H a (ns.map V.int) ∧ k ≤ 1000 ∧ ∀ p H', Stp T Hb H Hb H' → H p = none → Hb p = none → PoolAt H' p → Q (.ref p) H'
theorem SqL.ex {a : Addr} {xs : List V} {H H' : Hp} (h : SqL K H a xs) (e : Ex T H H') : SqL K H' a xs := by
  rcases h with (h | ⟨o, h⟩) | h
  · exact .inl (.inl (e.at h True.intro))
  · exact .inl (.inr ⟨o, e.keep _ _ h fun ps z => by cases z⟩)
  · exact .inr h
theorem ok__law_pool (D : Df K mg "_law_pool" s__law_pool) (m_max : mg "max" = none) (m_len : mg "len" = none) : Cal P w K mg base "_law_pool" 1 ["_law_script", "_law_k"] (spPool T K) := by
  refine mk_cal D sc__law_pool (fun vs H Q E ⟨Hb, a, k, ns, h, _⟩ => by rw [h]; rfl) (fun _ _ _ _ _ _ us hl => match us, hl with | [_, _], _ => rfl) fun f cdv Ar outer s H vs Q E hr hsp => ?_
  obtain ⟨Hb, a, k, ns, rfl, e, hs, hk, q⟩ := hsp
  have nd := sc__law_pool.nd
  refine ⟨_, (pss_cons (ps_set (i := 2) nd rfl (Or.inl rfl) pe_int)
      (pss_cons (ps_if (pt_cmpR op_lt (pv 1) (pe_callB (r := rLen K) call_len_seq (by rfl) m_len PySem.boot_len (pa_cons (pv 0) pa_nil)) (nomark _)) (pss_one (ps_set (i := 2) nd rfl (Or.inl rfl) (pe_ix (r := rIxL K) ix_list (pv 0) (pv 1) (fun _ _ => rfl)))) pss_nil)
      (pss_cons (ps_set (i := 3) nd rfl (Or.inl rfl) (pe_op op_mod (pe_op op_add (pe_op op_add (pe_op op_add (pe_callB (r := rMax2) (call_max2 rfl) (by rfl) m_max (by decide +kernel) (pa_cons (pv 2) (pa_cons (pe_op op_sub (pe_un un_neg pe_int) (pv 2)) pa_nil))) (pe_op op_mulW (pe_op op_mulW pe_int (pv 1)) (pv 1))) (pe_op op_mulW pe_int (pv 1))) pe_int) pe_int))
      (pss_cons (ps_set (i := 4) nd rfl (Or.inl rfl) pe_int)
      (pss_cons (ps_if (pt_cmpR op_ge (pv 2) (pe_op op_pow pe_int pe_int) (nomark _)) (pss_one (ps_set (i := 4) nd rfl (Or.inl rfl) (pv 2))) pss_nil)
      (pss_one (ps_ret (pe_lst (pa_cons (pv 4) (pa_cons (pe_op op_mod (pe_op op_mulW (pv 3) pe_int) pe_int) pa_nil)))))))))), ?_⟩
  -- the cell
  have rest : ∀ c : Int, (tSeq (tAsg (tOp (rI (fun _ j => 0 < j) fun i j => .int (i % j)) (tOp (rI0 fun i j => .int (i + j)) (tOp (rI0 fun i j => .int (i + j)) (tOp (rI0 fun i j => .int (i + j)) (tCB rMax2 (tCons (tVar 2) (tCons (tOp (rI0 fun i j => .int (i - j)) (tUn (rU fun i => .int (-i)) (tC (.int 1))) (tVar 2)) tNil))) (tOp (rI CMulW fun i j => .int (i * j)) (tOp (rI CMulW fun i j => .int (i * j)) (tC (.int 7919)) (tVar 1)) (tVar 1))) (tOp (rI CMulW fun i j => .int (i * j)) (tC (.int 104729)) (tVar 1))) (tC (.int 17))) (tC (.int 2147483629))) (gName 3))
      (tSeq (tAsg (tC (.int 0)) (gName 4)) (tSeq (tIfS (tTest (tOp (rI0 fun i j => .bl (decide (j ≤ i))) (tVar 2) (tOp (rI CPow fun i j => .int (i ^ j.toNat)) (tC (.int 10)) (tC (.int 18))))) (tAsg (tVar 2) (gName 4)) tNext) (tRet (tLst (tCons (tVar 4) (tCons (tOp (rI (fun _ j => 0 < j) fun i j => .int (i % j)) (tOp (rI CMulW fun i j => .int (i * j)) (tVar 3) (tC (.int 48271))) (tC (.int 2147483647))) tNil)))))))
      { nx := fun _ H' => Q .non H', rt := Q } [some (.ref a), some (vn k), some (.int c), none, none] H := fun c => by
    have hc : ∀ {x3 x4 : Option V}, EvD T (tVar 2) [some (.ref a), some (vn k), some (.int c), x3, x4] Hb (dI c) := ev_var rfl rfl
    have hkk : ∀ {x3 x4 : Option V}, EvD T (tVar 1) [some (.ref a), some (vn k), some (.int c), x3, x4] Hb (dI ((k : Nat) : Int)) := ev_var rfl rfl
    have b1 : CMulW 7919 (k : Int) := wide_mul (a := 40) (b := 40) (by decide) (by omega) (by decide) (by decide) (by decide)
    have b2 : CMulW (7919 * (k : Int)) (k : Int) := wide_mul (a := 40) (b := 40) (by omega) (by omega) (by decide) (by decide) (by decide)
    have b3 : CMulW 104729 (k : Int) := wide_mul (a := 40) (b := 40) (by decide) (by omega) (by decide) (by decide) (by decide)
    refine q_asg (ev_op (ev_op (ev_op (ev_op (ev_cb (ea_cons hc (ea_cons (ev_op (ev_neg ev_c) hc rv_I0) ea_nil)) cv_max2) (ev_op (ev_op ev_c hkk (rv_I b1)) hkk (rv_I b2)) rv_I0) (ev_op ev_c hkk (rv_I b3)) rv_I0) ev_c rv_I0) ev_c (rv_I (by decide))) e fun x3 Hb1 H1 s1 a3 => ?_
    obtain ⟨y, hy, y0, y1⟩ : ∃ y : Int, x3 = .int y ∧ 0 ≤ y ∧ y < 2147483629 := ⟨_, a3, Int.emod_nonneg _ (by decide), Int.emod_lt_of_pos _ (by decide)⟩
    subst hy
    refine q_asg (d := dI 0) ev_c s1.e2 fun x4 Hb2 H2 s2 a4 => ?_
    have a4 : x4 = .int 0 := a4
    subst a4
    have S2 := s1.trans s2
    have b4 : CMulW y 48271 := wide_mul (a := 40) (b := 40) (by omega) (by decide) (by decide) (by decide) (by decide)
    have fin : ∀ (gr : Int) Hb3 H3, Stp T Hb H Hb3 H3 → tRet (tLst (tCons (tVar 4) (tCons (tOp (rI (fun _ j => 0 < j) fun i j => .int (i % j)) (tOp (rI CMulW fun i j => .int (i * j)) (tVar 3) (tC (.int 48271))) (tC (.int 2147483647))) tNil))) { nx := fun _ H' => Q .non H', rt := Q } [some (.ref a), some (vn k), some (.int c), some (.int y), some (.int gr)] H3 := fun gr Hb3 H3 S3 => by
      refine (en_lst (Hb := Hb3) (ds := [dI gr, dI (y * 48271 % 2147483647)]) (ea_cons (ev_var rfl rfl) (ea_cons (ev_op (ev_op (dx := dI y) (ev_var rfl rfl) ev_c (rv_I b4)) ev_c (rv_I (by decide))) ea_nil)) (show 2 ≤ 100000 by decide)) Hb3 H3 (.refl S3.e1.t2) S3.e2 _ fun p us Hb4 H4 s4 f4 n4 c4 a4 => ?_
      have hus := AtL.flat_eq (xs := [.int gr, .int (y * 48271 % 2147483647)]) a4
      subst hus
      refine q p H4 ((S3.trans s4).drop e) (S3.fresh f4) (S3.e1.none (s4.e1.none n4)) ⟨gr, _, c4, Int.emod_nonneg _ (by decide), ?_⟩
      have := Int.emod_lt_of_pos (y * 48271) (show (0 : Int) < 2147483647 by decide)
      omega
    refine q_if (et_test (ev_op (dx := dI c) (ev_var rfl rfl) (ev_op ev_c ev_c (rv_I ⟨by decide, by decide, by decide⟩)) rv_I0)) S2.e2 (fun hb Hb3 H3 s3 => ?_) (fun hb Hb3 H3 s3 => ?_)
    · refine s_asg (d := dI c) (ev_var rfl rfl) s3.e2 fun x5 Hb4 H4 s4 a5 => ?_
      have a5 : x5 = .int c := a5
      subst a5
      exact fin c Hb4 H4 ((S2.trans s3).trans s4)
    · exact fin 0 Hb3 H3 (S2.trans s3)
  refine ⟨vn k, rfl, .ref a, rfl, a, ns.map V.int, rfl, .inl hs, (k : Int), ((ns.map V.int).length : Int), rfl, rfl, decide ((k : Int) < ((ns.map V.int).length : Int)), rfl, ?_⟩
  by_cases hl : (k : Int) < ((ns.map V.int).length : Int)
  · rw [decide_eq_true hl]
    have hl2 : k < ns.length := by rw [List.length_map] at hl; omega
    refine ⟨.ref a, rfl, vn k, rfl, a, ns.map V.int, (k : Int), .int ns[k], rfl, rfl, hs, ?_, ?_⟩
    · show (ixN (ns.map V.int).length (k : Int)).bind (fun j => (ns.map V.int)[j]?) = _
      rw [ixN_nat (by rw [List.length_map]; exact hl2)]
      show (ns.map V.int)[k]? = _
      rw [List.getElem?_map, List.getElem?_eq_getElem hl2]
      rfl
    · exact rest ns[k]
  · rw [decide_eq_false hl]
    exact rest 0
end
end K68
end

section
namespace K68
open PySem PySem.Spec PyProof.Rows L2
section
variable {P : Program} {w : World} {K : PySem.W.Frag} {mg : Str → Option Value} {base : Heap} {T : Addr × Str}
theorem te_take {σ : L2.St} {H : Hp} {p : Addr} {i m : Nat} {tb : TE} {E : XK} {Q : VK} (hp : PoolAt H p) (hx : σ[i]? = some (some (.ref p))) (hm : ∀ Q' : VK, Q' (vn m) H → tb σ H Q') (h1 : 1 ≤ m) (h2 : m ≤ 1000)
    (k : ∀ (r : Nat) (g n : Int), r < m → 0 ≤ n → n < 2 ^ 31 → Q (vn r) (upd H p (.lst [.int g, .int n]))) : tCall spTake [] E (tCons (tVar i) (tCons tb tNil)) σ H Q := by
  refine ⟨.ref p, hx, hm _ ⟨p, (m : Int), rfl, by omega, by omega, hp, fun r g n r0 r1 n0 n1 => ?_⟩⟩
  have := k r.toNat g n (by omega) n0 n1
  unfold vn at this
  rw [Int.toNat_of_nonneg r0] at this
  exact this
theorem pe_toK {X : Cx} {Kx : PySem.W.Frag} {e : Expr} {B : String} {r : V → List V → Hp → VK → Prop} {to : TE} {t : TA} (hk : X.K = Kx) (h : PE X e (tBM X.K B r to t)) : PE X e (tBM Kx B r to t) := hk ▸ h
theorem q_raw {σ : L2.St} {i : Nat} {te : TE} {tz : TS} {D : Ends} {Hc : Hp} (R : V → Hp → Prop) (h : ∀ Q : VK, (∀ x H', R x H' → Q x H') → te σ Hc Q) (k : ∀ x H', R x H' → tz D (σ.set i (some x)) H') : tSeq (tAsg te (gName i)) tz D σ Hc := h _ k
theorem erase_perm : ∀ (l : List Nat) (i : Nat) (h : i < l.length), (l[i] :: l.eraseIdx i).Perm l
  | a :: l, 0, h => .refl _
  | a :: l, i + 1, h => by
    have hi : i < l.length := Nat.lt_of_succ_lt_succ h
    show (l[i] :: a :: l.eraseIdx i).Perm (a :: l)
    exact (List.Perm.swap a l[i] _).trans ((erase_perm l i hi).cons a)
theorem erase_map : ∀ (l : List Nat) (i : Nat), (l.map vn).eraseIdx i = (l.eraseIdx i).map vn
  | [], i => rfl
  | a :: l, 0 => rfl
  | a :: l, i + 1 => by
    show vn a :: (l.map vn).eraseIdx i = vn a :: (l.eraseIdx i).map vn
    rw [erase_map l i]
/-- range(e), e with what it writes -/
theorem for_rng {σ : L2.St} {j : Nat} {te : TE} {tu tz : TS} {D : Ends} {Hc : Hp} (R : Nat → Hp → Prop) (h : ∀ Q : VK, (∀ r H', R r H' → Q (vn r) H') → te σ Hc Q) (hr : ∀ r H', R r H' → r ≤ 100000)
    (k : ∀ r H' (wi : TI), R r H' → (∀ Hb, Ex T Hb H' → SrcAt T wi (gName j) σ Hb H' r [j] (fun i => [dn i])) → tSeq (tFor wi (gName j) tu) tz D σ H') : tSeq (tFor (iRng1 (tCons te tNil)) (gName j) tu) tz D σ Hc :=
  h _ fun r H' hR => ⟨(r : Int), rfl, by have := hr r H' hR; omega, by have := hr r H' hR; omega, k r H' (fun _ _ R => R (Itr 0 r) H') hR fun Hb e R q => q _ Hb H' (.refl e) fun i Hb3 Hc3 e3 e4 => ⟨fun hi => ⟨hi, fun x H4 y σ' Q kk => by
    obtain ⟨rfl, rfl⟩ := y
    rw [show ((0 : Int) + (i : Int)) = (i : Int) from Int.zero_add _]
    exact kk [.int (i : Int)] Hb3 H4 (.refl e4) (.cons rfl .nil)⟩, fun hi => Nat.le_of_eq hi.symm⟩⟩
theorem lc_rng {σ : L2.St} {j : Nat} {te0 te : TE} {tt : TT} {ws : List Nat} {Hc : Hp} {Q : VK} (R : Nat → Hp → Prop) (h : ∀ Q : VK, (∀ r H', R r H' → Q (vn r) H') → te0 σ Hc Q) (hr : ∀ r H', R r H' → r ≤ 100000)
    (k : ∀ r H' (wi : TI), R r H' → (∀ Hb, Ex T Hb H' → SrcAt T wi (gName j) σ Hb H' r [j] (fun i => [dn i])) → tLc wi (gName j) tt te ws σ H' Q) : tLc (iRng1 (tCons te0 tNil)) (gName j) tt te ws σ Hc Q :=
  h _ fun r H' hR => ⟨(r : Int), rfl, by have := hr r H' hR; omega, by have := hr r H' hR; omega, k r H' (fun _ _ R => R (Itr 0 r) H') hR fun Hb e R q => q _ Hb H' (.refl e) fun i Hb3 Hc3 e3 e4 => ⟨fun hi => ⟨hi, fun x H4 y σ' Q kk => by
    obtain ⟨rfl, rfl⟩ := y
    rw [show ((0 : Int) + (i : Int)) = (i : Int) from Int.zero_add _]
    exact kk [.int (i : Int)] Hb3 H4 (.refl e4) (.cons rfl .nil)⟩, fun hi => Nat.le_of_eq hi.symm⟩⟩
/-- tuples of numbers, told elsewhere -/
theorem atl_tups {H H' : Hp} : ∀ {ps : List (Int × Int)} {us : List V}, AtL H (ps.map dPr) us → (∀ b xs, H b = some (.tup xs) → H' b = some (.tup xs)) → AtL H' (ps.map dPr) us
  | [], us, h, _ => h
  | p :: ps, us, h, k => by
    obtain ⟨u, r, rfl, h1, h2⟩ := (show ∃ u r, us = u :: r ∧ (dPr p).At H u ∧ AtL H (ps.map dPr) r from h)
    obtain ⟨a, ws, rfl, h3, h4⟩ := (show ∃ a us, u = .ref a ∧ H a = some (.tup us) ∧ AtL H [dI p.1, dI p.2] us from h1)
    have h4 := AtL.flat_eq (xs := [.int p.1, .int p.2]) h4
    exact .cons ⟨a, ws, rfl, k a ws h3, by rw [h4]; exact AtL.flat [.int p.1, .int p.2]⟩ (atl_tups h2 k)
/-- pairs as keys -/
def ci (p : Nat × Nat) : Int × Int := (p.1, p.2)
theorem ci_inj {p q : Nat × Nat} (h : pkey (ci p) = pkey (ci q)) : p = q := by
  unfold pkey ci at h
  injection h with h1 h2
  injection h2 with h2 _
  have e1 : ((p.1 : Nat) : Int) = ((q.1 : Nat) : Int) := Sum.inl.inj h1
  have e2 : ((p.2 : Nat) : Int) = ((q.2 : Nat) : Int) := Sum.inl.inj h2
  exact Prod.ext (by omega) (by omega)
theorem put_keys {kvs : List (List L2.Key × V)} {ks : List (Nat × Nat)} {p : Nat × Nat} {v : V} (h : kvs.map (·.1) = ks.map fun q => pkey (ci q)) : (putK kvs (pkey (ci p)) v).map (·.1) = (if p ∈ ks then ks else ks ++ [p]).map fun q => pkey (ci q) := by
  have hany : (kvs.any fun kv => decide (kv.1 = pkey (ci p))) = decide (p ∈ ks) := by
    have e : (kvs.any fun kv => decide (kv.1 = pkey (ci p))) = (kvs.map (·.1)).any fun k => decide (k = pkey (ci p)) := by rw [List.any_map]; rfl
    rw [e, h, List.any_map]
    by_cases hm : p ∈ ks
    · rw [decide_eq_true hm]
      exact List.any_eq_true.mpr ⟨p, hm, decide_eq_true rfl⟩
    · rw [decide_eq_false hm]
      refine List.any_eq_false.mpr fun q hq z => hm ?_
      rw [← ci_inj (of_decide_eq_true z)]
      exact hq
  unfold putK
  rw [hany]
  by_cases hm : p ∈ ks
  · rw [decide_eq_true hm, if_pos rfl, if_pos hm, ← h, List.map_map]
    refine List.map_congr_left fun kv _ => ?_
    show (if kv.1 = pkey (ci p) then (kv.1, v) else kv).1 = kv.1
    split <;> rfl
  · rw [decide_eq_false hm, if_neg Bool.false_ne_true, if_neg hm, List.map_append, List.map_append, h]
    rfl
theorem ties_rise {ks : List (Nat × Nat)} (nd : ks.Nodup) (h : (ks.map ci).Pairwise fun x y => SrtO.lexB y x = false) : ks.Pairwise K68.ltP := by
  have h2 := (List.pairwise_map.mp h).and nd
  refine h2.imp fun {x y} hh => ?_
  obtain ⟨h3, h4⟩ := hh
  have h5 := SrtO.lexB_no.mp h3
  unfold ci at h5
  unfold K68.ltP
  by_cases e : x.1 = y.1
  · right
    refine ⟨e, ?_⟩
    rcases Nat.lt_trichotomy x.2 y.2 with z | z | z
    · exact z
    · exact absurd (Prod.ext e z) h4
    · exact absurd (.inr ⟨by show ((y.1 : Nat) : Int) = ((x.1 : Nat) : Int); omega, by show ((y.2 : Nat) : Int) < ((x.2 : Nat) : Int); omega⟩) h5
  · left
    rcases Nat.lt_trichotomy x.1 y.1 with z | z | z
    · exact z
    · exact absurd z e
    · exact absurd (.inl (by show ((y.1 : Nat) : Int) < ((x.1 : Nat) : Int); omega)) h5
/-! ### _law_web -/
abbrev s__law_web : Stmt := topS 40
abbrev n__law_web : List Str := ["_law_pool_here", "_law_most", "_law_more", "_law_many", "_law_names", "_law_order", "_law_k", "_law_pairs", "_law_ties", "_law_one", "_law_other"]
theorem sc__law_web : FnScope n__law_web ["_law_pool_here", "_law_most", "_law_more"] (defScope s__law_web) := ⟨rfl, rfl, rfl, by decide +kernel, rfl, by decide +kernel, by decide +kernel⟩
/-- a web is drawn -/
def spWeb (T : Addr × Str) : Sp := fun vs H Q _ => ∃ (Hb : Hp) (p : Addr) (m e : Nat), vs = [.ref p, vn m, vn e] ∧ Ex T Hb H ∧ PoolAt H p ∧ Hb p = none ∧ 1 ≤ m ∧ m ≤ 40 ∧ e ≤ 10 ∧
  ∀ (W : Web) (v : V) (Hb' H' : Hp), WebOk W → PSt T p Hb H Hb' H' → (dWeb W).At Hb' v → Q v H'
theorem ok__law_web (D : Df K mg "_law_web" s__law_web) (c__law_take : Cal P w K mg base "_law_take" 1 ["_law_pool_here", "_law_many"] spTake) (m_list : mg "list" = none) (m_range : mg "range" = none) (m_len : mg "len" = none) (m_min : mg "min" = none) (m_max : mg "max" = none) (m_sorted : mg "sorted" = none) :
    Cal P w K mg base "_law_web" 2 ["_law_pool_here", "_law_most", "_law_more"] (spWeb T) := by
  refine mk_cal D sc__law_web (fun vs H Q E ⟨_, _, _, _, h, _⟩ => by rw [h]; rfl) (fun _ _ _ _ _ _ us hl => match us, hl with | [_, _, _], _ => rfl) fun f cdv Ar outer s H vs Q E hr hsp => ?_
  obtain ⟨Hb, p, m, ex, rfl, e, hp, nb, m1, m2, ex2, q⟩ := hsp
  have nd := sc__law_web.nd
  refine ⟨_, (pss_cons (ps_set (i := 3) nd rfl (Or.inl rfl) (pe_op op_add pe_int (pe_cal c__law_take hr (by decide) rfl (pa_cons (pv 0) (pa_cons (pv 1) pa_nil)))))
      (pss_cons (ps_set (i := 4) nd rfl (Or.inr rfl) (pe_listRg rfl (by rfl) m_list (prg_1 (by rfl) m_range (pv 3))))
      (pss_cons (ps_setLc (i := 5) (own := [("_law_k", 6)]) (g := gName 6) rfl nd rfl rfl (sw_true rfl rfl rfl (by decide +kernel)) (pi_range1 (by rfl) m_range (pa_cons (pv 3) pa_nil)) (blkOk_by (own := [("_law_k", 6)]) (N := n__law_web) (sc := (defScope s__law_web)) (by decide +kernel)) (fun _ _ _ _ _ => (pg_name (i := 6) nd rfl (Or.inl rfl) (hf := Or.inr rfl))) (fun _ _ _ _ _ => pts_nil) (fun _ _ _ _ _ => (pe_toK (Kx := K) rfl (pe_bm PySem.F.plainAttrs_list PySem.F.slot_list_pop PySem.F.type_list_pop mt_popAt (pv 4) (pa_cons (pe_cal c__law_take hr (by decide) rfl (pa_cons (pv 0) (pa_cons (pe_callB (r := rLen K) call_len_seq (by rfl) m_len PySem.boot_len (pa_cons (pv 4) pa_nil)) pa_nil))) pa_nil)))))
      (pss_cons (ps_setLc (i := 7) (own := [("_law_k", 6)]) (g := gName 6) rfl nd rfl rfl (sw_true rfl rfl rfl (by decide +kernel)) (pi_range2 (by rfl) m_range (pa_cons pe_int (pa_cons (pv 3) pa_nil))) (blkOk_by (own := [("_law_k", 6)]) (N := n__law_web) (sc := (defScope s__law_web)) (by decide +kernel)) (fun _ _ _ _ _ => (pg_name (i := 6) nd rfl (Or.inl rfl) (hf := Or.inr rfl))) (fun _ _ _ _ _ => pts_nil) (fun _ _ _ _ _ => (pe_tup (pa_cons (pv 6) (pa_cons (pe_cal c__law_take hr (by decide) rfl (pa_cons (pv 0) (pa_cons (pv 6) pa_nil))) pa_nil)))))
      (pss_cons (ps_for PassesOwn.never rfl (pi_range1 (by rfl) m_range (pa_cons (pe_cal c__law_take hr (by decide) rfl (pa_cons (pv 0) (pa_cons (pe_op op_add (pv 2) pe_int) pa_nil))) pa_nil)) (pg_name (i := 6) nd rfl (Or.inl rfl)) (pss_one (ps_expr (pe_bm PySem.F.plainAttrs_list PySem.F.slot_list_append PySem.F.type_list_append mt_append (pv 7) (pa_cons (pe_tup (pa_cons (pe_cal c__law_take hr (by decide) rfl (pa_cons (pv 0) (pa_cons (pv 3) pa_nil))) (pa_cons (pe_cal c__law_take hr (by decide) rfl (pa_cons (pv 0) (pa_cons (pv 3) pa_nil))) pa_nil))) pa_nil)))))
      (pss_cons (ps_set (i := 8) nd rfl (Or.inl rfl) pe_dnewT)
      (pss_cons (ps_for PassesOwn.never rfl (pi_list (pv 7)) (pg_tup rfl (pgs_cons (pg_name (i := 9) nd rfl (Or.inl rfl)) (pgs_cons (pg_name (i := 10) nd rfl (Or.inl rfl)) pgs_nil))) (pss_one (ps_if (pt_cmpR op_ne (pv 9) (pv 10) (nomark _)) (pss_one (ps_asg pe_bl (pg_sub (pv 8) (pe_tup (pa_cons (pe_callB (r := rMin2) (call_min2 rfl) (by rfl) m_min (by decide +kernel) (pa_cons (pe_ix (r := rIxL K) ix_list (pv 5) (pv 9) (fun _ _ => rfl)) (pa_cons (pe_ix (r := rIxL K) ix_list (pv 5) (pv 10) (fun _ _ => rfl)) pa_nil))) (pa_cons (pe_callB (r := rMax2) (call_max2 rfl) (by rfl) m_max (by decide +kernel) (pa_cons (pe_ix (r := rIxL K) ix_list (pv 5) (pv 9) (fun _ _ => rfl)) (pa_cons (pe_ix (r := rIxL K) ix_list (pv 5) (pv 10) (fun _ _ => rfl)) pa_nil))) pa_nil))) (set_dict (Nat.lt_of_le_of_lt (Nat.add_le_add_left (by decide : 1 ≤ 64) _) hr.units))))) pss_nil)))
      (pss_one (ps_ret (pe_tup (pa_cons (pv 3) (pa_cons (pe_callB (r := rSortedDT) (cr_sortedDT rfl) (by rfl) m_sorted (by decide +kernel) (pa_cons (pv 8) pa_nil)) pa_nil)))))))))))), ?_⟩
  -- many
  refine q_raw (fun x H' => ∃ N : Nat, x = vn N ∧ 1 ≤ N ∧ N ≤ m ∧ PSt T p Hb H Hb H') (fun Q' k => te_take hp rfl (fun Q'' q' => ⟨vn m, rfl, q'⟩) m1 (by omega) fun r g n hr1 n0 n1 => ⟨1, (r : Int), rfl, rfl, k _ _ ⟨1 + r, by unfold vn; rw [Int.natCast_add]; rfl, by omega, by omega, (PSt.refl e hp nb).take n0 n1⟩⟩) ?_
  rintro x H1 ⟨N, rfl, N1, N2, S1⟩
  -- names
  refine q_raw (fun x H' => ∃ pn, x = .ref pn ∧ pn ≠ p ∧ H pn = none ∧ Hb pn = none ∧ H' pn = some (.lst ((List.range N).map vn)) ∧ PSt T p Hb H Hb H') (fun Q' k => ⟨vn N, rfl, (N : Int), rfl, RgOk.of_le (by omega) (by omega) (by omega) (by omega), fun pn hpn => ?_⟩) ?_
  · obtain ⟨S2, n1, n2, n3⟩ := S1.own (o := .lst (rgV 0 (N : Int))) hpn
    refine k _ _ ⟨pn, rfl, n1, n2, n3, ?_, S2⟩
    rw [upd_same]
    unfold rgV
    rw [Int.sub_zero, Int.toNat_natCast]
    congr 2
    exact List.map_congr_left fun i _ => by rw [Int.zero_add]; rfl
  rintro x H2 ⟨pn, rfl, npp, fpn, bpn, c2, S2⟩
  -- order
  refine q_raw (fun x H' => ∃ (Hb3 : Hp) (po : Addr) (od : List Nat), x = .ref po ∧ PSt T p Hb H Hb3 H' ∧ (dNL od).At Hb3 (.ref po) ∧ od.Perm (List.range N)) (fun Q' k => ?_) ?_
  · refine lc_any ((src_range1 (m := N) (ea_cons (ev_var rfl rfl) ea_nil) (by omega)).now S2.e2) (fun D i acc Hb' H' => PSt T p Hb H Hb' H' ∧ D ≠ p ∧ D ≠ pn ∧ H D = none ∧ Hb' D = none ∧ Hb' pn = none ∧ ∃ od nm : List Nat, acc = od.map vn ∧ H' D = some (.lst acc) ∧ H' pn = some (.lst (nm.map vn)) ∧ (od ++ nm).Perm (List.range N) ∧ nm.length = N - i)
      (fun D Hb1 H3 s3 hD => ?_) (fun D i acc Hb1 H3 vs Hb2 H4 hi x1 x2 hJ s4 a4 => ?_) (fun D acc Hb1 H3 x1 x2 hJ => ?_)
    · have S3 := S2.step s3
      obtain ⟨S4, n1, n2, n3⟩ := S3.own (o := .lst []) hD
      have c3 := s3.kept c2 True.intro
      have nD : D ≠ pn := fun z => by rw [z, c3] at hD; cases hD
      exact ⟨S4, n1, nD, n2, n3, s3.hidden bpn c2, [], List.range N, rfl, upd_same, by rw [upd_ne nD.symm]; exact c3, .refl _, by rw [List.length_range]; rfl⟩
    · obtain ⟨S3, d1, d2, d3, d4, d5, od, nm, rfl, cD, cn, pm, hl⟩ := hJ
      obtain ⟨z, rfl, hz⟩ := at1 a4
      have S4 := S3.step s4
      have cD4 := s4.kept cD True.intro
      have cn4 := s4.kept cn True.intro
      refine ⟨rfl, ?_⟩
      refine ⟨.ref pn, rfl, .inl ⟨rfl, _, sqL cn4⟩, te_take S4.po rfl (fun Q'' q' => ⟨.ref pn, rfl, pn, nm.map vn, rfl, .inl (sqL cn4), ?_⟩) (m := nm.length) (by omega) (by omega) fun r g n hr1 n0 n1 => ?_⟩
      · rw [List.length_map]
        exact q'
      have S5 := S4.take (g := g) n0 n1
      have cn5 : (upd H4 p (.lst [.int g, .int n])) pn = some (.lst (nm.map vn)) := by rw [upd_ne npp]; exact cn4
      have cD5 : (upd H4 p (.lst [.int g, .int n])) D = some (.lst (od.map vn)) := by rw [upd_ne d1]; exact cD4
      refine ⟨pn, nm.map vn, (r : Int), r, vn nm[r], rfl, rfl, cn5, by omega, by omega, ?_, by rw [List.getElem?_map, List.getElem?_eq_getElem hr1]; rfl, ?_⟩
      · rw [seqIndex_of (by omega) (by rw [List.length_map]; omega)]
        rfl
      have S6 := S5.mut (o := .lst ((nm.map vn).eraseIdx r)) npp fpn (s4.hidden d5 cn) cn5 True.intro
      have cD6 : (upd (upd H4 p (.lst [.int g, .int n])) pn (.lst ((nm.map vn).eraseIdx r))) D = some (.lst (od.map vn)) := by rw [upd_ne d2]; exact cD5
      have S7 := S6.mut (o := .lst (od.map vn ++ [vn nm[r]])) d1 d3 (s4.hidden d4 cD) cD6 True.intro
      have hol := pm.length_eq
      rw [List.length_append, List.length_range] at hol
      refine ⟨od.map vn, cD6, by rw [List.length_map]; exact sz_lt (by omega), _, Hb2, s4.e1, S7.e2, S7, d1, d2, d3, s4.hidden d4 cD, s4.hidden d5 cn, od ++ [nm[r]], nm.eraseIdx r, by rw [List.map_append]; try rfl, by rw [upd_same]; try rfl, ?_, ?_, ?_⟩
      · rw [upd_ne d2.symm, upd_same, erase_map]
      · rw [List.append_assoc]
        exact ((erase_perm nm r hr1).append_left od).trans pm
      · rw [List.length_eraseIdx, if_pos hr1]
        omega
    · obtain ⟨S3, d1, d2, d3, d4, d5, od, nm, rfl, cD, cn, pm, hl⟩ := hJ
      have : nm = [] := List.eq_nil_of_length_eq_zero (by omega)
      rw [this, List.append_nil] at pm
      exact k _ _ ⟨_, D, od, rfl, S3.tell d1 d3 d4 cD, at_dNL_mk upd_same, pm⟩
  rintro x H3 ⟨Hb3, po, od, rfl, S3, ho, po_perm⟩
  have hol : od.length = N := by rw [po_perm.length_eq, List.length_range]
  have hod : od.Nodup := po_perm.nodup_iff.mpr List.nodup_range
  have hom : ∀ x ∈ od, x < N := fun x hx => List.mem_range.mp (po_perm.mem_iff.mp hx)
  -- pairs
  refine q_raw (fun x H' => ∃ (Hb4 : Hp) (pp : Addr) (prs : List (Nat × Nat)) (us : List V), x = .ref pp ∧ pp ≠ p ∧ H pp = none ∧ Hb4 pp = none ∧ H' pp = some (.lst us) ∧ AtL Hb4 (prs.map dTie) us ∧ (∀ q ∈ prs, q.1 < N ∧ q.2 < N) ∧ prs.length ≤ N ∧ Ex T Hb3 Hb4 ∧ PSt T p Hb H Hb4 H') (fun Q' k => ?_) ?_
  · refine lc_any ((src_range2 (lo := 1) (m := N) (ea_cons ev_c (ea_cons (ev_var rfl rfl) ea_nil)) (by omega) (by omega)).now S3.e2) (fun D i acc Hb' H' => PSt T p Hb H Hb' H' ∧ Ex T Hb3 Hb' ∧ D ≠ p ∧ H D = none ∧ Hb' D = none ∧ H' D = some (.lst acc) ∧ ∃ prs : List (Nat × Nat), AtL Hb' (prs.map dTie) acc ∧ (∀ q ∈ prs, q.1 < N ∧ q.2 < N) ∧ prs.length = i)
      (fun D Hb1 H4 s4 hD => ?_) (fun D i acc Hb1 H4 vs Hb2 H5 hi x1 x2 hJ s5 a5 => ?_) (fun D acc Hb1 H4 x1 x2 hJ => ?_)
    · obtain ⟨S5, n1, n2, n3⟩ := (S3.step s4).own (o := .lst []) hD
      exact ⟨S5, s4.e1, n1, n2, n3, upd_same, [], rfl, (fun q hq => by cases hq), rfl⟩
    · obtain ⟨S4, E4, d1, d3, d4, cD, prs, ap, hpr, hpl⟩ := hJ
      obtain ⟨z, rfl, hz⟩ := at1 a5
      have hz : z = vn (1 + i) := hz
      subst hz
      have S5 := S4.step s5
      have cD5 := s5.kept cD True.intro
      refine ⟨rfl, ?_⟩
      refine ⟨vn (1 + i), rfl, te_take S5.po rfl (fun Q'' q' => ⟨vn (1 + i), rfl, q'⟩) (by omega) (by omega) fun r g n hr1 n0 n1 => ⟨show 2 ≤ sizeLine by decide, fun q0 hq0 => ?_⟩⟩
      have S6 := (S5.take (g := g) n0 n1).new (o := .tup [vn (1 + i), vn r]) hq0
      have nD : D ≠ q0 := fun z => by rw [← z, upd_ne d1, cD5] at hq0; cases hq0
      have cD6 : (upd (upd H5 p (.lst [.int g, .int n])) q0 (.tup [vn (1 + i), vn r])) D = some (.lst acc) := by rw [upd_ne nD, upd_ne d1]; exact cD5
      have b5 := s5.hidden d4 cD
      have b6 : (upd Hb2 q0 (.tup [vn (1 + i), vn r])) D = none := by rw [upd_ne nD]; exact b5
      have S7 := S6.mut (o := .lst (acc ++ [.ref q0])) d1 d3 b6 cD6 True.intro
      have E6 : Ex T Hb2 (upd Hb2 q0 (.tup [vn (1 + i), vn r])) := .new s5.e1.t2 (S5.e2.none (by rw [upd_ne (fun z => by rw [z] at hq0; rw [upd_same] at hq0; cases hq0)] at hq0; exact hq0))
      have hal := ap.length
      rw [List.length_map, hpl] at hal
      refine ⟨acc, cD6, by rw [hal]; exact sz_lt (by omega), _, _, s5.e1.trans E6, S7.e2, S7, E4.trans (s5.e1.trans E6), d1, d3, b6, upd_same, prs ++ [(1 + i, r)], ?_, fun q hq => ?_, by rw [List.length_append, hpl]; rfl⟩
      · rw [List.map_append]
        exact (ap.mono (s5.e1.trans E6)).snoc ⟨q0, _, rfl, upd_same, AtL.flat [vn (1 + i), vn r]⟩
      · rcases List.mem_append.mp hq with hq | hq
        · exact hpr q hq
        · rw [List.mem_singleton.mp hq]
          exact ⟨by show 1 + i < N; omega, by show r < N; omega⟩
    · obtain ⟨S4, E4, d1, d3, d4, cD, prs, ap, hpr, hpl⟩ := hJ
      exact k _ _ ⟨Hb1, D, prs, acc, rfl, d1, d3, d4, cD, ap, hpr, by omega, E4, S4⟩
  rintro x H4 ⟨Hb4, pp, prs, us, rfl, d1, d3, d4, cp, ap, hpr, hpl, E4, S4⟩
  -- more pairs
  refine for_rng (T := T) (fun r H' => r ≤ 10 ∧ PSt T p Hb H Hb4 H' ∧ H' pp = some (.lst us)) (fun Q' k => te_take S4.po rfl (fun Q'' q' => ⟨vn ex, rfl, (ex : Int), 1, rfl, rfl, q'⟩) (m := ex + 1) (by omega) (by omega) fun r g n hr1 n0 n1 => k r _ ⟨by omega, S4.take n0 n1, by rw [upd_ne d1]; exact cp⟩) (fun r H' h => by omega) fun r H5 wi ⟨r10, S5, cp5⟩ src => ?_
  refine q_forA (src Hb4 S5.e2) (fun i σ Hb' Hc' => PSt T p Hb H Hb' Hc' ∧ Ex T Hb4 Hb' ∧ Hb' pp = none ∧ ∃ (us : List V) (prs : List (Nat × Nat)) (y6 : Option V), Hc' pp = some (.lst us) ∧ AtL Hb' (prs.map dTie) us ∧ (∀ q ∈ prs, q.1 < N ∧ q.2 < N) ∧ prs.length ≤ N + i ∧ σ = [some (.ref p), some (vn m), some (vn ex), some (vn N), some (.ref pn), some (.ref po), y6, some (.ref pp), none, none, none])
    (fun Hb6 H6 s6 => ⟨S5.step s6, s6.e1, s6.hidden d4 cp5, us, prs, none, s6.kept cp5 True.intro, ap.mono s6.e1, hpr, hpl, rfl⟩) (fun i σ' Hb6 H6 vs Hb7 H7 hi x6 x7 hJ s7 a7 => ?_) (fun σ' Hb6 H6 x6 x7 hJ => ?_)
  · obtain ⟨S6, E6, b6, us, prs, y6, c6, ap, hpr, hpl, rfl⟩ := hJ
    obtain ⟨z, rfl, hz⟩ := at1 a7
    have S7 := S6.step s7
    have c7 := s7.kept c6 True.intro
    have b7 := s7.hidden b6 c6
    refine ⟨.ref pp, rfl, .inl ⟨rfl, us, sqL c7⟩, te_take S7.po rfl (fun Q'' q' => ⟨vn N, rfl, q'⟩) N1 (by omega) fun r1 g1 n1 hr1 n10 n11 => ?_⟩
    have S8 := S7.take (g := g1) n10 n11
    refine te_take S8.po rfl (fun Q'' q' => ⟨vn N, rfl, q'⟩) N1 (by omega) fun r2 g2 n2 hr2 n20 n21 => ⟨show 2 ≤ sizeLine by decide, fun q0 hq0 => ?_⟩
    have S9 := S8.take (g := g2) n20 n21
    have c9 : (upd (upd H7 p (.lst [.int g1, .int n1])) p (.lst [.int g2, .int n2])) pp = some (.lst us) := by rw [upd_ne d1, upd_ne d1]; exact c7
    generalize upd (upd H7 p (.lst [.int g1, .int n1])) p (.lst [.int g2, .int n2]) = H9 at S9 c9 hq0
    have S10 := S9.new (o := .tup [vn r1, vn r2]) hq0
    have nD : pp ≠ q0 := fun z => by rw [← z, c9] at hq0; cases hq0
    have c10 : (upd H9 q0 (.tup [vn r1, vn r2])) pp = some (.lst us) := by rw [upd_ne nD]; exact c9
    have b10 : (upd Hb7 q0 (.tup [vn r1, vn r2])) pp = none := by rw [upd_ne nD]; exact b7
    have S11 := S10.mut (o := .lst (us ++ [.ref q0])) d1 d3 b10 c10 True.intro
    have E10 : Ex T Hb7 (upd Hb7 q0 (.tup [vn r1, vn r2])) := .new s7.e1.t2 (S9.e2.none hq0)
    have hal := ap.length
    rw [List.length_map] at hal
    refine ⟨pp, us, .ref q0, rfl, rfl, c10, by rw [hal]; exact sz_lt (by omega), _, s7.e1.trans E10, S11.e2, S11, E6.trans (s7.e1.trans E10), b10, us ++ [.ref q0], prs ++ [(r1, r2)], _, upd_same, ?_, fun q hq => ?_, by rw [List.length_append]; show _ + 1 ≤ _; omega, rfl⟩
    · rw [List.map_append]
      exact (ap.mono (s7.e1.trans E10)).snoc ⟨q0, _, rfl, upd_same, AtL.flat [vn r1, vn r2]⟩
    · rcases List.mem_append.mp hq with hq | hq
      · exact hpr q hq
      · rw [List.mem_singleton.mp hq]
        exact ⟨hr1, hr2⟩
  clear ap hpr hpl cp cp5
  obtain ⟨S6, E6, b6, us, prs, y6, c6, ap, hpr, hpl, rfl⟩ := hJ
  -- ties
  refine q_raw (fun x H' => ∃ pd, x = .ref pd ∧ pd ≠ p ∧ pd ≠ pp ∧ H pd = none ∧ Hb6 pd = none ∧ H' pd = some (.dT []) ∧ H' pp = some (.lst us) ∧ PSt T p Hb H Hb6 H') (fun Q' k pd hpd => ?_) ?_
  · obtain ⟨S7, n1, n2, n3⟩ := S6.own (o := .dT []) hpd
    have nD : pd ≠ pp := fun z => by rw [z, c6] at hpd; cases hpd
    exact k _ _ ⟨pd, rfl, n1, nD, n2, n3, upd_same, by rw [upd_ne nD.symm]; exact c6, S7⟩
  rintro x H7 ⟨pd, rfl, e1, e2, e3, e4, cd, c7, S7⟩
  have S8 := S7.tell d1 d3 b6 c7
  have ap8 : (Da.l (prs.map dTie)).At (upd Hb6 pp (.lst us)) (.ref pp) := ⟨pp, us, rfl, upd_same, ap.mono (.new S7.e1.t2 b6)⟩
  have b8 : (upd Hb6 pp (.lst us)) pd = none := by rw [upd_ne e2]; exact e4
  have ho8 : (dNL od).At (upd Hb6 pp (.lst us)) (.ref po) := ho.mono ((E4.trans E6).trans (.new S7.e1.t2 b6))
  generalize upd Hb6 pp (.lst us) = Hb8 at S8 ap8 b8 ho8
  refine q_for (src_pairs (ds := prs.map dTie) (a := fun i => dn (prs.getD i (0, 0)).1) (b := fun i => dn (prs.getD i (0, 0)).2) (ev_var rfl ap8) fun i hi => ?_) S8.e2 (fun i σ Hb' Hc' => PSt T p Hb H Hb' Hc' ∧ Ex T Hb8 Hb' ∧ Hb' pd = none ∧ ∃ (kvs : List (List L2.Key × V)) (ks : List (Nat × Nat)), Hc' pd = some (.dT kvs) ∧ kvs.map (·.1) = ks.map (fun q => pkey (ci q)) ∧ ks.Nodup ∧ (∀ q ∈ ks, q.1 < q.2 ∧ q.2 < N) ∧ ks.length ≤ i ∧ ∃ y6 y9 y10, σ = [some (.ref p), some (vn m), some (vn ex), some (vn N), some (.ref pn), some (.ref po), y6, some (.ref pp), some (.ref pd), y9, y10])
    (fun Hb9 H9 s9 => ⟨S8.step s9, s9.e1, s9.hidden b8 cd, [], [], s9.kept cd True.intro, rfl, List.nodup_nil, (fun q hq => by cases hq), Nat.le_refl _, _, none, none, rfl⟩) (fun i σ' Hb9 H9 vs Hb10 H10 hi x9 x10 hJ s10 a10 => ?_) (fun σ' Hb9 H9 x9 x10 hJ => ?_)
  · rw [List.length_map] at hi
    rw [List.getElem?_map, get_lt hi (0, 0)]
    rfl
  · obtain ⟨S9, E9, b9, kvs, ks, c9, hks, knd, hk2, hkl, y6, y9, y10, rfl⟩ := hJ
    rw [List.length_map] at hi
    have hpi := get_lt hi ((0, 0) : Nat × Nat)
    generalize prs.getD i (0, 0) = pr at hpi a10
    obtain ⟨h1, h2⟩ := hpr pr (List.mem_of_getElem? hpi)
    obtain ⟨z0, z1, rfl, f0, f1⟩ := at2 a10
    have f0 : z0 = vn pr.1 := f0
    have f1 : z1 = vn pr.2 := f1
    subst f0
    subst f1
    have S10 := S9.step s10
    have c10 := s10.kept c9 True.intro
    have b10 := s10.hidden b9 c9
    refine s_if (Hb := Hb10) (et_test (ev_op (dx := .v (vn pr.1)) (dy := .v (vn pr.2)) (ev_var rfl rfl) (ev_var rfl rfl) (rv_ne rfl))) S10.e2 (fun hb Hb11 H11 s11 => ?_) (fun hb Hb11 H11 s11 => ?_)
    · have hne : pr.1 ≠ pr.2 := fun z => by
        rw [z, decide_eq_true rfl] at hb
        cases hb
      have S11 := S10.step s11
      have c11 := s11.kept c10 True.intro
      have b11 := s11.hidden b10 c10
      obtain ⟨x, hx⟩ := get_some (l := od) (i := pr.1) (by omega)
      obtain ⟨y, hy⟩ := get_some (l := od) (i := pr.2) (by omega)
      have hxy : x ≠ y := fun z => hne ((List.getElem?_inj (lt_of_get hx) hod).mp (by rw [hx, hy, z]))
      have hxN := hom x (List.mem_of_getElem? hx)
      have hyN := hom y (List.mem_of_getElem? hy)
      have ho11 := ho8.mono ((E9.trans s10.e1).trans s11.e1)
      have gx : ∀ {Hx}, Ex T Hb11 Hx → EvD T (tOp (rIxL K) (tVar 5) (tVar 9)) [some (.ref p), some (vn m), some (vn ex), some (vn N), some (.ref pn), some (.ref po), y6, some (.ref pp), some (.ref pd), some (vn pr.1), some (vn pr.2)] Hx (dI ((x : Nat) : Int)) := fun ee => ev_op (dx := dNL od) (dy := dn pr.1) (ev_var rfl (ho11.mono ee)) (ev_var rfl rfl) (rv_ixL (map_at (f := dn) hx))
      have gy : ∀ {Hx}, Ex T Hb11 Hx → EvD T (tOp (rIxL K) (tVar 5) (tVar 10)) [some (.ref p), some (vn m), some (vn ex), some (vn N), some (.ref pn), some (.ref po), y6, some (.ref pp), some (.ref pd), some (vn pr.1), some (vn pr.2)] Hx (dI ((y : Nat) : Int)) := fun ee => ev_op (dx := dNL od) (dy := dn pr.2) (ev_var rfl (ho11.mono ee)) (ev_var rfl rfl) (rv_ixL (map_at (f := dn) hy))
      have e11 : Ex T Hb11 Hb11 := .refl s11.e1.t2
      refine ⟨.ref pd, rfl, ev_tup (ds := [dn (min x y), dn (max x y)]) (ea_cons (EvD.is (ev_cb (ea_cons (gx e11) (ea_cons (gy e11) ea_nil)) cv_min2) ?_) (ea_cons (EvD.is (ev_cb (ea_cons (gx e11) (ea_cons (gy e11) ea_nil)) cv_max2) ?_) ea_nil)) (show 2 ≤ 100000 by decide) Hb11 H11 e11 S11.e2 _ fun u Hb12 H12 s12 a12 => ?_⟩
      · show Da.v (.int _) = Da.v (.int _)
        congr 2
        by_cases h : (y : Int) < (x : Int)
        · rw [if_pos h, Nat.min_eq_right (by omega)]
        · rw [if_neg h, Nat.min_eq_left (by omega)]
      · show Da.v (.int _) = Da.v (.int _)
        congr 2
        by_cases h : (y : Int) > (x : Int)
        · rw [if_pos h, Nat.max_eq_right (by omega)]
        · rw [if_neg h, Nat.max_eq_left (by omega)]
      · obtain ⟨b, ws, rfl, hb1, hb2⟩ := (show ∃ a us, u = .ref a ∧ Hb12 a = some (.tup us) ∧ AtL Hb12 [dn (min x y), dn (max x y)] us from a12)
        have hb2 := AtL.flat_eq (xs := [vn (min x y), vn (max x y)]) hb2
        subst hb2
        have S12 := S11.step s12
        have c12 := s12.kept c11 True.intro
        have b12 := s12.hidden b11 c11
        have hkl2 : kvs.length = ks.length := by
          have := congrArg List.length hks
          rw [List.length_map, List.length_map] at this
          exact this
        have S13 := S12.mut (o := .dT (putK kvs (pkey (ci (min x y, max x y))) (.bl true))) e1 e3 b12 c12 True.intro
        refine ⟨pd, _, rfl, DPut.t (k := pkey (ci (min x y, max x y))) c12 (S12.e2.at hb1 True.intro) (by rw [hkl2]; exact sz_lt (by omega)), Hb12, (s10.e1.trans s11.e1).trans s12.e1, S13.e2, S13, ((E9.trans s10.e1).trans s11.e1).trans s12.e1, b12, _, (if (min x y, max x y) ∈ ks then ks else ks ++ [(min x y, max x y)]), upd_same, put_keys hks, ?_, fun q hq => ?_, ?_, _, _, _, rfl⟩
        · split
          · exact knd
          · rename_i hn
            rw [List.nodup_append]
            refine ⟨knd, nodup_one _, fun a ha b hb => ?_⟩
            rw [List.mem_singleton.mp hb]
            exact fun z => hn (z ▸ ha)
        · split at hq
          · exact hk2 q hq
          · rcases List.mem_append.mp hq with hq | hq
            · exact hk2 q hq
            · rw [List.mem_singleton.mp hq]
              exact ⟨by show min x y < max x y; omega, by show max x y < N; omega⟩
        · split
          · omega
          · rw [List.length_append]
            show _ + 1 ≤ _
            omega
    · exact ⟨Hb11, s10.e1.trans s11.e1, s11.e2, S10.step s11, (E9.trans s10.e1).trans s11.e1, s11.hidden b10 c10, kvs, ks, s11.kept c10 True.intro, hks, knd, hk2, by omega, _, _, _, rfl⟩
  · obtain ⟨S9, E9, b9, kvs, ks, c9, hks, knd, hk2, hkl, y6, y9, y10, rfl⟩ := hJ
    rw [List.length_map] at hkl
    refine ⟨vn N, rfl, .ref pd, rfl, pd, kvs, ks.map ci, rfl, c9, by rw [hks, List.map_map]; rfl, fun ks' us' q0 pm pw at_ hq0 => ⟨show 2 ≤ sizeLine by decide, fun q2 hq2 => ?_⟩⟩
    obtain ⟨ts, pts, rfl⟩ := perm_map ci pm ks rfl
    have S10 := S9.new (o := .lst us') hq0
    have S11 := S10.new (o := .tup [vn N, .ref q0]) hq2
    have n02 : q0 ≠ q2 := fun z => by rw [← z, upd_same] at hq2; cases hq2
    obtain ⟨Hb12, S12, E12, told⟩ := S11.all e hp
    have tnd : ts.Nodup := pts.nodup_iff.mpr knd
    refine q ⟨N, ts⟩ _ Hb12 _ ⟨N1, by show N ≤ 40; omega, ?_, fun t ht => hk2 t (pts.mem_iff.mp ht), ties_rise tnd pw⟩ S12 ⟨q2, [vn N, .ref q0], rfl, E12.at upd_same True.intro, .cons rfl (.cons ⟨q0, us', rfl, E12.at (by rw [upd_ne n02]; exact upd_same) True.intro, ?_⟩ .nil)⟩
    · show ts.length ≤ 120
      rw [pts.length_eq]
      omega
    · have e1 : ts.map dTie = (ts.map ci).map dPr := by rw [List.map_map]; rfl
      rw [e1]
      refine atl_tups at_ fun b xs hb => told b _ ?_ fun o' ho' mu => ?_
      · have nb0 : b ≠ q0 := ne_of_none hb hq0
        have nb2 : b ≠ q2 := fun z => by rw [← z, upd_ne nb0, hb] at hq2; cases hq2
        rw [upd_ne nb2, upd_ne nb0]
        exact hb
      · have nbp : b ≠ p := fun z => by
          obtain ⟨g, n, k1, _⟩ := S9.po
          rw [z, k1] at hb
          cases hb
        have := rm_of (S9.st.e3.keep b o' (by rw [rm_ne nbp]; exact ho') mu.tbl)
        rw [hb] at this
        cases this
        exact mu
end
end K68
end

section
namespace K68
open PySem PySem.Spec PyProof.Rows L2
section
variable {P : Program} {w : World} {K : PySem.W.Frag} {mg : Str → Option Value} {base : Heap} {T : Addr × Str}
theorem lc_at {σ : L2.St} {Hb Hc : Hp} {wi : TI} {g : TG} {tt : TT} {te : TE} {n : Nat} {js ws : List Nat} {rs : Nat → List Da} (f : Nat → Bool) (v : Nat → Da) (src : SrcAt T wi g σ Hb Hc n js rs) (hn : n ≤ 50000)
    (turn : ∀ i vs Hb1, i < n → Ex T Hb Hb1 → AtL Hb1 (rs i) vs → wipe (sets (wipe σ ws) js vs) ws = wipe σ ws ∧ EvT T tt (sets (wipe σ ws) js vs) Hb1 (f i) ∧ (f i = true → EvD T te (sets (wipe σ ws) js vs) Hb1 (v i)))
    {Q : VK} (q : ∀ v' Hb2 Hc2, Stp T Hb Hc Hb2 Hc2 → (Da.l (given n f v)).At Hb2 v' → Q v' Hc2) : tLc wi g tt te ws σ Hc Q := src _ fun J Hb2 Hc2 s1 G D hD => by
  refine ⟨fun i m H => m = n - i ∧ i ≤ n ∧ ∃ Hb' us, Stp T Hb2 Hc2 Hb' H ∧ Hb' D = none ∧ H D = some (.lst us) ∧ AtL Hb' (given i f v) us, ⟨n, rfl, Nat.zero_le _, Hb2, [], (Stp.refl s1.e2).own hD, s1.e2.none hD, upd_same, rfl⟩, ?_⟩
  rintro i m H ⟨rfl, hi, Hb', us, S, hb, hd, ha⟩
  obtain ⟨g1, g2⟩ := G i Hb' H S.e1 S.e2
  by_cases hlt : i < n
  · obtain ⟨go, step⟩ := g1 hlt
    refine .inr ⟨go, fun H' => ∃ Hb' us, Stp T Hb2 Hc2 Hb' H' ∧ Hb' D = none ∧ H' D = some (.lst us) ∧ AtL Hb' (given (i + 1) f v) us, fun H' hN => ⟨n - (i + 1), by omega, rfl, hlt, hN⟩, fun x H' y => ?_⟩
    refine step x H' y _ _ fun vs Hb5 Hc5 s5 a5 => ?_
    obtain ⟨t1, t2, t3⟩ := turn i vs Hb5 hlt ((s1.e1.trans S.e1).trans s5.e1) a5
    refine ⟨t1, t2 Hb5 Hc5 (.refl s5.e1.t2) s5.e2 _ fun Hb6 Hc6 s6 => ?_⟩
    have hb5 := s5.hidden hb hd
    have hd5 := s5.kept hd True.intro
    have hb6 := s6.hidden hb5 hd5
    have hd6 := s6.kept hd5 True.intro
    cases hf : f i with
    | true =>
      show te _ Hc6 _
      refine t3 hf Hb6 Hc6 s6.e1 s6.e2 _ fun w Hb7 Hc7 s7 a7 => ?_
      have hb7 := s7.hidden hb6 hd6
      have hd7 := s7.kept hd6 True.intro
      have S7 := ((S.trans s5).trans s6).trans s7
      refine ⟨us, hd7, ?_, Hb7, us ++ [w], S7.mut hD hb7 hd7 True.intro, hb7, upd_same, ?_⟩
      · rw [ha.length]
        have := given_len i f v
        exact sz_lt (by omega)
      · rw [given_yes hf]
        exact (ha.mono ((s5.e1.trans s6.e1).trans s7.e1)).snoc a7
    | false =>
      show ∃ Hb' us, _
      refine ⟨Hb6, us, (S.trans s5).trans s6, hb6, hd6, ?_⟩
      rw [given_no hf]
      exact ha.mono (s5.e1.trans s6.e1)
  · have e : i = n := by omega
    subst e
    exact .inl ⟨g2 rfl, q _ _ _ (s1.trans (S.tell hD hb hd)) ⟨D, us, rfl, upd_same, ha.mono (Ex.new S.e1.t2 hb)⟩⟩
theorem q_ifR {σ : L2.St} {tt : TT} {tu tw tz : TS} {D : Ends} {Hc : Hp} (R : Bool → Hp → Prop) (h : ∀ Q : Bool → Hp → Prop, (∀ b H', R b H' → Q b H') → tt σ Hc Q) (k1 : ∀ H', R true H' → tu { D with nx := tz D } σ H') (k2 : ∀ H', R false H' → tw { D with nx := tz D } σ H') : tSeq (tIfS tt tu tw) tz D σ Hc :=
  h _ fun b H' r => by
    cases b with
    | true => exact k1 H' r
    | false => exact k2 H' r
theorem s_raw {σ : L2.St} {i : Nat} {te : TE} {D : Ends} {Hc : Hp} (R : V → Hp → Prop) (h : ∀ Q : VK, (∀ x H', R x H' → Q x H') → te σ Hc Q) (k : ∀ x H', R x H' → D.nx (σ.set i (some x)) H') : tAsg te (gName i) D σ Hc := h _ k
/-! ### _law_loose -/
abbrev s__law_loose : Stmt := topS 41
abbrev n__law_loose : List Str := ["_law_pool_here", "_law_most", "_law_more", "_law_many", "_law_ties", "_law_tie"]
theorem sc__law_loose : FnScope n__law_loose ["_law_pool_here", "_law_most", "_law_more"] (defScope s__law_loose) := ⟨rfl, rfl, rfl, by decide +kernel, rfl, by decide +kernel, by decide +kernel⟩
theorem webOk_sub {W : Web} {ts : List (Nat × Nat)} (ok : WebOk W) (h : ts.Sublist W.ts) : WebOk ⟨W.n, ts⟩ := ⟨ok.pos, ok.most, Nat.le_trans h.length_le ok.few, fun p hp => ok.tie p (h.subset hp), ok.rise.sublist h⟩
theorem ok__law_loose (D : Df K mg "_law_loose" s__law_loose) (c__law_take : Cal P w K mg base "_law_take" 1 ["_law_pool_here", "_law_many"] spTake) (c__law_web : Cal P w K mg base "_law_web" 2 ["_law_pool_here", "_law_most", "_law_more"] (spWeb T)) :
    Cal P w K mg base "_law_loose" 3 ["_law_pool_here", "_law_most", "_law_more"] (spWeb T) := by
  refine mk_cal D sc__law_loose (fun vs H Q E ⟨_, _, _, _, h, _⟩ => by rw [h]; rfl) (fun _ _ _ _ _ _ us hl => match us, hl with | [_, _, _], _ => rfl) fun f cdv Ar outer s H vs Q E hr hsp => ?_
  obtain ⟨Hb, p, m, ex, rfl, e, hp, nb, m1, m2, ex2, q⟩ := hsp
  have nd := sc__law_loose.nd
  refine ⟨_, (pss_cons (ps_asg (pe_cal c__law_web hr (by decide) rfl (pa_cons (pv 0) (pa_cons (pv 1) (pa_cons (pv 2) pa_nil)))) (pg_tup rfl (pgs_cons (pg_name (i := 3) nd rfl (Or.inl rfl)) (pgs_cons (pg_name (i := 4) nd rfl (Or.inl rfl)) pgs_nil))))
      (pss_cons (ps_if (pt_cmpR op_eq (pe_cal c__law_take hr (by decide) rfl (pa_cons (pv 0) (pa_cons pe_int pa_nil))) pe_int (nomark _)) (pss_one (ps_setLc (i := 4) (own := [("_law_tie", 5)]) (g := gName 5) rfl nd rfl rfl (sw_true rfl rfl rfl (by decide +kernel)) (pi_list (pv 4)) (blkOk_by (own := [("_law_tie", 5)]) (N := n__law_loose) (sc := (defScope s__law_loose)) (by decide +kernel)) (fun _ _ _ _ _ => (pg_name (i := 5) nd rfl (Or.inl rfl) (hf := Or.inr rfl))) (fun _ _ _ _ _ => (pts_one (pt_cmpR op_gt (pe_cal c__law_take hr (by decide) rfl (pa_cons (pv 0) (pa_cons pe_int pa_nil))) pe_int (nomark _)))) (fun _ _ _ _ _ => (pv 5)))) pss_nil)
      (pss_one (ps_ret (pe_tup (pa_cons (pv 3) (pa_cons (pv 4) pa_nil))))))), ?_⟩
  refine ⟨.ref p, rfl, vn m, rfl, vn ex, rfl, Hb, p, m, ex, rfl, e, hp, nb, m1, m2, ex2, fun W v Hb1 H1 ok S1 aW => ?_⟩
  obtain ⟨a, us, rfl, ha, hus⟩ := (show ∃ a us, v = .ref a ∧ Hb1 a = some (.tup us) ∧ AtL Hb1 [dn W.n, .l (W.ts.map dTie)] us from aW)
  obtain ⟨x3, x4, rfl, a3, a4⟩ := at2 hus
  have a3 : x3 = vn W.n := a3
  subst a3
  refine ⟨a, _, rfl, sqT (S1.e2.at ha True.intro), rfl, _, _, rfl, _, _, rfl, rfl, ?_⟩
  have fin : ∀ (ts : List (Nat × Nat)) (x : V) (y5 : Option V) (Hb3 H3 : Hp), ts.Sublist W.ts → PSt T p Hb H Hb3 H3 → (Da.l (ts.map dTie)).At Hb3 x → tRet (tTup (tCons (tVar 3) (tCons (tVar 4) tNil))) { nx := fun _ H' => Q .non H', rt := Q } [some (.ref p), some (vn m), some (vn ex), some (vn W.n), some x, y5] H3 := fun ts x y5 Hb3 H3 hts S3 hx =>
    s_ret (Hb := Hb3) (d := dWeb ⟨W.n, ts⟩) (ev_tup (ea_cons (ev_var (d := dn W.n) rfl rfl) (ea_cons (ev_var rfl hx) ea_nil)) (show 2 ≤ 100000 by decide)) S3.e2 fun v Hb' H' s a => q _ v Hb' H' (webOk_sub ok hts) (S3.step s) a
  -- take 4
  dsimp only
  refine q_ifR (fun _ H' => PSt T p Hb H Hb1 H') (fun Q' k => te_take S1.po rfl (fun Q'' q' => q') (m := 4) (by decide) (by decide) fun r g n hr1 n0 n1 => ⟨rfl, decide (vn r = V.int 0), rfl, k _ _ (S1.take n0 n1)⟩) (fun H2 S2 => ?_) (fun H2 S2 => ?_)
  · refine s_raw (fun x H' => ∃ (ts : List (Nat × Nat)) (Hb3 : Hp), ts.Sublist W.ts ∧ PSt T p Hb H Hb3 H' ∧ (Da.l (ts.map dTie)).At Hb3 x) (fun Q' k => ?_) fun x H3 ⟨ts, Hb3, hts, S3, hx⟩ => fin ts x _ Hb3 H3 hts S3 hx
    have hl := ok.few
    refine lc_any (SrcD.now (src_list (ev_var rfl a4)) S2.e2) (fun D i acc Hb' H' => PSt T p Hb H Hb' H' ∧ D ≠ p ∧ H D = none ∧ Hb' D = none ∧ H' D = some (.lst acc) ∧ ∃ ts : List (Nat × Nat), ts.Sublist (W.ts.take i) ∧ AtL Hb' (ts.map dTie) acc)
      (fun D Hb3 H3 s3 hD => ?_) (fun D i acc Hb3 H3 vs Hb4 H4 hi x1 x2 hJ s4 b4 => ?_) (fun D acc Hb3 H3 x1 x2 hJ => ?_)
    · obtain ⟨S3, n1, n2, n3⟩ := (S2.step s3).own (o := .lst []) hD
      exact ⟨S3, n1, n2, n3, upd_same, [], List.nil_sublist _, rfl⟩
    · obtain ⟨S3, d1, d2, d3, d4, ts, hts, hac⟩ := hJ
      rw [List.length_map] at hi
      obtain ⟨t, ht⟩ := get_some hi
      rw [getD_map ht] at b4
      obtain ⟨z, rfl, hz⟩ := at1 b4
      have S4 := S3.step s4
      have c4 := s4.kept d4 True.intro
      have n4 := s4.hidden d3 d4
      refine ⟨rfl, te_take S4.po rfl (fun Q'' q' => q') (m := 3) (by decide) (by decide) fun r2 g2 n2 hr2 n20 n21 => ⟨(r2 : Int), 0, rfl, rfl, decide ((0 : Int) < (r2 : Int)), rfl, ?_⟩⟩
      have S5 := S4.take (g := g2) n20 n21
      have c5 : (upd H4 p (.lst [.int g2, .int n2])) D = some (.lst acc) := by rw [upd_ne d1]; exact c4
      have htk : W.ts.take (i + 1) = W.ts.take i ++ [t] := by rw [List.take_add_one, ht]; rfl
      by_cases h0 : (0 : Int) < (r2 : Int)
      · rw [decide_eq_true h0]
        have S6 := S5.mut (o := .lst (acc ++ [z])) d1 d2 n4 c5 True.intro
        have hal := hac.length
        have htl := hts.length_le
        rw [List.length_map] at hal
        rw [List.length_take] at htl
        refine ⟨z, rfl, acc, c5, by rw [hal]; exact sz_lt (by omega), _, Hb4, s4.e1, S6.e2, S6, d1, d2, n4, upd_same, ts ++ [t], by rw [htk]; exact hts.append (List.Sublist.refl _), ?_⟩
        rw [List.map_append]
        exact (hac.mono s4.e1).snoc hz
      · rw [decide_eq_false h0]
        exact ⟨acc, Hb4, s4.e1, S5.e2, S5, d1, d2, n4, c5, ts, by rw [htk]; exact hts.trans (List.sublist_append_left _ _), hac.mono s4.e1⟩
    · obtain ⟨S3, d1, d2, d3, d4, ts, hts, hac⟩ := hJ
      rw [List.length_map, List.take_length] at hts
      exact k _ _ ⟨ts, _, hts, S3.tell d1 d2 d3 d4, D, acc, rfl, upd_same, hac.mono (.new S3.e1.t2 d3)⟩
  · exact fin W.ts _ _ _ _ (List.Sublist.refl _) S2 a4
end
end K68
end

section
namespace K68
open PySem PySem.Spec PyProof.Rows L2
section
variable {P : Program} {w : World} {K : PySem.W.Frag} {mg : Str → Option Value} {base : Heap} {T : Addr × Str}
theorem q_dropR {σ : L2.St} {te : TE} {tz : TS} {D : Ends} {Hc : Hp} (R : Hp → Prop) (h : ∀ Q : VK, (∀ x H', R H' → Q x H') → te σ Hc Q) (k : ∀ H', R H' → tz D σ H') : tSeq (tDrop te) tz D σ Hc := h _ fun x H' r => k H' r
/-! ### _law_long_right -/
abbrev s__law_long_right : Stmt := topS 45
abbrev n__law_long_right : List Str := ["_law_pool_here", "_law_webs", "_law_turn", "_law_at", "_law_whole", "_law_due", "_law_many", "_law_ties", "_law_part", "_law_ends", "_law_found"]
theorem sc__law_long_right : FnScope n__law_long_right ["_law_pool_here"] (defScope s__law_long_right) := ⟨rfl, rfl, rfl, by decide +kernel, rfl, by decide +kernel, by decide +kernel⟩
def spLong (T : Addr × Str) : Sp := fun vs H Q _ => ∃ (Hb : Hp) (p : Addr), vs = [.ref p] ∧ Ex T Hb H ∧ PoolAt H p ∧ Hb p = none ∧ ∀ (Hb' H' : Hp), PSt T p Hb H Hb' H' → Q (.bl true) H'
theorem path_ok {n : Nat} (h1 : 1 ≤ n) (h2 : n ≤ 40) : WebOk (pathW n) := ⟨h1, h2, by show ((List.range (n - 1)).map _).length ≤ 120; rw [List.length_map, List.length_range]; omega, fun p hp => by
  obtain ⟨i, hi, rfl⟩ := List.mem_map.mp hp
  rw [List.mem_range] at hi
  exact ⟨by show i < i + 1; omega, by show i + 1 < n; omega⟩, List.pairwise_map.mpr (List.pairwise_lt_range.imp fun {a b} h => .inl h)⟩
theorem path_webs {ns : List Nat} (h : ∀ n ∈ ns, 1 ≤ n ∧ n ≤ 40) (hl : ns.length ≤ 12) : WebsOk (ns.map pathW) := ⟨by rw [List.length_map]; exact hl, fun v hv => by
  obtain ⟨n, hn, rfl⟩ := List.mem_map.mp hv
  exact path_ok (h n hn).1 (h n hn).2⟩
theorem ok__law_long_right (D : Df K mg "_law_long_right" s__law_long_right) (c__law_take : Cal P w K mg base "_law_take" 1 ["_law_pool_here", "_law_many"] spTake) (c_far : Cal P w K mg base "far" 7 ["webs", "one", "other"] (Pm T A_far)) (c_ways_many : Cal P w K mg base "ways_many" 7 ["webs", "one", "other"] (Pm T A_ways))
    (c_by_distance : Cal P w K mg base "by_distance" 7 ["webs", "row"] (Pm T A_by_distance)) (c_widest : Cal P w K mg base "widest" 6 ["webs"] (Pm T A_widest)) (c_places_of : Cal P w K mg base "places_of" 6 ["webs"] (Pm T A_places_in)) (m_range : mg "range" = none) (m_len : mg "len" = none) (m_sum : mg "sum" = none) :
    Cal P w K mg base "_law_long_right" 8 ["_law_pool_here"] (spLong T) := by
  refine mk_cal D sc__law_long_right (fun vs H Q E ⟨_, _, h, _⟩ => by rw [h]; rfl) (fun _ _ _ _ _ _ us hl => match us, hl with | [_], _ => rfl) fun f cdv Ar outer s H vs Q E hr hsp => ?_
  obtain ⟨Hb, p, rfl, e, hp, nb, q⟩ := hsp
  have nd := sc__law_long_right.nd
  refine ⟨_, (pss_cons (ps_set (i := 1) nd rfl (Or.inl rfl) (pe_lst pa_nil))
      (pss_cons (ps_for PassesOwn.never rfl (pi_range1 (by rfl) m_range (pa_cons (pe_op op_add pe_int (pe_cal c__law_take hr (by decide) rfl (pa_cons (pv 0) (pa_cons pe_int pa_nil)))) pa_nil)) (pg_name (i := 2) nd rfl (Or.inl rfl)) (pss_cons (ps_expr (pe_bm PySem.F.plainAttrs_list PySem.F.slot_list_append PySem.F.type_list_append mt_append (pv 1) (pa_cons (pe_tup (pa_cons (pe_op op_add pe_int (pe_cal c__law_take hr (by decide) rfl (pa_cons (pv 0) (pa_cons pe_int pa_nil)))) (pa_cons (pe_lst pa_nil) pa_nil))) pa_nil)))
      (pss_one (ps_expr (pe_bm PySem.F.plainAttrs_list PySem.F.slot_list_extend PySem.F.type_list_extend mt_extend (pe_ix (r := rIxT K) ix_tup (pe_ix (r := rIxL K) ix_list (pv 1) (pe_un un_neg pe_int) (fun _ _ => rfl)) pe_int (fun _ _ => rfl)) (pa_cons (pe_lc (own := [("_law_at", 3)]) (g := gName 3) rfl nd (pi_range1 (by rfl) m_range (pa_cons (pe_op op_sub (pe_ix (r := rIxT K) ix_tup (pe_ix (r := rIxL K) ix_list (pv 1) (pe_un un_neg pe_int) (fun _ _ => rfl)) pe_int (fun _ _ => rfl)) pe_int) pa_nil)) (blkOk_by (own := [("_law_at", 3)]) (N := n__law_long_right) (sc := (defScope s__law_long_right)) (by decide +kernel)) (fun _ _ _ _ _ => (pg_name (i := 3) nd rfl (Or.inl rfl) (hf := Or.inr rfl))) (fun _ _ _ _ _ => pts_nil) (fun _ _ _ _ _ => (pe_tup (pa_cons (pv 3) (pa_cons (pe_op op_add (pv 3) pe_int) pa_nil))))) pa_nil))))))
      (pss_cons (ps_set (i := 4) nd rfl (Or.inl rfl) pe_int)
      (pss_cons (ps_set (i := 5) nd rfl (Or.inl rfl) pe_int)
      (pss_cons (ps_for PassesOwn.never rfl (pi_list (pv 1)) (pg_tup rfl (pgs_cons (pg_name (i := 6) nd rfl (Or.inl rfl)) (pgs_cons (pg_name (i := 7) nd rfl (Or.inl rfl)) pgs_nil))) (pss_one (ps_for PassesOwn.never rfl (pi_range2 (by rfl) m_range (pa_cons pe_int (pa_cons (pv 6) pa_nil))) (pg_name (i := 8) nd rfl (Or.inl rfl)) (pss_cons (ps_set (i := 4) nd rfl (Or.inl rfl) (pe_op op_add (pv 4) pe_int))
      (pss_one (ps_set (i := 5) nd rfl (Or.inl rfl) (pe_op op_fdiv (pe_op op_mulW (pv 5) (pv 4)) (pv 8))))))))
      (pss_cons (ps_set (i := 9) nd rfl (Or.inl rfl) (pe_lst (pa_cons (pe_op op_rep (pe_lst (pa_cons pe_int pa_nil)) (pe_callB (r := rLen K) call_len_seq (by rfl) m_len PySem.boot_len (pa_cons (pv 1) pa_nil))) (pa_cons (pe_lc (own := [("_law_many", 6), ("_law_ties", 7)]) (g := g2 K 6 7) rfl nd (pi_list (pv 1)) (blkOk_by (own := [("_law_many", 6), ("_law_ties", 7)]) (N := n__law_long_right) (sc := (defScope s__law_long_right)) (by decide +kernel)) (fun _ _ _ _ _ => (pg_tup rfl (pgs_cons (pg_name (i := 6) nd rfl (Or.inl rfl) (hf := Or.inr rfl)) (pgs_cons (pg_name (i := 7) nd rfl (Or.inl rfl) (hf := Or.inr rfl)) pgs_nil)))) (fun _ _ _ _ _ => pts_nil) (fun _ _ _ _ _ => (pe_op op_sub (pv 6) pe_int))) pa_nil))))
      (pss_cons (ps_if (PW.pt (pw_or (pt_cmpR op_ne (pe_cal c_far hr (by decide) rfl (pa_cons (pv 1) (pa_cons (pe_ix (r := rIxL K) ix_list (pv 9) pe_int (fun _ _ => rfl)) (pa_cons (pe_ix (r := rIxL K) ix_list (pv 9) pe_int (fun _ _ => rfl)) pa_nil)))) (pv 4) (nomark _)) (pw_or (pt_cmpR op_ne (pe_cal c_ways_many hr (by decide) rfl (pa_cons (pv 1) (pa_cons (pe_ix (r := rIxL K) ix_list (pv 9) pe_int (fun _ _ => rfl)) (pa_cons (pe_ix (r := rIxL K) ix_list (pv 9) pe_int (fun _ _ => rfl)) pa_nil)))) (pv 5) (nomark _)) (pw_or1 (pt_cmpR op_ne (pe_cal c_widest hr (by decide) rfl (pa_cons (pv 1) pa_nil)) (pv 4) (nomark _)))))) (pss_one (ps_ret pe_bl)) pss_nil)
      (pss_cons (ps_set (i := 10) nd rfl (Or.inl rfl) (pe_cal c_by_distance hr (by decide) rfl (pa_cons (pv 1) (pa_cons (pe_ix (r := rIxL K) ix_list (pv 9) pe_int (fun _ _ => rfl)) pa_nil))))
      (pss_one (ps_ret (pe_and (pe_cmpR op_eq (pe_callB (r := rLen K) call_len_seq (by rfl) m_len PySem.boot_len (pa_cons (pv 10) pa_nil)) (pe_op op_add (pv 4) pe_int) (nomark _)) (pe_and (pe_cmpR op_eq (pe_callB (r := rSum K) (cr_sum rfl) (by rfl) m_sum (by decide +kernel) (pa_cons (pv 10) pa_nil)) (pe_cal c_places_of hr (by decide) rfl (pa_cons (pv 1) pa_nil)) (nomark _)) (pe_one (pe_cmpR (r := rEqD K) (op_eqD hr.units) (pv 10) (pe_revL (pv 10)) (nomark _))))))))))))))), ?_⟩
  -- webs
  refine q_raw (fun x H' => ∃ pw, x = .ref pw ∧ pw ≠ p ∧ H pw = none ∧ Hb pw = none ∧ H' pw = some (.lst []) ∧ PSt T p Hb H Hb H') (fun Q' k => ⟨Nat.zero_le _, fun pw hpw => ?_⟩) ?_
  · obtain ⟨S1, n1, n2, n3⟩ := (PSt.refl e hp nb).own (o := .lst []) hpw
    exact k _ _ ⟨pw, rfl, n1, n2, n3, upd_same, S1⟩
  rintro x H1 ⟨pw, rfl, w1, w2, w3, c1, S1⟩
  refine for_rng (T := T) (fun r H' => r ≤ 12 ∧ PSt T p Hb H Hb H' ∧ H' pw = some (.lst [])) (fun Q' k => te_take S1.po rfl (fun Q'' q' => q') (m := 12) (by decide) (by decide) fun r g n hr1 n0 n1 => ⟨1, (r : Int), rfl, rfl, ?_⟩) (fun r H' h => by omega) fun r H2 wi ⟨r12, S2, c2⟩ src => ?_
  · have := k (1 + r) (upd H1 p (.lst [.int g, .int n])) ⟨by omega, S1.take n0 n1, by rw [upd_ne w1]; exact c1⟩
    unfold vn at this
    rw [Int.natCast_add] at this
    exact this
  refine q_forA (src Hb S2.e2) (fun i σ Hb' Hc' => PSt T p Hb H Hb' Hc' ∧ Hb' pw = none ∧ ∃ (us : List V) (ns : List Nat) (y2 y3 : Option V), Hc' pw = some (.lst us) ∧ AtL Hb' ((ns.map pathW).map dWeb) us ∧ (∀ n ∈ ns, 1 ≤ n ∧ n ≤ 40) ∧ ns.length = i ∧ σ = [some (.ref p), some (.ref pw), y2, y3, none, none, none, none, none, none, none])
    (fun Hb3 H3 s3 => ⟨S2.step s3, s3.hidden w3 c2, [], [], none, none, s3.kept c2 True.intro, rfl, (fun n hn => by cases hn), rfl, rfl⟩) (fun i σ' Hb3 H3 vs Hb4 H4 hi x3 x4 hJ s4 a4 => ?_) (fun σ' Hb3 H3 x3 x4 hJ => ?_)
  · obtain ⟨S3, b3, us, ns, y2, y3, c3, hus, hns, hnl, rfl⟩ := hJ
    obtain ⟨z, rfl, hz⟩ := at1 a4
    have S4 := S3.step s4
    have c4 := s4.kept c3 True.intro
    have b4 := s4.hidden b3 c3
    have hus4 := hus.mono s4.e1
    have hul := hus.length
    rw [List.length_map, List.length_map, hnl] at hul
    -- append
    refine q_dropR (fun H' => ∃ (n : Nat) (q1 q2 : Addr) (Hb7 : Hp), 1 ≤ n ∧ n ≤ 40 ∧ PSt T p Hb H Hb7 H' ∧ Ex T Hb4 Hb7 ∧ Hb7 pw = none ∧ Hb7 q1 = none ∧ Hb7 q2 = some (.tup [vn n, .ref q1]) ∧ H' pw = some (.lst (us ++ [.ref q2])) ∧ H' q1 = some (.lst []) ∧ q1 ≠ p ∧ H q1 = none ∧ pw ≠ q1) (fun Q' k => ⟨.ref pw, rfl, .inl ⟨rfl, us, sqL c4⟩, te_take S4.po rfl (fun Q'' q' => q') (m := 40) (by decide) (by decide) fun r1 g1 n1 hr1 n10 n11 => ⟨1, (r1 : Int), rfl, rfl, Nat.zero_le _, fun q1 hq1 => ⟨show 2 ≤ sizeLine by decide, fun q2 hq2 => ?_⟩⟩⟩) ?_
    · have S5 := S4.take (g := g1) n10 n11
      have c5 : (upd H4 p (.lst [.int g1, .int n1])) pw = some (.lst us) := by rw [upd_ne w1]; exact c4
      obtain ⟨S6, a1, a2, a3⟩ := S5.own (o := .lst []) hq1
      have nwq1 : pw ≠ q1 := fun z => by rw [← z, c5] at hq1; cases hq1
      have c6 : (upd (upd H4 p (.lst [.int g1, .int n1])) q1 (.lst [])) pw = some (.lst us) := by rw [upd_ne nwq1]; exact c5
      have d6 : (upd (upd H4 p (.lst [.int g1, .int n1])) q1 (.lst [])) q1 = some (.lst []) := upd_same
      have S7 := S6.new (o := .tup [vn (1 + r1), .ref q1]) hq2
      have nwq2 : pw ≠ q2 := fun z => by rw [← z, c6] at hq2; cases hq2
      have nq12 : q1 ≠ q2 := fun z => by rw [← z, d6] at hq2; cases hq2
      have E7 : Ex T Hb4 (upd Hb4 q2 (.tup [vn (1 + r1), .ref q1])) := .new s4.e1.t2 (S6.e2.none hq2)
      have b7 : (upd Hb4 q2 (.tup [vn (1 + r1), .ref q1])) pw = none := by rw [upd_ne nwq2]; exact b4
      have b7q : (upd Hb4 q2 (.tup [vn (1 + r1), .ref q1])) q1 = none := by rw [upd_ne nq12]; exact a3
      have c7 : (upd (upd (upd H4 p (.lst [.int g1, .int n1])) q1 (.lst [])) q2 (.tup [vn (1 + r1), .ref q1])) pw = some (.lst us) := by rw [upd_ne nwq2]; exact c6
      have d7 : (upd (upd (upd H4 p (.lst [.int g1, .int n1])) q1 (.lst [])) q2 (.tup [vn (1 + r1), .ref q1])) q1 = some (.lst []) := by rw [upd_ne nq12]; exact d6
      have S8 := S7.mut (o := .lst (us ++ [.ref q2])) w1 w2 b7 c7 True.intro
      exact ⟨pw, us, .ref q2, rfl, rfl, c7, by rw [hul]; exact sz_lt (by omega), k _ _ ⟨1 + r1, q1, q2, _, by omega, by omega, S8, E7, b7, b7q, upd_same, upd_same, by rw [upd_ne nwq1.symm]; exact d7, a1, a2, nwq1⟩⟩
    rintro H8 ⟨n, q1, q2, Hb7, n_1, n_2, S8, E7, b7, b7q, t7, c8, d8, a1, a2, nwq1⟩
    have t8 : H8 q2 = some (.tup [vn n, .ref q1]) := S8.e2.at t7 True.intro
    have last : atI (us ++ [V.ref q2]) (-1) = some (.ref q2) := by
      show (ixN (us ++ [V.ref q2]).length (-1)).bind (fun j => (us ++ [V.ref q2])[j]?) = _
      rw [ixN_last (by rw [List.length_append]; show 0 < _ + 1; omega), List.length_append]
      show (us ++ [V.ref q2])[us.length + 1 - 1]? = _
      rw [Nat.add_sub_cancel, List.getElem?_append_right (Nat.le_refl _), Nat.sub_self]
      rfl
    -- extend
    refine ⟨.ref pw, rfl, 1, rfl, pw, us ++ [.ref q2], -1, .ref q2, rfl, rfl, sqL c8, last, q2, [vn n, .ref q1], 1, .ref q1, rfl, rfl, sqT t8, rfl, .inl ⟨rfl, [], sqL d8⟩, ?_⟩
    refine lc_rng (T := T) (fun r H' => r = n - 1 ∧ H' = H8) (fun Q' k => ⟨.ref pw, rfl, 1, rfl, pw, us ++ [.ref q2], -1, .ref q2, rfl, rfl, sqL c8, last, q2, [vn n, .ref q1], 0, vn n, rfl, rfl, sqT t8, rfl, (n : Int), 1, rfl, rfl, ?_⟩) (fun r H' h => by omega) fun r2 H9 wi2 ⟨hr2, hH9⟩ src2 => ?_
    · have := k (n - 1) H8 ⟨rfl, rfl⟩
      unfold vn at this
      rw [show (((n - 1 : Nat)) : Int) = (n : Int) - 1 by omega] at this
      exact this
    subst hr2
    subst hH9
    refine lc_at (fun _ => true) (fun i => dTie (i, i + 1)) (src2 Hb7 S8.e2) (by omega) (fun i vs Hb9 hi e9 a9 => ?_) fun v9 Hb9 H9 s9 a9 => ?_
    · obtain ⟨z, rfl, hz⟩ := at1 a9
      have hz : z = vn i := hz
      subst hz
      exact ⟨rfl, et_yes, fun _ => ev_tup (ds := [dn i, dn (i + 1)]) (ea_cons (ev_var rfl rfl) (ea_cons (EvD.is (ev_op (dx := dn i) (ev_var rfl rfl) ev_c rv_I0) (by show Da.v (.int _) = Da.v (.int _); rw [Int.natCast_add]; rfl)) ea_nil)) (show 2 ≤ 100000 by decide)⟩
    · obtain ⟨b9, zs, rfl, hb9, hzs⟩ := (show ∃ a us, v9 = .ref a ∧ Hb9 a = some (.lst us) ∧ AtL Hb9 (given (n - 1) (fun _ => true) fun i => dTie (i, i + 1)) us from a9)
      have S9 := S8.step s9
      have c9 := s9.kept c8 True.intro
      have d9 := s9.kept d8 True.intro
      have bq9 := s9.hidden b7q d8
      have bw9 := s9.hidden b7 c8
      have hzl := hzs.length
      have hgl := given_len (n - 1) (fun _ => true) fun i => dTie (i, i + 1)
      have S10 := S9.mut (o := .lst ([] ++ zs)) a1 a2 bq9 d9 True.intro
      have S11 := S10.tell a1 a2 bq9 upd_same
      have E11 : Ex T Hb9 (upd Hb9 q1 (.lst ([] ++ zs))) := .new s9.e1.t2 bq9
      refine ⟨q1, b9, [], zs, rfl, rfl, d9, s9.e2.at hb9 True.intro, sz_of (by rw [hzl]; show 0 + _ ≤ _; omega), upd Hb9 q1 (.lst ([] ++ zs)), (((s4.e1.trans E7).trans s9.e1).trans E11), S11.e2, S11, by rw [upd_ne nwq1]; exact bw9, us ++ [.ref q2], ns ++ [n], _, _, by rw [upd_ne nwq1]; exact c9, ?_, fun k hk => ?_, by rw [List.length_append, hnl]; rfl, rfl⟩
      · rw [List.map_append, List.map_append]
        refine (hus4.mono ((E7.trans s9.e1).trans E11)).snoc ⟨q2, [vn n, .ref q1], rfl, E11.at (s9.e1.at t7 True.intro) True.intro, .cons rfl (.cons ⟨q1, zs, rfl, upd_same, ?_⟩ .nil)⟩
        have hzs := hzs.mono E11
        rw [given_all] at hzs
        show AtL _ (((List.range (n - 1)).map fun i => (i, i + 1)).map dTie) zs
        rw [List.map_map]
        exact hzs
      · rcases List.mem_append.mp hk with hk | hk
        · exact hns k hk
        · rw [List.mem_singleton.mp hk]
          exact ⟨n_1, n_2⟩
  obtain ⟨S3, b3, us, ns, y2, y3, c3, hus, hns, hnl, rfl⟩ := hJ
  have hn0 : ∀ n ∈ ns, 0 < n := fun n hn => (hns n hn).1
  have hok := path_webs hns (by omega)
  obtain ⟨ro0, ro1⟩ := path_rows hn0
  have htot := tot_le fun n hn => (hns n hn).2
  have S4 := S3.tell w1 w2 b3 c3
  have aw : (dWebs (ns.map pathW)).At (upd Hb3 pw (.lst us)) (.ref pw) := ⟨pw, us, rfl, upd_same, hus.mono (.new S3.e1.t2 b3)⟩
  generalize upd Hb3 pw (.lst us) = Hb4 at S4 aw
  refine q_asg (d := dn 0) ev_c S4.e2 fun v Hb5 H5 s5 a5 => ?_
  have a5 : v = vn 0 := a5
  subst a5
  refine q_asg (d := dn 1) ev_c s5.e2 fun v Hb6 H6 s6 a6 => ?_
  have a6 : v = vn 1 := a6
  subst a6
  have S6 := (S4.step s5).step s6
  have aw6 := aw.mono (s5.e1.trans s6.e1)
  refine q_for (src_pairs (ds := (ns.map pathW).map dWeb) (a := fun i => dn (ns.getD i 0)) (b := fun i => .l ((pathW (ns.getD i 0)).ts.map dTie)) (ev_var rfl aw6) fun i hi => ?_) S6.e2 (fun i σ Hb' Hc' => PSt T p Hb H Hb' Hc' ∧ Ex T Hb6 Hb' ∧ ∃ wh du y6 y7 y8, mult 1 0 ns = mult du wh (ns.drop i) ∧ wh + tot (ns.drop i) = tot ns ∧ du < 2 ^ (1000 * i + 1) ∧ σ = [some (.ref p), some (.ref pw), y2, y3, some (vn wh), some (vn du), y6, y7, y8, none, none])
    (fun Hb7 H7 s7 => ⟨S6.step s7, s7.e1, 0, 1, none, none, none, rfl, Nat.zero_add _, by decide, rfl⟩) (fun i σ' Hb7 H7 vs Hb8 H8 hi x7 x8 hJ s8 a8 => ?_) (fun σ' Hb7 H7 x7 x8 hJ => ?_)
  · rw [List.length_map, List.length_map] at hi
    rw [List.getElem?_map, List.getElem?_map, get_lt hi 0]
    rfl
  · obtain ⟨S7, E7, wh, du, y6, y7, y8, hm, ht, hdu, rfl⟩ := hJ
    rw [List.length_map, List.length_map] at hi
    have hni := get_lt hi 0
    rw [drop_at hni] at hm ht
    have hnn := hns _ (List.mem_of_getElem? hni)
    generalize ns.getD i 0 = n at hni hm ht hnn a8
    have hm : mult 1 0 ns = mult (du * choose (wh + (n - 1)) (n - 1)) (wh + (n - 1)) (ns.drop (i + 1)) := hm
    have ht : wh + ((n - 1) :: lasts (ns.drop (i + 1))).sum = tot ns := ht
    rw [List.sum_cons] at ht
    have ht : wh + ((n - 1) + tot (ns.drop (i + 1))) = tot ns := ht
    obtain ⟨z0, z1, rfl, f0, f1⟩ := at2 a8
    have f0 : z0 = vn n := f0
    subst f0
    have S8 := S7.step s8
    have hin : i < 12 := by omega
    refine s_for (src_range2 (lo := 1) (m := n) (ea_cons ev_c (ea_cons (ev_var rfl rfl) ea_nil)) (by omega) (by omega)) S8.e2 (fun j σ Hb' Hc' => PSt T p Hb H Hb' Hc' ∧ Ex T Hb8 Hb' ∧ ∃ y8, σ = [some (.ref p), some (.ref pw), y2, y3, some (vn (wh + j)), some (vn (du * choose (wh + j) j)), some (vn n), some z1, y8, none, none])
      (fun Hb9 H9 s9 => ⟨S8.step s9, s9.e1, y8, by rw [Nat.add_zero, choose_zero, Nat.mul_one]; rfl⟩) (fun j σ' Hb9 H9 vs Hb10 H10 hj x9 x10 hJ s10 a10 => ?_) (fun σ' Hb9 H9 x9 x10 hJ => ?_)
    · obtain ⟨S9, E9, y8, rfl⟩ := hJ
      obtain ⟨z2, rfl, hz2⟩ := at1 a10
      have hz2 : z2 = vn (1 + j) := hz2
      subst hz2
      have S10 := S9.step s10
      refine q_asg (d := dn (wh + j + 1)) (EvD.is (ev_op (dx := dn (wh + j)) (ev_var rfl rfl) ev_c rv_I0) (by show Da.v (.int _) = Da.v (.int _); rw [Int.natCast_add (wh + j) 1]; rfl)) S10.e2 fun v Hb11 H11 s11 a11 => ?_
      have a11 : v = vn (wh + j + 1) := a11
      subst a11
      have S11 := S10.step s11
      have hb1 : du * choose (wh + j) j < 2 ^ 20000 := by
        refine Nat.lt_of_lt_of_le (Nat.lt_of_le_of_lt (Nat.mul_le_mul_left du (choose_le (wh + j) j)) (Nat.mul_lt_mul_of_pos_right hdu (Nat.pow_pos (by decide)))) ?_
        rw [← Nat.pow_add]
        exact Nat.pow_le_pow_right (by decide) (by omega)
      have hb2 : wh + j + 1 < 2 ^ 100 := Nat.lt_of_le_of_lt (show wh + j + 1 ≤ 1000 by omega) (by decide +kernel)
      refine s_asg (d := dn (du * choose (wh + (j + 1)) (j + 1))) (EvD.is (ev_op (dx := dn (du * choose (wh + j) j * (wh + j + 1))) (dy := dn (1 + j)) (EvD.is (ev_op (dx := dn (du * choose (wh + j) j)) (dy := dn (wh + j + 1)) (ev_var rfl rfl) (ev_var rfl rfl) (rv_I (wide_mul (a := 20000) (b := 100) (by rw [Int.natAbs_natCast]; exact hb1) (by rw [Int.natAbs_natCast]; exact hb2) (by decide) (by decide) (by decide)))) (by show Da.v (.int _) = Da.v (.int _); rw [← Int.natCast_mul])) (ev_var rfl rfl) (rv_I ⟨by omega, by omega⟩)) ?_) S11.e2 fun v Hb12 H12 s12 a12 => ?_
      · show Da.v (.int _) = Da.v (.int _)
        rw [← due_step du wh j, Int.natCast_ediv, Nat.add_comm j 1]
      · have a12 : v = vn (du * choose (wh + (j + 1)) (j + 1)) := a12
        subst a12
        exact ⟨Hb12, (s10.e1.trans s11.e1).trans s12.e1, s12.e2, S11.step s12, ((E9.trans s10.e1).trans s11.e1).trans s12.e1, _, rfl⟩
    · obtain ⟨S9, E9, y8, rfl⟩ := hJ
      refine ⟨Hb9, s8.e1.trans E9, S9.e2, S9, (E7.trans s8.e1).trans E9, wh + (n - 1), du * choose (wh + (n - 1)) (n - 1), _, _, _, hm, by omega, ?_, rfl⟩
      refine Nat.lt_of_lt_of_le (Nat.lt_of_le_of_lt (Nat.mul_le_mul_left du (choose_le (wh + (n - 1)) (n - 1))) (Nat.mul_lt_mul_of_pos_right hdu (Nat.pow_pos (by decide)))) ?_
      rw [← Nat.pow_add]
      exact Nat.pow_le_pow_right (by decide) (by omega)
  obtain ⟨S7, E7, wh, du, y6, y7, y8, hm, ht, hdu, rfl⟩ := hJ
  rw [List.length_map, List.length_map, List.drop_length] at hm ht
  have hm : mult 1 0 ns = du := hm
  have ht : wh + 0 = tot ns := ht
  rw [Nat.add_zero] at ht
  subst hm
  subst ht
  have aw7 := aw6.mono E7
  -- ends
  refine q_asg (d := .l [dNL (zeros ns), dNL (lasts ns)]) (ev_lst (ea_cons (EvD.is (ev_op (ev_lst (ds := [dn 0]) (ea_cons ev_c ea_nil) sz1) (EvD.is (ev_cb (ea_cons (ev_var rfl aw7) ea_nil) cv_len) (show dn _ = dn ns.length by rw [List.length_map, List.length_map])) (rv_rep1 (by omega))) (by unfold dNL zeros; rw [List.map_replicate])) (ea_cons (EvD.is (ev_lc (n := ns.length) (fun _ => true) (fun i => dn (ns.getD i 0 - 1)) (SrcD.is (src_pairs (ds := (ns.map pathW).map dWeb) (a := fun i => dn (ns.getD i 0)) (b := fun i => .l ((pathW (ns.getD i 0)).ts.map dTie)) (ev_var rfl aw7) fun i hi => ?_) (by rw [List.length_map, List.length_map]) (fun _ _ => rfl)) (by omega) fun i vs Hb8 hi e8 a8 => ?_) ?_) ea_nil)) (show 2 ≤ 100000 by decide)) S7.e2 fun x9 Hb8 H8 s8 a9 => ?_
  · rw [List.length_map, List.length_map] at hi
    rw [List.getElem?_map, List.getElem?_map, get_lt hi 0]
    rfl
  · have hni := get_lt hi 0
    have hnn := hns _ (List.mem_of_getElem? hni)
    generalize ns.getD i 0 = n at hnn a8
    obtain ⟨z0, z1, rfl, f0, f1⟩ := at2 a8
    exact ⟨rfl, et_yes, fun _ => EvD.is (ev_op (dx := dn n) (ev_var rfl f0) ev_c rv_I0) (by show Da.v (.int _) = Da.v (.int _); congr 2; omega)⟩
  · rw [given_all]
    unfold dNL lasts
    rw [List.map_map]
    exact congrArg Da.l (map_getD ns (fun n => dn (n - 1)) 0)
  have S8 := S7.step s8
  have aw8 := aw7.mono s8.e1
  have e0 : ∀ {σ : L2.St} {Hx}, Ex T Hb8 Hx → σ[9]? = some (some x9) → EvD T (tOp (rIxL K) (tVar 9) (tC (.int 0))) σ Hx (dNL (zeros ns)) := fun ee h => ev_op (dx := .l [dNL (zeros ns), dNL (lasts ns)]) (dy := dn 0) (ev_var h (a9.mono ee)) ev_c (rv_ixL rfl)
  have e1 : ∀ {σ : L2.St} {Hx}, Ex T Hb8 Hx → σ[9]? = some (some x9) → EvD T (tOp (rIxL K) (tVar 9) (tC (.int 1))) σ Hx (dNL (lasts ns)) := fun ee h => ev_op (dx := .l [dNL (zeros ns), dNL (lasts ns)]) (dy := dn 1) (ev_var h (a9.mono ee)) ev_c (rv_ixL rfl)
  have ew : ∀ {σ : L2.St} {Hx}, Ex T Hb8 Hx → σ[1]? = some (some (.ref pw)) → EvD T (tVar 1) σ Hx (dWebs (ns.map pathW)) := fun ee h => ev_var h (aw8.mono ee)
  have r8 : Ex T Hb8 Hb8 := .refl s8.e1.t2
  refine q_no (EvT.is (et_or (et_test (b := false) (EvD.is (ev_op (dx := .v (vn (tot ns))) (dy := .v (vn (tot ns))) (EvD.is (ev_call (A := A_far) (ea_cons (ew r8 rfl) (ea_cons (e0 r8 rfl) (ea_cons (e1 r8 rfl) ea_nil))) ⟨_, _, _, rfl, hok, ro0, ro1, rfl⟩) (by rw [path_pdist hn0]; rfl)) (ev_var rfl rfl) (rv_ne rfl)) ?_)) fun _ => et_or (et_test (b := false) (EvD.is (ev_op (dx := .v (vn (mult 1 0 ns))) (dy := .v (vn (mult 1 0 ns))) (EvD.is (ev_call (A := A_ways) (ea_cons (ew r8 rfl) (ea_cons (e0 r8 rfl) (ea_cons (e1 r8 rfl) ea_nil))) ⟨_, _, _, rfl, hok, ro0, ro1, rfl⟩) (by rw [path_pways hn0]; rfl)) (ev_var rfl rfl) (rv_ne rfl)) ?_)) fun _ => et_test (b := false) (EvD.is (ev_op (dx := .v (vn (tot ns))) (dy := .v (vn (tot ns))) (EvD.is (ev_call (A := A_widest) (ea_cons (ew r8 rfl) ea_nil) ⟨_, rfl, hok, rfl⟩) (by rw [widO_some (path_conns hn0), path_wids hn0]; rfl)) (ev_var rfl rfl) (rv_ne rfl)) ?_)) rfl) S8.e2 fun Hb9 H9 s9 => ?_
  · rw [decide_eq_true rfl]; rfl
  · rw [decide_eq_true rfl]; rfl
  · rw [decide_eq_true rfl]; rfl
  have S9 := S8.step s9
  refine q_asg (d := dNL (rings [1] (ns.map pathW) (zeros ns))) (ev_call (ea_cons (ew s9.e1 rfl) (ea_cons (e0 s9.e1 rfl) ea_nil)) ⟨_, _, rfl, hok, ro0, rfl⟩) S9.e2 fun x10 Hb10 H10 s10 a10 => ?_
  have S10 := S9.step s10
  have rl := rings_len ro0 ringOk_one
  have rsum := rings_sum ro0 ringOk_one
  rw [path_eccs hn0, List.length_singleton] at rl
  rw [List.sum_singleton, Nat.one_mul, knowns_conn ro0 (path_conns hn0)] at rsum
  have ef : ∀ {Hx}, Ex T Hb10 Hx → EvD T (tVar 10) [some (.ref p), some (.ref pw), y2, y3, some (vn (tot ns)), some (vn (mult 1 0 ns)), y6, y7, y8, some x9, some x10] Hx (dNL (rings [1] (ns.map pathW) (zeros ns))) := fun ee => ev_var rfl (a10.mono ee)
  have r10 : Ex T Hb10 Hb10 := .refl s10.e1.t2
  refine s_ret (d := .v (.bl true)) (EvD.is (ev_andV (ev_op (dx := .v (vn (tot ns + 1))) (dy := .v (vn (tot ns + 1))) (EvD.is (ev_cb (ea_cons (ef r10) ea_nil) cv_len) (by rw [List.length_map, rl, Nat.add_comm]; rfl)) (EvD.is (ev_op (dx := dn (tot ns)) (ev_var rfl rfl) ev_c rv_I0) (by show Da.v (.int _) = Da.v (.int _); rw [Int.natCast_add]; rfl)) (rv_eq rfl)) fun _ => ev_andV (ev_op (dx := .v (vn (plc (ns.map pathW)))) (dy := .v (vn (plc (ns.map pathW)))) (EvD.is (ev_cb (ea_cons (ef r10) ea_nil) cv_sum) (by rw [rsum]; rfl)) (ev_call (A := A_places_in) (ea_cons (ew (s9.e1.trans s10.e1) rfl) ea_nil) ⟨_, rfl, hok, rfl⟩) (rv_eq rfl)) fun _ => ev_op (dx := dNL (rings [1] (ns.map pathW) (zeros ns))) (dy := dNL (rings [1] (ns.map pathW) (zeros ns))) (ef r10) (EvD.is (ev_revL (ef r10)) (by rw [← List.map_reverse, pal_rev (path_pals hn0)]; rfl)) rv_eqD) ?_) S10.e2 fun v Hb' H' s a => ?_
  · rw [decide_eq_true rfl, decide_eq_true rfl, decide_eq_true rfl]
    rfl
  · have a : v = .bl true := a
    subst a
    exact q Hb' H' (S10.step s)
end
end K68
end

section
namespace K68
open PySem PySem.Spec PyProof.Rows L2
section
variable {P : Program} {w : World} {K : PySem.W.Frag} {mg : Str → Option Value} {base : Heap} {T : Addr × Str}
/-! ### law -/
abbrev s_law : Stmt := topS 46
abbrev n_law : List Str := ["_law_script", "_law_pool_here", "_law_webs", "_law_turn", "_law_rows", "_law_web_here", "_law_k", "_law_one", "_law_other", "_law_beside"]
theorem sc_law : FnScope n_law ["_law_script"] (defScope s_law) := ⟨rfl, rfl, rfl, by decide +kernel, rfl, by decide +kernel, by decide +kernel⟩
def spLaw (T : Addr × Str) (K : PySem.W.Frag) : Sp := fun vs H Q _ => ∃ (a : Addr) (ns : List Int), vs = [.ref a] ∧ SqL K H a (ns.map V.int) ∧ LamX.TabS H T.1 T.2 ∧ ∀ H', Q (.bl true) H'
theorem s_ifR {σ : L2.St} {tt : TT} {tu tw : TS} {D : Ends} {Hc : Hp} (R : Bool → Hp → Prop) (h : ∀ Q : Bool → Hp → Prop, (∀ b H', R b H' → Q b H') → tt σ Hc Q) (k1 : ∀ H', R true H' → tu D σ H') (k2 : ∀ H', R false H' → tw D σ H') : tIfS tt tu tw D σ Hc :=
  h _ fun b H' r => by
    cases b with
    | true => exact k1 H' r
    | false => exact k2 H' r
theorem q_asgR {σ : L2.St} {te : TE} {g : TG} {tz : TS} {D : Ends} {Hc : Hp} (R : L2.St → Hp → Prop) (h : ∀ Q : L2.St → Hp → Prop, (∀ σ' H', R σ' H' → Q σ' H') → te σ Hc fun x H1 => g x σ H1 Q) (k : ∀ σ' H', R σ' H' → tz D σ' H') : tSeq (tAsg te g) tz D σ Hc := h _ k
theorem q_any {σ : L2.St} {t tz : TS} {D : Ends} {Hc : Hp} (R : L2.St → Hp → Prop) (h : ∀ Q : L2.St → Hp → Prop, (∀ σ' H', R σ' H' → Q σ' H') → t { D with nx := Q } σ Hc) (k : ∀ σ' H', R σ' H' → tz D σ' H') : tSeq t tz D σ Hc := h _ k
theorem pick5 {r : Nat} (h : r < 5) : atI [V.int 1, .int 2, .int 3, .int 4, .int 5] (r : Int) = some (vn (1 + r)) := by
  match r, h with
  | 0, _ => rfl
  | 1, _ => rfl
  | 2, _ => rfl
  | 3, _ => rfl
  | 4, _ => rfl
theorem row_snoc : ∀ {ws : List Web} {l : List Nat} {w : Web} {a : Nat}, RowOk ws l → a < w.n → RowOk (ws ++ [w]) (l ++ [a])
  | [], [], w, a, _, h => ⟨h, trivial⟩
  | v :: ws, b :: l, w, a, o, h => ⟨o.1, row_snoc (ws := ws) o.2 h⟩
theorem row_zero : ∀ {ws : List Web}, (∀ w ∈ ws, 0 < w.n) → RowOk ws (List.replicate ws.length 0)
  | [], _ => trivial
  | w :: ws, h => ⟨h w List.mem_cons_self, row_zero fun v hv => h v (List.mem_cons_of_mem _ hv)⟩
theorem row_last : ∀ {ws : List Web}, (∀ w ∈ ws, 0 < w.n) → RowOk ws (ws.map fun w => w.n - 1)
  | [], _ => trivial
  | w :: ws, h => ⟨by have := h w List.mem_cons_self; show w.n - 1 < w.n; omega, row_last fun v hv => h v (List.mem_cons_of_mem _ hv)⟩
/-- a pool drawn: new, one's own -/
theorem te_pool {σ : L2.St} {a : Addr} {ns : List Int} {H Hb Hc : Hp} {k : Nat} {tb : TE} {E : XK} {Q : VK} (S : Stp T H H Hb Hc) (hx : σ[0]? = some (some (.ref a))) (hs : SqL K H a (ns.map V.int)) (hk : ∀ Q' : VK, Q' (vn k) Hc → tb σ Hc Q') (h : k ≤ 1000)
    (q : ∀ p H', Stp T H H Hb H' → H p = none → Hb p = none → PoolAt H' p → Ex T Hb H' → Q (.ref p) H') : tCall (spPool T K) [] E (tCons (tVar 0) (tCons tb tNil)) σ Hc Q :=
  ⟨.ref a, hx, hk _ ⟨Hb, a, k, ns, rfl, S.e2, (SqL.ex hs S.e3), h, fun p H' s f0 n0 po => q p H' (S.trans s) (S.fresh f0) n0 po s.e2⟩⟩
theorem ok_law {f : Addr} {fd : FuncData} (F : Fun K "law" "law" s_law f fd) (c__law_long_right : Cal P w K mg base "_law_long_right" 8 ["_law_pool_here"] (spLong T)) (c__law_pool : Cal P w K mg base "_law_pool" 1 ["_law_script", "_law_k"] (spPool T K)) (c__law_take : Cal P w K mg base "_law_take" 1 ["_law_pool_here", "_law_many"] spTake)
    (c__law_loose : Cal P w K mg base "_law_loose" 3 ["_law_pool_here", "_law_most", "_law_more"] (spWeb T)) (c_rows_beside : Cal P w K mg base "rows_beside" 6 ["webs", "row"] (PmS T A_rows_beside)) (c__law_ways_right : Cal P w K mg base "_law_ways_right" 8 ["_law_webs", "_law_one", "_law_other", "_law_beside"] (Pm T A_ways_right))
    (c__law_rings_right : Cal P w K mg base "_law_rings_right" 8 ["_law_webs", "_law_one", "_law_other", "_law_beside"] (Pm T A_rings_right)) (c__law_walks_right : Cal P w K mg base "_law_walks_right" 8 ["_law_webs", "_law_one", "_law_other", "_law_beside", "_law_often"] (Pm T A_walks_right))
    (m_range : mg "range" = none) (m_len : mg "len" = none) (m_max : mg "max" = none) (m_min : mg "min" = none) (m_list : mg "list" = none) : FnOk P w K mg base CX0 9 f fd ["_law_script"] (spLaw T K) := by
  refine F.ok sc_law (fun vs H Q E ⟨_, _, h, _⟩ => by rw [h]; rfl) fun cdv Ar outer s H vs Q E hr hsp => ?_
  obtain ⟨a, ns, rfl, hs, ht, q⟩ := hsp
  have nd := sc_law.nd
  refine ⟨_, (pss_cons (ps_if (pt_not (pt_val (pe_cal c__law_long_right hr (by decide) rfl (pa_cons (pe_cal c__law_pool hr (by decide) rfl (pa_cons (pv 0) (pa_cons pe_int pa_nil))) pa_nil)))) (pss_one (ps_ret pe_bl)) pss_nil)
      (pss_cons (ps_set (i := 1) nd rfl (Or.inr rfl) (pe_cal c__law_pool hr (by decide) rfl (pa_cons (pv 0) (pa_cons pe_int pa_nil))))
      (pss_cons (ps_setLc (i := 2) (own := [("_law_turn", 3)]) (g := gName 3) rfl nd rfl rfl (sw_true rfl rfl rfl (by decide +kernel)) (pi_range1 (by rfl) m_range (pa_cons (pe_op op_add pe_int (pe_cal c__law_take hr (by decide) rfl (pa_cons (pv 1) (pa_cons pe_int pa_nil)))) pa_nil)) (blkOk_by (own := [("_law_turn", 3)]) (N := n_law) (sc := (defScope s_law)) (by decide +kernel)) (fun _ _ _ _ _ => (pg_name (i := 3) nd rfl (Or.inl rfl) (hf := Or.inr rfl))) (fun _ _ _ _ _ => pts_nil) (fun _ _ _ _ _ => (pe_cal c__law_loose hr (by decide) rfl (pa_cons (pv 1) (pa_cons (pe_ix (r := rIxL K) ix_list (pe_lst (pa_cons pe_int (pa_cons pe_int (pa_cons pe_int (pa_cons pe_int (pa_cons pe_int pa_nil)))))) (pe_cal c__law_take hr (by decide) rfl (pa_cons (pv 1) (pa_cons pe_int pa_nil))) (fun _ _ => rfl)) (pa_cons pe_int pa_nil))))))
      (pss_cons (ps_set (i := 4) nd rfl (Or.inl rfl) (pe_lst (pa_cons (pe_op op_rep (pe_lst (pa_cons pe_int pa_nil)) (pe_callB (r := rLen K) call_len_seq (by rfl) m_len PySem.boot_len (pa_cons (pv 2) pa_nil))) (pa_cons (pe_lc (own := [("_law_web_here", 5)]) (g := gName 5) rfl nd (pi_list (pv 2)) (blkOk_by (own := [("_law_web_here", 5)]) (N := n_law) (sc := (defScope s_law)) (by decide +kernel)) (fun _ _ _ _ _ => (pg_name (i := 5) nd rfl (Or.inl rfl) (hf := Or.inr rfl))) (fun _ _ _ _ _ => pts_nil) (fun _ _ _ _ _ => (pe_op op_sub (pe_ix (r := rIxT K) ix_tup (pv 5) pe_int (fun _ _ => rfl)) pe_int))) pa_nil))))
      (pss_cons (ps_for PassesOwn.never rfl (pi_range2 (by rfl) m_range (pa_cons pe_int (pa_cons (pe_callB (r := rMax2) (call_max2 rfl) (by rfl) m_max (by decide +kernel) (pa_cons pe_int (pa_cons (pe_callB (r := rMin2) (call_min2 rfl) (by rfl) m_min (by decide +kernel) (pa_cons (pe_callB (r := rLen K) call_len_seq (by rfl) m_len PySem.boot_len (pa_cons (pv 0) pa_nil)) (pa_cons pe_int pa_nil))) pa_nil))) pa_nil))) (pg_name (i := 6) nd rfl (Or.inl rfl)) (pss_cons (ps_set (i := 1) nd rfl (Or.inr rfl) (pe_cal c__law_pool hr (by decide) rfl (pa_cons (pv 0) (pa_cons (pv 6) pa_nil))))
      (pss_cons (ps_asg (pe_lc (own := [("_law_web_here", 5)]) (g := gName 5) rfl nd (pi_list (pv 2)) (blkOk_by (own := [("_law_web_here", 5)]) (N := n_law) (sc := (defScope s_law)) (by decide +kernel)) (fun _ _ _ _ _ => (pg_name (i := 5) nd rfl (Or.inl rfl) (hf := Or.inr rfl))) (fun _ _ _ _ _ => pts_nil) (fun _ _ _ _ _ => (pe_cal c__law_take hr (by decide) rfl (pa_cons (pv 1) (pa_cons (pe_ix (r := rIxT K) ix_tup (pv 5) pe_int (fun _ _ => rfl)) pa_nil))))) (pg_sub (pv 4) (pe_cal c__law_take hr (by decide) rfl (pa_cons (pv 1) (pa_cons pe_int pa_nil))) set_list))
      (pss_cons (ps_asg (pv 4) (pg_unl rfl (pgs_cons (pg_name (i := 7) nd rfl (Or.inl rfl)) (pgs_cons (pg_name (i := 8) nd rfl (Or.inl rfl)) pgs_nil))))
      (pss_cons (ps_if (pt_cmpR op_eq (pe_cal c__law_take hr (by decide) rfl (pa_cons (pv 1) (pa_cons pe_int pa_nil))) pe_int (nomark _)) (pss_one (ps_set (i := 8) nd rfl (Or.inl rfl) (pe_callTy (r := rListOf K) call_list_of (by rfl) m_list (by decide +kernel) (pa_cons (pv 7) pa_nil)))) pss_nil)
      (pss_cons (ps_set (i := 9) nd rfl (Or.inl rfl) (pe_cal c_rows_beside hr (by decide) rfl (pa_cons (pv 2) (pa_cons (pv 7) pa_nil))))
      (pss_cons (ps_if (PW.pt (pw_or (pt_not (pt_val (pe_cal c__law_ways_right hr (by decide) rfl (pa_cons (pv 2) (pa_cons (pv 7) (pa_cons (pv 8) (pa_cons (pv 9) pa_nil))))))) (pw_or1 (pt_not (pt_val (pe_cal c__law_rings_right hr (by decide) rfl (pa_cons (pv 2) (pa_cons (pv 7) (pa_cons (pv 8) (pa_cons (pv 9) pa_nil)))))))))) (pss_one (ps_ret pe_bl)) pss_nil)
      (pss_one (ps_if (pt_not (pt_val (pe_cal c__law_walks_right hr (by decide) rfl (pa_cons (pv 2) (pa_cons (pv 7) (pa_cons (pv 8) (pa_cons (pv 9) (pa_cons (pe_cal c__law_take hr (by decide) rfl (pa_cons (pv 1) (pa_cons pe_int pa_nil))) pa_nil)))))))) (pss_one (ps_ret pe_bl)) pss_nil)))))))))
      (pss_one (ps_ret pe_bl))))))), ?_⟩
  have e0 : Ex T H H := .refl ht
  -- long
  refine q_ifR (fun b H' => b = false ∧ ∃ Hb', Stp T H H Hb' H') (fun Q' k => te_pool (Stp.refl e0) rfl hs (fun Q'' q' => q') (k := 1) (by decide) fun p H1 S1 f0 n0 po ex => ⟨H, p, rfl, ex, po, n0, fun Hb' H'' ps => ⟨true, rfl, k _ _ ⟨rfl, Hb', ps.whole S1 f0⟩⟩⟩) (fun H' ⟨h, _⟩ => by cases h) (fun H1 ⟨_, Hb1, S1⟩ => ?_)
  -- pool
  refine q_raw (fun x H' => ∃ p, x = .ref p ∧ Stp T H H Hb1 H' ∧ H p = none ∧ Hb1 p = none ∧ PoolAt H' p ∧ Ex T Hb1 H') (fun Q' k => te_pool S1 rfl hs (fun Q'' q' => q') (k := 0) (by decide) fun p H2 S2 f0 n0 po ex => k _ _ ⟨p, rfl, S2, f0, n0, po, ex⟩) ?_
  rintro x H2 ⟨p, rfl, S2, f0, n0, po, ex2⟩
  -- webs
  refine q_raw (fun x H' => ∃ (Hb3 : Hp) (ws : List Web), Stp T H H Hb3 H' ∧ (dWebs ws).At Hb3 x ∧ (∀ v ∈ ws, WebOk v) ∧ ws.length ≤ 6) (fun Q' k => ?_) ?_
  · refine lc_rng (T := T) (fun r H' => r ≤ 6 ∧ PSt T p Hb1 H2 Hb1 H') (fun Q'' k2 => te_take po rfl (fun Q3 q' => q') (m := 6) (by decide) (by decide) fun r g n hr1 m0 m1 => ⟨1, (r : Int), rfl, rfl, ?_⟩) (fun r H' h => by omega) fun r H3 wi ⟨r6, P3⟩ src => ?_
    · have := k2 (1 + r) (upd H2 p (.lst [.int g, .int n])) ⟨by omega, (PSt.refl ex2 po n0).take m0 m1⟩
      unfold vn at this
      rw [Int.natCast_add] at this
      exact this
    refine lc_any (src Hb1 P3.e2) (fun D i acc Hb' H' => PSt T p Hb1 H2 Hb' H' ∧ D ≠ p ∧ H2 D = none ∧ Hb' D = none ∧ H' D = some (.lst acc) ∧ ∃ ws : List Web, AtL Hb' (ws.map dWeb) acc ∧ (∀ v ∈ ws, WebOk v) ∧ ws.length = i)
      (fun D Hb4 H4 s4 hD => ?_) (fun D i acc Hb4 H4 vs Hb5 H5 hi x1 x2 hJ s5 a5 => ?_) (fun D acc Hb4 H4 x1 x2 hJ => ?_)
    · obtain ⟨P4, n1, n2, n3⟩ := (P3.step s4).own (o := .lst []) hD
      exact ⟨P4, n1, n2, n3, upd_same, [], rfl, (fun v hv => by cases hv), rfl⟩
    · obtain ⟨P4, d1, d2, d3, d4, ws, hws, hok, hwl⟩ := hJ
      obtain ⟨z, rfl, hz⟩ := at1 a5
      have P5 := P4.step s5
      have c5 := s5.kept d4 True.intro
      have b5 := s5.hidden d3 d4
      refine ⟨rfl, ?_⟩
      refine ⟨.ref p, rfl, show 5 ≤ sizeLine by decide, fun q0 hq0 => ?_⟩
      obtain ⟨P6, g1, g2, g3⟩ := P5.own (o := .lst [.int 1, .int 2, .int 3, .int 4, .int 5]) hq0
      have nDq : D ≠ q0 := fun z => by rw [← z, c5] at hq0; cases hq0
      have c6 : (upd H5 q0 (.lst [.int 1, .int 2, .int 3, .int 4, .int 5])) D = some (.lst acc) := by rw [upd_ne nDq]; exact c5
      refine te_take P6.po rfl (fun Q3 q' => q') (m := 5) (by decide) (by decide) fun r2 g n hr2 m0 m1 => ?_
      have P7 := P6.take (g := g) m0 m1
      have hq7 : (upd (upd H5 q0 (.lst [.int 1, .int 2, .int 3, .int 4, .int 5])) p (.lst [.int g, .int n])) q0 = some (.lst [.int 1, .int 2, .int 3, .int 4, .int 5]) := by rw [upd_ne g1]; exact upd_same
      have c7 : (upd (upd H5 q0 (.lst [.int 1, .int 2, .int 3, .int 4, .int 5])) p (.lst [.int g, .int n])) D = some (.lst acc) := by rw [upd_ne d1]; exact c6
      refine ⟨q0, _, (r2 : Int), vn (1 + r2), rfl, rfl, sqL hq7, pick5 hr2, Hb5, p, 1 + r2, 2, rfl, P7.e2, P7.po, P7.nb, by omega, by omega, by decide, fun W v Hb8 H8 okW P8 aW => ?_⟩
      have P9 := P7.trans P8
      have c8 := P8.kept d1 c7 True.intro
      have b8 := P8.hidden d1 b5 c7
      have P10 := P9.mut (o := .lst (acc ++ [v])) d1 d2 b8 c8 True.intro
      have hal := hws.length
      rw [List.length_map, hwl] at hal
      refine ⟨acc, c8, by rw [hal]; exact sz_lt (by omega), _, Hb8, s5.e1.trans P8.e1, P10.e2, P10, d1, d2, b8, upd_same, ws ++ [W], ?_, fun v2 hv2 => ?_, by rw [List.length_append, hwl]; rfl⟩
      · rw [List.map_append]
        exact (hws.mono (s5.e1.trans P8.e1)).snoc aW
      · rcases List.mem_append.mp hv2 with hv2 | hv2
        · exact hok v2 hv2
        · rw [List.mem_singleton.mp hv2]
          exact okW
    · obtain ⟨P4, d1, d2, d3, d4, ws, hws, hok, hwl⟩ := hJ
      have P5 := P4.tell d1 d2 d3 d4
      exact k _ _ ⟨_, ws, P5.whole S2 f0, ⟨D, acc, rfl, upd_same, hws.mono (.new P4.e1.t2 d3)⟩, hok, by omega⟩
  rintro xw H3 ⟨Hb3, ws, S3, aw, hok, hwl⟩
  have wok : WebsOk ws := ⟨by omega, hok⟩
  have hpos : ∀ v ∈ ws, 0 < v.n := fun v hv => (hok v hv).pos
  -- rows
  refine q_new (Hb := Hb3) (ds := [dNL (List.replicate ws.length 0), dNL (ws.map fun v => v.n - 1)]) (en_lst (ea_cons (EvD.is (ev_op (ev_lst (ds := [dn 0]) (ea_cons ev_c ea_nil) sz1) (EvD.is (ev_cb (ea_cons (ev_var rfl aw) ea_nil) cv_len) (show dn _ = dn ws.length by rw [List.length_map])) (rv_rep1 (by omega))) (by unfold dNL; rw [List.map_replicate])) (ea_cons (EvD.is (ev_lc (n := ws.length) (fun _ => true) (fun i => dn ((ws.getD i ⟨0, []⟩).n - 1)) (SrcD.is (src_list (ev_var rfl aw)) (List.length_map _) (fun _ _ => rfl)) (by omega) fun i vs Hb7 hi e7 a7 => ?_) ?_) ea_nil)) (show 2 ≤ 100000 by decide)) S3.e2 fun pr us Hb4 H4 s4 f4 b4 c4 a4 => ?_
  · obtain ⟨W, hW⟩ := get_some hi
    have := hpos W (List.mem_of_getElem? hW)
    rw [getD_map hW] at a7
    obtain ⟨z, rfl, hz⟩ := at1 a7
    rw [getD_of hW]
    exact ⟨rfl, et_yes, fun _ => EvD.is (ev_op (dx := dn W.n) (ev_op (dx := dWeb W) (dy := dn 0) (ev_var rfl hz) ev_c (rv_ixT rfl)) ev_c rv_I0) (by show Da.v (.int _) = Da.v (.int _); congr 2; omega)⟩
  · rw [given_all]
    unfold dNL
    rw [List.map_map]
    exact congrArg Da.l (map_getD ws (fun v => dn (v.n - 1)) ⟨0, []⟩)
  have S4 := S3.trans s4
  have fr : H pr = none := S3.fresh f4
  have aw4 := aw.mono s4.e1
  -- for
  obtain ⟨mk, hmk, hmk2⟩ : ∃ mk : Nat, mk ≤ 1000 ∧ (if (if (20 : Int) < ((ns.length : Nat) : Int) then (20 : Int) else ((ns.length : Nat) : Int)) > 3 then (if (20 : Int) < ((ns.length : Nat) : Int) then (20 : Int) else ((ns.length : Nat) : Int)) else 3) = (mk : Int) := by
    by_cases h1 : (20 : Int) < ((ns.length : Nat) : Int)
    · exact ⟨20, by omega, by rw [if_pos h1, if_pos (by decide)]; rfl⟩
    · rw [if_neg h1]
      by_cases h2 : ((ns.length : Nat) : Int) > 3
      · exact ⟨ns.length, by omega, by rw [if_pos h2]⟩
      · exact ⟨3, by omega, by rw [if_neg h2]; rfl⟩
  have hlen : ∀ {σ : L2.St} {Hx}, Ex T Hb4 Hx → σ[0]? = some (some (.ref a)) → EvD T (tCB (rLen K) (tCons (tVar 0) tNil)) σ Hx (dI ((ns.length : Nat) : Int)) := fun {σ Hx} ee h Hb' Hc' e1 e2 Q q => ⟨.ref a, h, a, ns.map V.int, rfl, .inl (SqL.ex (SqL.ex hs (S4.e1.trans ee)) (e1.trans e2)), by
    rw [List.length_map]
    exact q _ Hb' Hc' (.refl e2) rfl⟩
  refine q_for (src_range2 (lo := 1) (m := mk) (ea_cons ev_c (ea_cons (EvD.is (ev_cb (ea_cons ev_c (ea_cons (ev_cb (ea_cons (hlen (.refl s4.e1.t2) rfl) (ea_cons ev_c ea_nil)) cv_min2) ea_nil)) cv_max2) (congrArg dI hmk2)) ea_nil)) (by omega) (by omega)) S4.e2
    (fun i σ Hb' Hc' => Stp T H H Hb' Hc' ∧ Ex T Hb4 Hb' ∧ Hb' pr = none ∧ ∃ (us : List V) (l1 l2 : List Nat) (y1 y3 y5 y6 y7 y8 y9 : Option V), Hc' pr = some (.lst us) ∧ AtL Hb' [dNL l1, dNL l2] us ∧ RowOk ws l1 ∧ RowOk ws l2 ∧ σ = [some (.ref a), y1, some xw, y3, some (.ref pr), y5, y6, y7, y8, y9])
    (fun Hb5 H5 s5 => ⟨S4.trans s5, s5.e1, s5.hidden b4 c4, us, _, _, some (.ref p), none, none, none, none, none, none, s5.kept c4 True.intro, a4.mono s5.e1, row_zero hpos, row_last hpos, rfl⟩) (fun i σ' Hb5 H5 vs Hb6 H6 hi x5 x6 hJ s6 a6 => ?_) (fun σ' Hb5 H5 x5 x6 hJ => ?_)
  · obtain ⟨S5, E5, b5, us, l1, l2, y1, y3, y5, y6, y7, y8, y9, c5, aus, o1, o2, rfl⟩ := hJ
    obtain ⟨z, rfl, hz⟩ := at1 a6
    have hz : z = vn (1 + i) := hz
    subst hz
    have S6 := S5.trans s6
    have c6 := s6.kept c5 True.intro
    have b6 := s6.hidden b5 c5
    have aus6 := aus.mono s6.e1
    have aw6 := aw4.mono (E5.trans s6.e1)
    -- pool
    refine q_raw (fun x H' => ∃ p, x = .ref p ∧ Stp T H H Hb6 H' ∧ H p = none ∧ Hb6 p = none ∧ PoolAt H' p ∧ Ex T Hb6 H' ∧ p ≠ pr ∧ H' pr = some (.lst us)) (fun Q' k => ?_) ?_
    · refine ⟨.ref a, rfl, vn (1 + i), rfl, Hb6, a, 1 + i, ns, rfl, S6.e2, SqL.ex hs S6.e3, by omega, fun p H' s f0 n0 po => ?_⟩
      exact k _ _ ⟨p, rfl, S6.trans s, S6.fresh f0, n0, po, s.e2, (fun z => by rw [z, c6] at f0; cases f0), s.kept c6 True.intro⟩
    rintro x H7 ⟨p, rfl, S7, f0, n0, po, ex7, npr, c7⟩
    have P7 : PSt T p Hb6 H7 Hb6 H7 := .refl ex7 po n0
    -- rows[..] = ..
    refine q_asgR (fun σ' H' => ∃ (Hb8 : Hp) (us8 : List V) (l1 l2 : List Nat) (y5 : Option V), Stp T H H Hb8 H' ∧ PoolAt H' p ∧ Hb8 p = none ∧ Ex T Hb6 Hb8 ∧ Hb8 pr = none ∧ H' pr = some (.lst us8) ∧ AtL Hb8 [dNL l1, dNL l2] us8 ∧ RowOk ws l1 ∧ RowOk ws l2 ∧ σ' = [some (.ref a), some (.ref p), some xw, y3, some (.ref pr), y5, some (vn (1 + i)), y7, y8, y9]) (fun Q' k => ?_) ?_
    · refine lc_any (SrcD.now (src_list (ev_var rfl aw6)) ex7) (fun D j acc Hb' H' => PSt T p Hb6 H7 Hb' H' ∧ D ≠ p ∧ H7 D = none ∧ Hb' D = none ∧ H' D = some (.lst acc) ∧ ∃ l : List Nat, acc = l.map vn ∧ RowOk (ws.take j) l)
        (fun D Hb8 H8 s8 hD => ?_) (fun D j acc Hb8 H8 vs Hb9 H9 hj x1 x2 hJ s9 a9 => ?_) (fun D acc Hb8 H8 x1 x2 hJ => ?_)
      · obtain ⟨P8, n1, n2, n3⟩ := (P7.step s8).own (o := .lst []) hD
        exact ⟨P8, n1, n2, n3, upd_same, [], rfl, by rw [List.take_zero]; trivial⟩
      · obtain ⟨P8, d1, d2, d3, d4, l, rfl, hl⟩ := hJ
        rw [List.length_map] at hj
        obtain ⟨W, hW⟩ := get_some hj
        rw [getD_map hW] at a9
        obtain ⟨z, rfl, hz⟩ := at1 a9
        obtain ⟨ta, ts, rfl, hz1, hz2⟩ := (show ∃ a us, z = .ref a ∧ Hb9 a = some (.tup us) ∧ AtL Hb9 [dn W.n, .l (W.ts.map dTie)] us from hz)
        obtain ⟨u0, u1, rfl, hu0, _⟩ := at2 hz2
        have hu0 : u0 = vn W.n := hu0
        subst hu0
        have P9 := P8.step s9
        have c9 := s9.kept d4 True.intro
        have b9 := s9.hidden d3 d4
        have okW := hok W (List.mem_of_getElem? hW)
        have hm1 := okW.pos
        have hm2 := okW.most
        refine ⟨rfl, te_take P9.po rfl (fun Q3 q' => ⟨.ref ta, rfl, ta, _, 0, vn W.n, rfl, rfl, sqT (s9.e2.at hz1 True.intro), rfl, q'⟩) hm1 (by omega) fun r g n hr1 m0 m1 => ?_⟩
        have P10 := P9.take (g := g) m0 m1
        have c10 : (upd H9 p (.lst [.int g, .int n])) D = some (.lst (l.map vn)) := by rw [upd_ne d1]; exact c9
        have P11 := P10.mut (o := .lst (l.map vn ++ [vn r])) d1 d2 b9 c10 True.intro
        have hll := hl.len
        rw [List.length_take] at hll
        refine ⟨l.map vn, c10, by rw [List.length_map]; exact sz_lt (by omega), _, Hb9, s9.e1, P11.e2, P11, d1, d2, b9, upd_same, l ++ [r], by rw [List.map_append]; rfl, ?_⟩
        have htk : ws.take (j + 1) = ws.take j ++ [W] := by rw [List.take_add_one, hW]; rfl
        rw [htk]
        exact row_snoc hl hr1
      · obtain ⟨P8, d1, d2, d3, d4, l, rfl, hl⟩ := hJ
        rw [List.length_map, List.take_length] at hl
        have nDr : D ≠ pr := fun z => by rw [z, c7] at d2; cases d2
        have P9 := P8.tell d1 d2 d3 d4
        have E9 : Ex T Hb6 (upd Hb8 D (.lst (l.map vn))) := P9.e1
        have c8 := P8.kept npr.symm c7 True.intro
        have b8 := P8.hidden npr.symm b6 c7
        have al : (dNL l).At (upd Hb8 D (.lst (l.map vn))) (.ref D) := at_dNL_mk upd_same
        have b9 : (upd Hb8 D (.lst (l.map vn))) pr = none := by rw [upd_ne nDr.symm]; exact b8
        have aus9 := aus6.mono (P8.e1.trans (Ex.new (o := .lst (l.map vn)) P8.e1.t2 d3))
        generalize upd Hb8 D (.lst (l.map vn)) = Hb9 at P9 al b9 aus9 E9
        have ful := aus6.length
        have ful : us.length = 2 := ful
        refine ⟨.ref pr, rfl, te_take P9.po rfl (fun Q3 q' => q') (m := 2) (by decide) (by decide) fun r g n hr1 m0 m1 => ?_⟩
        have P10 := P9.take (g := g) m0 m1
        have c10 : (upd H8 p (.lst [.int g, .int n])) pr = some (.lst us) := by rw [upd_ne npr.symm]; exact c8
        have hr2 : r < us.length := by omega
        refine ⟨pr, us, (r : Int), r, rfl, rfl, c10, ixN_nat hr2, k _ _ ?_⟩
        have W11 := (P10.whole S7 f0).mut (o := .lst (us.set r (.ref D))) fr b9 c10 True.intro
        have po11 : PoolAt (upd (upd H8 p (.lst [.int g, .int n])) pr (.lst (us.set r (.ref D)))) p := by
          obtain ⟨g2, n2, k1, k2, k3⟩ := P10.po
          exact ⟨g2, n2, by rw [upd_ne npr]; exact k1, k2, k3⟩
        have hset := AtL.set r aus9 al
        have : r = 0 ∨ r = 1 := by omega
        rcases this with rfl | rfl
        · exact ⟨Hb9, us.set 0 (.ref D), l, l2, _, W11, po11, P9.nb, P9.e1, b9, upd_same, hset, hl, o2, rfl⟩
        · exact ⟨Hb9, us.set 1 (.ref D), l1, l, _, W11, po11, P9.nb, P9.e1, b9, upd_same, hset, o1, hl, rfl⟩
    clear o1 o2 aus aus6 c5 c6 c7
    rintro σ8 H8 ⟨Hb8, us8, l1, l2, y5, S8, po8, n8, E8, b8, c8, aus8, o1, o2, rfl⟩
    obtain ⟨v1, v2, rfl, av1, av2⟩ := at2 aus8
    have aw8 := aw6.mono E8
    refine q_asgR (fun σ' H' => H' = H8 ∧ σ' = [some (.ref a), some (.ref p), some xw, y3, some (.ref pr), y5, some (vn (1 + i)), some v1, some v2, y9]) (fun Q' k => ⟨.ref pr, rfl, pr, _, rfl, sqL c8, rfl, _, _, rfl, _, _, rfl, rfl, k _ _ ⟨rfl, rfl⟩⟩) ?_
    rintro σ9 H9 ⟨rfl, rfl⟩
    have P9 : PSt T p Hb8 H9 Hb8 H9 := .refl S8.e2 po8 n8
    -- other
    refine q_any (fun σ' H' => ∃ (Hb10 : Hp) (x8 : V) (lo : List Nat), PSt T p Hb8 H9 Hb10 H' ∧ Ex T Hb8 Hb10 ∧ (dNL lo).At Hb10 x8 ∧ RowOk ws lo ∧ σ' = [some (.ref a), some (.ref p), some xw, y3, some (.ref pr), y5, some (vn (1 + i)), some v1, some x8, y9]) (fun Q' k => ?_) ?_
    · refine s_ifR (fun _ H' => PSt T p Hb8 H9 Hb8 H') (fun Q2 k2 => te_take P9.po rfl (fun Q3 q' => q') (m := 6) (by decide) (by decide) fun r g n hr1 m0 m1 => ⟨rfl, decide (vn r = V.int 0), rfl, k2 _ _ (P9.take m0 m1)⟩) (fun H10 P10 => ?_) (fun H10 P10 => ?_)
      · refine s_asg (Hb := Hb8) (d := dNL l1) (ev_cb (ea_cons (ev_var rfl av1) ea_nil) cv_listOf) P10.e2 fun v Hb11 H11 s11 a11 => ?_
        exact k _ _ ⟨Hb11, v, l1, P10.step s11, s11.e1, a11, o1, rfl⟩
      · exact k _ _ ⟨Hb8, v2, l2, P10, .refl P10.e1.t2, av2, o2, rfl⟩
    rintro σ10 H10 ⟨Hb10, x8, lo, P10, E10, ax8, olo, rfl⟩
    -- beside
    refine q_raw (fun x H' => ∃ (Hb11 : Hp) (rs : List (List Nat)), PSt T p Hb8 H9 Hb11 H' ∧ Ex T Hb10 Hb11 ∧ rs.Perm (bes ws l1) ∧ (Da.l (rs.map dNL)).At Hb11 x) (fun Q' k => ev_callS (Hb := Hb10) (A := A_rows_beside) (ds := [dWebs ws, dNL l1]) (ea_cons (ev_var rfl (aw8.mono E10)) (ea_cons (ev_var rfl (av1.mono E10)) ea_nil)) ⟨ws, l1, rfl, wok, o1, rfl⟩ Hb10 H10 (.refl P10.e1.t2) P10.e2 _ fun v Hb11 H11 s11 ⟨d, ⟨rs, pm, hd⟩, ha⟩ => k _ _ ⟨Hb11, rs, P10.step s11, s11.e1, pm, hd ▸ ha⟩) ?_
    rintro x9 H11 ⟨Hb11, rs, P11, E11, pm, ax9⟩
    have E11' := E10.trans E11
    have ax8' := ax8.mono E11
    have av1' := av1.mono E11'
    have aw11 := aw8.mono E11'
    refine q_no (EvT.is (et_or (et_not (et_B (ev_call (A := A_ways_right) (ea_cons (ev_var rfl aw11) (ea_cons (ev_var rfl av1') (ea_cons (ev_var rfl ax8') (ea_cons (ev_var rfl ax9) ea_nil)))) ⟨ws, l1, lo, rs, rfl, wok, o1, olo, pm, rfl⟩))) fun _ => et_not (et_B (ev_call (A := A_rings_right) (ea_cons (ev_var rfl aw11) (ea_cons (ev_var rfl av1') (ea_cons (ev_var rfl ax8') (ea_cons (ev_var rfl ax9) ea_nil)))) ⟨ws, l1, lo, rs, rfl, wok, o1, olo, pm, rfl⟩))) rfl) P11.e2 fun Hb12 H12 s12 => ?_
    have P12 := P11.step s12
    have E12 := E11'.trans s12.e1
    refine s_ifR (fun b H' => b = false ∧ ∃ Hb13, PSt T p Hb8 H9 Hb13 H' ∧ Ex T Hb8 Hb13) (fun Q' k => ⟨xw, rfl, v1, rfl, x8, rfl, x9, rfl, te_take P12.po rfl (fun Q3 q' => q') (m := 6) (by decide) (by decide) fun r g n hr1 m0 m1 =>
      ⟨Hb12, [dWebs ws, dNL l1, dNL lo, .l (rs.map dNL), dn r], .v (.bl true), (P12.take m0 m1).e2, .cons (aw8.mono E12) (.cons (av1.mono E12) (.cons (ax8'.mono s12.e1) (.cons (ax9.mono s12.e1) (.cons rfl .nil)))), ⟨ws, l1, lo, rs, r, rfl, wok, o1, olo, pm, by omega, rfl⟩, fun v Hb13 H13 s13 a13 => ⟨true, a13, k _ _ ⟨rfl, Hb13, (P12.take m0 m1).step s13, E12.trans s13.e1⟩⟩⟩⟩) (fun H' ⟨h, _⟩ => by cases h) (fun H13 ⟨_, Hb13, P13, E13⟩ => ?_)
    have W13 := P13.whole S8 f0
    have c13 := P13.kept npr.symm c8 True.intro
    have b13 := P13.hidden npr.symm b8 c8
    exact ⟨Hb13, (s6.e1.trans E8).trans E13, W13.e2, W13, (E5.trans s6.e1).trans (E8.trans E13), b13, [v1, v2], l1, l2, _, _, _, _, _, _, _, c13, aus8.mono E13, o1, o2, rfl⟩
  · obtain ⟨S5, E5, b5, us, l1, l2, y1, y3, y5, y6, y7, y8, y9, c5, aus, o1, o2, rfl⟩ := hJ
    exact q H5
end
end K68
end

section
namespace K68
open PySem PySem.Spec PyProof.Rows L2
section
variable {K : PySem.W.Frag} {h : Heap} {mg : Str → Option Value}
theorem df_mk {x : Str} {st : Stmt} {f : Addr} {oc : Value} {od an : Option Addr} {osl : Array (Option Value)} {kV doc pm cdv ct : Value} (X : K.In h) (G : h.Ns mainGlobals mg) (a : PySem.W.nsIn K mainGlobals x = some (some (.ref f)))
    (l : K.lookup f = some ⟨oc, od, .func (PySem.W.fnOf x x (defArgs st) (defBody st) (defScope st) .none kV doc pm an cdv ct), osl⟩) (c : PySem.W.codeIn K cdv x = true) (k : PySem.W.keepIn K (.ref f) = true) : Df K mg x st := ⟨f, _, fun_mk l c k, PySem.W.mg_of X G a⟩
theorem dfC_mk {x : Str} {st : Stmt} {f cd : Addr} {oc : Value} {od an : Option Addr} {osl : Array (Option Value)} {kV doc pm ct : Value} (X : K.In h) (G : h.Ns mainGlobals mg) (a : PySem.W.nsIn K mainGlobals x = some (some (.ref f)))
    (l : K.lookup f = some ⟨oc, od, .func (PySem.W.fnOf x x (defArgs st) (defBody st) (defScope st) .none kV doc pm an (.ref cd) ct), osl⟩) (c : PySem.W.codeIn K (.ref cd) x = true) (k : PySem.W.keepIn K (.ref f) = true) : DfC K mg x st cd := ⟨f, oc, od, kV, doc, pm, an, ct, osl, l, c, k, PySem.W.mg_of X G a⟩
theorem dfD_mk {x : Str} {st : Stmt} {f Td : Addr} {oc toc : Value} {od an tod : Option Addr} {osl tsl : Array (Option Value)} {kV doc pm cdv ct : Value} {tk : Tok} {tn : Nat} (X : K.In h) (G : h.Ns mainGlobals mg) (a : PySem.W.nsIn K mainGlobals x = some (some (.ref f)))
    (l : K.lookup f = some ⟨oc, od, .func (PySem.W.fnOf x x (defArgs st) (defBody st) (defScope st) (.ref Td) kV doc pm an cdv ct), osl⟩) (c : PySem.W.codeIn K cdv x = true) (k : PySem.W.keepIn K (.ref f) = true) (lT : K.lookup Td = some ⟨toc, tod, .seq #[.int 1 tk] tn, tsl⟩) : DfD K mg x st [.int 1] :=
  ⟨f, _, ⟨⟨oc, od, .ref Td, kV, doc, pm, an, cdv, ct, osl, rfl, l, c, .inr ⟨by simp, Td, _, [.int 1 tk], tn, rfl, lT, rfl, .cons ⟨tk, rfl⟩ .nil⟩, .inl rfl⟩, k⟩, PySem.W.mg_of X G a⟩
theorem tabIn_of {x : Str} {f c Pt : Addr} {fd : FuncData} {oc co : Value} {od cdd : Option Addr} {osl csl : Array (Option Value)} {vs : Array Value} (a : PySem.W.nsIn K mainGlobals x = some (some (.ref f))) (l : K.lookup f = some ⟨oc, od, .func fd, osl⟩) (hc : fd.code = .ref c)
    (lc : K.lookup c = some ⟨co, cdd, .fields vs, csl⟩) (hv : (vs[11]? : Option Value) = some (.ref Pt)) : PySem.W.tabIn K x = some (c, Pt) := by
  unfold PySem.W.tabIn
  simp only [a, l, hc, lc, hv]
end
theorem walk_G {l : PySem.W.OpenLaw} {n k : Nat} {q : Program} {loose : List Str} {XP : (Str → Option Value) → Heap → Prop} {YP : World → Heap → Prop} {d : DefRec} {K : Params → PySem.W.Frag} {CX : CXT} {x : Str}
    (hn : l.most = some n) (hn2 : n ≤ sizeLine) (hdf : d.params.defaults = []) (hr : Room k callerA) (hY : ∀ (w : World) (h : Heap), YP w h → (K w.params).In h)
    (F : ∀ (w : World) (mean : ExcName → Option Value) (mg mb : Str → Option Value) (fa : Addr) (h : Heap), (K w.params).In h → Top q (PySem.W.looseW q loose) mean mg mb h → mg d.name = some (.ref fa) → LamX.LawAtS l w (K w.params) CX k n x mg fa h)
    (hCX : ∀ (H : Hp) (s : Shared) (e : Value) (s' : Shared), CX [] H s (fun _ _ _ => False) e s' → False) : PySem.W.WalkO q loose XP YP l.row.toRowW d [] (fun f vs => PySem.call f vs) := by
  refine Att.attach_callB hn hdf fun w s0 s1 mg mb fa o pm cd doc a vs ns G Y ho hd hcd hmg hobj hints hlen hbits hg => ?_
  have KX := hY w _ Y
  obtain ⟨fd, cs, sp, t1, t2, t3, t4, t5, t6⟩ := F w _ mg mb fa _ KX G.T hmg
  exact LamX.law_callTs KX G.T.g G.T.b G.T.builtins G.T.nolimit hg t1 t2 t3 G.T.bmain hobj hints (Nat.le_trans hlen hn2) hr t6 t4 (fun H h1 h2 => t5 H a ns hlen hbits h1 h2) fun H e s' => hCX H s1 e s'
section
variable {P : Program} {w : World} {K : PySem.W.Frag} {mg : Str → Option Value} {base : Heap} {T : Addr × Str}
theorem all_law {f cd : Addr} {fd : FuncData}
    (D_is_whole : Df K mg "is_whole" s_is_whole)
    (D_is_within : Df K mg "is_within" s_is_within)
    (D_is_tie : Df K mg "is_tie" s_is_tie)
    (D_look_at_web : Df K mg "look_at_web" s_look_at_web)
    (D_look_at_webs : Df K mg "look_at_webs" s_look_at_webs)
    (D_is_row_in : Df K mg "is_row_in" s_is_row_in)
    (D_look_at_row : Df K mg "look_at_row" s_look_at_row)
    (D_look_at_rows : Df K mg "look_at_rows" s_look_at_rows)
    (D_far_by : Df K mg "far_by" s_far_by)
    (D_places_in : Df K mg "places_in" s_places_in)
    (D_places_of : Df K mg "places_of" s_places_of)
    (D_beside_all : Df K mg "beside_all" s_beside_all)
    (D_far_table : Df K mg "far_table" s_far_table)
    (D_far_in : Df K mg "far_in" s_far_in)
    (D_far : Df K mg "far" s_far)
    (D_binomials : Df K mg "binomials" s_binomials)
    (D_walks_by : Df K mg "walks_by" s_walks_by)
    (D_times_row : Df K mg "times_row" s_times_row)
    (D_by_distance : Df K mg "by_distance" s_by_distance)
    (D_widest : Df K mg "widest" s_widest)
    (D_ways_many : Df K mg "ways_many" s_ways_many)
    (D_beside_by : Df K mg "beside_by" s_beside_by)
    (D_rows_beside : Df K mg "rows_beside" s_rows_beside)
    (D__law_ways_right : Df K mg "_law_ways_right" s__law_ways_right)
    (D__law_walks_right : Df K mg "_law_walks_right" s__law_walks_right)
    (D__law_rings_right : Df K mg "_law_rings_right" s__law_rings_right)
    (D__law_take : Df K mg "_law_take" s__law_take)
    (D__law_pool : Df K mg "_law_pool" s__law_pool)
    (D__law_web : Df K mg "_law_web" s__law_web)
    (D__law_loose : Df K mg "_law_loose" s__law_loose)
    (D__law_long_right : Df K mg "_law_long_right" s__law_long_right)
    (D_shortest_many : DfC K mg "shortest_many" s_shortest_many cd) (D_walks_many : DfD K mg "walks_many" s_walks_many [.int 1]) (F : Fun K "law" "law" s_law f fd) (B : LamX.TabB base mg cd T.1) (hT : T.2 = "shortest_many.<locals>.<lambda>")
    (m_all : mg "all" = none) (m_bool : mg "bool" = none) (m_enumerate : mg "enumerate" = none) (m_int : mg "int" = none) (m_isinstance : mg "isinstance" = none) (m_len : mg "len" = none) (m_list : mg "list" = none) (m_max : mg "max" = none) (m_min : mg "min" = none) (m_range : mg "range" = none) (m_sorted : mg "sorted" = none) (m_sum : mg "sum" = none) (m_tuple : mg "tuple" = none) (m_zip : mg "zip" = none)
    {z1 z2 z3 : Tok} (k_MOST_PLACES : mg "MOST_PLACES" = some (.int 40 z1)) (k_MOST_TIES : mg "MOST_TIES" = some (.int 120 z2)) (k_MOST_WEBS : mg "MOST_WEBS" = some (.int 12 z3))
    : FnOk P w K mg base CX0 9 f fd ["_law_script"] (spLaw T K) := by
  have c_is_whole := ok_is_whole (P := P) (w := w) (base := base) (T := T) D_is_whole m_isinstance m_int m_bool
  have c_is_within := ok_is_within (P := P) (w := w) (base := base) (T := T) D_is_within c_is_whole
  have c_is_tie := ok_is_tie (P := P) (w := w) (base := base) (T := T) D_is_tie c_is_within m_isinstance m_tuple m_len
  have c_look_at_web := ok_look_at_web (P := P) (w := w) (base := base) (T := T) D_look_at_web c_is_within c_is_tie m_isinstance m_tuple m_list m_len m_enumerate _ _ k_MOST_PLACES k_MOST_TIES
  have c_look_at_webs := ok_look_at_webs (P := P) (w := w) (base := base) (T := T) D_look_at_webs c_look_at_web m_isinstance m_list m_len m_enumerate _ k_MOST_WEBS
  have c_is_row_in := ok_is_row_in (P := P) (w := w) (base := base) (T := T) D_is_row_in c_is_whole m_isinstance m_list m_len m_zip m_all
  have c_look_at_row := ok_look_at_row (P := P) (w := w) (base := base) (T := T) D_look_at_row c_is_row_in
  have c_look_at_rows := ok_look_at_rows (P := P) (w := w) (base := base) (T := T) D_look_at_rows c_look_at_webs c_look_at_row
  have c_far_by := ok_far_by (P := P) (w := w) (base := base) (T := T) D_far_by m_len
  have c_places_in := ok_places_in (P := P) (w := w) (base := base) (T := T) D_places_in
  have c_places_of := ok_places_of (P := P) (w := w) (base := base) (T := T) D_places_of c_look_at_webs c_places_in
  have c_beside_all := ok_beside_all (P := P) (w := w) (base := base) (T := T) D_beside_all m_range m_sorted
  have c_far_table := ok_far_table (P := P) (w := w) (base := base) (T := T) D_far_table c_beside_all c_far_by m_range
  have c_far_in := ok_far_in (P := P) (w := w) (base := base) (T := T) D_far_in c_beside_all c_far_by m_zip
  have c_far := ok_far (P := P) (w := w) (base := base) (T := T) D_far c_look_at_rows c_far_in m_sum
  have c_binomials := ok_binomials (P := P) (w := w) (base := base) (T := T) D_binomials m_range m_zip
  have c_walks_by := ok_walks_by (P := P) (w := w) (base := base) (T := T) D_walks_by c_beside_all m_range m_sum m_int
  have c_times_row := ok_times_row (P := P) (w := w) (base := base) (T := T) D_times_row m_len m_enumerate
  have c_by_distance := ok_by_distance (P := P) (w := w) (base := base) (T := T) D_by_distance c_look_at_rows c_beside_all c_far_by c_times_row m_zip m_max
  have c_widest := ok_widest (P := P) (w := w) (base := base) (T := T) D_widest c_look_at_webs c_far_table m_max
  have c_shortest_many := ok_shortest_many (P := P) (w := w) (base := base) (T := T) D_shortest_many B hT c_beside_all c_far_by m_sorted m_range m_sum
  have c_ways_many := ok_ways_many (P := P) (w := w) (base := base) (T := T) D_ways_many c_look_at_rows c_far_in c_binomials c_shortest_many m_sum m_zip
  obtain ⟨c_walks_many, c_walks_many_kw⟩ := ok_walks_many (P := P) (w := w) (base := base) (T := T) D_walks_many c_look_at_rows c_binomials c_walks_by m_range m_sum m_zip
  have c_beside_by := ok_beside_by (P := P) (w := w) (base := base) (T := T) D_beside_by m_enumerate m_sorted
  have c_rows_beside := ok_rows_beside (P := P) (w := w) (base := base) (T := T) D_rows_beside c_look_at_webs c_look_at_row c_beside_all c_beside_by
  have c__law_ways_right := ok__law_ways_right (P := P) (w := w) (base := base) (T := T) D__law_ways_right c_far c_ways_many m_sum m_min m_zip
  have c__law_walks_right := ok__law_walks_right (P := P) (w := w) (base := base) (T := T) D__law_walks_right c_walks_many c_walks_many_kw m_sum
  have c__law_rings_right := ok__law_rings_right (P := P) (w := w) (base := base) (T := T) D__law_rings_right c_far c_by_distance c_widest c_places_of m_sum m_len
  have c__law_take := ok__law_take (P := P) (w := w) (base := base) D__law_take
  have c__law_pool := ok__law_pool (P := P) (w := w) (base := base) (T := T) D__law_pool m_max m_len
  have c__law_web := ok__law_web (P := P) (w := w) (base := base) (T := T) D__law_web c__law_take m_list m_range m_len m_min m_max m_sorted
  have c__law_loose := ok__law_loose (P := P) (w := w) (base := base) (T := T) D__law_loose c__law_take c__law_web
  have c__law_long_right := ok__law_long_right (P := P) (w := w) (base := base) (T := T) D__law_long_right c__law_take c_far c_ways_many c_by_distance c_widest c_places_of m_range m_len m_sum
  exact ok_law F c__law_long_right c__law_pool c__law_take c__law_loose c_rows_beside c__law_ways_right c__law_rings_right c__law_walks_right m_range m_len m_max m_min m_list
end
theorem law_at {l : PySem.W.OpenLaw} {w : World} {K : PySem.W.Frag} {h : Heap} {mg mb : Str → Option Value} {fa : Addr} {q : Program} {loose : List Str} {mean : ExcName → Option Value} (X : K.In h) (TT : Top q loose mean mg mb h) (hfa : mg "law" = some (.ref fa))
    {f0 : Addr} {oc0 kV0 dc0 pm0 ct0 : Value} {od0 an0 : Option Addr} {sl0 : Array (Option Value)}
    {cd0 : Value}
    (a0 : PySem.W.nsIn K mainGlobals "is_whole" = some (some (.ref f0))) (l0 : K.lookup f0 = some ⟨oc0, od0, .func (PySem.W.fnOf "is_whole" "is_whole" (defArgs s_is_whole) (defBody s_is_whole) (defScope s_is_whole) .none kV0 dc0 pm0 an0 cd0 ct0), sl0⟩) (c0 : PySem.W.codeIn K cd0 "is_whole" = true) (k0 : PySem.W.keepIn K (.ref f0) = true)
    {f1 : Addr} {oc1 kV1 dc1 pm1 ct1 : Value} {od1 an1 : Option Addr} {sl1 : Array (Option Value)}
    {cd1 : Value}
    (a1 : PySem.W.nsIn K mainGlobals "is_within" = some (some (.ref f1))) (l1 : K.lookup f1 = some ⟨oc1, od1, .func (PySem.W.fnOf "is_within" "is_within" (defArgs s_is_within) (defBody s_is_within) (defScope s_is_within) .none kV1 dc1 pm1 an1 cd1 ct1), sl1⟩) (c1 : PySem.W.codeIn K cd1 "is_within" = true) (k1 : PySem.W.keepIn K (.ref f1) = true)
    {f2 : Addr} {oc2 kV2 dc2 pm2 ct2 : Value} {od2 an2 : Option Addr} {sl2 : Array (Option Value)}
    {cd2 : Value}
    (a2 : PySem.W.nsIn K mainGlobals "is_tie" = some (some (.ref f2))) (l2 : K.lookup f2 = some ⟨oc2, od2, .func (PySem.W.fnOf "is_tie" "is_tie" (defArgs s_is_tie) (defBody s_is_tie) (defScope s_is_tie) .none kV2 dc2 pm2 an2 cd2 ct2), sl2⟩) (c2 : PySem.W.codeIn K cd2 "is_tie" = true) (k2 : PySem.W.keepIn K (.ref f2) = true)
    {f3 : Addr} {oc3 kV3 dc3 pm3 ct3 : Value} {od3 an3 : Option Addr} {sl3 : Array (Option Value)}
    {cd3 : Value}
    (a3 : PySem.W.nsIn K mainGlobals "look_at_web" = some (some (.ref f3))) (l3 : K.lookup f3 = some ⟨oc3, od3, .func (PySem.W.fnOf "look_at_web" "look_at_web" (defArgs s_look_at_web) (defBody s_look_at_web) (defScope s_look_at_web) .none kV3 dc3 pm3 an3 cd3 ct3), sl3⟩) (c3 : PySem.W.codeIn K cd3 "look_at_web" = true) (k3 : PySem.W.keepIn K (.ref f3) = true)
    {f4 : Addr} {oc4 kV4 dc4 pm4 ct4 : Value} {od4 an4 : Option Addr} {sl4 : Array (Option Value)}
    {cd4 : Value}
    (a4 : PySem.W.nsIn K mainGlobals "look_at_webs" = some (some (.ref f4))) (l4 : K.lookup f4 = some ⟨oc4, od4, .func (PySem.W.fnOf "look_at_webs" "look_at_webs" (defArgs s_look_at_webs) (defBody s_look_at_webs) (defScope s_look_at_webs) .none kV4 dc4 pm4 an4 cd4 ct4), sl4⟩) (c4 : PySem.W.codeIn K cd4 "look_at_webs" = true) (k4 : PySem.W.keepIn K (.ref f4) = true)
    {f5 : Addr} {oc5 kV5 dc5 pm5 ct5 : Value} {od5 an5 : Option Addr} {sl5 : Array (Option Value)}
    {cd5 : Value}
    (a5 : PySem.W.nsIn K mainGlobals "is_row_in" = some (some (.ref f5))) (l5 : K.lookup f5 = some ⟨oc5, od5, .func (PySem.W.fnOf "is_row_in" "is_row_in" (defArgs s_is_row_in) (defBody s_is_row_in) (defScope s_is_row_in) .none kV5 dc5 pm5 an5 cd5 ct5), sl5⟩) (c5 : PySem.W.codeIn K cd5 "is_row_in" = true) (k5 : PySem.W.keepIn K (.ref f5) = true)
    {f6 : Addr} {oc6 kV6 dc6 pm6 ct6 : Value} {od6 an6 : Option Addr} {sl6 : Array (Option Value)}
    {cd6 : Value}
    (a6 : PySem.W.nsIn K mainGlobals "look_at_row" = some (some (.ref f6))) (l6 : K.lookup f6 = some ⟨oc6, od6, .func (PySem.W.fnOf "look_at_row" "look_at_row" (defArgs s_look_at_row) (defBody s_look_at_row) (defScope s_look_at_row) .none kV6 dc6 pm6 an6 cd6 ct6), sl6⟩) (c6 : PySem.W.codeIn K cd6 "look_at_row" = true) (k6 : PySem.W.keepIn K (.ref f6) = true)
    {f7 : Addr} {oc7 kV7 dc7 pm7 ct7 : Value} {od7 an7 : Option Addr} {sl7 : Array (Option Value)}
    {cd7 : Value}
    (a7 : PySem.W.nsIn K mainGlobals "look_at_rows" = some (some (.ref f7))) (l7 : K.lookup f7 = some ⟨oc7, od7, .func (PySem.W.fnOf "look_at_rows" "look_at_rows" (defArgs s_look_at_rows) (defBody s_look_at_rows) (defScope s_look_at_rows) .none kV7 dc7 pm7 an7 cd7 ct7), sl7⟩) (c7 : PySem.W.codeIn K cd7 "look_at_rows" = true) (k7 : PySem.W.keepIn K (.ref f7) = true)
    {f8 : Addr} {oc8 kV8 dc8 pm8 ct8 : Value} {od8 an8 : Option Addr} {sl8 : Array (Option Value)}
    {cd8 : Value}
    (a8 : PySem.W.nsIn K mainGlobals "far_by" = some (some (.ref f8))) (l8 : K.lookup f8 = some ⟨oc8, od8, .func (PySem.W.fnOf "far_by" "far_by" (defArgs s_far_by) (defBody s_far_by) (defScope s_far_by) .none kV8 dc8 pm8 an8 cd8 ct8), sl8⟩) (c8 : PySem.W.codeIn K cd8 "far_by" = true) (k8 : PySem.W.keepIn K (.ref f8) = true)
    {f9 : Addr} {oc9 kV9 dc9 pm9 ct9 : Value} {od9 an9 : Option Addr} {sl9 : Array (Option Value)}
    {cd9 : Value}
    (a9 : PySem.W.nsIn K mainGlobals "places_in" = some (some (.ref f9))) (l9 : K.lookup f9 = some ⟨oc9, od9, .func (PySem.W.fnOf "places_in" "places_in" (defArgs s_places_in) (defBody s_places_in) (defScope s_places_in) .none kV9 dc9 pm9 an9 cd9 ct9), sl9⟩) (c9 : PySem.W.codeIn K cd9 "places_in" = true) (k9 : PySem.W.keepIn K (.ref f9) = true)
    {f10 : Addr} {oc10 kV10 dc10 pm10 ct10 : Value} {od10 an10 : Option Addr} {sl10 : Array (Option Value)}
    {cd10 : Value}
    (a10 : PySem.W.nsIn K mainGlobals "places_of" = some (some (.ref f10))) (l10 : K.lookup f10 = some ⟨oc10, od10, .func (PySem.W.fnOf "places_of" "places_of" (defArgs s_places_of) (defBody s_places_of) (defScope s_places_of) .none kV10 dc10 pm10 an10 cd10 ct10), sl10⟩) (c10 : PySem.W.codeIn K cd10 "places_of" = true) (k10 : PySem.W.keepIn K (.ref f10) = true)
    {f11 : Addr} {oc11 kV11 dc11 pm11 ct11 : Value} {od11 an11 : Option Addr} {sl11 : Array (Option Value)}
    {cd11 : Value}
    (a11 : PySem.W.nsIn K mainGlobals "beside_all" = some (some (.ref f11))) (l11 : K.lookup f11 = some ⟨oc11, od11, .func (PySem.W.fnOf "beside_all" "beside_all" (defArgs s_beside_all) (defBody s_beside_all) (defScope s_beside_all) .none kV11 dc11 pm11 an11 cd11 ct11), sl11⟩) (c11 : PySem.W.codeIn K cd11 "beside_all" = true) (k11 : PySem.W.keepIn K (.ref f11) = true)
    {f12 : Addr} {oc12 kV12 dc12 pm12 ct12 : Value} {od12 an12 : Option Addr} {sl12 : Array (Option Value)}
    {cd12 : Value}
    (a12 : PySem.W.nsIn K mainGlobals "far_table" = some (some (.ref f12))) (l12 : K.lookup f12 = some ⟨oc12, od12, .func (PySem.W.fnOf "far_table" "far_table" (defArgs s_far_table) (defBody s_far_table) (defScope s_far_table) .none kV12 dc12 pm12 an12 cd12 ct12), sl12⟩) (c12 : PySem.W.codeIn K cd12 "far_table" = true) (k12 : PySem.W.keepIn K (.ref f12) = true)
    {f13 : Addr} {oc13 kV13 dc13 pm13 ct13 : Value} {od13 an13 : Option Addr} {sl13 : Array (Option Value)}
    {cd13 : Value}
    (a13 : PySem.W.nsIn K mainGlobals "far_in" = some (some (.ref f13))) (l13 : K.lookup f13 = some ⟨oc13, od13, .func (PySem.W.fnOf "far_in" "far_in" (defArgs s_far_in) (defBody s_far_in) (defScope s_far_in) .none kV13 dc13 pm13 an13 cd13 ct13), sl13⟩) (c13 : PySem.W.codeIn K cd13 "far_in" = true) (k13 : PySem.W.keepIn K (.ref f13) = true)
    {f14 : Addr} {oc14 kV14 dc14 pm14 ct14 : Value} {od14 an14 : Option Addr} {sl14 : Array (Option Value)}
    {cd14 : Value}
    (a14 : PySem.W.nsIn K mainGlobals "far" = some (some (.ref f14))) (l14 : K.lookup f14 = some ⟨oc14, od14, .func (PySem.W.fnOf "far" "far" (defArgs s_far) (defBody s_far) (defScope s_far) .none kV14 dc14 pm14 an14 cd14 ct14), sl14⟩) (c14 : PySem.W.codeIn K cd14 "far" = true) (k14 : PySem.W.keepIn K (.ref f14) = true)
    {f15 : Addr} {oc15 kV15 dc15 pm15 ct15 : Value} {od15 an15 : Option Addr} {sl15 : Array (Option Value)}
    {cd15 : Value}
    (a15 : PySem.W.nsIn K mainGlobals "binomials" = some (some (.ref f15))) (l15 : K.lookup f15 = some ⟨oc15, od15, .func (PySem.W.fnOf "binomials" "binomials" (defArgs s_binomials) (defBody s_binomials) (defScope s_binomials) .none kV15 dc15 pm15 an15 cd15 ct15), sl15⟩) (c15 : PySem.W.codeIn K cd15 "binomials" = true) (k15 : PySem.W.keepIn K (.ref f15) = true)
    {f16 : Addr} {oc16 kV16 dc16 pm16 ct16 : Value} {od16 an16 : Option Addr} {sl16 : Array (Option Value)}
    {cd16 : Value}
    (a16 : PySem.W.nsIn K mainGlobals "walks_by" = some (some (.ref f16))) (l16 : K.lookup f16 = some ⟨oc16, od16, .func (PySem.W.fnOf "walks_by" "walks_by" (defArgs s_walks_by) (defBody s_walks_by) (defScope s_walks_by) .none kV16 dc16 pm16 an16 cd16 ct16), sl16⟩) (c16 : PySem.W.codeIn K cd16 "walks_by" = true) (k16 : PySem.W.keepIn K (.ref f16) = true)
    {f17 : Addr} {oc17 kV17 dc17 pm17 ct17 : Value} {od17 an17 : Option Addr} {sl17 : Array (Option Value)}
    {cd17 : Value}
    (a17 : PySem.W.nsIn K mainGlobals "times_row" = some (some (.ref f17))) (l17 : K.lookup f17 = some ⟨oc17, od17, .func (PySem.W.fnOf "times_row" "times_row" (defArgs s_times_row) (defBody s_times_row) (defScope s_times_row) .none kV17 dc17 pm17 an17 cd17 ct17), sl17⟩) (c17 : PySem.W.codeIn K cd17 "times_row" = true) (k17 : PySem.W.keepIn K (.ref f17) = true)
    {f18 : Addr} {oc18 kV18 dc18 pm18 ct18 : Value} {od18 an18 : Option Addr} {sl18 : Array (Option Value)}
    {cd18 : Value}
    (a18 : PySem.W.nsIn K mainGlobals "by_distance" = some (some (.ref f18))) (l18 : K.lookup f18 = some ⟨oc18, od18, .func (PySem.W.fnOf "by_distance" "by_distance" (defArgs s_by_distance) (defBody s_by_distance) (defScope s_by_distance) .none kV18 dc18 pm18 an18 cd18 ct18), sl18⟩) (c18 : PySem.W.codeIn K cd18 "by_distance" = true) (k18 : PySem.W.keepIn K (.ref f18) = true)
    {f19 : Addr} {oc19 kV19 dc19 pm19 ct19 : Value} {od19 an19 : Option Addr} {sl19 : Array (Option Value)}
    {cd19 : Value}
    (a19 : PySem.W.nsIn K mainGlobals "widest" = some (some (.ref f19))) (l19 : K.lookup f19 = some ⟨oc19, od19, .func (PySem.W.fnOf "widest" "widest" (defArgs s_widest) (defBody s_widest) (defScope s_widest) .none kV19 dc19 pm19 an19 cd19 ct19), sl19⟩) (c19 : PySem.W.codeIn K cd19 "widest" = true) (k19 : PySem.W.keepIn K (.ref f19) = true)
    {f20 : Addr} {oc20 kV20 dc20 pm20 ct20 : Value} {od20 an20 : Option Addr} {sl20 : Array (Option Value)}
    {cc Pt : Addr} {co : Value} {cdd : Option Addr} {csl : Array (Option Value)} {vs : Array Value} {drec : DefRec}
    (a20 : PySem.W.nsIn K mainGlobals "shortest_many" = some (some (.ref f20))) (l20 : K.lookup f20 = some ⟨oc20, od20, .func (PySem.W.fnOf "shortest_many" "shortest_many" (defArgs s_shortest_many) (defBody s_shortest_many) (defScope s_shortest_many) .none kV20 dc20 pm20 an20 (.ref cc) ct20), sl20⟩) (c20 : PySem.W.codeIn K (.ref cc) "shortest_many" = true) (k20 : PySem.W.keepIn K (.ref f20) = true)
    (lc : K.lookup cc = some ⟨co, cdd, .fields vs, csl⟩) (hv : (vs[11]? : Option Value) = some (.ref Pt)) (nT : K.lookup Pt = none) (hrec : (recsOf q).find? (fun e => e.name == ("shortest_many" : Str)) = some drec)
    {f21 : Addr} {oc21 kV21 dc21 pm21 ct21 : Value} {od21 an21 : Option Addr} {sl21 : Array (Option Value)}
    {cd21 : Value}
    (a21 : PySem.W.nsIn K mainGlobals "ways_many" = some (some (.ref f21))) (l21 : K.lookup f21 = some ⟨oc21, od21, .func (PySem.W.fnOf "ways_many" "ways_many" (defArgs s_ways_many) (defBody s_ways_many) (defScope s_ways_many) .none kV21 dc21 pm21 an21 cd21 ct21), sl21⟩) (c21 : PySem.W.codeIn K cd21 "ways_many" = true) (k21 : PySem.W.keepIn K (.ref f21) = true)
    {f22 : Addr} {oc22 kV22 dc22 pm22 ct22 : Value} {od22 an22 : Option Addr} {sl22 : Array (Option Value)}
    {cd22 : Value} {Td : Addr} {toc : Value} {tod : Option Addr} {tsl : Array (Option Value)} {tk : Tok} {tn : Nat}
    (a22 : PySem.W.nsIn K mainGlobals "walks_many" = some (some (.ref f22))) (l22 : K.lookup f22 = some ⟨oc22, od22, .func (PySem.W.fnOf "walks_many" "walks_many" (defArgs s_walks_many) (defBody s_walks_many) (defScope s_walks_many) (.ref Td) kV22 dc22 pm22 an22 cd22 ct22), sl22⟩) (c22 : PySem.W.codeIn K cd22 "walks_many" = true) (k22 : PySem.W.keepIn K (.ref f22) = true)
    (lT : K.lookup Td = some ⟨toc, tod, .seq #[.int 1 tk] tn, tsl⟩)
    {f23 : Addr} {oc23 kV23 dc23 pm23 ct23 : Value} {od23 an23 : Option Addr} {sl23 : Array (Option Value)}
    {cd23 : Value}
    (a23 : PySem.W.nsIn K mainGlobals "beside_by" = some (some (.ref f23))) (l23 : K.lookup f23 = some ⟨oc23, od23, .func (PySem.W.fnOf "beside_by" "beside_by" (defArgs s_beside_by) (defBody s_beside_by) (defScope s_beside_by) .none kV23 dc23 pm23 an23 cd23 ct23), sl23⟩) (c23 : PySem.W.codeIn K cd23 "beside_by" = true) (k23 : PySem.W.keepIn K (.ref f23) = true)
    {f24 : Addr} {oc24 kV24 dc24 pm24 ct24 : Value} {od24 an24 : Option Addr} {sl24 : Array (Option Value)}
    {cd24 : Value}
    (a24 : PySem.W.nsIn K mainGlobals "rows_beside" = some (some (.ref f24))) (l24 : K.lookup f24 = some ⟨oc24, od24, .func (PySem.W.fnOf "rows_beside" "rows_beside" (defArgs s_rows_beside) (defBody s_rows_beside) (defScope s_rows_beside) .none kV24 dc24 pm24 an24 cd24 ct24), sl24⟩) (c24 : PySem.W.codeIn K cd24 "rows_beside" = true) (k24 : PySem.W.keepIn K (.ref f24) = true)
    {f25 : Addr} {oc25 kV25 dc25 pm25 ct25 : Value} {od25 an25 : Option Addr} {sl25 : Array (Option Value)}
    {cd25 : Value}
    (a25 : PySem.W.nsIn K mainGlobals "_law_ways_right" = some (some (.ref f25))) (l25 : K.lookup f25 = some ⟨oc25, od25, .func (PySem.W.fnOf "_law_ways_right" "_law_ways_right" (defArgs s__law_ways_right) (defBody s__law_ways_right) (defScope s__law_ways_right) .none kV25 dc25 pm25 an25 cd25 ct25), sl25⟩) (c25 : PySem.W.codeIn K cd25 "_law_ways_right" = true) (k25 : PySem.W.keepIn K (.ref f25) = true)
    {f26 : Addr} {oc26 kV26 dc26 pm26 ct26 : Value} {od26 an26 : Option Addr} {sl26 : Array (Option Value)}
    {cd26 : Value}
    (a26 : PySem.W.nsIn K mainGlobals "_law_walks_right" = some (some (.ref f26))) (l26 : K.lookup f26 = some ⟨oc26, od26, .func (PySem.W.fnOf "_law_walks_right" "_law_walks_right" (defArgs s__law_walks_right) (defBody s__law_walks_right) (defScope s__law_walks_right) .none kV26 dc26 pm26 an26 cd26 ct26), sl26⟩) (c26 : PySem.W.codeIn K cd26 "_law_walks_right" = true) (k26 : PySem.W.keepIn K (.ref f26) = true)
    {f27 : Addr} {oc27 kV27 dc27 pm27 ct27 : Value} {od27 an27 : Option Addr} {sl27 : Array (Option Value)}
    {cd27 : Value}
    (a27 : PySem.W.nsIn K mainGlobals "_law_rings_right" = some (some (.ref f27))) (l27 : K.lookup f27 = some ⟨oc27, od27, .func (PySem.W.fnOf "_law_rings_right" "_law_rings_right" (defArgs s__law_rings_right) (defBody s__law_rings_right) (defScope s__law_rings_right) .none kV27 dc27 pm27 an27 cd27 ct27), sl27⟩) (c27 : PySem.W.codeIn K cd27 "_law_rings_right" = true) (k27 : PySem.W.keepIn K (.ref f27) = true)
    {f28 : Addr} {oc28 kV28 dc28 pm28 ct28 : Value} {od28 an28 : Option Addr} {sl28 : Array (Option Value)}
    {cd28 : Value}
    (a28 : PySem.W.nsIn K mainGlobals "_law_take" = some (some (.ref f28))) (l28 : K.lookup f28 = some ⟨oc28, od28, .func (PySem.W.fnOf "_law_take" "_law_take" (defArgs s__law_take) (defBody s__law_take) (defScope s__law_take) .none kV28 dc28 pm28 an28 cd28 ct28), sl28⟩) (c28 : PySem.W.codeIn K cd28 "_law_take" = true) (k28 : PySem.W.keepIn K (.ref f28) = true)
    {f29 : Addr} {oc29 kV29 dc29 pm29 ct29 : Value} {od29 an29 : Option Addr} {sl29 : Array (Option Value)}
    {cd29 : Value}
    (a29 : PySem.W.nsIn K mainGlobals "_law_pool" = some (some (.ref f29))) (l29 : K.lookup f29 = some ⟨oc29, od29, .func (PySem.W.fnOf "_law_pool" "_law_pool" (defArgs s__law_pool) (defBody s__law_pool) (defScope s__law_pool) .none kV29 dc29 pm29 an29 cd29 ct29), sl29⟩) (c29 : PySem.W.codeIn K cd29 "_law_pool" = true) (k29 : PySem.W.keepIn K (.ref f29) = true)
    {f30 : Addr} {oc30 kV30 dc30 pm30 ct30 : Value} {od30 an30 : Option Addr} {sl30 : Array (Option Value)}
    {cd30 : Value}
    (a30 : PySem.W.nsIn K mainGlobals "_law_web" = some (some (.ref f30))) (l30 : K.lookup f30 = some ⟨oc30, od30, .func (PySem.W.fnOf "_law_web" "_law_web" (defArgs s__law_web) (defBody s__law_web) (defScope s__law_web) .none kV30 dc30 pm30 an30 cd30 ct30), sl30⟩) (c30 : PySem.W.codeIn K cd30 "_law_web" = true) (k30 : PySem.W.keepIn K (.ref f30) = true)
    {f31 : Addr} {oc31 kV31 dc31 pm31 ct31 : Value} {od31 an31 : Option Addr} {sl31 : Array (Option Value)}
    {cd31 : Value}
    (a31 : PySem.W.nsIn K mainGlobals "_law_loose" = some (some (.ref f31))) (l31 : K.lookup f31 = some ⟨oc31, od31, .func (PySem.W.fnOf "_law_loose" "_law_loose" (defArgs s__law_loose) (defBody s__law_loose) (defScope s__law_loose) .none kV31 dc31 pm31 an31 cd31 ct31), sl31⟩) (c31 : PySem.W.codeIn K cd31 "_law_loose" = true) (k31 : PySem.W.keepIn K (.ref f31) = true)
    {f32 : Addr} {oc32 kV32 dc32 pm32 ct32 : Value} {od32 an32 : Option Addr} {sl32 : Array (Option Value)}
    {cd32 : Value}
    (a32 : PySem.W.nsIn K mainGlobals "_law_long_right" = some (some (.ref f32))) (l32 : K.lookup f32 = some ⟨oc32, od32, .func (PySem.W.fnOf "_law_long_right" "_law_long_right" (defArgs s__law_long_right) (defBody s__law_long_right) (defScope s__law_long_right) .none kV32 dc32 pm32 an32 cd32 ct32), sl32⟩) (c32 : PySem.W.codeIn K cd32 "_law_long_right" = true) (k32 : PySem.W.keepIn K (.ref f32) = true)
    {f33 : Addr} {oc33 kV33 dc33 pm33 ct33 : Value} {od33 an33 : Option Addr} {sl33 : Array (Option Value)}
    {cd33 : Value}
    (a33 : PySem.W.nsIn K mainGlobals "law" = some (some (.ref f33))) (l33 : K.lookup f33 = some ⟨oc33, od33, .func (PySem.W.fnOf "law" "law" (defArgs s_law) (defBody s_law) (defScope s_law) .none kV33 dc33 pm33 an33 cd33 ct33), sl33⟩) (c33 : PySem.W.codeIn K cd33 "law" = true) (k33 : PySem.W.keepIn K (.ref f33) = true)
    (b_all : PySem.W.nsIn K mainGlobals "all" = some none)
    (b_bool : PySem.W.nsIn K mainGlobals "bool" = some none)
    (b_enumerate : PySem.W.nsIn K mainGlobals "enumerate" = some none)
    (b_int : PySem.W.nsIn K mainGlobals "int" = some none)
    (b_isinstance : PySem.W.nsIn K mainGlobals "isinstance" = some none)
    (b_len : PySem.W.nsIn K mainGlobals "len" = some none)
    (b_list : PySem.W.nsIn K mainGlobals "list" = some none)
    (b_max : PySem.W.nsIn K mainGlobals "max" = some none)
    (b_min : PySem.W.nsIn K mainGlobals "min" = some none)
    (b_range : PySem.W.nsIn K mainGlobals "range" = some none)
    (b_sorted : PySem.W.nsIn K mainGlobals "sorted" = some none)
    (b_sum : PySem.W.nsIn K mainGlobals "sum" = some none)
    (b_tuple : PySem.W.nsIn K mainGlobals "tuple" = some none)
    (b_zip : PySem.W.nsIn K mainGlobals "zip" = some none)
    {z1 z2 z3 : Tok}
    (g_MOST_PLACES : PySem.W.nsIn K mainGlobals "MOST_PLACES" = some (some (.int 40 z1)))
    (g_MOST_TIES : PySem.W.nsIn K mainGlobals "MOST_TIES" = some (some (.int 120 z2)))
    (g_MOST_WEBS : PySem.W.nsIn K mainGlobals "MOST_WEBS" = some (some (.int 12 z3)))
    : LamX.LawAtS l w K CX0 9 63 "_law_script" mg fa h := by
  have G := TT.g
  have e := hfa.symm.trans (PySem.W.mg_of X G a33)
  cases e
  obtain ⟨hcd, htb⟩ := PySem.W.tab_of TT X hrec (tabIn_of a20 l20 rfl lc hv)
  refine ⟨PySem.W.fnOf "law" "law" (defArgs s_law) (defBody s_law) (defScope s_law) .none kV33 dc33 pm33 an33 cd33 ct33, [(cc, Pt)], spLaw (Pt, "shortest_many.<locals>.<lambda>") K, fun p hp => by rw [List.mem_singleton.mp hp]; exact htb, fun p hp => by rw [List.mem_singleton.mp hp]; exact nT, fun p hp => by rw [List.mem_singleton.mp hp]; exact hcd, fun s u => .of_eq rfl, fun H a ns h1 h2 h3 h4 => ⟨a, ns, rfl, h4, LamX.TabS.nil (h3 _ (List.mem_singleton.mpr rfl)), fun _ => rfl⟩, fun base KB GB TB => ?_⟩
  exact all_law (T := (Pt, "shortest_many.<locals>.<lambda>")) (df_mk X G a0 l0 c0 k0) (df_mk X G a1 l1 c1 k1) (df_mk X G a2 l2 c2 k2) (df_mk X G a3 l3 c3 k3) (df_mk X G a4 l4 c4 k4) (df_mk X G a5 l5 c5 k5) (df_mk X G a6 l6 c6 k6) (df_mk X G a7 l7 c7 k7) (df_mk X G a8 l8 c8 k8) (df_mk X G a9 l9 c9 k9) (df_mk X G a10 l10 c10 k10) (df_mk X G a11 l11 c11 k11) (df_mk X G a12 l12 c12 k12) (df_mk X G a13 l13 c13 k13) (df_mk X G a14 l14 c14 k14) (df_mk X G a15 l15 c15 k15) (df_mk X G a16 l16 c16 k16) (df_mk X G a17 l17 c17 k17) (df_mk X G a18 l18 c18 k18) (df_mk X G a19 l19 c19 k19) (df_mk X G a21 l21 c21 k21) (df_mk X G a23 l23 c23 k23) (df_mk X G a24 l24 c24 k24) (df_mk X G a25 l25 c25 k25) (df_mk X G a26 l26 c26 k26) (df_mk X G a27 l27 c27 k27) (df_mk X G a28 l28 c28 k28) (df_mk X G a29 l29 c29 k29) (df_mk X G a30 l30 c30 k30) (df_mk X G a31 l31 c31 k31) (df_mk X G a32 l32 c32 k32) (dfC_mk X G a20 l20 c20 k20) (dfD_mk X G a22 l22 c22 k22 lT) (fun_mk l33 c33 k33) (TB _ (List.mem_singleton.mpr rfl)) rfl (PySem.W.mg_none_of X G b_all) (PySem.W.mg_none_of X G b_bool) (PySem.W.mg_none_of X G b_enumerate) (PySem.W.mg_none_of X G b_int) (PySem.W.mg_none_of X G b_isinstance) (PySem.W.mg_none_of X G b_len) (PySem.W.mg_none_of X G b_list) (PySem.W.mg_none_of X G b_max) (PySem.W.mg_none_of X G b_min) (PySem.W.mg_none_of X G b_range) (PySem.W.mg_none_of X G b_sorted) (PySem.W.mg_none_of X G b_sum) (PySem.W.mg_none_of X G b_tuple) (PySem.W.mg_none_of X G b_zip) (PySem.W.mg_of X G g_MOST_PLACES) (PySem.W.mg_of X G g_MOST_TIES) (PySem.W.mg_of X G g_MOST_WEBS)
end K68
end

open PySem PySem.W PyProof.Rows
set_option maxRecDepth 100000 in
set_option maxHeartbeats 0 in
theorem PySem.Challenge.cw_webtimes_k68_whole_great_products_told_holds : PySem.Challenge.rw_webtimes_k68_whole_great_products_told.Holds := by
  w_on; o_law; k_head; (case hw => w_witness2)
  k_fill
  refine K68.walk_G (l := PySem.Challenge.rw_webtimes_k68_whole_great_products_told) (n := 63) (k := 9) (x := "_law_script") (CX := L2.CX0) rfl (by decide) rfl ⟨rfl, by decide, by decide⟩ (fun w h Y => PySem.W.km_in_of Y) ?F (fun _ _ _ _ z => z)
  case F =>
    intro w mean mg mb fa h KX TT hmg
    refine' K68.law_at KX TT hmg ?a0 ?l0 ?c0 ?k0 ?a1 ?l1 ?c1 ?k1 ?a2 ?l2 ?c2 ?k2 ?a3 ?l3 ?c3 ?k3 ?a4 ?l4 ?c4 ?k4 ?a5 ?l5 ?c5 ?k5 ?a6 ?l6 ?c6 ?k6 ?a7 ?l7 ?c7 ?k7 ?a8 ?l8 ?c8 ?k8 ?a9 ?l9 ?c9 ?k9 ?a10 ?l10 ?c10 ?k10 ?a11 ?l11 ?c11 ?k11 ?a12 ?l12 ?c12 ?k12 ?a13 ?l13 ?c13 ?k13 ?a14 ?l14 ?c14 ?k14 ?a15 ?l15 ?c15 ?k15 ?a16 ?l16 ?c16 ?k16 ?a17 ?l17 ?c17 ?k17 ?a18 ?l18 ?c18 ?k18 ?a19 ?l19 ?c19 ?k19 ?a20 ?l20 ?c20 ?k20 ?lc ?hv ?nT ?hrec ?a21 ?l21 ?c21 ?k21 ?a22 ?l22 ?c22 ?k22 ?lT ?a23 ?l23 ?c23 ?k23 ?a24 ?l24 ?c24 ?k24 ?a25 ?l25 ?c25 ?k25 ?a26 ?l26 ?c26 ?k26 ?a27 ?l27 ?c27 ?k27 ?a28 ?l28 ?c28 ?k28 ?a29 ?l29 ?c29 ?k29 ?a30 ?l30 ?c30 ?k30 ?a31 ?l31 ?c31 ?k31 ?a32 ?l32 ?c32 ?k32 ?a33 ?l33 ?c33 ?k33 ?b_all ?b_bool ?b_enumerate ?b_int ?b_isinstance ?b_len ?b_list ?b_max ?b_min ?b_range ?b_sorted ?b_sum ?b_tuple ?b_zip ?g_MOST_PLACES ?g_MOST_TIES ?g_MOST_WEBS
    (case a0 => k_is)
    (case l0 => k_is)
    (case c0 => k_is)
    (case k0 => k_is)
    (case a1 => k_is)
    (case l1 => k_is)
    (case c1 => k_is)
    (case k1 => k_is)
    (case a2 => k_is)
    (case l2 => k_is)
    (case c2 => k_is)
    (case k2 => k_is)
    (case a3 => k_is)
    (case l3 => k_is)
    (case c3 => k_is)
    (case k3 => k_is)
    (case a4 => k_is)
    (case l4 => k_is)
    (case c4 => k_is)
    (case k4 => k_is)
    (case a5 => k_is)
    (case l5 => k_is)
    (case c5 => k_is)
    (case k5 => k_is)
    (case a6 => k_is)
    (case l6 => k_is)
    (case c6 => k_is)
    (case k6 => k_is)
    (case a7 => k_is)
    (case l7 => k_is)
    (case c7 => k_is)
    (case k7 => k_is)
    (case a8 => k_is)
    (case l8 => k_is)
    (case c8 => k_is)
    (case k8 => k_is)
    (case a9 => k_is)
    (case l9 => k_is)
    (case c9 => k_is)
    (case k9 => k_is)
    (case a10 => k_is)
    (case l10 => k_is)
    (case c10 => k_is)
    (case k10 => k_is)
    (case a11 => k_is)
    (case l11 => k_is)
    (case c11 => k_is)
    (case k11 => k_is)
    (case a12 => k_is)
    (case l12 => k_is)
    (case c12 => k_is)
    (case k12 => k_is)
    (case a13 => k_is)
    (case l13 => k_is)
    (case c13 => k_is)
    (case k13 => k_is)
    (case a14 => k_is)
    (case l14 => k_is)
    (case c14 => k_is)
    (case k14 => k_is)
    (case a15 => k_is)
    (case l15 => k_is)
    (case c15 => k_is)
    (case k15 => k_is)
    (case a16 => k_is)
    (case l16 => k_is)
    (case c16 => k_is)
    (case k16 => k_is)
    (case a17 => k_is)
    (case l17 => k_is)
    (case c17 => k_is)
    (case k17 => k_is)
    (case a18 => k_is)
    (case l18 => k_is)
    (case c18 => k_is)
    (case k18 => k_is)
    (case a19 => k_is)
    (case l19 => k_is)
    (case c19 => k_is)
    (case k19 => k_is)
    (case a20 => k_is)
    (case l20 => k_is)
    (case c20 => k_is)
    (case k20 => k_is)
    (case lc => k_is)
    (case hv => rfl)
    (case nT => kernel_rfl)
    (case hrec => rfl)
    (case a21 => k_is)
    (case l21 => k_is)
    (case c21 => k_is)
    (case k21 => k_is)
    (case a22 => k_is)
    (case l22 => k_is)
    (case c22 => k_is)
    (case k22 => k_is)
    (case lT => k_is)
    (case a23 => k_is)
    (case l23 => k_is)
    (case c23 => k_is)
    (case k23 => k_is)
    (case a24 => k_is)
    (case l24 => k_is)
    (case c24 => k_is)
    (case k24 => k_is)
    (case a25 => k_is)
    (case l25 => k_is)
    (case c25 => k_is)
    (case k25 => k_is)
    (case a26 => k_is)
    (case l26 => k_is)
    (case c26 => k_is)
    (case k26 => k_is)
    (case a27 => k_is)
    (case l27 => k_is)
    (case c27 => k_is)
    (case k27 => k_is)
    (case a28 => k_is)
    (case l28 => k_is)
    (case c28 => k_is)
    (case k28 => k_is)
    (case a29 => k_is)
    (case l29 => k_is)
    (case c29 => k_is)
    (case k29 => k_is)
    (case a30 => k_is)
    (case l30 => k_is)
    (case c30 => k_is)
    (case k30 => k_is)
    (case a31 => k_is)
    (case l31 => k_is)
    (case c31 => k_is)
    (case k31 => k_is)
    (case a32 => k_is)
    (case l32 => k_is)
    (case c32 => k_is)
    (case k32 => k_is)
    (case a33 => k_is)
    (case l33 => k_is)
    (case c33 => k_is)
    (case k33 => k_is)
    (case b_all => k_is)
    (case b_bool => k_is)
    (case b_enumerate => k_is)
    (case b_int => k_is)
    (case b_isinstance => k_is)
    (case b_len => k_is)
    (case b_list => k_is)
    (case b_max => k_is)
    (case b_min => k_is)
    (case b_range => k_is)
    (case b_sorted => k_is)
    (case b_sum => k_is)
    (case b_tuple => k_is)
    (case b_zip => k_is)
    (case g_MOST_PLACES => k_is)
    (case g_MOST_TIES => k_is)
    (case g_MOST_WEBS => k_is)
