import PyProof.Rows.All
import Wide.All
import OpenK.AllK
import Wide.FinOn
import Open.SpecLaws
import KE.OsGo
import HandS.ForSpec
import HandS.Comp
import HandS.Iter
import HandS.Text
import PySem.Challenge.RW_introduced_s01_after
set_option Elab.async false
set_option linter.all false
set_option maxRecDepth 100000
set_option maxHeartbeats 4000000
/-! The plain law: what the rows of bits compute answers as the specification says. No program in sight. -/
namespace Intro
open Kzf1 (Net net knows bits pairsOf pairs)
open Kzf5 (can cans round within group groups count oneByOneOn oneByOne meet rowOf)

/-! ### lists -/
theorem filter_le {α : Type} {p q : α → Bool} : ∀ (l : List α), (∀ x, x ∈ l → p x = true → q x = true) → (l.filter p).length ≤ (l.filter q).length
  | [], _ => Nat.le_refl _
  | x :: r, h => by
    have ih := filter_le r fun y hy => h y (List.mem_cons_of_mem _ hy)
    rw [List.filter_cons, List.filter_cons]
    by_cases c : p x = true
    · rw [if_pos c, if_pos (h x List.mem_cons_self c)]
      simp only [List.length_cons]; omega
    · rw [if_neg c]
      split <;> (try simp only [List.length_cons]) <;> omega
theorem filter_lt {α : Type} {p q : α → Bool} : ∀ (l : List α), (∀ x, x ∈ l → p x = true → q x = true) → (∃ x, x ∈ l ∧ q x = true ∧ ¬ p x = true) → (l.filter p).length < (l.filter q).length
  | [], _, h => by obtain ⟨x, hx, _⟩ := h; cases hx
  | x :: r, h, e => by
    have hr : ∀ y, y ∈ r → p y = true → q y = true := fun y hy => h y (List.mem_cons_of_mem _ hy)
    have hle := filter_le r hr
    rw [List.filter_cons, List.filter_cons]
    obtain ⟨y, hy, hq, hp⟩ := e
    rcases List.mem_cons.mp hy with rfl | hy
    · rw [if_neg hp, if_pos hq]
      simp only [List.length_cons]; omega
    · have ih := filter_lt r hr ⟨y, hy, hq, hp⟩
      by_cases c : p x = true
      · rw [if_pos c, if_pos (h x List.mem_cons_self c)]
        simp only [List.length_cons]; omega
      · rw [if_neg c]
        split <;> (try simp only [List.length_cons]) <;> omega
/-- one item less -/
theorem filter_but {α : Type} {p q : α → Bool} {a : α} : ∀ (l : List α), l.Nodup → a ∈ l → p a = true → q a = false → (∀ x, x ∈ l → x ≠ a → q x = p x) → (l.filter p).length = (l.filter q).length + 1
  | [], _, h, _, _, _ => by cases h
  | x :: r, nd, h, hp, hq, e => by
    obtain ⟨n1, n2⟩ := List.nodup_cons.mp nd
    rw [List.filter_cons, List.filter_cons]
    by_cases c : x = a
    · subst c
      rw [if_pos hp, if_neg (by rw [hq]; exact Bool.false_ne_true)]
      have : r.filter p = r.filter q := List.filter_congr fun y hy => (e y (List.mem_cons_of_mem _ hy) fun z => n1 (z ▸ hy)).symm
      rw [this]; rfl
    · have ha : a ∈ r := by
        rcases List.mem_cons.mp h with z | z
        · exact absurd z.symm c
        · exact z
      have ih := filter_but r n2 ha hp hq fun y hy => e y (List.mem_cons_of_mem _ hy)
      rw [e x List.mem_cons_self c]
      split
      · simp only [List.length_cons]; omega
      · exact ih

/-! ### who knows whom -/
theorem knows_iff (g : Net) (i j : Nat) : knows g i j = true ↔ i ≠ j ∧ ((i, j) ∈ g ∨ (j, i) ∈ g) := by
  unfold knows
  simp only [Bool.and_eq_true, bne_iff_ne, List.any_eq_true, Bool.or_eq_true, beq_iff_eq]
  constructor
  · rintro ⟨h, ⟨a, b⟩, he, ⟨rfl, rfl⟩ | ⟨rfl, rfl⟩⟩
    · exact ⟨h, .inl he⟩
    · exact ⟨h, .inr he⟩
  · rintro ⟨h, he | he⟩
    · exact ⟨h, _, he, .inl ⟨rfl, rfl⟩⟩
    · exact ⟨h, _, he, .inr ⟨rfl, rfl⟩⟩
theorem knows_symm (g : Net) (i j : Nat) : knows g i j = knows g j i := by
  rw [Bool.eq_iff_iff, knows_iff, knows_iff]
  constructor
  · rintro ⟨h, e⟩; exact ⟨h.symm, e.symm⟩
  · rintro ⟨h, e⟩; exact ⟨h.symm, e.symm⟩
theorem knows_append (g h : Net) (i j : Nat) : knows (g ++ h) i j = true ↔ knows g i j = true ∨ knows h i j = true := by
  rw [knows_iff, knows_iff, knows_iff, List.mem_append, List.mem_append]
  constructor
  · rintro ⟨h, (e | e) | (e | e)⟩
    · exact .inl ⟨h, .inl e⟩
    · exact .inr ⟨h, .inl e⟩
    · exact .inl ⟨h, .inr e⟩
    · exact .inr ⟨h, .inr e⟩
  · rintro (⟨h, e | e⟩ | ⟨h, e | e⟩)
    · exact ⟨h, .inl (.inl e)⟩
    · exact ⟨h, .inr (.inl e)⟩
    · exact ⟨h, .inl (.inr e)⟩
    · exact ⟨h, .inr (.inr e)⟩
theorem knows_one (a b i j : Nat) : knows [(a, b)] i j = true ↔ i ≠ j ∧ ((i = a ∧ j = b) ∨ (i = b ∧ j = a)) := by
  rw [knows_iff]
  simp only [List.mem_singleton, Prod.mk.injEq]
  constructor
  · rintro ⟨h, e | ⟨e1, e2⟩⟩
    · exact ⟨h, .inl e⟩
    · exact ⟨h, .inr ⟨e2, e1⟩⟩
  · rintro ⟨h, e | ⟨e1, e2⟩⟩
    · exact ⟨h, .inl e⟩
    · exact ⟨h, .inr ⟨e2, e1⟩⟩

/-! ### the pairs -/
theorem mem_pairsOf {n i j : Nat} : (i, j) ∈ pairsOf n ↔ i < j ∧ j < n := by
  unfold pairsOf
  simp only [List.mem_flatMap, List.mem_range, List.mem_map, List.mem_filter, decide_eq_true_eq, Prod.mk.injEq]
  constructor
  · rintro ⟨a, ha, b, ⟨hb, hab⟩, rfl, rfl⟩
    exact ⟨hab, hb⟩
  · rintro ⟨h1, h2⟩
    exact ⟨i, by omega, j, ⟨h2, h1⟩, rfl, rfl⟩
theorem pairsOf_few : ∀ n, n < 9 → (pairsOf n).length ≤ 28 := by decide
theorem pairsOf_nodup : ∀ n, n < 9 → (pairsOf n).Nodup := by decide
theorem can_iff {n : Nat} {g : Net} {i j : Nat} : can n g i j = true ↔ i ≠ j ∧ ¬ knows g i j = true ∧ ∃ k, k < n ∧ knows g i k = true ∧ knows g j k = true := by
  unfold can
  simp only [Bool.and_eq_true, bne_iff_ne, Bool.not_eq_true', List.any_eq_true, List.mem_range, Bool.not_eq_true]
  constructor
  · rintro ⟨⟨h1, h2⟩, k, hk, h3, h4⟩; exact ⟨h1, h2, k, hk, h3, h4⟩
  · rintro ⟨h1, h2, k, hk, h3, h4⟩; exact ⟨⟨h1, h2⟩, k, hk, h3, h4⟩
theorem mem_cans {n : Nat} {g : Net} {i j : Nat} : (i, j) ∈ cans n g ↔ i < j ∧ j < n ∧ can n g i j = true := by
  unfold cans
  rw [List.mem_filter, mem_pairsOf, and_assoc]
theorem can_symm {n : Nat} {g : Net} {i j : Nat} (h : can n g i j = true) : can n g j i = true := by
  rw [can_iff] at h ⊢
  obtain ⟨h1, h2, k, hk, h3, h4⟩ := h
  exact ⟨h1.symm, by rw [knows_symm]; exact h2, k, hk, h4, h3⟩

/-! ### steps -/
/-- j is at most d steps from i -/
def W (n : Nat) (g : Net) (d i j : Nat) : Prop := j ∈ within n g i d
instance (n : Nat) (g : Net) (d i j : Nat) : Decidable (W n g d i j) := by unfold W; exact inferInstance
section
variable {n : Nat} {g g' : Net} {i j k d : Nat}
theorem w_zero : W n g 0 i j ↔ j = i := by unfold W; rw [within]; exact List.mem_singleton
theorem w_succ : W n g (d + 1) i j ↔ j < n ∧ ∃ k, W n g d i k ∧ (k = j ∨ knows g k j = true) := by
  unfold W
  rw [within]
  simp only [List.mem_filter, List.mem_range, List.any_eq_true, Bool.or_eq_true, beq_iff_eq]
theorem w_lt (hi : i < n) (h : W n g d i j) : j < n := by
  cases d with
  | zero => rw [w_zero.mp h]; exact hi
  | succ d => exact (w_succ.mp h).1
theorem w_up (hi : i < n) (h : W n g d i j) : W n g (d + 1) i j := w_succ.mpr ⟨w_lt hi h, j, h, .inl rfl⟩
theorem w_mono (hi : i < n) {e : Nat} (h : W n g d i j) (le : d ≤ e) : W n g e i j := by
  induction e with
  | zero => rw [Nat.le_zero.mp le] at h; exact h
  | succ e ih =>
    by_cases c : d = e + 1
    · rw [c] at h; exact h
    · exact w_up hi (ih (by omega))
theorem w_trans {a b : Nat} (h1 : W n g a i j) (h2 : W n g b j k) : W n g (a + b) i k := by
  induction b generalizing k with
  | zero => rw [w_zero.mp h2]; exact h1
  | succ b ih =>
    obtain ⟨hk, m, hm, e⟩ := w_succ.mp h2
    exact w_succ.mpr ⟨hk, m, ih hm, e⟩
theorem w_split {a b : Nat} (h : W n g (a + b) i k) : ∃ j, W n g a i j ∧ W n g b j k := by
  induction b generalizing k with
  | zero => exact ⟨k, h, w_zero.mpr rfl⟩
  | succ b ih =>
    obtain ⟨hk, m, hm, e⟩ := w_succ.mp h
    obtain ⟨j, h1, h2⟩ := ih hm
    exact ⟨j, h1, w_succ.mpr ⟨hk, m, h2, e⟩⟩
theorem w_one : W n g 1 i j ↔ j < n ∧ (i = j ∨ knows g i j = true) := by
  rw [show (1 : Nat) = 0 + 1 from rfl, w_succ]
  constructor
  · rintro ⟨h, k, hk, e⟩; rw [w_zero.mp hk] at e; exact ⟨h, e⟩
  · rintro ⟨h, e⟩; exact ⟨h, i, w_zero.mpr rfl, e⟩
theorem w_symm (hi : i < n) (h : W n g d i j) : W n g d j i := by
  induction d generalizing i j with
  | zero => rw [w_zero] at h ⊢; exact h.symm
  | succ d ih =>
    obtain ⟨m, h1, h2⟩ := w_split (a := d) (b := 1) h
    have hm := w_lt hi h1
    obtain ⟨hj, e⟩ := w_one.mp h2
    have h3 : W n g 1 j m := w_one.mpr ⟨hm, by
      rcases e with e | e
      · exact .inl e.symm
      · exact .inr (by rw [knows_symm]; exact e)⟩
    rw [Nat.add_comm]
    exact w_trans h3 (ih hi h1)
/-- what's one step there is at most c steps here -/
theorem w_times {c : Nat} (h : ∀ i j, i < n → W n g' 1 i j → W n g c i j) (hi : i < n) (q : W n g' d i j) : W n g (c * d) i j := by
  induction d generalizing j with
  | zero => rw [Nat.mul_zero]; rw [w_zero] at q ⊢; exact q
  | succ d ih =>
    obtain ⟨m, h1, h2⟩ := w_split (a := d) (b := 1) q
    rw [Nat.mul_succ]
    exact w_trans (ih h1) (h m j (w_lt hi h1) h2)
theorem w_part {c : Nat} (h : ∀ i j, i < n → W n g c i j → W n g' 1 i j) (hi : i < n) (q : W n g (c * d) i j) : W n g' d i j := by
  induction d generalizing j with
  | zero => rw [Nat.mul_zero] at q; rw [w_zero] at q ⊢; exact q
  | succ d ih =>
    rw [Nat.mul_succ] at q
    obtain ⟨m, h1, h2⟩ := w_split q
    have hm := ih h1
    exact w_trans hm (h m j (w_lt hi hm) h2)

/-! ### a round: twice the steps -/
theorem w_two (_hi : i < n) : W n g 2 i j ↔ j < n ∧ ∃ k, k < n ∧ (i = k ∨ knows g i k = true) ∧ (k = j ∨ knows g k j = true) := by
  rw [show (2 : Nat) = 1 + 1 from rfl, w_succ]
  constructor
  · rintro ⟨h, k, hk, e⟩; obtain ⟨a, b⟩ := w_one.mp hk; exact ⟨h, k, a, b, e⟩
  · rintro ⟨h, k, a, b, e⟩; exact ⟨h, k, w_one.mpr ⟨a, b⟩, e⟩
theorem knows_round (hi : i < n) (hj : j < n) : knows (round n g) i j = true ↔ knows g i j = true ∨ can n g i j = true := by
  unfold round
  rw [knows_append, knows_iff (cans n g), mem_cans, mem_cans]
  constructor
  · rintro (h | ⟨_, ⟨_, _, h⟩ | ⟨_, _, h⟩⟩)
    · exact .inl h
    · exact .inr h
    · exact .inr (can_symm h)
  · rintro (h | h)
    · exact .inl h
    · have ne := (can_iff.mp h).1
      refine .inr ⟨ne, ?_⟩
      rcases Nat.lt_or_gt_of_ne ne with c | c
      · exact .inl ⟨c, hj, h⟩
      · exact .inr ⟨c, hi, can_symm h⟩
theorem can_two (hi : i < n) (hj : j < n) (h : can n g i j = true) : W n g 2 i j := by
  obtain ⟨_, _, k, hk, h1, h2⟩ := can_iff.mp h
  exact (w_two hi).mpr ⟨hj, k, hk, .inr h1, .inr (by rw [knows_symm]; exact h2)⟩
theorem w_round (hi : i < n) : W n (round n g) 1 i j ↔ W n g 2 i j := by
  rw [w_one]
  constructor
  · rintro ⟨hj, e | e⟩
    · exact (w_two hi).mpr ⟨hj, i, hi, .inl rfl, .inl e⟩
    · rcases (knows_round hi hj).mp e with e | e
      · exact (w_two hi).mpr ⟨hj, i, hi, .inl rfl, .inr e⟩
      · exact can_two hi hj e
  · intro h
    obtain ⟨hj, k, hk, a, b⟩ := (w_two hi).mp h
    refine ⟨hj, ?_⟩
    by_cases c : i = j
    · exact .inl c
    · refine .inr ((knows_round hi hj).mpr ?_)
      rcases a with rfl | a
      · rcases b with b | b
        · exact absurd b c
        · exact .inl b
      · rcases b with rfl | b
        · exact .inl a
        · by_cases q : knows g i j = true
          · exact .inl q
          · exact .inr (can_iff.mpr ⟨c, q, k, hk, a, by rw [knows_symm]; exact b⟩)
theorem w_rounds (k : Nat) (hi : i < n) : W n (Kzf5.after n g k) d i j ↔ W n g (2 ^ k * d) i j := by
  induction k generalizing g with
  | zero => rw [Nat.pow_zero, Nat.one_mul]; exact Iff.rfl
  | succ k ih =>
    show W n (Kzf5.after n (round n g) k) d i j ↔ _
    rw [ih, show 2 ^ (k + 1) * d = 2 * (2 ^ k * d) by rw [Nat.pow_succ, Nat.mul_comm (2 ^ k) 2, Nat.mul_assoc]]
    exact ⟨fun h => w_times (fun i j hi h => (w_round hi).mp h) hi h, fun h => w_part (fun i j hi h => (w_round hi).mpr h) hi h⟩
theorem after_succ (k : Nat) : Kzf5.after n g (k + 1) = round n (Kzf5.after n g k) := by
  induction k generalizing g with
  | zero => rfl
  | succ k ih =>
    show Kzf5.after n (round n g) (k + 1) = _
    rw [ih]; rfl

/-! ### no way is longer than the guests -/
def some_ (n : Nat) (g : Net) (i d : Nat) : Nat := ((List.range n).filter fun j => decide (W n g d i j)).length
theorem some_le (d : Nat) : some_ n g i d ≤ n := by
  have h := List.length_filter_le (fun j => decide (W n g d i j)) (List.range n)
  rw [List.length_range] at h
  exact h
theorem some_pos (hi : i < n) : 1 ≤ some_ n g i 0 := by
  unfold some_
  have h : i ∈ (List.range n).filter fun j => decide (W n g 0 i j) := List.mem_filter.mpr ⟨List.mem_range.mpr hi, decide_eq_true (w_zero.mpr rfl)⟩
  exact List.length_pos_of_mem h
theorem some_more (hi : i < n) (h : ∃ j, W n g (d + 1) i j ∧ ¬ W n g d i j) : some_ n g i d < some_ n g i (d + 1) := by
  unfold some_
  obtain ⟨j, h1, h2⟩ := h
  refine filter_lt _ (fun x _ hx => decide_eq_true (w_up hi (of_decide_eq_true hx))) ⟨j, List.mem_range.mpr (w_lt hi h1), decide_eq_true h1, fun z => h2 (of_decide_eq_true z)⟩
theorem w_still {e : Nat} (st : ∀ j, W n g (e + 1) i j → W n g e i j) (m : Nat) (h : W n g (e + m) i j) : W n g e i j := by
  induction m generalizing j with
  | zero => exact h
  | succ m ih =>
    obtain ⟨hk, k, hm, q⟩ := w_succ.mp h
    exact st j (w_succ.mpr ⟨hk, k, ih hm, q⟩)
theorem still_by (hi : i < n) (d : Nat) : (∃ e, e < d ∧ ∀ j, W n g (e + 1) i j → W n g e i j) ∨ d + 1 ≤ some_ n g i d := by
  induction d with
  | zero => exact .inr (some_pos hi)
  | succ d ih =>
    rcases ih with ⟨e, he, h⟩ | ih
    · exact .inl ⟨e, by omega, h⟩
    · by_cases c : ∀ j, W n g (d + 1) i j → W n g d i j
      · exact .inl ⟨d, by omega, c⟩
      · have : ∃ j, W n g (d + 1) i j ∧ ¬ W n g d i j := by
          apply Classical.byContradiction
          intro z
          exact c fun j h => Classical.byContradiction fun q => z ⟨j, h, q⟩
        have := some_more hi this
        exact .inr (by omega)
theorem w_most {m : Nat} (hi : i < n) (h : W n g m i j) : W n g (n - 1) i j := by
  rcases still_by (g := g) hi n with ⟨e, he, st⟩ | q
  · refine w_mono (d := e) hi ?_ (by omega)
    by_cases c : m ≤ e
    · exact w_mono hi h c
    · refine w_still st (m - e) ?_
      rw [show e + (m - e) = m by omega]; exact h
  · have := some_le (g := g) (i := i) (n := n) n
    omega
theorem w_all {m : Nat} (hi : i < n) (h : W n g m i j) : W n g n i j := w_mono hi (w_most hi h) (by omega)

/-! ### three rounds do -/
theorem cans_none_iff : cans n g = [] ↔ ∀ i j, i < j → j < n → ¬ can n g i j = true := by
  constructor
  · intro h i j h1 h2 h3
    have : (i, j) ∈ cans n g := mem_cans.mpr ⟨h1, h2, h3⟩
    rw [h] at this; cases this
  · intro h
    cases e : cans n g with
    | nil => rfl
    | cons p r =>
      obtain ⟨a, b⟩ := p
      have : (a, b) ∈ cans n g := by rw [e]; exact List.mem_cons_self
      obtain ⟨h1, h2, h3⟩ := mem_cans.mp this
      exact absurd h3 (h a b h1 h2)
theorem done3 (hn : n ≤ 8) : cans n (Kzf5.after n g 3) = [] := by
  rw [cans_none_iff]
  intro i j h1 h2 h3
  have hi : i < n := by omega
  have h4 := w_most hi ((w_rounds 3 hi).mp (can_two hi h2 h3))
  have h5 : W n (Kzf5.after n g 3) 1 i j := (w_rounds 3 hi).mpr (w_mono hi h4 (by omega))
  obtain ⟨_, e | e⟩ := w_one.mp h5
  · omega
  · exact (can_iff.mp h3).2.1 e
/-- the first round behind which nobody can be introduced -/
theorem rounds_is {k : Nat} (h3 : k ≤ 3) (h : cans n (Kzf5.after n g k) = []) (hl : ∀ m, m < k → cans n (Kzf5.after n g m) ≠ []) : Kzf5.rounds n g = k := by
  unfold Kzf5.rounds
  have : (List.range 5).find? (fun k => (cans n (Kzf5.after n g k)).isEmpty) = some k := by
    rw [List.find?_range_eq_some]
    refine ⟨by rw [h]; rfl, List.mem_range.mpr (by omega), fun j hj => ?_⟩
    cases e : cans n (Kzf5.after n g j) with
    | nil => exact absurd e (hl j hj)
    | cons p r => rfl
  rw [this]; rfl

/-! ### how far -/
theorem contains_iff : (within n g i d).contains j = true ↔ W n g d i j := by
  unfold W
  rw [List.contains_iff_mem]
theorem far_some {d : Nat} (hd : d < n) (h : W n g d i j) (hl : ∀ e, e < d → ¬ W n g e i j) : Kzf5.far n g i j = some d := by
  unfold Kzf5.far
  rw [List.find?_range_eq_some]
  refine ⟨contains_iff.mpr h, List.mem_range.mpr hd, fun e he => ?_⟩
  cases q : (within n g i e).contains j with
  | false => rfl
  | true => exact absurd (contains_iff.mp q) (hl e he)
theorem far_none (hl : ∀ e, e < n → ¬ W n g e i j) : Kzf5.far n g i j = none := by
  unfold Kzf5.far
  rw [List.find?_range_eq_none]
  intro e he
  cases q : (within n g i e).contains j with
  | false => rfl
  | true => exact absurd (contains_iff.mp q) (hl e he)
theorem far_none_iff (hi : i < n) : Kzf5.far n g i j = none ↔ ¬ W n g n i j := by
  constructor
  · intro h w
    have w' := w_most hi w
    unfold Kzf5.far at h
    rw [List.find?_range_eq_none] at h
    have q := h (n - 1) (by omega)
    rw [contains_iff.mpr w'] at q
    cases q
  · intro h
    exact far_none fun e he w => h (w_mono hi w (by omega))
theorem far_is {d : Nat} (h : Kzf5.far n g i j = some d) : d < n ∧ W n g d i j ∧ ∀ e, e < d → ¬ W n g e i j := by
  unfold Kzf5.far at h
  rw [List.find?_range_eq_some] at h
  obtain ⟨h1, h2, h3⟩ := h
  refine ⟨List.mem_range.mp h2, contains_iff.mp h1, fun e he w => ?_⟩
  have q := h3 e he
  rw [contains_iff.mpr w] at q
  cases q
/-- of those d steps apart: they know one another behind k rounds just if d is at most 2 ^ k -/
theorem met_iff {d k : Nat} (hi : i < n) (hj : j < n) (h : Kzf5.far n g i j = some d) : (i = j ∨ knows (Kzf5.after n g k) i j = true) ↔ d ≤ 2 ^ k := by
  obtain ⟨h1, h2, h3⟩ := far_is h
  have e : (i = j ∨ knows (Kzf5.after n g k) i j = true) ↔ W n g (2 ^ k) i j := by
    have q := w_rounds (g := g) (d := 1) (j := j) k hi
    rw [Nat.mul_one] at q
    rw [← q, w_one]
    exact ⟨fun z => ⟨hj, z⟩, fun z => z.2⟩
  rw [e]
  constructor
  · intro w
    apply Classical.byContradiction
    intro c
    exact h3 (2 ^ k) (by omega) w
  · intro le
    exact w_mono hi h2 le
theorem meet_le {d k : Nat} (hd : d ≤ 8) : meet d ≤ k ↔ d ≤ 2 ^ k := by
  unfold meet
  match k with
  | 0 => split; omega; split; omega; split <;> omega
  | 1 => split; omega; split; omega; split <;> omega
  | 2 => split; omega; split; omega; split <;> omega
  | k + 3 =>
    have : 8 ≤ 2 ^ (k + 3) := by
      rw [Nat.pow_add]
      have := Nat.one_le_two_pow (n := k)
      omega
    constructor
    · intro _; omega
    · intro _
      split; omega; split; omega; split <;> omega

/-! ### groups -/
theorem group_some (hi : i < n) : ∃ m, (List.range n).find? (fun j => (within n g i n).contains j) = some m := by
  cases e : (List.range n).find? (fun j => (within n g i n).contains j) with
  | some m => exact ⟨m, rfl⟩
  | none =>
    rw [List.find?_range_eq_none] at e
    have q := e i hi
    rw [contains_iff.mpr (w_mono hi (w_zero.mpr rfl : W n g 0 i i) (Nat.zero_le _))] at q
    cases q
theorem group_eq_iff (hi : i < n) (hj : j < n) : group n g i = group n g j ↔ W n g n i j := by
  obtain ⟨a, ha⟩ := group_some (g := g) hi
  obtain ⟨b, hb⟩ := group_some (g := g) hj
  have ea : group n g i = a := by unfold group; rw [ha]; rfl
  have eb : group n g j = b := by unfold group; rw [hb]; rfl
  rw [ea, eb]
  constructor
  · rintro rfl
    obtain ⟨h1, h2, _⟩ := List.find?_range_eq_some.mp ha
    obtain ⟨h3, _, _⟩ := List.find?_range_eq_some.mp hb
    exact w_all hi (w_trans (contains_iff.mp h1) (w_symm hj (contains_iff.mp h3)))
  · intro w
    have : (fun k => (within n g i n).contains k) = fun k => (within n g j n).contains k := by
      funext k
      rw [Bool.eq_iff_iff, contains_iff, contains_iff]
      exact ⟨fun q => w_all hj (w_trans (w_symm hi w) q), fun q => w_all hi (w_trans w q)⟩
    rw [this, hb] at ha
    exact (Option.some.inj ha).symm
theorem first_iff (hi : i < n) : (group n g i == i) = true ↔ ∀ j, j < i → Kzf5.far n g i j = none := by
  obtain ⟨a, ha⟩ := group_some (g := g) hi
  have ea : group n g i = a := by unfold group; rw [ha]; rfl
  rw [beq_iff_eq, ea]
  obtain ⟨h1, h2, h3⟩ := List.find?_range_eq_some.mp ha
  have wi : W n g n i i := w_mono hi (w_zero.mpr rfl : W n g 0 i i) (Nat.zero_le _)
  constructor
  · rintro rfl j hj
    rw [far_none_iff hi]
    intro w
    have q := h3 j hj
    rw [contains_iff.mpr w] at q
    cases q
  · intro h
    rcases Nat.lt_trichotomy a i with c | c | c
    · exact absurd (contains_iff.mp h1) ((far_none_iff hi).mp (h a c))
    · exact c
    · have q := h3 i c
      rw [contains_iff.mpr wi] at q
      cases q

/-! ### one by one -/
/-- the pairs who don't know one another -/
def missing (n : Nat) (g : Net) : Nat := ((pairsOf n).filter fun p => !(knows g p.1 p.2)).length
theorem missing_le (hn : n ≤ 8) : missing n g ≤ 28 := Nat.le_trans (List.length_filter_le _ _) (pairsOf_few n (by omega))
theorem count_le : count n g ≤ missing n g := by
  unfold count missing
  refine filter_le _ fun p _ h => ?_
  rw [Bool.and_eq_true] at h
  exact h.2
theorem missing_less {a b : Nat} (h : (a, b) ∈ cans n g) : missing n (g ++ [(a, b)]) < missing n g := by
  obtain ⟨h1, h2, h3⟩ := mem_cans.mp h
  obtain ⟨_, h4, _⟩ := can_iff.mp h3
  unfold missing
  refine filter_lt _ (fun p _ hp => ?_) ⟨(a, b), mem_pairsOf.mpr ⟨h1, h2⟩, ?_, ?_⟩
  · rw [Bool.not_eq_true'] at hp ⊢
    cases q : knows g p.1 p.2 with
    | false => rfl
    | true =>
      rw [(knows_append g [(a, b)] p.1 p.2).mpr (.inl q)] at hp
      cases hp
  · rw [Bool.not_eq_true']
    exact Bool.eq_false_iff.mpr h4
  · show ¬ (!knows (g ++ [(a, b)]) a b) = true
    rw [(knows_append g [(a, b)] a b).mpr (.inr ((knows_one a b a b).mpr ⟨by omega, .inl ⟨rfl, rfl⟩⟩))]
    decide
theorem w_add {a b : Nat} (h : (a, b) ∈ cans n g) (hi : i < n) : W n (g ++ [(a, b)]) n i j ↔ W n g n i j := by
  obtain ⟨h1, h2, h3⟩ := mem_cans.mp h
  have ha : a < n := by omega
  constructor
  · intro w
    refine w_all hi (w_times (c := 2) (fun i j hi q => ?_) hi w)
    obtain ⟨hj, e⟩ := w_one.mp q
    rcases e with e | e
    · exact (w_two hi).mpr ⟨hj, i, hi, .inl rfl, .inl e⟩
    · rcases (knows_append g [(a, b)] i j).mp e with e | e
      · exact (w_two hi).mpr ⟨hj, i, hi, .inl rfl, .inr e⟩
      · obtain ⟨_, ⟨rfl, rfl⟩ | ⟨rfl, rfl⟩⟩ := (knows_one a b i j).mp e
        · exact can_two hi hj h3
        · exact can_two hi hj (can_symm h3)
  · intro w
    have q := w_times (g' := g) (g := g ++ [(a, b)]) (c := 1) (d := n) (fun i j hi q => ?_) hi w
    · rw [Nat.one_mul] at q; exact q
    · obtain ⟨hj, e⟩ := w_one.mp q
      refine w_one.mpr ⟨hj, ?_⟩
      rcases e with e | e
      · exact .inl e
      · exact .inr ((knows_append g [(a, b)] i j).mpr (.inl e))
theorem beq_eq_of_iff {a b c d : Nat} (h : a = b ↔ c = d) : (a == b) = (c == d) := by
  rw [Bool.eq_iff_iff, beq_iff_eq, beq_iff_eq]; exact h
theorem count_less {a b : Nat} (hn : n ≤ 8) (h : (a, b) ∈ cans n g) : count n g = count n (g ++ [(a, b)]) + 1 := by
  obtain ⟨h1, h2, h3⟩ := mem_cans.mp h
  have ha : a < n := by omega
  obtain ⟨_, h4, _⟩ := can_iff.mp h3
  unfold count
  refine filter_but (a := (a, b)) _ (pairsOf_nodup n (by omega)) (mem_pairsOf.mpr ⟨h1, h2⟩) ?_ ?_ fun p hp ne => ?_
  · show (group n g a == group n g b && !knows g a b) = true
    rw [Bool.and_eq_true, beq_iff_eq, Bool.not_eq_true']
    exact ⟨(group_eq_iff ha h2).mpr (w_all ha (can_two ha h2 h3)), Bool.eq_false_iff.mpr h4⟩
  · show (group n (g ++ [(a, b)]) a == group n (g ++ [(a, b)]) b && !knows (g ++ [(a, b)]) a b) = false
    rw [(knows_append g [(a, b)] a b).mpr (.inr ((knows_one a b a b).mpr ⟨by omega, .inl ⟨rfl, rfl⟩⟩))]
    rw [Bool.not_true, Bool.and_false]
  · obtain ⟨x, y⟩ := p
    obtain ⟨hxy, hy⟩ := mem_pairsOf.mp hp
    have hx : x < n := by omega
    show (group n (g ++ [(a, b)]) x == group n (g ++ [(a, b)]) y && !knows (g ++ [(a, b)]) x y) = (group n g x == group n g y && !knows g x y)
    rw [beq_eq_of_iff (((group_eq_iff hx hy).trans (w_add h hx)).trans (group_eq_iff hx hy).symm)]
    have e : knows (g ++ [(a, b)]) x y = knows g x y := by
      rw [Bool.eq_iff_iff, knows_append, knows_one]
      constructor
      · rintro (q | ⟨_, ⟨rfl, rfl⟩ | ⟨rfl, rfl⟩⟩)
        · exact q
        · exact absurd rfl ne
        · omega
      · exact .inl
    rw [e]
theorem knows_of_done (h : cans n g = []) (hi : i < n) (w : W n g d i j) : i = j ∨ knows g i j = true := by
  rw [cans_none_iff] at h
  induction d generalizing j with
  | zero => exact .inl (w_zero.mp w).symm
  | succ d ih =>
    obtain ⟨hj, k, hk, e⟩ := w_succ.mp w
    have hkn := w_lt hi hk
    have q := ih hk
    rcases e with rfl | e
    · exact q
    · rcases q with rfl | q
      · exact .inr e
      · by_cases c : i = j
        · exact .inl c
        · refine .inr (Classical.byContradiction fun z => ?_)
          have cn : can n g i j = true := can_iff.mpr ⟨c, z, k, hkn, q, by rw [knows_symm]; exact e⟩
          rcases Nat.lt_or_gt_of_ne c with c | c
          · exact h i j c hj cn
          · exact h j i c hi (can_symm cn)
theorem count_done (h : cans n g = []) : count n g = 0 := by
  unfold count
  rw [List.length_eq_zero_iff, List.filter_eq_nil_iff]
  rintro ⟨x, y⟩ hp q
  obtain ⟨hxy, hy⟩ := mem_pairsOf.mp hp
  have hx : x < n := by omega
  rw [Bool.and_eq_true, beq_iff_eq, Bool.not_eq_true'] at q
  obtain ⟨q1, q2⟩ := q
  rcases knows_of_done h hx ((group_eq_iff hx hy).mp q1) with e | e
  · omega
  · rw [show knows g x y = false from q2] at e; cases e
theorem one_done (h : cans n g = []) (f : Nat) : oneByOneOn n f g = [] := by
  cases f with
  | zero => rfl
  | succ f => rw [oneByOneOn, h]; rfl
theorem one_more {p : Nat × Nat} {r : List (Nat × Nat)} (h : cans n g = p :: r) (f : Nat) : oneByOneOn n (f + 1) g = p :: oneByOneOn n f (g ++ [p]) := by
  rw [oneByOneOn, h]; rfl
theorem count_is (hn : n ≤ 8) : ∀ (f : Nat) (g : Net), missing n g ≤ f → (oneByOneOn n f g).length = count n g
  | 0, g, h => by
    have := count_le (n := n) (g := g)
    show 0 = _
    omega
  | f + 1, g, h => by
    cases e : cans n g with
    | nil => rw [one_done e, count_done e]; rfl
    | cons p r =>
      obtain ⟨a, b⟩ := p
      have hm : (a, b) ∈ cans n g := by rw [e]; exact List.mem_cons_self
      have h1 := missing_less hm
      rw [one_more e, List.length_cons, count_is hn f _ (by omega), ← count_less hn hm]
theorem oneByOne_count (hn : n ≤ 8) : (oneByOne n g).length = count n g := count_is hn 28 g (missing_le hn)
end
end Intro
/-! Rows of bits against nets. -/
namespace Intro
open Kzf1 (Net net knows bits pairsOf pairs)
open Kzf5 (can cans round within group groups count oneByOneOn oneByOne meet rowOf)

/-! ### bits -/
def bitsN (n : Nat) (p : Nat → Bool) : Nat := bits ((List.range n).filter p)
theorem bitsN_zero (p : Nat → Bool) : bitsN 0 p = 0 := rfl
theorem bitsN_succ (n : Nat) (p : Nat → Bool) : bitsN (n + 1) p = bitsN n p + if p n = true then 2 ^ n else 0 := by
  unfold bitsN bits
  rw [List.range_succ, List.filter_append, List.foldl_append]
  by_cases c : p n = true
  · rw [List.filter_cons_of_pos c, if_pos c]; rfl
  · rw [List.filter_cons_of_neg c, if_neg c]; rfl
theorem bitsN_lt (p : Nat → Bool) : ∀ n, bitsN n p < 2 ^ n
  | 0 => by rw [bitsN_zero]; decide
  | n + 1 => by
    have ih := bitsN_lt p n
    rw [bitsN_succ, Nat.pow_succ]
    split <;> omega
theorem bitsN_bit (p : Nat → Bool) (j : Nat) : ∀ n, (bitsN n p).testBit j = (decide (j < n) && p j)
  | 0 => by rw [bitsN_zero, Nat.zero_testBit]; simp
  | n + 1 => by
    have ih := bitsN_bit p j n
    have lt := bitsN_lt p n
    rw [bitsN_succ]
    by_cases c : p n = true
    · rw [if_pos c, Nat.add_comm]
      rcases Nat.lt_trichotomy j n with h | h | h
      · rw [Nat.testBit_two_pow_add_gt h, ih, decide_eq_true h, decide_eq_true (show j < n + 1 by omega)]
      · subst h
        rw [Nat.testBit_two_pow_add_eq, Nat.testBit_lt_two_pow lt, c, decide_eq_true (show j < j + 1 by omega)]; rfl
      · rw [decide_eq_false (show ¬ j < n + 1 by omega), Bool.false_and]
        refine Nat.testBit_lt_two_pow (Nat.lt_of_lt_of_le (?_ : _ < 2 ^ (n + 1)) (Nat.pow_le_pow_right (by decide) (by omega)))
        rw [Nat.pow_succ]; omega
    · rw [if_neg c, Nat.add_zero, ih]
      by_cases h : j = n
      · subst h
        rw [Bool.eq_false_iff.mpr c, Bool.and_false, Bool.and_false]
      · congr 1
        rw [decide_eq_decide]; omega
theorem bitsN_is {n x : Nat} {p : Nat → Bool} (h : ∀ j, x.testBit j = (decide (j < n) && p j)) : x = bitsN n p :=
  Nat.eq_of_testBit_eq fun j => by rw [h, bitsN_bit]
theorem bitsN_congr {n : Nat} {p q : Nat → Bool} (h : ∀ j, j < n → p j = q j) : bitsN n p = bitsN n q := bitsN_is fun j => by
  rw [bitsN_bit]
  by_cases c : j < n
  · rw [h j c]
  · rw [decide_eq_false c, Bool.false_and, Bool.false_and]
theorem row_is (n : Nat) (g : Net) (i : Nat) : rowOf n g i = bitsN n (knows g i) := rfl
theorem row_bit {n : Nat} (g : Net) (i : Nat) {j : Nat} (hj : j < n) : (rowOf n g i).testBit j = knows g i j := by
  rw [row_is, bitsN_bit, decide_eq_true hj, Bool.true_and]
theorem row_none (n i : Nat) : rowOf n [] i = 0 := by
  refine Nat.eq_of_testBit_eq fun j => ?_
  rw [row_is, bitsN_bit, Nat.zero_testBit]
  rw [show knows [] i j = false by unfold knows; rw [List.any_nil, Bool.and_false], Bool.and_false]
/-- the bit of a number at a place, as the program reads it -/
theorem bit_read (x j : Nat) : x / 2 ^ j % 2 = if x.testBit j = true then 1 else 0 := by
  rw [Nat.testBit_eq_decide_div_mod_eq]
  by_cases c : x / 2 ^ j % 2 = 1
  · rw [if_pos (decide_eq_true c), c]
  · rw [if_neg fun z => c (of_decide_eq_true z)]; omega
section
variable {n : Nat} {g : Net} {a b i j k t : Nat}
theorem knows_snoc (hab : a ≠ b) (hj : a ≠ j) : knows (g ++ [(a, b)]) a j = (knows g a j || decide (j = b)) := by
  rw [Bool.eq_iff_iff, knows_append, knows_one, Bool.or_eq_true, decide_eq_true_eq]
  constructor
  · rintro (h | ⟨_, ⟨_, h⟩ | ⟨h, _⟩⟩)
    · exact .inl h
    · exact .inr h
    · exact absurd h hab
  · rintro (h | h)
    · exact .inl h
    · exact .inr ⟨hj, .inl ⟨rfl, h⟩⟩
theorem knows_self (g : Net) (i : Nat) : knows g i i = false := by
  rw [Bool.eq_false_iff]
  intro h
  exact ((knows_iff g i i).mp h).1 rfl
theorem knows_swap (g : Net) (a b i j : Nat) : knows (g ++ [(a, b)]) i j = knows (g ++ [(b, a)]) i j := by
  rw [Bool.eq_iff_iff, knows_append, knows_append, knows_one, knows_one]
  constructor
  · rintro (h | ⟨h, e⟩)
    · exact .inl h
    · exact .inr ⟨h, e.symm⟩
  · rintro (h | ⟨h, e⟩)
    · exact .inl h
    · exact .inr ⟨h, e.symm⟩
theorem row_or (hab : a ≠ b) (hb : b < n) : rowOf n (g ++ [(a, b)]) a = rowOf n g a ||| 2 ^ b := by
  rw [row_is]
  refine (bitsN_is fun j => ?_).symm
  rw [Nat.testBit_or, row_is, bitsN_bit, Nat.testBit_two_pow]
  by_cases c : a = j
  · subst c
    rw [knows_self, knows_self, decide_eq_false (show ¬ b = a from fun z => hab z.symm)]
    simp
  · rw [knows_snoc hab c]
    by_cases h : j < n
    · rw [decide_eq_true h, Bool.true_and, Bool.true_and]
      congr 1
      rw [decide_eq_decide]; exact eq_comm
    · rw [decide_eq_false h, Bool.false_and, Bool.false_and, Bool.false_or, decide_eq_false]
      omega
theorem row_or' (hab : a ≠ b) (ha : a < n) : rowOf n (g ++ [(a, b)]) b = rowOf n g b ||| 2 ^ a := by
  rw [← row_or (g := g) hab.symm ha, row_is, row_is]
  exact bitsN_congr fun j _ => knows_swap g a b b j
theorem row_else (h1 : i ≠ a) (h2 : i ≠ b) : rowOf n (g ++ [(a, b)]) i = rowOf n g i := by
  rw [row_is, row_is]
  refine bitsN_congr fun j _ => ?_
  rw [Bool.eq_iff_iff, knows_append, knows_one]
  constructor
  · rintro (h | ⟨_, ⟨h, _⟩ | ⟨h, _⟩⟩)
    · exact h
    · exact absurd h h1
    · exact absurd h h2
  · exact .inl

/-! ### the rows as the program keeps them -/
def rows (n : Nat) (g : Net) : List Nat := (List.range n).map (rowOf n g)
theorem rows_len : (rows n g).length = n := by unfold rows; rw [List.length_map, List.length_range]
theorem rows_get (hi : i < n) : (rows n g)[i]? = some (rowOf n g i) := by
  unfold rows
  rw [List.getElem?_map, List.getElem?_range hi]; rfl
theorem rows_none (n : Nat) : rows n [] = List.replicate n 0 := by
  refine List.ext_getElem? fun i => ?_
  by_cases c : i < n
  · rw [rows_get c, row_none, List.getElem?_replicate, if_pos c]
  · rw [List.getElem?_eq_none (by rw [rows_len]; omega), List.getElem?_eq_none (by rw [List.length_replicate]; omega)]
theorem rows_set (hab : a ≠ b) (ha : a < n) (hb : b < n) : ((rows n g).set a (rowOf n g a ||| 2 ^ b)).set b (rowOf n g b ||| 2 ^ a) = rows n (g ++ [(a, b)]) := by
  refine List.ext_getElem? fun i => ?_
  by_cases c : i < n
  · rw [rows_get c, List.getElem?_set]
    by_cases e : b = i
    · subst e
      rw [if_pos rfl, if_pos (by rw [List.length_set, rows_len]; exact hb), row_or' hab ha]
    · rw [if_neg e, List.getElem?_set]
      by_cases f : a = i
      · subst f
        rw [if_pos rfl, if_pos (by rw [rows_len]; exact ha), row_or hab hb]
      · rw [if_neg f, rows_get c, row_else (fun z => f z.symm) fun z => e z.symm]
  · rw [List.getElem?_eq_none (by rw [List.length_set, List.length_set, rows_len]; omega), List.getElem?_eq_none (by rw [rows_len]; omega)]

/-! ### who can be introduced -/
theorem and_zero_iff : rowOf n g i &&& rowOf n g j = 0 ↔ ¬ ∃ k, k < n ∧ knows g i k = true ∧ knows g j k = true := by
  constructor
  · rintro h ⟨k, hk, h1, h2⟩
    have e : (rowOf n g i &&& rowOf n g j).testBit k = true := by
      rw [Nat.testBit_and, row_bit g i hk, row_bit g j hk, h1, h2]; rfl
    rw [h, Nat.zero_testBit] at e
    cases e
  · intro h
    refine Nat.eq_of_testBit_eq fun k => ?_
    rw [Nat.zero_testBit, Bool.eq_false_iff]
    intro q
    rw [Nat.testBit_and, row_is, row_is, bitsN_bit, bitsN_bit] at q
    simp only [Bool.and_eq_true, decide_eq_true_eq] at q
    exact h ⟨k, q.1.1, q.1.2, q.2.2⟩
theorem can_is (hij : i ≠ j) : can n g i j = (!(knows g i j) && !decide (rowOf n g i &&& rowOf n g j = 0)) := by
  rw [Bool.eq_iff_iff, can_iff, Bool.and_eq_true, Bool.not_eq_true', Bool.not_eq_true', decide_eq_false_iff_not, and_zero_iff, Classical.not_not, Bool.eq_false_iff]
  exact ⟨fun h => h.2, fun h => ⟨hij, h⟩⟩

/-! ### the pairs, row by row -/
def above (n i : Nat) : List (Nat × Nat) := (List.range (n - (i + 1))).map fun t => (i, i + 1 + t)
def pairsTo (n t : Nat) : List (Nat × Nat) := (List.range t).flatMap (above n)
theorem filter_range (i : Nat) : ∀ n, (List.range n).filter (fun j => decide (i < j)) = (List.range (n - (i + 1))).map (fun t => i + 1 + t)
  | 0 => by rw [Nat.zero_sub]; rfl
  | n + 1 => by
    rw [List.range_succ, List.filter_append, filter_range i n]
    by_cases c : i < n
    · rw [List.filter_cons_of_pos (p := fun j => decide (i < j)) (decide_eq_true c), show n + 1 - (i + 1) = (n - (i + 1)) + 1 by omega, List.range_succ, List.map_append]
      congr 1
      show [n] = [i + 1 + (n - (i + 1))]
      congr 1; omega
    · rw [List.filter_cons_of_neg (p := fun j => decide (i < j)) (by rw [decide_eq_true_eq]; exact c), show n + 1 - (i + 1) = 0 by omega, show n - (i + 1) = 0 by omega]; rfl
theorem pairsTo_all (n : Nat) : pairsTo n n = pairsOf n := by
  unfold pairsTo pairsOf
  congr 1
  funext i
  rw [filter_range, List.map_map]; rfl
theorem pairsTo_zero (n : Nat) : pairsTo n 0 = [] := rfl
theorem pairsTo_succ (n t : Nat) : pairsTo n (t + 1) = pairsTo n t ++ above n t := by
  unfold pairsTo
  rw [List.range_succ, List.flatMap_append]
  simp
theorem pairsTo_few : ∀ n, n < 9 → ∀ t, t < 9 → t ≤ n → (pairsTo n t).length ≤ 28 := by decide
theorem above_few (n i : Nat) : (above n i).length ≤ n := by
  unfold above
  rw [List.length_map, List.length_range]; omega

/-! ### steps -/
/-- some guests and, of those among them below t, all whom they know -/
def nearTo (n : Nat) (g : Net) (s : Nat → Bool) (t : Nat) : Nat := bitsN n fun j => s j || (List.range t).any fun k => s k && knows g k j
theorem nearTo_zero (s : Nat → Bool) : nearTo n g s 0 = bitsN n s := bitsN_congr fun j _ => by
  rw [List.range_zero, List.any_nil, Bool.or_false]
theorem nearTo_succ (s : Nat → Bool) : nearTo n g s (t + 1) = if s t = true then nearTo n g s t ||| rowOf n g t else nearTo n g s t := by
  by_cases c : s t = true
  · rw [if_pos c]
    refine (bitsN_is fun j => ?_).symm
    unfold nearTo
    rw [Nat.testBit_or, bitsN_bit, row_is, bitsN_bit, List.range_succ, List.any_append, List.any_cons, List.any_nil, c, Bool.true_and, Bool.or_false]
    cases decide (j < n) <;> simp [Bool.or_assoc]
  · rw [if_neg c]
    refine bitsN_congr fun j _ => ?_
    rw [List.range_succ, List.any_append, List.any_cons, List.any_nil, Bool.eq_false_iff.mpr c, Bool.false_and, Bool.or_false, Bool.or_false]
/-- at most d steps from i, as bits -/
def reach (n : Nat) (g : Net) (i d : Nat) : Nat := bitsN n fun j => (within n g i d).contains j
theorem reach_zero (hi : i < n) : 2 ^ i = reach n g i 0 := bitsN_is fun j => by
  rw [Nat.testBit_two_pow, Bool.eq_iff_iff, Bool.and_eq_true, contains_iff, w_zero, decide_eq_true_eq, decide_eq_true_eq]
  constructor
  · rintro rfl; exact ⟨hi, rfl⟩
  · rintro ⟨_, h⟩; exact h.symm
theorem reach_succ (hi : i < n) (d : Nat) : nearTo n g (fun j => (within n g i d).contains j) n = reach n g i (d + 1) := bitsN_congr fun j hj => by
  rw [Bool.eq_iff_iff, Bool.or_eq_true, contains_iff, contains_iff, w_succ, List.any_eq_true]
  constructor
  · rintro (h | ⟨k, _, h⟩)
    · exact ⟨hj, j, h, .inl rfl⟩
    · rw [Bool.and_eq_true, contains_iff] at h
      exact ⟨hj, k, h.1, .inr h.2⟩
  · rintro ⟨_, k, h, rfl | e⟩
    · exact .inl h
    · exact .inr ⟨k, List.mem_range.mpr (w_lt hi h), by rw [Bool.and_eq_true, contains_iff]; exact ⟨h, e⟩⟩
theorem reach_bit (hj : j < n) (d : Nat) : (reach n g i d).testBit j = true ↔ W n g d i j := by
  unfold reach
  rw [bitsN_bit, decide_eq_true hj, Bool.true_and, contains_iff]

/-! ### groups, as the program counts them -/
def firsts (n : Nat) (g : Net) (i : Nat) : Bool := (List.range i).all fun j => (Kzf5.far n g i j).isNone
theorem firsts_is (hi : i < n) : firsts n g i = (group n g i == i) := by
  rw [Bool.eq_iff_iff, first_iff hi]
  unfold firsts
  rw [List.all_eq_true]
  constructor
  · intro h j hj
    exact Option.isNone_iff_eq_none.mp (h j (List.mem_range.mpr hj))
  · intro h j hj
    exact Option.isNone_iff_eq_none.mpr (h j (List.mem_range.mp hj))
theorem groups_is : groups n g = ((List.range n).filter (firsts n g)).length := by
  unfold groups
  congr 1
  exact List.filter_congr fun i hi => (firsts_is (List.mem_range.mp hi)).symm
end

/-! ### what's told -/
theorem net_len : ∀ l : List Nat, (net l).length = l.length / 2
  | [] => by simp [net]
  | [_] => by simp [net]
  | a :: b :: l => by
    rw [net, List.length_cons, net_len l, List.length_cons, List.length_cons]; omega
theorem net_get : ∀ (l : List Nat) (t x y : Nat), l[2 * t]? = some x → l[2 * t + 1]? = some y → (net l)[t]? = some (x, y)
  | [], t, _, _, h, _ => by simp at h
  | [a], 0, _, _, _, h => by simp at h
  | [a], t + 1, _, _, h, _ => by
    rw [List.getElem?_eq_none (by simp only [List.length_cons, List.length_nil]; omega)] at h
    cases h
  | a :: b :: l, 0, x, y, h, h2 => by
    have e1 : a = x := Option.some.inj h
    have e2 : b = y := Option.some.inj h2
    rw [net, e1, e2]; rfl
  | a :: b :: l, t + 1, x, y, h, h2 => by
    rw [net]
    show (net l)[t]? = _
    exact net_get l t x y (by simpa [Nat.mul_add] using h) (by simpa [Nat.mul_add, Nat.add_right_comm] using h2)
/-- of each pair the two differ -/
def parted (l : List Nat) : Bool := (List.range (l.length / 2)).all fun t => decide (l[2 * t]? ≠ l[2 * t + 1]?)
theorem net_all {n : Nat} : ∀ l : List Nat, l.length % 2 = 0 → (((net l).all fun e => decide (e.1 < n) && decide (e.2 < n) && e.1 != e.2) = true ↔ (∀ x ∈ l, x < n) ∧ ∀ t, t < l.length / 2 → l[2 * t]? ≠ l[2 * t + 1]?)
  | [], _ => by
    simp [net]
  | [a], h => by simp at h
  | a :: b :: l, h => by
    have ih := net_all (n := n) l (by simp only [List.length_cons] at h; omega)
    rw [net, List.all_cons, Bool.and_eq_true, ih]
    simp only [Bool.and_eq_true, decide_eq_true_eq, bne_iff_ne, List.mem_cons, forall_eq_or_imp, List.length_cons]
    constructor
    · rintro ⟨⟨⟨h1, h2⟩, h3⟩, h4, h5⟩
      refine ⟨⟨h1, h2, h4⟩, fun t ht => ?_⟩
      cases t with
      | zero => simpa using h3
      | succ t =>
        have q := h5 t (by omega)
        simpa [Nat.mul_add, Nat.add_right_comm] using q
    · rintro ⟨⟨h1, h2, h4⟩, h5⟩
      refine ⟨⟨⟨h1, h2⟩, ?_⟩, h4, fun t ht => ?_⟩
      · have q := h5 0 (by omega)
        simpa using q
      · have q := h5 (t + 1) (by omega)
        simpa [Nat.mul_add, Nat.add_right_comm] using q
theorem good_iff {n : Nat} {l : List Nat} : Kzf5.good n l = true ↔ (1 ≤ n ∧ n ≤ 8) ∧ l.length % 2 = 0 ∧ l.length ≤ 56 ∧ (∀ x ∈ l, x < n) ∧ ∀ t, t < l.length / 2 → l[2 * t]? ≠ l[2 * t + 1]? := by
  unfold Kzf5.good Kzf1.good Kzf1.okNet
  rw [Bool.and_eq_true, Bool.and_eq_true, Bool.and_eq_true, Bool.and_eq_true, decide_eq_true_eq, decide_eq_true_eq, decide_eq_true_eq, decide_eq_true_eq, net_len]
  constructor
  · rintro ⟨h1, ⟨⟨h2, h3⟩, h4⟩, h5⟩
    obtain ⟨h6, h7⟩ := (net_all l h1).mp h5
    exact ⟨⟨h2, h3⟩, h1, by omega, h6, h7⟩
  · rintro ⟨⟨h2, h3⟩, h1, h4, h6, h7⟩
    exact ⟨h1, ⟨⟨h2, h3⟩, by omega⟩, (net_all l h1).mpr ⟨h6, h7⟩⟩
end Intro
/-! ### Values, heaps, promises -/
namespace Intro
open PySem PySem.Spec PyProof.Rows L2
open Kzf1 (Net net knows bits pairsOf pairs)
open Kzf5 (can cans within group groups count oneByOneOn oneByOne meet rowOf)

abbrev vN (x : Nat) : V := .int (x : Int)
def nv (l : List Nat) : List V := l.map vN
theorem nv_len (l : List Nat) : (nv l).length = l.length := List.length_map _
theorem nv_get {l : List Nat} {i x : Nat} (h : l[i]? = some x) : (nv l)[i]? = some (vN x) := by
  unfold nv
  rw [List.getElem?_map, h]; rfl
theorem nv_set (l : List Nat) (i x : Nat) : (nv l).set i (vN x) = nv (l.set i x) := by
  unfold nv
  rw [List.map_set]
theorem nv_at {l : List Nat} {i x : Nat} (h : l[i]? = some x) : atI (nv l) (i : Int) = some (vN x) := atI_nat (nv_get h)
theorem nv_ix {l : List Nat} {i : Nat} (h : i < l.length) : ixN (nv l).length (i : Int) = some i := by
  unfold ixN
  rw [nv_len, if_pos (by omega), if_pos (by omega)]
  simp
/-- bits, as the program reads and writes them -/
theorem bit_int (x j : Nat) : Builtin.bitAnd ((x : Int) / 2 ^ (j : Int).toNat) 1 = if x.testBit j = true then 1 else 0 := by
  rw [Int.toNat_natCast, show ((x : Int) / 2 ^ j) = ((x / 2 ^ j : Nat) : Int) by rw [Int.natCast_ediv, Int.natCast_pow]; rfl,
    show Builtin.bitAnd ((x / 2 ^ j : Nat) : Int) 1 = Builtin.bitAnd ((x / 2 ^ j : Nat) : Int) (2 ^ 1 - 1) from rfl, Bits.bitAnd_mask 1 (Int.natCast_nonneg _)]
  have h := bit_read x j
  by_cases c : x.testBit j = true
  · rw [if_pos c] at h ⊢; omega
  · rw [if_neg c] at h ⊢; omega
theorem bit_dec (x j : Nat) : decide (V.int (Builtin.bitAnd ((x : Int) / 2 ^ (j : Int).toNat) 1) = V.int 1) = x.testBit j := by
  rw [bit_int]
  cases h : x.testBit j with
  | true => rfl
  | false => rfl
theorem or_bit (x j : Nat) : Builtin.bitOr (x : Int) ((1 : Int) * 2 ^ (j : Int).toNat) = ((x ||| 2 ^ j : Nat) : Int) := by
  rw [Int.toNat_natCast, Int.one_mul, show ((2 : Int) ^ j) = ((2 ^ j : Nat) : Int) by rw [Int.natCast_pow]; rfl, Bits.bitOr_pp (Int.natCast_nonneg _) (Int.natCast_nonneg _), Int.toNat_natCast, Int.toNat_natCast]
theorem or_two (x y : Nat) : Builtin.bitOr (x : Int) (y : Int) = ((x ||| y : Nat) : Int) := by
  rw [Bits.bitOr_pp (Int.natCast_nonneg _) (Int.natCast_nonneg _), Int.toNat_natCast, Int.toNat_natCast]
theorem and_dec (x y : Nat) : (!decide (V.int (Builtin.bitAnd (x : Int) (y : Int)) = V.int 0)) = !decide (x &&& y = 0) := by
  rw [bitAnd_pp (Int.natCast_nonneg _) (Int.natCast_nonneg _), Int.toNat_natCast, Int.toNat_natCast]
  congr 1
  rw [decide_eq_decide]
  constructor
  · intro h
    have := V.int.inj h
    omega
  · intro h
    rw [h]; rfl
theorem shl_ok {j : Nat} (h : j ≤ 8) : CPow 1 (j : Int) := ⟨by omega, by omega, by decide⟩
theorem few8 {n : Nat} (h : n ≤ 1000) : n ≤ sizeLine := Nat.le_of_lt (small1000 h)

theorem le2 : 2 ≤ sizeLine := few8 (by decide)
theorem le3 : 3 ≤ sizeLine := few8 (by decide)
theorem le1 : 1 ≤ sizeLine := few8 (by decide)

/-! ### heaps -/
theorem same_upd {H : Hp} {p : Addr} {o : HO} (h : H p = none) : Same H (upd H p o) := fun b x e => by
  rw [upd_ne (ne_of_none e h)]
  exact e
/-- a store to what is new -/
theorem same_set {H H1 : Hp} {p : Addr} {o : HO} (h : H p = none) (s : Same H H1) : Same H (upd H1 p o) := fun b x e => by
  rw [upd_ne (ne_of_none e h)]
  exact s _ _ e
abbrev tV (p : Nat × Nat) : List V := [vN p.1, vN p.2]
def TupAt (H : Hp) (t : Addr) (p : Nat × Nat) : Prop := H t = some (.tup (tV p))
def TupsAt (H : Hp) (ts : List Addr) (ps : List (Nat × Nat)) : Prop := ts.length = ps.length ∧ ∀ (i : Nat) (t : Addr) (p : Nat × Nat), ts[i]? = some t → ps[i]? = some p → TupAt H t p
def PairsAt (H : Hp) (a : Addr) (ps : List (Nat × Nat)) : Prop := ∃ ts : List Addr, H a = some (.lst (ts.map V.ref)) ∧ TupsAt H ts ps
theorem TupsAt.nil {H : Hp} : TupsAt H [] [] := ⟨rfl, fun i t p h => by simp at h⟩
theorem TupsAt.to {H H' : Hp} {ts : List Addr} {ps : List (Nat × Nat)} (h : TupsAt H ts ps) (s : ∀ t xs, H t = some (.tup xs) → H' t = some (.tup xs)) : TupsAt H' ts ps :=
  ⟨h.1, fun i t p h1 h2 => s _ _ (h.2 i t p h1 h2)⟩
theorem TupsAt.same {H H' : Hp} {ts : List Addr} {ps : List (Nat × Nat)} (h : TupsAt H ts ps) (s : Same H H') : TupsAt H' ts ps := h.to fun t xs e => s _ _ e
/-- a list is no tuple -/
theorem TupsAt.upd {H : Hp} {a : Addr} {xs : List V} {o : HO} {ts : List Addr} {ps : List (Nat × Nat)} (h : TupsAt H ts ps) (e : H a = some (.lst xs)) : TupsAt (upd H a o) ts ps := h.to fun t ys q => by
  rw [upd_ne (ne_of q e (by intro z; cases z))]; exact q
theorem TupsAt.app {H : Hp} {ts us : List Addr} {ps qs : List (Nat × Nat)} (h : TupsAt H ts ps) (h' : TupsAt H us qs) : TupsAt H (ts ++ us) (ps ++ qs) := by
  refine ⟨by rw [List.length_append, List.length_append, h.1, h'.1], fun i t p h1 h2 => ?_⟩
  by_cases c : i < ts.length
  · rw [List.getElem?_append_left c] at h1
    rw [List.getElem?_append_left (by rw [← h.1]; exact c)] at h2
    exact h.2 i t p h1 h2
  · rw [List.getElem?_append_right (by omega)] at h1
    rw [List.getElem?_append_right (by rw [← h.1]; omega), ← h.1] at h2
    exact h'.2 _ t p h1 h2
theorem TupsAt.one {H : Hp} {t : Addr} {p : Nat × Nat} (h : TupAt H t p) : TupsAt H [t] [p] := ⟨rfl, fun i u q h1 h2 => by
  cases i with
  | zero =>
    have e1 : t = u := Option.some.inj h1
    have e2 : p = q := Option.some.inj h2
    rw [← e1, ← e2]; exact h
  | succ i => simp at h1⟩
theorem TupsAt.get {H : Hp} {ts : List Addr} {ps : List (Nat × Nat)} {i : Nat} {x : V} (h : TupsAt H ts ps) (e : (ts.map V.ref)[i]? = some x) : ∃ t p, x = .ref t ∧ ps[i]? = some p ∧ TupAt H t p := by
  rw [List.getElem?_map] at e
  cases q : ts[i]? with
  | none => rw [q] at e; cases e
  | some t =>
    rw [q] at e
    have hi : i < ps.length := by rw [← h.1]; exact (List.getElem?_eq_some_iff.mp q).1
    exact ⟨t, ps[i], (Option.some.inj e).symm, List.getElem?_eq_getElem hi, h.2 i t _ q (List.getElem?_eq_getElem hi)⟩
theorem take_more {α : Type} {l : List α} {i : Nat} {x : α} (h : l[i]? = some x) : l.take (i + 1) = l.take i ++ [x] := by
  rw [List.take_add_one, h]; rfl
theorem filter_more {α : Type} {p : α → Bool} {l : List α} {i : Nat} {x : α} (h : l[i]? = some x) (c : p x = true) : (l.take (i + 1)).filter p = (l.take i).filter p ++ [x] := by
  rw [take_more h, List.filter_append, List.filter_cons_of_pos c]; rfl
theorem filter_same {α : Type} {p : α → Bool} {l : List α} {i : Nat} {x : α} (h : l[i]? = some x) (c : p x = false) : (l.take (i + 1)).filter p = (l.take i).filter p := by
  rw [take_more h, List.filter_append, List.filter_cons_of_neg (by rw [c]; exact Bool.false_ne_true)]; simp

/-! ### a list of pairs against [] -/
def dOf (p : Nat × Nat) : PyData := .tuple [.int (p.1 : Int), .int (p.2 : Int)]
theorem tups_dp {K : PySem.W.Frag} {H : Hp} : ∀ (ts : List Addr) (ps : List (Nat × Nat)), TupsAt H ts ps → DpAll K H (ts.map V.ref) (ps.map dOf)
  | [], [], _ => .nil
  | [], _ :: _, h => by have := h.1; simp at this
  | _ :: _, [], h => by have := h.1; simp at this
  | t :: ts, p :: ps, h => by
    have h0 : TupAt H t p := h.2 0 t p rfl rfl
    refine .cons (.tup (SqT.of h0) (.cons (.int _) (.cons (.int _) .nil))) (tups_dp ts ps ⟨?_, fun i u q h1 h2 => h.2 (i + 1) u q h1 h2⟩)
    have := h.1
    simp only [List.length_cons] at this
    omega
theorem dOfs_lay : ∀ ps : List (Nat × Nat), PyData.canLayAll0 (ps.map dOf) = true
  | [] => by rw [List.map_nil, PyData.canLayAll0]
  | p :: ps => by
    rw [List.map_cons, PyData.canLayAll0, dOfs_lay ps, dOf]
    simp [PyData.canLay0, PyData.canLayAll0]
theorem dOfs_depth : ∀ ps : List (Nat × Nat), PyData.depthAll (ps.map dOf) ≤ 1
  | [] => by rw [List.map_nil, PyData.depthAll]; decide
  | p :: ps => by
    have ih := dOfs_depth ps
    rw [List.map_cons, PyData.depthAll, dOf]
    simp only [PyData.depth, PyData.depthAll]
    omega
theorem dOfs_shaped (ps : List (Nat × Nat)) : SeqAt.shaped (.list (ps.map dOf)) = true := by
  unfold SeqAt.shaped
  rw [Bool.and_eq_true, decide_eq_true_eq, PyData.canLay0, PyData.depth]
  have := dOfs_depth ps
  exact ⟨dOfs_lay ps, by omega⟩
theorem dOfs_none (ps : List (Nat × Nat)) : (!PyData.eqv (.list (ps.map dOf)) (.list [])) = !ps.isEmpty := by
  rw [PyData.eqv]
  cases ps with
  | nil => rw [List.map_nil, PyData.eqvAll]; rfl
  | cons p r => rw [List.map_cons, PyData.eqvAll]; rfl

/-! ### loops by natural numbers -/
theorem for_rangeN {n : Nat} {g : TG} {tb : TS} {D : Ends} {σ : L2.St} {H : Hp} (Pv : Nat → L2.St → Hp → Prop) (h0 : Pv 0 σ H)
    (hs : ∀ (i : Nat) (σ : L2.St) (H : Hp), i < n → Pv i σ H → g (vN i) σ H fun σ2 H2 => tb { D with nx := Pv (i + 1), ct := Pv (i + 1), bk := D.nx } σ2 H2) (hd : ∀ σ H, Pv n σ H → D.nx σ H) :
    ∃ W : Nat → Nat → L2.St → Hp → Prop, (∃ m, W 0 m σ H) ∧ ∀ i m σ H, W i m σ H →
      ((Itr 0 (n : Int).toNat).stop i H ∧ D.nx σ H) ∨ ((Itr 0 (n : Int).toNat).go i H ∧ ∃ N : L2.St → Hp → Prop, (∀ σ' H', N σ' H' → ∃ m', m' < m ∧ W (i + 1) m' σ' H') ∧ ∀ x H', (Itr 0 (n : Int).toNat).yld i H x H' → g x σ H' fun σ2 H2 => tb { D with nx := N, ct := N, bk := D.nx } σ2 H2) := by
  rw [Int.toNat_natCast]
  refine for_range Pv h0 (fun i σ H hi p => ?_) hd
  rw [Int.zero_add]
  exact hs i σ H hi p
theorem lc_rangeN {lo n : Nat} {g : TG} {tt : TT} {te : TE} {vs : List Nat} {σ : L2.St} {H1 : Hp} {D : Addr} {Qd : Hp → Prop} (Pv : Nat → Hp → Prop) (h0 : Pv 0 (upd H1 D (.lst [])))
    (hs : ∀ (i : Nat) (H : Hp), i < n - lo → Pv i H → g (vN (lo + i)) (wipe σ vs) H fun σ2 H2 => wipe σ2 vs = wipe σ vs ∧ tt σ2 H2 fun b H3 =>
      if b = true then te σ2 H3 fun y H4 => ∃ acc, H4 D = some (.lst acc) ∧ acc.length < sizeLine ∧ Pv (i + 1) (upd H4 D (.lst (acc ++ [y]))) else Pv (i + 1) H3) (hd : ∀ H, Pv (n - lo) H → Qd H) :
    ∃ W : Nat → Nat → Hp → Prop, (∃ m, W 0 m (upd H1 D (.lst []))) ∧ ∀ i m H, W i m H →
      ((Itr (lo : Int) ((n : Int) - (lo : Int)).toNat).stop i H ∧ Qd H) ∨ ((Itr (lo : Int) ((n : Int) - (lo : Int)).toNat).go i H ∧ ∃ Nx : Hp → Prop, (∀ H', Nx H' → ∃ m', m' < m ∧ W (i + 1) m' H') ∧ ∀ x H', (Itr (lo : Int) ((n : Int) - (lo : Int)).toNat).yld i H x H' → g x (wipe σ vs) H' fun σ2 H2 => wipe σ2 vs = wipe σ vs ∧ tt σ2 H2 fun b H3 =>
        if b = true then te σ2 H3 fun y H4 => ∃ acc, H4 D = some (.lst acc) ∧ acc.length < sizeLine ∧ Nx (upd H4 D (.lst (acc ++ [y]))) else Nx H3) := by
  rw [show ((n : Int) - (lo : Int)).toNat = n - lo by omega]
  exact lc_range Pv h0 (fun i H hi p => hs i H hi p) hd
theorem lc_rangeZ {n : Nat} {g : TG} {tt : TT} {te : TE} {vs : List Nat} {σ : L2.St} {H1 : Hp} {D : Addr} {Qd : Hp → Prop} (Pv : Nat → Hp → Prop) (h0 : Pv 0 (upd H1 D (.lst [])))
    (hs : ∀ (i : Nat) (H : Hp), i < n → Pv i H → g (vN i) (wipe σ vs) H fun σ2 H2 => wipe σ2 vs = wipe σ vs ∧ tt σ2 H2 fun b H3 =>
      if b = true then te σ2 H3 fun y H4 => ∃ acc, H4 D = some (.lst acc) ∧ acc.length < sizeLine ∧ Pv (i + 1) (upd H4 D (.lst (acc ++ [y]))) else Pv (i + 1) H3) (hd : ∀ H, Pv n H → Qd H) :
    ∃ W : Nat → Nat → Hp → Prop, (∃ m, W 0 m (upd H1 D (.lst []))) ∧ ∀ i m H, W i m H →
      ((Itr 0 (n : Int).toNat).stop i H ∧ Qd H) ∨ ((Itr 0 (n : Int).toNat).go i H ∧ ∃ Nx : Hp → Prop, (∀ H', Nx H' → ∃ m', m' < m ∧ W (i + 1) m' H') ∧ ∀ x H', (Itr 0 (n : Int).toNat).yld i H x H' → g x (wipe σ vs) H' fun σ2 H2 => wipe σ2 vs = wipe σ vs ∧ tt σ2 H2 fun b H3 =>
        if b = true then te σ2 H3 fun y H4 => ∃ acc, H4 D = some (.lst acc) ∧ acc.length < sizeLine ∧ Nx (upd H4 D (.lst (acc ++ [y]))) else Nx H3) := by
  rw [Int.toNat_natCast]
  refine lc_range Pv h0 (fun i H hi p => ?_) hd
  rw [Int.zero_add]
  exact hs i H hi p

theorem lc_rangeC {c n : Nat} {g : TG} {tt : TT} {te : TE} {vs : List Nat} {σ : L2.St} {H1 : Hp} {D : Addr} {Qd : Hp → Prop} (Pv : Nat → Hp → Prop) (h0 : Pv 0 (upd H1 D (.lst [])))
    (hs : ∀ (i : Nat) (H : Hp), i < n → Pv i H → g (vN (c * i)) (wipe σ vs) H fun σ2 H2 => wipe σ2 vs = wipe σ vs ∧ tt σ2 H2 fun b H3 =>
      if b = true then te σ2 H3 fun y H4 => ∃ acc, H4 D = some (.lst acc) ∧ acc.length < sizeLine ∧ Pv (i + 1) (upd H4 D (.lst (acc ++ [y]))) else Pv (i + 1) H3) (hd : ∀ H, Pv n H → Qd H) :
    ∃ W : Nat → Nat → Hp → Prop, (∃ m, W 0 m (upd H1 D (.lst []))) ∧ ∀ i m H, W i m H →
      ((Itc 0 (c : Int) n).stop i H ∧ Qd H) ∨ ((Itc 0 (c : Int) n).go i H ∧ ∃ Nx : Hp → Prop, (∀ H', Nx H' → ∃ m', m' < m ∧ W (i + 1) m' H') ∧ ∀ x H', (Itc 0 (c : Int) n).yld i H x H' → g x (wipe σ vs) H' fun σ2 H2 => wipe σ2 vs = wipe σ vs ∧ tt σ2 H2 fun b H3 =>
        if b = true then te σ2 H3 fun y H4 => ∃ acc, H4 D = some (.lst acc) ∧ acc.length < sizeLine ∧ Nx (upd H4 D (.lst (acc ++ [y]))) else Nx H3) := by
  refine ⟨fun i m H => m = n - i ∧ i ≤ n ∧ Pv i H, ⟨n, by simp, Nat.zero_le _, h0⟩, ?_⟩
  rintro i m H ⟨rfl, hi, p⟩
  by_cases hlt : i < n
  · refine .inr ⟨hlt, Pv (i + 1), fun H' p' => ⟨n - (i + 1), by omega, rfl, hlt, p'⟩, fun x H' y => ?_⟩
    obtain ⟨e, y⟩ := y
    subst e y
    have q := hs i _ hlt p
    rw [show vN (c * i) = V.int (0 + (i : Int) * (c : Int)) by show V.int ((c * i : Nat) : Int) = _; rw [Int.natCast_mul, Int.zero_add, Int.mul_comm]] at q
    exact q
  · have e : i = n := by omega
    subst e
    exact .inl ⟨Nat.le_refl _, hd H p⟩
theorem for_rangeCN {c n : Nat} {g : TG} {tb : TS} {D : Ends} {σ : L2.St} {H : Hp} (Pv : Nat → L2.St → Hp → Prop) (h0 : Pv 0 σ H)
    (hs : ∀ (i : Nat) (σ : L2.St) (H : Hp), i < n → Pv i σ H → g (vN (c * i)) σ H fun σ2 H2 => tb { D with nx := Pv (i + 1), ct := Pv (i + 1), bk := D.nx } σ2 H2) (hd : ∀ σ H, Pv n σ H → D.nx σ H) :
    ∃ W : Nat → Nat → L2.St → Hp → Prop, (∃ m, W 0 m σ H) ∧ ∀ i m σ H, W i m σ H →
      ((Itc 0 (c : Int) n).stop i H ∧ D.nx σ H) ∨ ((Itc 0 (c : Int) n).go i H ∧ ∃ N : L2.St → Hp → Prop, (∀ σ' H', N σ' H' → ∃ m', m' < m ∧ W (i + 1) m' σ' H') ∧ ∀ x H', (Itc 0 (c : Int) n).yld i H x H' → g x σ H' fun σ2 H2 => tb { D with nx := N, ct := N, bk := D.nx } σ2 H2) := by
  refine for_rangeC Pv h0 (fun i σ H hi p => ?_) hd
  have q := hs i σ H hi p
  rw [show vN (c * i) = V.int (0 + (i : Int) * (c : Int)) by show V.int ((c * i : Nat) : Int) = _; rw [Int.natCast_mul, Int.zero_add, Int.mul_comm]] at q
  exact q
/-- range(0, m, 2), m even -/
theorem rgc_two {m : Nat} (he : m % 2 = 0) (hm : m ≤ 1000) : RgC 0 (m : Int) ((2 : Nat) : Int) (m / 2) := by
  have e : Builtin.Range.rangeSize 0 (m : Int) 2 = ((m / 2 : Nat) : Int) := by
    unfold Builtin.Range.rangeSize
    rw [if_pos (by decide)]
    split <;> omega
  refine ⟨by decide, by decide, ?_, e⟩
  show Builtin.Range.small 0 (m : Int) 2 = true
  have f : ∀ x : Int, 0 ≤ x → x ≤ 2000 → Builtin.Range.rangeFitsLong x = true := fun x h1 h2 => by
    unfold Builtin.Range.rangeFitsLong
    simp only [Bool.and_eq_true, decide_eq_true_eq]
    omega
  unfold Builtin.Range.small
  rw [e, if_pos (by decide), f 0 (by omega) (by omega), f (m : Int) (by omega) (by omega), f 2 (by omega) (by omega), f ((m / 2 : Nat) : Int) (by omega) (by omega), f ((m : Int) + (2 - 1)) (by omega) (by omega), Bool.or_true]
  rfl
theorem if_true_of {c : Bool} {A B : Prop} (hc : c = true) (h : A) : if c = true then A else B := by
  rw [if_pos hc]
  exact h
theorem if_false_of {c : Bool} {A B : Prop} (hc : c = false) (h : B) : if c = true then A else B := by
  rw [hc, if_neg Bool.false_ne_true]
  exact h

/-! ### a def that is called -/
structure Cal (P : Program) (w : World) (K : PySem.W.Frag) (mg : Str → Option Value) (base : Heap) (x : Str) (ps : List Str) (k : Nat) (sp : Sp) (f : Addr) (fd : FuncData) : Prop where
  ok : FnOk P w K mg base CX0 k f fd ps sp
  mg : mg x = some (.ref f)
  kp : PySem.W.keepIn K (.ref f) = true
  b : Binds K fd ps []

/-! ### the promises -/
def spNobody : Sp := fun vs H Q _ => ∃ n : Nat, vs = [vN n] ∧ n ≤ 8 ∧ ∀ (H' : Hp) (p : Addr), Same H H' → H p = none → H' p = some (.lst (nv (rows n []))) → Q (.ref p) H'
def spKnow (K : PySem.W.Frag) : Sp := fun vs H Q _ => ∃ (a : Addr) (n i j : Nat) (g : Net), vs = [.ref a, vN i, vN j] ∧ SqL K H a (nv (rows n g)) ∧ i < n ∧ j < n ∧ Q (.bl (knows g i j)) H
def spIntro : Sp := fun vs H Q _ => ∃ (a : Addr) (n i j : Nat) (g : Net), vs = [.ref a, vN i, vN j] ∧ H a = some (.lst (nv (rows n g))) ∧ i < n ∧ j < n ∧ i ≠ j ∧ n ≤ 8 ∧ Q .non (upd H a (.lst (nv (rows n (g ++ [(i, j)])))))
def spPairs : Sp := fun vs H Q _ => ∃ n : Nat, vs = [vN n] ∧ n ≤ 8 ∧ ∀ (H' : Hp) (p : Addr), Same H H' → H p = none → PairsAt H' p (pairsOf n) → Q (.ref p) H'
def spCan (K : PySem.W.Frag) : Sp := fun vs H Q _ => ∃ (a : Addr) (n i j : Nat) (g : Net), vs = [.ref a, vN i, vN j] ∧ SqL K H a (nv (rows n g)) ∧ i < n ∧ j < n ∧ i ≠ j ∧ Q (.bl (can n g i j)) H
def spCans (K : PySem.W.Frag) : Sp := fun vs H Q _ => ∃ (a : Addr) (n : Nat) (g : Net), vs = [.ref a] ∧ SqL K H a (nv (rows n g)) ∧ n ≤ 8 ∧ ∀ (H' : Hp) (p : Addr), Same H H' → H p = none → PairsAt H' p (cans n g) → Q (.ref p) H'
def spMany (K : PySem.W.Frag) : Sp := fun vs H Q _ => ∃ (a : Addr) (n : Nat) (g : Net), vs = [.ref a] ∧ SqL K H a (nv (rows n g)) ∧ n ≤ 8 ∧ ∀ (H' : Hp), Same H H' → Q (vN (pairs n g)) H'
def spRound (K : PySem.W.Frag) : Sp := fun vs H Q _ => ∃ (a : Addr) (n : Nat) (g : Net), vs = [.ref a] ∧ SqL K H a (nv (rows n g)) ∧ n ≤ 8 ∧ ∀ (H' : Hp) (p : Addr), Same H H' → H p = none → H' p = some (.lst (nv (rows n (Kzf5.round n g)))) → Q (.ref p) H'
def spRounds : Sp := fun vs H Q _ => ∃ (a : Addr) (n k : Nat) (g : Net), vs = [.ref a, vN k] ∧ H a = some (.lst (nv (rows n g))) ∧ n ≤ 8 ∧ k ≤ 5 ∧ ∀ (H' : Hp) (p : Addr), Same H H' → H' p = some (.lst (nv (rows n (Kzf5.after n g k)))) → Q (.ref p) H'
def spUntil (K : PySem.W.Frag) : Sp := fun vs H Q _ => ∃ (a : Addr) (n : Nat) (g : Net), vs = [.ref a] ∧ SqL K H a (nv (rows n g)) ∧ n ≤ 8 ∧ ∀ (H' : Hp), Same H H' → Q (vN (Kzf5.rounds n g)) H'
def spOneBy (K : PySem.W.Frag) : Sp := fun vs H Q _ => ∃ (a : Addr) (n : Nat) (g : Net), vs = [.ref a] ∧ SqL K H a (nv (rows n g)) ∧ n ≤ 8 ∧ ∀ (H' : Hp) (p : Addr), Same H H' → H p = none → PairsAt H' p (oneByOne n g) → Q (.ref p) H'
def spNear (K : PySem.W.Frag) : Sp := fun vs H Q _ => ∃ (a : Addr) (n : Nat) (g : Net) (s : Nat → Bool), vs = [.ref a, vN (bitsN n s)] ∧ SqL K H a (nv (rows n g)) ∧ n ≤ 8 ∧ Q (vN (nearTo n g s n)) H
/-- None, or how many -/
def optV : Option Nat → V
  | none => .non
  | some d => vN d
def spSteps (K : PySem.W.Frag) : Sp := fun vs H Q _ => ∃ (a : Addr) (n i j : Nat) (g : Net), vs = [.ref a, vN i, vN j] ∧ SqL K H a (nv (rows n g)) ∧ n ≤ 8 ∧ i < n ∧ j < n ∧ Q (optV (Kzf5.far n g i j)) H
def spFirsts (K : PySem.W.Frag) : Sp := fun vs H Q _ => ∃ (a : Addr) (n : Nat) (g : Net), vs = [.ref a] ∧ SqL K H a (nv (rows n g)) ∧ n ≤ 8 ∧ ∀ (H' : Hp) (p : Addr), Same H H' → H p = none → H' p = some (.lst ((List.range n).map fun i => V.bl (firsts n g i))) → Q (.ref p) H'
def spGroups (K : PySem.W.Frag) : Sp := fun vs H Q _ => ∃ (a : Addr) (n : Nat) (g : Net), vs = [.ref a] ∧ SqL K H a (nv (rows n g)) ∧ n ≤ 8 ∧ ∀ (H' : Hp), Same H H' → Q (vN (groups n g)) H'
def spMeet (K : PySem.W.Frag) : Sp := fun vs H Q _ => ∃ (a : Addr) (n i j d : Nat) (g : Net), vs = [.ref a, vN i, vN j] ∧ SqL K H a (nv (rows n g)) ∧ n ≤ 8 ∧ i < n ∧ j < n ∧ Kzf5.far n g i j = some d ∧ ∀ (H' : Hp), Same H H' → Q (vN (meet d)) H'
def spAre (K : PySem.W.Frag) : Sp := fun vs H Q _ => ∃ (n : Nat) (a : Addr) (l : List Nat), vs = [vN n, .ref a] ∧ SqL K H a (nv l) ∧ l.length ≤ 60 ∧ ∀ (H' : Hp), Same H H' → Q (.bl (Kzf5.good n l)) H'
def spTold (K : PySem.W.Frag) : Sp := fun vs H Q _ => ∃ (n : Nat) (a : Addr) (l : List Nat), vs = [vN n, .ref a] ∧ SqL K H a (nv l) ∧ Kzf5.good n l = true ∧ ∀ (H' : Hp) (p : Addr), Same H H' → H p = none → H' p = some (.lst (nv (rows n (net l)))) → Q (.ref p) H'
/-- what a call of the document gives back -/
def told_ (c : Kzf5.Call) : List V := ((Kzf5.answer c).value :: Kzf5Neutral.ints (Kzf5.answer c).nums).map V.int
def spAfter (K : PySem.W.Frag) : Sp := fun vs H Q _ => ∃ (n k : Nat) (a : Addr) (l : List Nat), vs = [vN n, vN k, .ref a] ∧ SqL K H a (nv l) ∧ l.length ≤ 60 ∧ ∀ (H' : Hp) (p : Addr), H' p = some (.lst (told_ (.after n k l))) → Q (.ref p) H'
def spRoundsOf (K : PySem.W.Frag) : Sp := fun vs H Q _ => ∃ (n : Nat) (a : Addr) (l : List Nat), vs = [vN n, .ref a] ∧ SqL K H a (nv l) ∧ l.length ≤ 60 ∧ ∀ (H' : Hp) (p : Addr), H' p = some (.lst (told_ (.rounds n l))) → Q (.ref p) H'
def spFar (K : PySem.W.Frag) : Sp := fun vs H Q _ => ∃ (n i j : Nat) (a : Addr) (l : List Nat), vs = [vN n, vN i, vN j, .ref a] ∧ SqL K H a (nv l) ∧ l.length ≤ 60 ∧ ∀ (H' : Hp) (p : Addr), H' p = some (.lst (told_ (.far n i j l))) → Q (.ref p) H'
def spOne (K : PySem.W.Frag) : Sp := fun vs H Q _ => ∃ (n : Nat) (a : Addr) (l : List Nat), vs = [vN n, .ref a] ∧ SqL K H a (nv l) ∧ l.length ≤ 60 ∧ ∀ (H' : Hp) (p : Addr), H' p = some (.lst (told_ (.one n l))) → Q (.ref p) H'
/-- the request's numbers -/
theorem nat_of {z : Int} (h : 0 ≤ z) : V.int z = vN z.toNat := by
  show V.int z = V.int (z.toNat : Int)
  rw [Int.toNat_of_nonneg h]
theorem nats_of {l : List Int} (h : ∀ x ∈ l, 0 ≤ x) : l.map V.int = nv (Kzf5Neutral.natsOf l) := by
  unfold nv Kzf5Neutral.natsOf
  rw [List.map_map]
  exact List.map_congr_left fun x hx => nat_of (h x hx)
end Intro
namespace Intro
open PySem PySem.Spec PyProof.Rows L2
open Kzf1 (Net net knows bits pairsOf pairs)
open Kzf5 (can cans within group groups count oneByOneOn oneByOne meet rowOf)
/-! ### the text by places -/
def topS (i : Nat) : Stmt := PySem.Challenge.pw_introduced_s01_after.main.body.getD i (.Pass ⟨0, 0, 0, 0⟩)
abbrev sNobody : Stmt := topS 1
abbrev sKnow : Stmt := topS 2
abbrev sIntroduce : Stmt := topS 3
abbrev sPairs_of : Stmt := topS 4
abbrev sCan_be : Stmt := topS 5
abbrev sIntroducible : Stmt := topS 6
abbrev sMany_pairs : Stmt := topS 7
abbrev sBehind_round : Stmt := topS 8
abbrev sBehind_rounds : Stmt := topS 9
abbrev sAre_told_so : Stmt := topS 15
abbrev sTold : Stmt := topS 16
abbrev sAfter : Stmt := topS 17
section
variable {P : Program} {w : World} {K : PySem.W.Frag} {mg : Str → Option Value} {base : Heap}
/-! ### nobody -/
theorem scNobody : FnScope ["n"] ["n"] (defScope sNobody) := ⟨rfl, rfl, rfl, by decide +kernel, rfl, by decide +kernel, by decide +kernel⟩
theorem rep_zero (n : Nat) : (List.replicate (n : Int).toNat [V.int 0]).flatten = nv (rows n []) := by
  rw [rows_none, Int.toNat_natCast]
  unfold nv
  rw [List.map_replicate]
  induction n with
  | zero => rfl
  | succ n ih => rw [List.replicate_succ, List.flatten_cons, ih]; rfl
theorem ok_nobody {f : Addr} {fd : FuncData} (F : Fun K "nobody" "nobody" sNobody f fd) : FnOk P w K mg base CX0 1 f fd ["n"] spNobody := by
  refine F.ok scNobody (fun vs H Q E h => ?_) (fun cdv A outer s H vs Q E hr h => ?_)
  · obtain ⟨n, rfl, _⟩ := h
    rfl
  · obtain ⟨n, rfl, hn, k⟩ := h
    refine ⟨_, pss_one (ps_ret (pe_op op_rep (pe_lst (pa_cons pe_int pa_nil)) (pv 0))), ?_⟩
    refine ⟨few8 (by decide), fun l hl => ?_⟩
    refine ⟨_, rfl, l, _, _, rfl, rfl, upd_same, by omega, by omega, few8 (by show 1 * (n : Int).toNat ≤ 1000; omega), fun p hp => ?_⟩
    refine k _ p ((same_upd hl).trans (same_upd hp)) ((same_upd hl).free hp) ?_
    rw [upd_same, rep_zero]
/-! ### know -/
theorem scKnow : FnScope ["known", "one", "other"] ["known", "one", "other"] (defScope sKnow) := ⟨rfl, rfl, rfl, by decide +kernel, rfl, by decide +kernel, by decide +kernel⟩
theorem ok_know {f : Addr} {fd : FuncData} (F : Fun K "know" "know" sKnow f fd) : FnOk P w K mg base CX0 1 f fd ["known", "one", "other"] (spKnow K) := by
  refine F.ok scKnow (fun vs H Q E h => ?_) (fun cdv A outer s H vs Q E hr h => ?_)
  · obtain ⟨a, n, i, j, g, rfl, _⟩ := h
    rfl
  · obtain ⟨a, n, i, j, g, rfl, hS, hi, hj, k⟩ := h
    refine ⟨_, pss_one (ps_ret (pe_cmpR op_eq (pe_op op_and (pe_op op_shr (pe_ix ix_list (pv 0) (pv 1) (fun _ _ => rfl)) (pv 2)) pe_int) pe_int (nomark _))), ?_⟩
    refine ⟨_, rfl, _, rfl, a, _, _, _, rfl, rfl, hS, nv_at (rows_get hi), _, rfl, _, _, rfl, rfl, Int.natCast_nonneg _, _, _, rfl, rfl, rfl, ?_⟩
    rw [bit_dec, row_bit g i hj]
    exact k
/-! ### introduce -/
theorem scIntro : FnScope ["known", "one", "other"] ["known", "one", "other"] (defScope sIntroduce) := ⟨rfl, rfl, rfl, by decide +kernel, rfl, by decide +kernel, by decide +kernel⟩
theorem ok_introduce {f : Addr} {fd : FuncData} (F : Fun K "introduce" "introduce" sIntroduce f fd) : FnOk P w K mg base CX0 1 f fd ["known", "one", "other"] spIntro := by
  refine F.ok scIntro (fun vs H Q E h => ?_) (fun cdv A outer s H vs Q E hr h => ?_)
  · obtain ⟨a, n, i, j, g, rfl, _⟩ := h
    rfl
  · obtain ⟨a, n, i, j, g, rfl, hS, hi, hj, hij, hn, k⟩ := h
    refine ⟨_, pss_cons (ps_asg (pe_op op_or (pe_ix ix_list (pv 0) (pv 1) (fun _ _ => rfl)) (pe_op op_shl pe_int (pv 2))) (pg_sub (pv 0) (pv 1) set_list))
      (pss_one (ps_asg (pe_op op_or (pe_ix ix_list (pv 0) (pv 2) (fun _ _ => rfl)) (pe_op op_shl pe_int (pv 1))) (pg_sub (pv 0) (pv 2) set_list))), ?_⟩
    have e1 : (nv (rows n g)).set i (V.int (Builtin.bitOr (rowOf n g i : Int) ((1 : Int) * 2 ^ (j : Int).toNat))) = nv ((rows n g).set i (rowOf n g i ||| 2 ^ j)) := by
      rw [or_bit, ← nv_set]
    have g2 : ((rows n g).set i (rowOf n g i ||| 2 ^ j))[j]? = some (rowOf n g j) := by
      rw [List.getElem?_set_ne hij]; exact rows_get hj
    refine ⟨_, rfl, _, rfl, a, _, _, _, rfl, rfl, SqL.of hS, nv_at (rows_get hi), _, rfl, _, _, rfl, rfl, shl_ok (by omega), _, _, rfl, rfl, _, rfl, _, rfl, a, _, _, i, rfl, rfl, hS, nv_ix (by rw [rows_len]; exact hi), ?_⟩
    rw [e1]
    refine ⟨_, rfl, _, rfl, a, _, _, _, rfl, rfl, SqL.of upd_same, nv_at g2, _, rfl, _, _, rfl, rfl, shl_ok (by omega), _, _, rfl, rfl, _, rfl, _, rfl, a, _, _, j, rfl, rfl, upd_same, nv_ix (by rw [List.length_set, rows_len]; exact hj), ?_⟩
    show Q .non (upd (upd H a _) a (.lst ((nv _).set j (V.int (Builtin.bitOr (rowOf n g j : Int) ((1 : Int) * 2 ^ (i : Int).toNat))))))
    rw [or_bit, nv_set, rows_set hij hi hj, upd_upd]
    exact k
/-! ### pairs_of -/
theorem scPairs : FnScope ["n", "found", "one", "other"] ["n"] (defScope sPairs_of) := ⟨rfl, rfl, rfl, by decide +kernel, rfl, by decide +kernel, by decide +kernel⟩
theorem above_get {n i t : Nat} (h : t < n - (i + 1)) : (above n i)[t]? = some (i, i + 1 + t) := by
  unfold above
  rw [List.getElem?_map, List.getElem?_range h]; rfl
theorem above_len (n i : Nat) : (above n i).length = n - (i + 1) := by
  unfold above
  rw [List.length_map, List.length_range]
theorem ok_pairs_of {f : Addr} {fd : FuncData} (F : Fun K "pairs_of" "pairs_of" sPairs_of f fd) (mr : mg "range" = none) : FnOk P w K mg base CX0 1 f fd ["n"] spPairs := by
  refine F.ok scPairs (fun vs H Q E h => ?_) (fun cdv A outer s H vs Q E hr h => ?_)
  · obtain ⟨n, rfl, _⟩ := h
    rfl
  · obtain ⟨n, rfl, hn, k⟩ := h
    refine ⟨_, pss_cons (ps_set (i := 1) scPairs.nd rfl (.inl rfl) (pe_lst pa_nil))
      (pss_cons (ps_for PassesOwn.never rfl (pi_range1 (by rfl) mr (pa_cons (pv 0) pa_nil)) (pg_name (i := 2) scPairs.nd rfl (.inr rfl))
        (pss_one (ps_expr (pe_bm PySem.F.plainAttrs_list PySem.F.slot_list_extend PySem.F.type_list_extend mt_extend (pv 1) (pa_cons
          (pe_lc (own := [("other", 3)]) (g := gName 3) (tt := tYes) rfl scPairs.nd (pi_range2 (by rfl) mr (pa_cons (pe_op op_add (pv 2) pe_int) (pa_cons (pv 0) pa_nil)))
            (blkOk_by (own := [("other", 3)]) (N := ["n", "found", "one", "other"]) (sc := defScope sPairs_of) (by decide +kernel))
            (fun _ _ _ _ _ => pg_name (i := 3) scPairs.nd rfl (.inl rfl)) (fun _ _ _ _ _ => pts_nil) (fun _ _ _ _ _ => pe_tup (pa_cons (pv 2) (pa_cons (pv 3) pa_nil)))) pa_nil)))))
      (pss_one (ps_ret (pv 1)))), ?_⟩
    refine ⟨Nat.zero_le _, fun o no => ?_⟩
    refine ⟨_, rfl, n, rfl, by omega, by omega, for_rangeN (n := n) (fun i σ H1 => ∃ v2, σ = [some (vN n), some (.ref o), v2, none] ∧ Same H H1 ∧ ∃ ts : List Addr, H1 o = some (.lst (ts.map V.ref)) ∧ TupsAt H1 ts (pairsTo n i))
      ⟨none, rfl, same_upd no, [], upd_same, TupsAt.nil⟩ ?_ ?_⟩
    · rintro i σ H1 hi ⟨v2, rfl, s1, ts, ho, ht⟩
      refine ⟨_, rfl, .inl ⟨rfl, _, SqL.of ho⟩, ?_⟩
      refine ⟨_, rfl, _, _, rfl, rfl, _, rfl, _, _, rfl, ⟨by omega, by omega, by omega, by omega⟩, fun D nD => ?_⟩
      refine lc_rangeN (lo := i + 1) (n := n) (fun t H2 => Same H1 H2 ∧ ∃ us : List Addr, H2 D = some (.lst (us.map V.ref)) ∧ TupsAt H2 us ((above n i).take t))
        ⟨same_upd nD, [], upd_same, TupsAt.nil⟩ ?_ ?_
      · rintro t H2 hlt ⟨s2, us, hD, hu⟩
        refine ⟨rfl, _, rfl, _, rfl, le2, fun T nT => ?_⟩
        have hDT : (upd H2 T (.tup [vN i, vN (i + 1 + t)])) D = some (.lst (us.map V.ref)) := same_upd nT _ _ hD
        refine ⟨us.map V.ref, hDT, ?_, ?_⟩
        · rw [List.length_map, hu.1]
          exact small1000 (by rw [List.length_take]; have := above_few n i; omega)
        · refine ⟨same_set nD (s2.trans (same_upd nT)), us ++ [T], ?_, ?_⟩
          · rw [upd_same, List.map_append]; rfl
          · rw [take_more (above_get hlt)]
            exact ((hu.same (same_upd nT)).app (.one (show TupAt _ T (i, i + 1 + t) from upd_same))).upd hDT
      · rintro H2 ⟨s2, us, hD, hu⟩
        rw [← above_len, List.take_length] at hu
        refine ⟨o, D, _, _, rfl, rfl, s2 _ _ ho, hD, ?_, ?_⟩
        · refine few8 ?_
          rw [List.length_map, List.length_map, ht.1, hu.1]
          have h1 := pairsTo_few n (by omega) i (by omega) (by omega)
          have h2 := above_few n i
          omega
        · refine ⟨_, rfl, same_set no (s1.trans s2), ts ++ us, ?_, ?_⟩
          · rw [upd_same, List.map_append]
          · rw [pairsTo_succ]
            exact ((ht.same s2).app hu).upd (s2 _ _ ho)
    · rintro σ H1 ⟨v2, rfl, s1, ts, ho, ht⟩
      rw [pairsTo_all] at ht
      exact ⟨_, rfl, k H1 o s1 no ⟨ts, ho, ht⟩⟩
/-! ### can_be -/
theorem scCan : FnScope ["known", "one", "other"] ["known", "one", "other"] (defScope sCan_be) := ⟨rfl, rfl, rfl, by decide +kernel, rfl, by decide +kernel, by decide +kernel⟩
theorem ok_can_be {f fK : Addr} {fd fdK : FuncData} (F : Fun K "can_be" "can_be" sCan_be f fd) (CK : Cal P w K mg base "know" ["known", "one", "other"] 1 (spKnow K) fK fdK) : FnOk P w K mg base CX0 2 f fd ["known", "one", "other"] (spCan K) := by
  refine F.ok scCan (fun vs H Q E h => ?_) (fun cdv A outer s H vs Q E hr h => ?_)
  · obtain ⟨a, n, i, j, g, rfl, _⟩ := h
    rfl
  · obtain ⟨a, n, i, j, g, rfl, hS, hi, hj, hij, k⟩ := h
    refine ⟨_, pss_one (ps_ret (pe_and (pe_not (pe_call CK.ok hr (by rfl) CK.mg CK.kp CK.b .nil pass0 (pa_cons (pv 0) (pa_cons (pv 1) (pa_cons (pv 2) pa_nil)))))
      (pe_one (pe_cmpR op_ne (pe_op op_and (pe_ix ix_list (pv 0) (pv 1) (fun _ _ => rfl)) (pe_ix ix_list (pv 0) (pv 2) (fun _ _ => rfl))) pe_int (nomark _))))), ?_⟩
    refine ⟨_, rfl, _, rfl, _, rfl, a, n, i, j, g, rfl, hS, hi, hj, _, rfl, _, rfl, ?_⟩
    rw [can_is hij] at k
    cases e : knows g i j with
    | true =>
      rw [e] at k
      exact iteF k
    | false =>
      rw [e] at k
      refine iteT ?_
      refine ⟨_, rfl, _, rfl, a, _, _, _, rfl, rfl, hS, nv_at (rows_get hi), _, rfl, _, rfl, a, _, _, _, rfl, rfl, hS, nv_at (rows_get hj), _, _, rfl, rfl, rfl, ?_⟩
      rw [and_dec]
      exact k
/-! ### introducible -/
theorem scCans : FnScope ["known", "one", "other"] ["known"] (defScope sIntroducible) := ⟨rfl, rfl, rfl, by decide +kernel, rfl, by decide +kernel, by decide +kernel⟩
theorem ok_introducible {f fP fC : Addr} {fd fdP fdC : FuncData} (F : Fun K "introducible" "introducible" sIntroducible f fd) (CP : Cal P w K mg base "pairs_of" ["n"] 1 spPairs fP fdP)
    (CC : Cal P w K mg base "can_be" ["known", "one", "other"] 2 (spCan K) fC fdC) (ml : mg "len" = none) : FnOk P w K mg base CX0 3 f fd ["known"] (spCans K) := by
  refine F.ok scCans (fun vs H Q E h => ?_) (fun cdv A outer s H vs Q E hr h => ?_)
  · obtain ⟨a, n, g, rfl, _⟩ := h
    rfl
  · obtain ⟨a, n, g, rfl, hS, hn, k⟩ := h
    have hr1 : Room 1 _ := hr.mono (by decide)
    refine ⟨_, pss_one (ps_ret (pe_lc (own := [("one", 1), ("other", 2)]) (g := gTup K 2 (gCons (gName 1) (gCons (gName 2) gNil))) rfl scCans.nd
      (pi_list (pe_call CP.ok hr1 (by rfl) CP.mg CP.kp CP.b .nil pass0 (pa_cons (pe_callB call_len_seq (by rfl) ml PySem.boot_len (pa_cons (pv 0) pa_nil)) pa_nil)))
      (blkOk_by (own := [("one", 1), ("other", 2)]) (N := ["known", "one", "other"]) (sc := defScope sIntroducible) (by decide +kernel))
      (fun _ _ _ _ _ => pg_tup rfl (pgs_cons (pg_name (i := 1) scCans.nd rfl (.inl rfl)) (pgs_cons (pg_name (i := 2) scCans.nd rfl (.inl rfl)) pgs_nil)))
      (fun _ _ _ _ _ => pts_one (pt_val (pe_call CC.ok hr (by rfl) CC.mg CC.kp CC.b .nil pass0 (pa_cons (pv 0) (pa_cons (pv 1) (pa_cons (pv 2) pa_nil))))))
      (fun _ _ _ _ _ => pe_tup (pa_cons (pv 1) (pa_cons (pv 2) pa_nil))))), ?_⟩
    refine ⟨_, rfl, a, _, rfl, .inl hS, n, (by show [V.int ((nv (rows n g)).length : Int)] = [vN n]; rw [nv_len, rows_len]), hn, fun H1 p s1 np hp => ?_⟩
    obtain ⟨ts, hl, ht⟩ := hp
    refine ⟨p, rfl, ⟨_, SqL.of hl⟩, fun D nD => lc_list (K := K) (a := p) (xs := ts.map V.ref)
      (fun t H2 => Same H1 H2 ∧ ∃ us : List Addr, H2 D = some (.lst (us.map V.ref)) ∧ TupsAt H2 us (((pairsOf n).take t).filter fun p => can n g p.1 p.2))
      ⟨same_upd nD, [], upd_same, TupsAt.nil⟩ (fun t H2 _ h => SqL.of (h.1 _ _ hl)) ?_ ?_⟩
    · rintro t x H2 hx ⟨s2, us, hD, hu⟩
      obtain ⟨T0, ⟨i, j⟩, rfl, hq, hT⟩ := (ht.same s2).get hx
      obtain ⟨hij, hj⟩ := mem_pairsOf.mp (List.mem_of_getElem? hq)
      refine ⟨T0, _, rfl, SqT.of hT, rfl, _, _, rfl, _, _, rfl, rfl, rfl, ?_⟩
      refine ⟨_, rfl, _, rfl, _, rfl, a, n, i, j, g, rfl, s2.seq (s1.seq hS), by omega, hj, by omega, _, rfl, ?_⟩
      cases e : can n g i j with
      | false =>
        refine iteF ?_
        rw [filter_same hq e]
        exact ⟨s2, us, hD, hu⟩
      | true =>
        refine iteT ?_
        rw [filter_more hq e]
        refine ⟨_, rfl, _, rfl, le2, fun T nT => ?_⟩
        have hDT : (upd H2 T (.tup [vN i, vN j])) D = some (.lst (us.map V.ref)) := same_upd nT _ _ hD
        refine ⟨us.map V.ref, hDT, ?_, same_set nD (s2.trans (same_upd nT)), us ++ [T], ?_, ?_⟩
        · rw [List.length_map, hu.1]
          refine small1000 (Nat.le_trans (List.length_filter_le _ _) ?_)
          rw [List.length_take]
          have := pairsOf_few n (by omega)
          omega
        · rw [upd_same, List.map_append]; rfl
        · exact ((hu.same (same_upd nT)).app (.one (show TupAt _ T (i, j) from upd_same))).upd hDT
    · rintro H2 ⟨s2, us, hD, hu⟩
      rw [List.length_map, ht.1, List.take_length] at hu
      exact k H2 D (s1.trans s2) (s1.free nD) ⟨us, hD, hu⟩
/-! ### many_pairs -/
theorem scMany : FnScope ["known", "one", "other"] ["known"] (defScope sMany_pairs) := ⟨rfl, rfl, rfl, by decide +kernel, rfl, by decide +kernel, by decide +kernel⟩
theorem ok_many_pairs {f fP fK : Addr} {fd fdP fdK : FuncData} (F : Fun K "many_pairs" "many_pairs" sMany_pairs f fd) (CP : Cal P w K mg base "pairs_of" ["n"] 1 spPairs fP fdP)
    (CK : Cal P w K mg base "know" ["known", "one", "other"] 1 (spKnow K) fK fdK) (ml : mg "len" = none) : FnOk P w K mg base CX0 2 f fd ["known"] (spMany K) := by
  refine F.ok scMany (fun vs H Q E h => ?_) (fun cdv A outer s H vs Q E hr h => ?_)
  · obtain ⟨a, n, g, rfl, _⟩ := h
    rfl
  · obtain ⟨a, n, g, rfl, hS, hn, k⟩ := h
    refine ⟨_, pss_one (ps_ret (pe_callB call_len_seq (by rfl) ml PySem.boot_len (pa_cons (pe_lc (own := [("one", 1), ("other", 2)]) (g := gTup K 2 (gCons (gName 1) (gCons (gName 2) gNil))) rfl scMany.nd
      (pi_list (pe_call CP.ok hr (by rfl) CP.mg CP.kp CP.b .nil pass0 (pa_cons (pe_callB call_len_seq (by rfl) ml PySem.boot_len (pa_cons (pv 0) pa_nil)) pa_nil)))
      (blkOk_by (own := [("one", 1), ("other", 2)]) (N := ["known", "one", "other"]) (sc := defScope sMany_pairs) (by decide +kernel))
      (fun _ _ _ _ _ => pg_tup rfl (pgs_cons (pg_name (i := 1) scMany.nd rfl (.inl rfl)) (pgs_cons (pg_name (i := 2) scMany.nd rfl (.inl rfl)) pgs_nil)))
      (fun _ _ _ _ _ => pts_one (pt_val (pe_call CK.ok hr (by rfl) CK.mg CK.kp CK.b .nil pass0 (pa_cons (pv 0) (pa_cons (pv 1) (pa_cons (pv 2) pa_nil))))))
      (fun _ _ _ _ _ => pe_int)) pa_nil))), ?_⟩
    refine ⟨_, rfl, a, _, rfl, .inl hS, n, (by show [V.int ((nv (rows n g)).length : Int)] = [vN n]; rw [nv_len, rows_len]), hn, fun H1 p s1 np hp => ?_⟩
    obtain ⟨ts, hl, ht⟩ := hp
    refine ⟨p, rfl, ⟨_, SqL.of hl⟩, fun D nD => lc_list (K := K) (a := p) (xs := ts.map V.ref)
      (fun t H2 => Same H1 H2 ∧ ∃ us : List V, H2 D = some (.lst us) ∧ us.length = (((pairsOf n).take t).filter fun p => knows g p.1 p.2).length)
      ⟨same_upd nD, [], upd_same, rfl⟩ (fun t H2 _ h => SqL.of (h.1 _ _ hl)) ?_ ?_⟩
    · rintro t x H2 hx ⟨s2, us, hD, hu⟩
      obtain ⟨T0, ⟨i, j⟩, rfl, hq, hT⟩ := (ht.same s2).get hx
      obtain ⟨hij, hj⟩ := mem_pairsOf.mp (List.mem_of_getElem? hq)
      refine ⟨T0, _, rfl, SqT.of hT, rfl, _, _, rfl, _, _, rfl, rfl, rfl, ?_⟩
      refine ⟨_, rfl, _, rfl, _, rfl, a, n, i, j, g, rfl, s2.seq (s1.seq hS), by omega, hj, _, rfl, ?_⟩
      cases e : knows g i j with
      | false =>
        refine iteF ?_
        rw [filter_same hq e]
        exact ⟨s2, us, hD, hu⟩
      | true =>
        refine iteT ?_
        rw [filter_more hq e]
        refine ⟨us, hD, ?_, same_set nD s2, us ++ [.int 1], upd_same, ?_⟩
        · rw [hu]
          refine small1000 (Nat.le_trans (List.length_filter_le _ _) ?_)
          rw [List.length_take]
          have := pairsOf_few n (by omega)
          omega
        · rw [List.length_append, List.length_append, hu]; rfl
    · rintro H2 ⟨s2, us, hD, hu⟩
      rw [List.length_map, ht.1, List.take_length] at hu
      refine ⟨D, us, rfl, .inl (SqL.of hD), ?_⟩
      rw [hu]
      exact k H2 (s1.trans s2)
/-! ### behind_round -/
theorem scRound : FnScope ["known", "found", "one", "other"] ["known"] (defScope sBehind_round) := ⟨rfl, rfl, rfl, by decide +kernel, rfl, by decide +kernel, by decide +kernel⟩
theorem ok_behind_round {f fC fI : Addr} {fd fdC fdI : FuncData} (F : Fun K "behind_round" "behind_round" sBehind_round f fd) (CC : Cal P w K mg base "introducible" ["known"] 3 (spCans K) fC fdC)
    (CI : Cal P w K mg base "introduce" ["known", "one", "other"] 1 spIntro fI fdI) (mli : mg "list" = none) : FnOk P w K mg base CX0 4 f fd ["known"] (spRound K) := by
  refine F.ok scRound (fun vs H Q E h => ?_) (fun cdv A outer s H vs Q E hr h => ?_)
  · obtain ⟨a, n, g, rfl, _⟩ := h
    rfl
  · obtain ⟨a, n, g, rfl, hS, hn, k⟩ := h
    have hr1 : Room 1 _ := hr.mono (by decide)
    refine ⟨_, pss_cons (ps_set (i := 1) scRound.nd rfl (.inl rfl) (pe_callTy call_list_of (by rfl) mli (by decide +kernel) (pa_cons (pv 0) pa_nil)))
      (pss_cons (ps_for PassesOwn.never rfl (pi_list (pe_call CC.ok hr (by rfl) CC.mg CC.kp CC.b .nil pass0 (pa_cons (pv 0) pa_nil)))
          (pg_tup rfl (pgs_cons (pg_name (i := 2) scRound.nd rfl (.inl rfl)) (pgs_cons (pg_name (i := 3) scRound.nd rfl (.inl rfl)) pgs_nil)))
        (pss_one (ps_expr (pe_call CI.ok hr1 (by rfl) CI.mg CI.kp CI.b .nil pass0 (pa_cons (pv 1) (pa_cons (pv 2) (pa_cons (pv 3) pa_nil)))))))
      (pss_one (ps_ret (pv 1)))), ?_⟩
    refine ⟨_, rfl, a, _, rfl, .inl hS, fun o no => ?_⟩
    have s0 : Same H (upd H o (.lst (nv (rows n g)))) := same_upd no
    refine ⟨_, rfl, a, n, g, rfl, s0.seq hS, hn, fun H1 p s1 np hp => ?_⟩
    obtain ⟨ts, hl, ht⟩ := hp
    have ho1 : H1 o = some (.lst (nv (rows n g))) := s1 _ _ upd_same
    have hpo : p ≠ o := fun z => by rw [z, upd_same] at np; cases np
    refine ⟨p, rfl, ⟨_, SqL.of hl⟩, for_list (K := K) (a := p) (xs := ts.map V.ref)
      (fun t σ H2 => ∃ v2 v3, σ = [some (.ref a), some (.ref o), v2, v3] ∧ Same H H2 ∧ H2 o = some (.lst (nv (rows n (g ++ (cans n g).take t)))) ∧ H2 p = some (.lst (ts.map V.ref)) ∧ TupsAt H2 ts (cans n g))
      ⟨none, none, rfl, s0.trans s1, by rw [List.take_zero, List.append_nil]; exact ho1, hl, ht⟩ (fun t σ H2 _ ⟨_, _, _, _, _, h, _⟩ => SqL.of h) ?_ ?_⟩
    · rintro t x σ H2 hx ⟨v2, v3, rfl, s2, ho, hl2, ht2⟩
      obtain ⟨T0, ⟨i, j⟩, rfl, hq, hT⟩ := ht2.get hx
      obtain ⟨hij, hj, _⟩ := mem_cans.mp (List.mem_of_getElem? hq)
      refine ⟨T0, _, rfl, SqT.of hT, rfl, _, _, rfl, _, _, rfl, rfl, ?_⟩
      refine ⟨_, rfl, _, rfl, _, rfl, o, n, i, j, _, rfl, ho, by omega, hj, by omega, hn, ?_⟩
      refine ⟨_, _, rfl, same_set no s2, ?_, ?_, ht2.upd ho⟩
      · rw [upd_same, take_more hq, List.append_assoc]
      · rw [upd_ne hpo]; exact hl2
    · rintro σ H2 ⟨v2, v3, rfl, s2, ho, hl2, ht2⟩
      rw [List.length_map, ht.1, List.take_length] at ho
      exact ⟨_, rfl, k H2 o s2 no ho⟩
/-! ### behind_rounds -/
theorem scRounds : FnScope ["known", "k", "turn"] ["known", "k"] (defScope sBehind_rounds) := ⟨rfl, rfl, rfl, by decide +kernel, rfl, by decide +kernel, by decide +kernel⟩
theorem ok_behind_rounds {f fR : Addr} {fd fdR : FuncData} (F : Fun K "behind_rounds" "behind_rounds" sBehind_rounds f fd) (CR : Cal P w K mg base "behind_round" ["known"] 4 (spRound K) fR fdR) (mr : mg "range" = none) : FnOk P w K mg base CX0 5 f fd ["known", "k"] spRounds := by
  refine F.ok scRounds (fun vs H Q E h => ?_) (fun cdv A outer s H vs Q E hr h => ?_)
  · obtain ⟨a, n, k, g, rfl, _⟩ := h
    rfl
  · obtain ⟨a, n, kk, g, rfl, hS, hn, hk, k⟩ := h
    refine ⟨_, pss_cons (ps_for PassesOwn.never rfl (pi_range1 (by rfl) mr (pa_cons (pv 1) pa_nil)) (pg_name (i := 2) scRounds.nd rfl (.inl rfl))
        (pss_one (ps_set (i := 0) scRounds.nd rfl (.inl rfl) (pe_call CR.ok hr (by rfl) CR.mg CR.kp CR.b .nil pass0 (pa_cons (pv 0) pa_nil)))))
      (pss_one (ps_ret (pv 0))), ?_⟩
    refine ⟨_, rfl, kk, rfl, by omega, by omega, for_rangeN (n := kk) (fun i σ H1 => ∃ p v2, σ = [some (.ref p), some (vN kk), v2] ∧ Same H H1 ∧ H1 p = some (.lst (nv (rows n (Kzf5.after n g i)))))
      ⟨a, none, rfl, .refl _, hS⟩ ?_ ?_⟩
    · rintro i σ H1 hi ⟨p, v2, rfl, s1, hp⟩
      refine ⟨_, rfl, p, n, _, rfl, SqL.of hp, hn, fun H2 q s2 nq hq => ?_⟩
      refine ⟨q, _, rfl, s1.trans s2, ?_⟩
      rw [after_succ]; exact hq
    · rintro σ H1 ⟨p, v2, rfl, s1, hp⟩
      exact ⟨_, rfl, k H1 p s1 hp⟩
/-! ### are_told_so -/
theorem scAre : FnScope ["n", "l", "guest", "at"] ["n", "l"] (defScope sAre_told_so) := ⟨rfl, rfl, rfl, by decide +kernel, rfl, by decide +kernel, by decide +kernel⟩
theorem good_no {n : Nat} {l : List Nat} (h : ¬ ((1 ≤ n ∧ n ≤ 8) ∧ l.length % 2 = 0 ∧ l.length ≤ 56 ∧ (∀ x ∈ l, x < n) ∧ ∀ t, t < l.length / 2 → l[2 * t]? ≠ l[2 * t + 1]?)) : Kzf5.good n l = false :=
  Bool.eq_false_iff.mpr fun z => h (good_iff.mp z)
theorem ok_are_told_so {f : Addr} {fd : FuncData} {tg tp : Tok} (F : Fun K "are_told_so" "are_told_so" sAre_told_so f fd) (ml : mg "len" = none) (ma : mg "all" = none) (mr : mg "range" = none)
    (gG : mg "MOST_GUESTS" = some (.int 8 tg)) (gP : mg "MOST_PAIRS" = some (.int 28 tp)) : FnOk P w K mg base CX0 1 f fd ["n", "l"] (spAre K) := by
  refine F.ok scAre (fun vs H Q E h => ?_) (fun cdv A outer s H vs Q E hr h => ?_)
  · obtain ⟨n, a, l, rfl, _⟩ := h
    rfl
  · obtain ⟨n, a, l, rfl, hS, hl, k⟩ := h
    refine ⟨_, pss_cons (ps_if (PW.pt (pw_or (pt_not (pt_chain op_le op_le pe_int (pv 0) (pe_glob (v := .int 8) (by rfl) gG ⟨_, rfl⟩)))
          (pw_or (pt_cmpR op_eq (pe_op op_mod (pe_callB call_len_seq (by rfl) ml PySem.boot_len (pa_cons (pv 1) pa_nil)) pe_int) pe_int (nomark _))
          (pw_or1 (pt_cmpR op_gt (pe_callB call_len_seq (by rfl) ml PySem.boot_len (pa_cons (pv 1) pa_nil)) (pe_op op_mul pe_int (pe_glob (v := .int 28) (by rfl) gP ⟨_, rfl⟩)) (nomark _))))))
        (pss_one (ps_ret pe_bl)) pss_nil)
      (pss_cons (ps_if (pt_not (pt_val (pe_callB (cr_all rfl) (by rfl) ma (by decide +kernel) (pa_cons
          (pe_lc (own := [("guest", 2)]) (g := gName 2) (tt := tYes) rfl scAre.nd (pi_list (pv 1))
            (blkOk_by (own := [("guest", 2)]) (N := ["n", "l", "guest", "at"]) (sc := defScope sAre_told_so) (by decide +kernel))
            (fun _ _ _ _ _ => pg_name (i := 2) scAre.nd rfl (.inl rfl)) (fun _ _ _ _ _ => pts_nil) (fun _ _ _ _ _ => pe_cmpR op_lt (pv 2) (pv 0) (nomark _))) pa_nil))))
        (pss_one (ps_ret pe_bl)) pss_nil)
      (pss_one (ps_ret (pe_callB (cr_all rfl) (by rfl) ma (by decide +kernel) (pa_cons
          (pe_lc (own := [("at", 3)]) (g := gName 3) (tt := tYes) (te := tOp rNe (tOp (rIxL K) (tVar 1) (tVar 3)) (tOp (rIxL K) (tVar 1) (tOp (rI0 fun i j => .int (i + j)) (tVar 3) (tC (.int 1))))) rfl scAre.nd
            (pi_range3 (by rfl) mr (pa_cons pe_int (pa_cons (pe_callB call_len_seq (by rfl) ml PySem.boot_len (pa_cons (pv 1) pa_nil)) (pa_cons pe_int pa_nil))))
            (blkOk_by (own := [("at", 3)]) (N := ["n", "l", "guest", "at"]) (sc := defScope sAre_told_so) (by decide +kernel))
            (fun _ _ _ _ _ => pg_name (i := 3) scAre.nd rfl (.inl rfl)) (fun _ _ _ _ _ => pts_nil)
            (fun _ _ _ _ _ => pe_cmpR op_ne (pe_ix ix_list (pv 1) (pv 3) (fun _ _ => rfl)) (pe_ix ix_list (pv 1) (pe_op op_add (pv 3) pe_int) (fun _ _ => rfl)) (nomark _))) pa_nil))))), ?_⟩
    have no : ¬ ((1 ≤ n ∧ n ≤ 8) ∧ l.length % 2 = 0 ∧ l.length ≤ 56 ∧ (∀ x ∈ l, x < n) ∧ ∀ t, t < l.length / 2 → l[2 * t]? ≠ l[2 * t + 1]?) → ∀ H', Same H H' → Q (.bl false) H' := fun z H' s' => by
      have q := k H' s'
      rw [good_no z] at q
      exact q
    -- not 1 <= n <= MOST_GUESTS
    refine ⟨_, rfl, _, _, rfl, rfl, _, rfl, ?_⟩
    by_cases c1 : (1 : Int) ≤ (n : Int)
    rotate_left
    · refine if_false_of (decide_eq_false c1) ⟨_, rfl, ?_⟩
      exact no (fun z => c1 (by omega)) H (.refl _)
    refine if_true_of (decide_eq_true c1) ⟨_, _, rfl, rfl, _, rfl, ?_⟩
    by_cases c2 : (n : Int) ≤ 8
    rotate_left
    · refine if_true_of (by rw [decide_eq_false c2]; rfl) ?_
      exact no (fun z => c2 (by omega)) H (.refl _)
    refine if_false_of (by rw [decide_eq_true c2]; rfl) ?_
    -- len(l) % 2 == 1
    refine ⟨_, rfl, a, _, rfl, .inl hS, _, _, rfl, rfl, (by show (0 : Int) < 2; decide), rfl, _, rfl, ?_⟩
    rw [nv_len]
    by_cases c3 : (l.length : Int) % 2 = 1
    · refine if_true_of (decide_eq_true (congrArg V.int c3)) ?_
      exact no (fun z => by omega) H (.refl _)
    refine if_false_of (decide_eq_false fun z => c3 (V.int.inj z)) ?_
    -- len(l) > 2 * MOST_PAIRS
    refine ⟨_, rfl, a, _, rfl, .inl hS, _, _, rfl, rfl, .inl ⟨by decide, by decide⟩, _, _, rfl, rfl, _, rfl, ?_⟩
    rw [nv_len]
    by_cases c4 : (2 : Int) * 28 < (l.length : Int)
    · refine if_true_of (decide_eq_true c4) ?_
      exact no (fun z => by omega) H (.refl _)
    refine if_false_of (decide_eq_false c4) ?_
    -- all([guest < n for guest in l])
    refine ⟨_, rfl, a, rfl, ⟨_, hS⟩, fun D nD => lc_list (K := K) (a := a) (xs := nv l)
      (fun t H2 => Same H H2 ∧ H2 D = some (.lst (((l.take t).map fun x => decide (x < n)).map V.bl)))
      ⟨same_upd nD, upd_same⟩ (fun t H2 _ h => h.1.seq hS) ?_ ?_⟩
    · rintro t x H2 hx ⟨s2, hD⟩
      obtain ⟨y, hy, rfl⟩ : ∃ y, l[t]? = some y ∧ x = vN y := by
        unfold nv at hx
        rw [List.getElem?_map] at hx
        cases e : l[t]? with
        | none => rw [e] at hx; cases hx
        | some y => rw [e] at hx; exact ⟨y, rfl, (Option.some.inj hx).symm⟩
      refine ⟨rfl, _, rfl, _, rfl, _, _, rfl, rfl, _, hD, ?_, same_set nD s2, ?_⟩
      · rw [List.length_map, List.length_map, List.length_take]
        exact small1000 (by omega)
      · rw [upd_same, take_more hy, List.map_append, List.map_append]
        show some (HO.lst (_ ++ [V.bl (decide ((y : Int) < (n : Int)))])) = some (HO.lst (_ ++ [V.bl (decide (y < n))]))
        rw [show decide ((y : Int) < (n : Int)) = decide (y < n) by rw [decide_eq_decide]; omega]
    · rintro H2 ⟨s2, hD⟩
      rw [nv_len, List.take_length] at hD
      refine ⟨D, _, rfl, SqL.of hD, _, rfl, ?_⟩
      cases c5 : (l.map fun x => decide (x < n)).all id with
      | false =>
        refine if_true_of rfl ?_
        refine no (fun z => ?_) H2 s2
        have z4 := z.2.2.2.1
        have : (l.map fun x => decide (x < n)).all id = true := by
          rw [List.all_map, List.all_eq_true]
          exact fun x hx => decide_eq_true (z4 x hx)
        rw [this] at c5
        cases c5
      | true =>
        refine if_false_of rfl ?_
        have a5 : ∀ x ∈ l, x < n := fun x hx => by
          rw [List.all_map, List.all_eq_true] at c5
          exact of_decide_eq_true (c5 x hx)
        have ev : l.length % 2 = 0 := by omega
        -- all([l[at] != l[at + 1] for at in range(0, len(l), 2)])
        refine ⟨_, rfl, a, _, rfl, .inl (s2.seq hS), 0, (l.length : Int), ((2 : Nat) : Int), l.length / 2, (by rw [nv_len]; rfl), rgc_two ev (by omega), fun D' nD' => lc_rangeC (c := 2) (n := l.length / 2)
          (fun t H3 => Same H2 H3 ∧ H3 D' = some (.lst (((List.range t).map fun t => decide (l[2 * t]? ≠ l[2 * t + 1]?)).map V.bl)))
          ⟨same_upd nD', upd_same⟩ ?_ ?_⟩
        · rintro t H3 ht ⟨s3, hD3⟩
          have g1 : l[2 * t]? = some l[2 * t] := List.getElem?_eq_getElem (by omega)
          have g2 : l[2 * t + 1]? = some l[2 * t + 1] := List.getElem?_eq_getElem (by omega)
          have hS3 := (s2.trans s3).seq hS
          refine ⟨rfl, _, rfl, _, rfl, a, _, _, _, rfl, rfl, hS3, nv_at g1, _, rfl, _, rfl, _, _, rfl, rfl, a, _, _, _, rfl, rfl, hS3, nv_at g2, rfl, _, hD3, ?_, same_set nD' s3, ?_⟩
          · rw [List.length_map, List.length_map, List.length_range]
            exact small1000 (by omega)
          · rw [upd_same, List.range_succ, List.map_append, List.map_append]
            show some (HO.lst (_ ++ [V.bl (!decide (vN l[2 * t] = vN l[2 * t + 1]))])) = some (HO.lst (_ ++ [V.bl (decide (l[2 * t]? ≠ l[2 * t + 1]?))]))
            rw [g1, g2, ← decide_not]
            congr 5
            rw [decide_eq_decide]
            constructor
            · intro z1 z2
              exact z1 (congrArg vN (Option.some.inj z2))
            · intro z1 z2
              exact z1 (congrArg some (by have := V.int.inj z2; omega))
        · rintro H3 ⟨s3, hD3⟩
          refine ⟨D', _, rfl, SqL.of hD3, ?_⟩
          have q := k H3 (s2.trans s3)
          have e : Kzf5.good n l = ((List.range (l.length / 2)).map fun t => decide (l[2 * t]? ≠ l[2 * t + 1]?)).all id := by
            rw [Bool.eq_iff_iff, good_iff, List.all_map, List.all_eq_true]
            constructor
            · intro z t ht
              exact decide_eq_true (z.2.2.2.2 t (List.mem_range.mp ht))
            · intro z
              exact ⟨⟨by omega, by omega⟩, ev, by omega, a5, fun t ht => of_decide_eq_true (z t (List.mem_range.mpr ht))⟩
          rw [e] at q
          exact q
/-! ### told -/
theorem scTold : FnScope ["n", "l", "known", "at"] ["n", "l"] (defScope sTold) := ⟨rfl, rfl, rfl, by decide +kernel, rfl, by decide +kernel, by decide +kernel⟩
theorem ok_told {f fN fI : Addr} {fd fdN fdI : FuncData} (F : Fun K "told" "told" sTold f fd) (CN : Cal P w K mg base "nobody" ["n"] 1 spNobody fN fdN)
    (CI : Cal P w K mg base "introduce" ["known", "one", "other"] 1 spIntro fI fdI) (ml : mg "len" = none) (mr : mg "range" = none) : FnOk P w K mg base CX0 2 f fd ["n", "l"] (spTold K) := by
  refine F.ok scTold (fun vs H Q E h => ?_) (fun cdv A outer s H vs Q E hr h => ?_)
  · obtain ⟨n, a, l, rfl, _⟩ := h
    rfl
  · obtain ⟨n, a, l, rfl, hS, hg, k⟩ := h
    obtain ⟨⟨hn1, hn⟩, ev, hl, hlt, hne⟩ := good_iff.mp hg
    refine ⟨_, pss_cons (ps_set (i := 2) scTold.nd rfl (.inl rfl) (pe_call CN.ok hr (by rfl) CN.mg CN.kp CN.b .nil pass0 (pa_cons (pv 0) pa_nil)))
      (pss_cons (ps_for PassesOwn.never rfl (pi_range3 (by rfl) mr (pa_cons pe_int (pa_cons (pe_callB call_len_seq (by rfl) ml PySem.boot_len (pa_cons (pv 1) pa_nil)) (pa_cons pe_int pa_nil))))
          (pg_name (i := 3) scTold.nd rfl (.inl rfl))
        (pss_one (ps_expr (pe_call CI.ok hr (by rfl) CI.mg CI.kp CI.b .nil pass0 (pa_cons (pv 2) (pa_cons (pe_ix ix_list (pv 1) (pv 3) (fun _ _ => rfl)) (pa_cons (pe_ix ix_list (pv 1) (pe_op op_add (pv 3) pe_int) (fun _ _ => rfl)) pa_nil)))))))
      (pss_one (ps_ret (pv 2)))), ?_⟩
    refine ⟨_, rfl, n, rfl, hn, fun H1 o s1 no ho => ?_⟩
    refine ⟨_, rfl, a, _, rfl, .inl (s1.seq hS), 0, (l.length : Int), ((2 : Nat) : Int), l.length / 2, (by rw [nv_len]; rfl), rgc_two ev (by omega), for_rangeCN (c := 2) (n := l.length / 2)
      (fun t σ H2 => ∃ v3, σ = [some (vN n), some (.ref a), some (.ref o), v3] ∧ Same H H2 ∧ H2 o = some (.lst (nv (rows n ((net l).take t)))))
      ⟨none, rfl, s1, ho⟩ ?_ ?_⟩
    · rintro t σ H2 ht ⟨v3, rfl, s2, ho2⟩
      have g1 : l[2 * t]? = some l[2 * t] := List.getElem?_eq_getElem (by omega)
      have g2 : l[2 * t + 1]? = some l[2 * t + 1] := List.getElem?_eq_getElem (by omega)
      have hS2 := s2.seq hS
      have h1 : l[2 * t] < n := hlt _ (List.getElem_mem _)
      have h2 : l[2 * t + 1] < n := hlt _ (List.getElem_mem _)
      have h3 : l[2 * t] ≠ l[2 * t + 1] := fun z => hne t ht (by rw [g1, g2, z])
      refine ⟨_, rfl, _, rfl, _, rfl, a, _, _, _, rfl, rfl, hS2, nv_at g1, _, rfl, _, rfl, _, _, rfl, rfl, a, _, _, _, rfl, rfl, hS2, nv_at g2, o, n, l[2 * t], l[2 * t + 1], _, rfl, ho2, h1, h2, h3, hn, ?_⟩
      refine ⟨_, rfl, same_set no s2, ?_⟩
      rw [upd_same, take_more (net_get l t _ _ g1 g2)]
    · rintro σ H2 ⟨v3, rfl, s2, ho2⟩
      rw [← net_len, List.take_length] at ho2
      exact ⟨_, rfl, k H2 o s2 no ho2⟩
/-! ### after -/
theorem scAfter : FnScope ["n", "k", "l", "known"] ["n", "k", "l"] (defScope sAfter) := ⟨rfl, rfl, rfl, by decide +kernel, rfl, by decide +kernel, by decide +kernel⟩
theorem told_no {n k : Nat} {l : List Nat} (h : Kzf5.good n l = false ∨ 5 < k) : told_ (.after n k l) = [.int (-22)] := by
  unfold told_ Kzf5.answer
  dsimp only
  rw [if_pos h]; rfl
theorem told_yes {n k : Nat} {l : List Nat} (h : ¬ (Kzf5.good n l = false ∨ 5 < k)) : told_ (.after n k l) = vN (pairs n (Kzf5.after n (net l) k)) :: nv (rows n (Kzf5.after n (net l) k)) := by
  unfold told_ Kzf5.answer
  dsimp only
  rw [if_neg h]
  unfold Kzf5Neutral.ints nv rows
  rw [List.map_cons, List.map_map, List.map_map, List.map_map]
  rfl
theorem ok_after {f fA fT fR fM : Addr} {fd fdA fdT fdR fdM : FuncData} {tn tr : Tok} (F : Fun K "after" "after" sAfter f fd) (CA : Cal P w K mg base "are_told_so" ["n", "l"] 1 (spAre K) fA fdA) (CT : Cal P w K mg base "told" ["n", "l"] 2 (spTold K) fT fdT)
    (CR : Cal P w K mg base "behind_rounds" ["known", "k"] 5 spRounds fR fdR) (CM : Cal P w K mg base "many_pairs" ["known"] 2 (spMany K) fM fdM)
    (gN : mg "NOT_TOLD_SO" = some (.int (-22) tn)) (gR : mg "MOST_ROUNDS" = some (.int 5 tr)) : FnOk P w K mg base CX0 6 f fd ["n", "k", "l"] (spAfter K) := by
  refine F.ok scAfter (fun vs H Q E h => ?_) (fun cdv A outer s H vs Q E hr h => ?_)
  · obtain ⟨n, k, a, l, rfl, _⟩ := h
    rfl
  · obtain ⟨n, kk, a, l, rfl, hS, hl, k⟩ := h
    have hr1 : Room 1 _ := hr.mono (by decide)
    have hr2 : Room 2 _ := hr.mono (by decide)
    refine ⟨_, pss_cons (ps_if (PW.pt (pw_or (pt_not (pt_val (pe_call CA.ok hr1 (by rfl) CA.mg CA.kp CA.b .nil pass0 (pa_cons (pv 0) (pa_cons (pv 2) pa_nil)))))
          (pw_or1 (pt_cmpR op_gt (pv 1) (pe_glob (v := .int 5) (by rfl) gR ⟨_, rfl⟩) (nomark _)))))
        (pss_one (ps_ret (pe_lst (pa_cons (pe_glob (v := .int (-22)) (by rfl) gN ⟨_, rfl⟩) pa_nil)))) pss_nil)
      (pss_cons (ps_set (i := 3) scAfter.nd rfl (.inl rfl) (pe_call CR.ok hr (by rfl) CR.mg CR.kp CR.b .nil pass0 (pa_cons (pe_call CT.ok hr2 (by rfl) CT.mg CT.kp CT.b .nil pass0 (pa_cons (pv 0) (pa_cons (pv 2) pa_nil))) (pa_cons (pv 1) pa_nil))))
      (pss_one (ps_ret (pe_op op_cat (pe_lst (pa_cons (pe_call CM.ok hr2 (by rfl) CM.mg CM.kp CM.b .nil pass0 (pa_cons (pv 3) pa_nil)) pa_nil)) (pv 3))))), ?_⟩
    refine ⟨_, rfl, _, rfl, n, a, l, rfl, hS, hl, fun H1 s1 => ⟨_, rfl, ?_⟩⟩
    cases c1 : Kzf5.good n l with
    | false =>
      refine if_true_of rfl ?_
      refine ⟨le1, fun p hp => k _ p ?_⟩
      rw [upd_same, told_no (.inl c1)]
    | true =>
      refine if_false_of rfl ?_
      refine ⟨_, rfl, _, _, rfl, rfl, _, rfl, ?_⟩
      by_cases c2 : (5 : Int) < (kk : Int)
      · refine if_true_of (decide_eq_true c2) ?_
        refine ⟨le1, fun p hp => k _ p ?_⟩
        rw [upd_same, told_no (.inr (by omega))]
      · refine if_false_of (decide_eq_false c2) ?_
        obtain ⟨⟨_, hn⟩, _⟩ := good_iff.mp c1
        refine ⟨_, rfl, _, rfl, n, a, l, rfl, s1.seq hS, c1, fun H2 o s2 no ho => ?_⟩
        refine ⟨_, rfl, o, n, kk, net l, rfl, ho, hn, by omega, fun H3 q s3 hq => ?_⟩
        refine ⟨_, rfl, q, n, _, rfl, SqL.of hq, hn, fun H4 s4 => ?_⟩
        refine ⟨le1, fun p hp => ?_⟩
        have hq4 := s4 _ _ hq
        refine ⟨_, rfl, p, q, _, _, rfl, rfl, upd_same, same_upd hp _ _ hq4, ?_, fun r hr' => k _ r ?_⟩
        · rw [nv_len, rows_len]
          exact few8 (by show 1 + n ≤ 1000; omega)
        · rw [upd_same, told_yes (by rw [c1]; intro z; rcases z with z | z; cases z; omega)]
          rfl
end
/-! ### what the top has written -/
theorem all_mk {P : Program} {w : World} {K : PySem.W.Frag} {h : Heap} {mg : Str → Option Value} {fa f1 f2 f3 f4 f5 f6 f7 f8 f9 f10 f11 f12 : Addr} (X : K.In h) (G : h.Ns mainGlobals mg) (hfa : mg "after" = some (.ref fa))
    {od1 an1 od2 an2 od3 an3 od4 an4 od5 an5 od6 an6 od7 an7 od8 an8 od9 an9 od10 an10 od11 an11 od12 an12 : Option Addr} {sl1 sl2 sl3 sl4 sl5 sl6 sl7 sl8 sl9 sl10 sl11 sl12 : Array (Option Value)}
    {oc1 kV1 dc1 pm1 cd1 ct1 oc2 kV2 dc2 pm2 cd2 ct2 oc3 kV3 dc3 pm3 cd3 ct3 oc4 kV4 dc4 pm4 cd4 ct4 oc5 kV5 dc5 pm5 cd5 ct5 oc6 kV6 dc6 pm6 cd6 ct6 oc7 kV7 dc7 pm7 cd7 ct7 oc8 kV8 dc8 pm8 cd8 ct8 oc9 kV9 dc9 pm9 cd9 ct9 oc10 kV10 dc10 pm10 cd10 ct10 oc11 kV11 dc11 pm11 cd11 ct11 oc12 kV12 dc12 pm12 cd12 ct12 : Value} {t_NOT_TOLD_SO t_MOST_GUESTS t_MOST_PAIRS t_MOST_ROUNDS : Tok}
    (a1 : PySem.W.nsIn K mainGlobals "nobody" = some (some (.ref f1))) (l1 : K.lookup f1 = some ⟨oc1, od1, .func (PySem.W.fnOf "nobody" "nobody" (defArgs sNobody) (defBody sNobody) (defScope sNobody) .none kV1 dc1 pm1 an1 cd1 ct1), sl1⟩) (c1 : PySem.W.codeIn K cd1 "nobody" = true) (k1 : PySem.W.keepIn K (.ref f1) = true)
    (a2 : PySem.W.nsIn K mainGlobals "know" = some (some (.ref f2))) (l2 : K.lookup f2 = some ⟨oc2, od2, .func (PySem.W.fnOf "know" "know" (defArgs sKnow) (defBody sKnow) (defScope sKnow) .none kV2 dc2 pm2 an2 cd2 ct2), sl2⟩) (c2 : PySem.W.codeIn K cd2 "know" = true) (k2 : PySem.W.keepIn K (.ref f2) = true)
    (a3 : PySem.W.nsIn K mainGlobals "introduce" = some (some (.ref f3))) (l3 : K.lookup f3 = some ⟨oc3, od3, .func (PySem.W.fnOf "introduce" "introduce" (defArgs sIntroduce) (defBody sIntroduce) (defScope sIntroduce) .none kV3 dc3 pm3 an3 cd3 ct3), sl3⟩) (c3 : PySem.W.codeIn K cd3 "introduce" = true) (k3 : PySem.W.keepIn K (.ref f3) = true)
    (a4 : PySem.W.nsIn K mainGlobals "pairs_of" = some (some (.ref f4))) (l4 : K.lookup f4 = some ⟨oc4, od4, .func (PySem.W.fnOf "pairs_of" "pairs_of" (defArgs sPairs_of) (defBody sPairs_of) (defScope sPairs_of) .none kV4 dc4 pm4 an4 cd4 ct4), sl4⟩) (c4 : PySem.W.codeIn K cd4 "pairs_of" = true) (k4 : PySem.W.keepIn K (.ref f4) = true)
    (a5 : PySem.W.nsIn K mainGlobals "can_be" = some (some (.ref f5))) (l5 : K.lookup f5 = some ⟨oc5, od5, .func (PySem.W.fnOf "can_be" "can_be" (defArgs sCan_be) (defBody sCan_be) (defScope sCan_be) .none kV5 dc5 pm5 an5 cd5 ct5), sl5⟩) (c5 : PySem.W.codeIn K cd5 "can_be" = true) (k5 : PySem.W.keepIn K (.ref f5) = true)
    (a6 : PySem.W.nsIn K mainGlobals "introducible" = some (some (.ref f6))) (l6 : K.lookup f6 = some ⟨oc6, od6, .func (PySem.W.fnOf "introducible" "introducible" (defArgs sIntroducible) (defBody sIntroducible) (defScope sIntroducible) .none kV6 dc6 pm6 an6 cd6 ct6), sl6⟩) (c6 : PySem.W.codeIn K cd6 "introducible" = true) (k6 : PySem.W.keepIn K (.ref f6) = true)
    (a7 : PySem.W.nsIn K mainGlobals "many_pairs" = some (some (.ref f7))) (l7 : K.lookup f7 = some ⟨oc7, od7, .func (PySem.W.fnOf "many_pairs" "many_pairs" (defArgs sMany_pairs) (defBody sMany_pairs) (defScope sMany_pairs) .none kV7 dc7 pm7 an7 cd7 ct7), sl7⟩) (c7 : PySem.W.codeIn K cd7 "many_pairs" = true) (k7 : PySem.W.keepIn K (.ref f7) = true)
    (a8 : PySem.W.nsIn K mainGlobals "behind_round" = some (some (.ref f8))) (l8 : K.lookup f8 = some ⟨oc8, od8, .func (PySem.W.fnOf "behind_round" "behind_round" (defArgs sBehind_round) (defBody sBehind_round) (defScope sBehind_round) .none kV8 dc8 pm8 an8 cd8 ct8), sl8⟩) (c8 : PySem.W.codeIn K cd8 "behind_round" = true) (k8 : PySem.W.keepIn K (.ref f8) = true)
    (a9 : PySem.W.nsIn K mainGlobals "behind_rounds" = some (some (.ref f9))) (l9 : K.lookup f9 = some ⟨oc9, od9, .func (PySem.W.fnOf "behind_rounds" "behind_rounds" (defArgs sBehind_rounds) (defBody sBehind_rounds) (defScope sBehind_rounds) .none kV9 dc9 pm9 an9 cd9 ct9), sl9⟩) (c9 : PySem.W.codeIn K cd9 "behind_rounds" = true) (k9 : PySem.W.keepIn K (.ref f9) = true)
    (a10 : PySem.W.nsIn K mainGlobals "are_told_so" = some (some (.ref f10))) (l10 : K.lookup f10 = some ⟨oc10, od10, .func (PySem.W.fnOf "are_told_so" "are_told_so" (defArgs sAre_told_so) (defBody sAre_told_so) (defScope sAre_told_so) .none kV10 dc10 pm10 an10 cd10 ct10), sl10⟩) (c10 : PySem.W.codeIn K cd10 "are_told_so" = true) (k10 : PySem.W.keepIn K (.ref f10) = true)
    (a11 : PySem.W.nsIn K mainGlobals "told" = some (some (.ref f11))) (l11 : K.lookup f11 = some ⟨oc11, od11, .func (PySem.W.fnOf "told" "told" (defArgs sTold) (defBody sTold) (defScope sTold) .none kV11 dc11 pm11 an11 cd11 ct11), sl11⟩) (c11 : PySem.W.codeIn K cd11 "told" = true) (k11 : PySem.W.keepIn K (.ref f11) = true)
    (a12 : PySem.W.nsIn K mainGlobals "after" = some (some (.ref f12))) (l12 : K.lookup f12 = some ⟨oc12, od12, .func (PySem.W.fnOf "after" "after" (defArgs sAfter) (defBody sAfter) (defScope sAfter) .none kV12 dc12 pm12 an12 cd12 ct12), sl12⟩) (c12 : PySem.W.codeIn K cd12 "after" = true) (k12 : PySem.W.keepIn K (.ref f12) = true)
    (z_all : PySem.W.nsIn K mainGlobals "all" = some none)
    (z_len : PySem.W.nsIn K mainGlobals "len" = some none)
    (z_list : PySem.W.nsIn K mainGlobals "list" = some none)
    (z_range : PySem.W.nsIn K mainGlobals "range" = some none)
    (g_NOT_TOLD_SO : PySem.W.nsIn K mainGlobals "NOT_TOLD_SO" = some (some (.int (-22) t_NOT_TOLD_SO)))
    (g_MOST_GUESTS : PySem.W.nsIn K mainGlobals "MOST_GUESTS" = some (some (.int 8 t_MOST_GUESTS)))
    (g_MOST_PAIRS : PySem.W.nsIn K mainGlobals "MOST_PAIRS" = some (some (.int 28 t_MOST_PAIRS)))
    (g_MOST_ROUNDS : PySem.W.nsIn K mainGlobals "MOST_ROUNDS" = some (some (.int 5 t_MOST_ROUNDS)))
    : ∃ fd : FuncData, (∀ (s : Shared) (us : List Value), us.length = (["n", "k", "l"] : List Str).length → BindsTo s fd ⟨us, []⟩ ((["n", "k", "l"] : List Str).zip us)) ∧ ∀ base : Heap, K.In base → base.Ns mainGlobals mg → FnOk P w K mg base CX0 6 fa fd ["n", "k", "l"] (spAfter K) := by
  have e := hfa.symm.trans (PySem.W.mg_of X G a12)
  cases e
  have m_all : mg "all" = none := PySem.W.mg_none_of X G z_all
  have m_len : mg "len" = none := PySem.W.mg_none_of X G z_len
  have m_list : mg "list" = none := PySem.W.mg_none_of X G z_list
  have m_range : mg "range" = none := PySem.W.mg_none_of X G z_range
  have v_NOT_TOLD_SO : mg "NOT_TOLD_SO" = some (.int (-22) t_NOT_TOLD_SO) := PySem.W.mg_of X G g_NOT_TOLD_SO
  have v_MOST_GUESTS : mg "MOST_GUESTS" = some (.int 8 t_MOST_GUESTS) := PySem.W.mg_of X G g_MOST_GUESTS
  have v_MOST_PAIRS : mg "MOST_PAIRS" = some (.int 28 t_MOST_PAIRS) := PySem.W.mg_of X G g_MOST_PAIRS
  have v_MOST_ROUNDS : mg "MOST_ROUNDS" = some (.int 5 t_MOST_ROUNDS) := PySem.W.mg_of X G g_MOST_ROUNDS
  have F1 := fun_mk (st := sNobody) l1 c1 k1
  have b1 := F1.binds (ps := ["n"]) fun _ _ _ _ _ _ us hl => match us, hl with | [_], _ => rfl
  have F2 := fun_mk (st := sKnow) l2 c2 k2
  have b2 := F2.binds (ps := ["known", "one", "other"]) fun _ _ _ _ _ _ us hl => match us, hl with | [_, _, _], _ => rfl
  have F3 := fun_mk (st := sIntroduce) l3 c3 k3
  have b3 := F3.binds (ps := ["known", "one", "other"]) fun _ _ _ _ _ _ us hl => match us, hl with | [_, _, _], _ => rfl
  have F4 := fun_mk (st := sPairs_of) l4 c4 k4
  have b4 := F4.binds (ps := ["n"]) fun _ _ _ _ _ _ us hl => match us, hl with | [_], _ => rfl
  have F5 := fun_mk (st := sCan_be) l5 c5 k5
  have b5 := F5.binds (ps := ["known", "one", "other"]) fun _ _ _ _ _ _ us hl => match us, hl with | [_, _, _], _ => rfl
  have F6 := fun_mk (st := sIntroducible) l6 c6 k6
  have b6 := F6.binds (ps := ["known"]) fun _ _ _ _ _ _ us hl => match us, hl with | [_], _ => rfl
  have F7 := fun_mk (st := sMany_pairs) l7 c7 k7
  have b7 := F7.binds (ps := ["known"]) fun _ _ _ _ _ _ us hl => match us, hl with | [_], _ => rfl
  have F8 := fun_mk (st := sBehind_round) l8 c8 k8
  have b8 := F8.binds (ps := ["known"]) fun _ _ _ _ _ _ us hl => match us, hl with | [_], _ => rfl
  have F9 := fun_mk (st := sBehind_rounds) l9 c9 k9
  have b9 := F9.binds (ps := ["known", "k"]) fun _ _ _ _ _ _ us hl => match us, hl with | [_, _], _ => rfl
  have F10 := fun_mk (st := sAre_told_so) l10 c10 k10
  have b10 := F10.binds (ps := ["n", "l"]) fun _ _ _ _ _ _ us hl => match us, hl with | [_, _], _ => rfl
  have F11 := fun_mk (st := sTold) l11 c11 k11
  have b11 := F11.binds (ps := ["n", "l"]) fun _ _ _ _ _ _ us hl => match us, hl with | [_, _], _ => rfl
  have F12 := fun_mk (st := sAfter) l12 c12 k12
  refine ⟨PySem.W.fnOf "after" "after" (defArgs sAfter) (defBody sAfter) (defScope sAfter) .none kV12 dc12 pm12 an12 cd12 ct12, fun s us hu => match us, hu with | [_, _, _], _ => .of_eq rfl, fun base _ _ => ?_⟩
  have C1 : Cal P w K mg base "nobody" ["n"] 1 spNobody f1 _ := ⟨ok_nobody F1, PySem.W.mg_of X G a1, k1, b1⟩
  have C2 : Cal P w K mg base "know" ["known", "one", "other"] 1 (spKnow K) f2 _ := ⟨ok_know F2, PySem.W.mg_of X G a2, k2, b2⟩
  have C3 : Cal P w K mg base "introduce" ["known", "one", "other"] 1 spIntro f3 _ := ⟨ok_introduce F3, PySem.W.mg_of X G a3, k3, b3⟩
  have C4 : Cal P w K mg base "pairs_of" ["n"] 1 spPairs f4 _ := ⟨ok_pairs_of F4 m_range, PySem.W.mg_of X G a4, k4, b4⟩
  have C5 : Cal P w K mg base "can_be" ["known", "one", "other"] 2 (spCan K) f5 _ := ⟨ok_can_be F5 C2, PySem.W.mg_of X G a5, k5, b5⟩
  have C6 : Cal P w K mg base "introducible" ["known"] 3 (spCans K) f6 _ := ⟨ok_introducible F6 C4 C5 m_len, PySem.W.mg_of X G a6, k6, b6⟩
  have C7 : Cal P w K mg base "many_pairs" ["known"] 2 (spMany K) f7 _ := ⟨ok_many_pairs F7 C4 C2 m_len, PySem.W.mg_of X G a7, k7, b7⟩
  have C8 : Cal P w K mg base "behind_round" ["known"] 4 (spRound K) f8 _ := ⟨ok_behind_round F8 C6 C3 m_list, PySem.W.mg_of X G a8, k8, b8⟩
  have C9 : Cal P w K mg base "behind_rounds" ["known", "k"] 5 spRounds f9 _ := ⟨ok_behind_rounds F9 C8 m_range, PySem.W.mg_of X G a9, k9, b9⟩
  have C10 : Cal P w K mg base "are_told_so" ["n", "l"] 1 (spAre K) f10 _ := ⟨ok_are_told_so F10 m_len m_all m_range v_MOST_GUESTS v_MOST_PAIRS, PySem.W.mg_of X G a10, k10, b10⟩
  have C11 : Cal P w K mg base "told" ["n", "l"] 2 (spTold K) f11 _ := ⟨ok_told F11 C1 C3 m_len m_range, PySem.W.mg_of X G a11, k11, b11⟩
  exact ok_after F12 C10 C11 C9 C7 v_NOT_TOLD_SO v_MOST_ROUNDS
end Intro
open PySem PySem.W PyProof.Rows
set_option maxRecDepth 100000 in
set_option maxHeartbeats 8000000 in
theorem PySem.Challenge.cw_introduced_s01_after_holds : PySem.Challenge.rw_introduced_s01_after.Holds := by
  w_on; k_headS; (case hw => exact ⟨[.int 0, .int 0, .list []], by decide +kernel, by decide +kernel⟩)
  k_fillS
  refine L2.walk_specK (r := PySem.Challenge.rw_introduced_s01_after) (k := 6) (CX := L2.CX0) (ps := ["n", "k", "l"]) (sp := Intro.spAfter) (by decide +kernel) rfl rfl ⟨rfl, by decide, by decide⟩ (fun w h Y => PySem.W.kIn_of Y) ?F ?S (fun _ _ _ _ z => z)
  case F =>
    intro w mg fa h Y KX G hmg
    refine' Intro.all_mk KX G hmg ?a1 ?l1 ?c1 ?k1 ?a2 ?l2 ?c2 ?k2 ?a3 ?l3 ?c3 ?k3 ?a4 ?l4 ?c4 ?k4 ?a5 ?l5 ?c5 ?k5 ?a6 ?l6 ?c6 ?k6 ?a7 ?l7 ?c7 ?k7 ?a8 ?l8 ?c8 ?k8 ?a9 ?l9 ?c9 ?k9 ?a10 ?l10 ?c10 ?k10 ?a11 ?l11 ?c11 ?k11 ?a12 ?l12 ?c12 ?k12 ?z_all ?z_len ?z_list ?z_range ?g_NOT_TOLD_SO ?g_MOST_GUESTS ?g_MOST_PAIRS ?g_MOST_ROUNDS
    (case a1 => k_is); (case l1 => k_is); (case c1 => k_is); (case k1 => k_is)
    (case a2 => k_is); (case l2 => k_is); (case c2 => k_is); (case k2 => k_is)
    (case a3 => k_is); (case l3 => k_is); (case c3 => k_is); (case k3 => k_is)
    (case a4 => k_is); (case l4 => k_is); (case c4 => k_is); (case k4 => k_is)
    (case a5 => k_is); (case l5 => k_is); (case c5 => k_is); (case k5 => k_is)
    (case a6 => k_is); (case l6 => k_is); (case c6 => k_is); (case k6 => k_is)
    (case a7 => k_is); (case l7 => k_is); (case c7 => k_is); (case k7 => k_is)
    (case a8 => k_is); (case l8 => k_is); (case c8 => k_is); (case k8 => k_is)
    (case a9 => k_is); (case l9 => k_is); (case c9 => k_is); (case k9 => k_is)
    (case a10 => k_is); (case l10 => k_is); (case c10 => k_is); (case k10 => k_is)
    (case a11 => k_is); (case l11 => k_is); (case c11 => k_is); (case k11 => k_is)
    (case a12 => k_is); (case l12 => k_is); (case c12 => k_is); (case k12 => k_is)
    (case z_all => k_is); (case z_len => k_is); (case z_list => k_is); (case z_range => k_is)
    (case g_NOT_TOLD_SO => k_is); (case g_MOST_GUESTS => k_is); (case g_MOST_PAIRS => k_is); (case g_MOST_ROUNDS => k_is)
  case S =>
    intro K H xs a hO hwi hask hx
    cases hx with
    | cons h0 hx =>
      cases hx with
      | cons h1 hx =>
        cases hx with
        | cons h2 hx =>
          cases hx
          cases h0
          cases h1
          cases h2 with
          | lst hs ha =>
            have e := L2.ints_dw a.2.2.1 _ ha
            subst e
            have q : (Codec.inInt 0 4294967295 a.1 && (Codec.inInt 0 4294967295 a.2.1 && ((Codec.inLen 0 60 a.2.2.1 && a.2.2.1.all (Codec.inInt 0 255)) && true))) = true := hwi
            rw [Bool.and_eq_true, Bool.and_eq_true, Bool.and_eq_true, Bool.and_eq_true] at q
            obtain ⟨q0, ⟨q1, ⟨⟨ql, qi⟩, _⟩⟩⟩ := q
            have il : ∀ x ∈ a.2.2.1, 0 ≤ x := fun x hx => (Codec.inInt_iff.mp (List.all_eq_true.mp qi x hx)).1
            have e0 := Intro.nat_of (Codec.inInt_iff.mp q0).1
            have e1 := Intro.nat_of (Codec.inInt_iff.mp q1).1
            rw [Intro.nats_of il] at hs
            rw [e0, e1]
            refine ⟨a.1.toNat, a.2.1.toNat, _, Kzf5Neutral.natsOf a.2.2.1, rfl, hs, ?_, fun H' p hp => ?_⟩
            · show (List.map Int.toNat a.2.2.1).length ≤ 60
              rw [List.length_map]
              exact (Codec.inNat_iff.mp ql).2
            · exact .lst (L2.SqL.of (show H' p = some (.lst ((PyKzf5.after a.1 a.2.1 a.2.2.1).map L2.V.int)) from hp)) (L2.dw_ints (PyKzf5.after a.1 a.2.1 a.2.2.1))
#print axioms PySem.Challenge.cw_introduced_s01_after_holds
