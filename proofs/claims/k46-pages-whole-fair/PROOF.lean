import PyProof.Rows.All
import Wide.All
import OpenK.AllK
import Wide.FinOn
import HandS.ForList
import HandS.IsInst
import PySem.Challenge.RW_corpuskeep_k46_pages_whole_fair
set_option Elab.async false
set_option maxRecDepth 100000
set_option maxHeartbeats 4000000
/-! The plain law: sums over places, the state of a phase, one turn of it. No program here. -/
namespace Fair
/-! ### sums over the places 0 .. n - 1 -/
def sm : Nat → (Nat → Int) → Int
  | 0, _ => 0
  | n + 1, f => sm n f + f n
theorem sm_congr : ∀ {n : Nat} {f g : Nat → Int}, (∀ i, i < n → f i = g i) → sm n f = sm n g
  | 0, _, _, _ => rfl
  | n + 1, f, g, h => by
    have a : sm n f = sm n g := sm_congr fun i hi => h i (Nat.lt_succ_of_lt hi)
    have b := h n (Nat.lt_succ_self n)
    show sm n f + f n = sm n g + g n
    rw [a, b]
theorem sm_le : ∀ {n : Nat} {f g : Nat → Int}, (∀ i, i < n → f i ≤ g i) → sm n f ≤ sm n g
  | 0, _, _, _ => Int.le_refl _
  | n + 1, f, g, h => by
    have a : sm n f ≤ sm n g := sm_le fun i hi => h i (Nat.lt_succ_of_lt hi)
    have b := h n (Nat.lt_succ_self n)
    show sm n f + f n ≤ sm n g + g n
    omega
theorem sm_zero : ∀ (n : Nat), sm n (fun _ => 0) = 0
  | 0 => rfl
  | n + 1 => by
    show sm n (fun _ => 0) + 0 = 0
    rw [sm_zero n]; rfl
theorem sm_nonneg {n : Nat} {f : Nat → Int} (h : ∀ i, i < n → 0 ≤ f i) : 0 ≤ sm n f := by
  have a := sm_le (n := n) (f := fun _ => 0) (g := f) h
  rw [sm_zero] at a
  exact a
theorem sm_mul : ∀ (n : Nat) (f : Nat → Int) (c : Int), sm n (fun i => f i * c) = sm n f * c
  | 0, f, c => by show (0 : Int) = 0 * c; rw [Int.zero_mul]
  | n + 1, f, c => by
    show sm n (fun i => f i * c) + f n * c = (sm n f + f n) * c
    rw [sm_mul n f c, Int.add_mul]
theorem sm_add : ∀ (n : Nat) (f g : Nat → Int), sm n (fun i => f i + g i) = sm n f + sm n g
  | 0, _, _ => rfl
  | n + 1, f, g => by
    show sm n (fun i => f i + g i) + (f n + g n) = (sm n f + f n) + (sm n g + g n)
    rw [sm_add n f g]; omega
theorem sm_sub : ∀ (n : Nat) (f g : Nat → Int), sm n (fun i => f i - g i) = sm n f - sm n g
  | 0, _, _ => rfl
  | n + 1, f, g => by
    show sm n (fun i => f i - g i) + (f n - g n) = (sm n f + f n) - (sm n g + g n)
    rw [sm_sub n f g]; omega
/-- one place alone -/
theorem sm_one : ∀ (n j : Nat) (c : Int), j < n → sm n (fun i => if i = j then c else 0) = c
  | 0, _, _, h => absurd h (Nat.not_lt_zero _)
  | n + 1, j, c, h => by
    show sm n (fun i => if i = j then c else 0) + (if n = j then c else 0) = c
    by_cases e : n = j
    · subst e
      have z : sm n (fun i => if i = n then c else 0) = sm n (fun _ => 0) := sm_congr fun i hi => if_neg (Nat.ne_of_lt hi)
      rw [z, sm_zero, if_pos rfl, Int.zero_add]
    · rw [if_neg e, sm_one n j c (by omega), Int.add_zero]
theorem le_sm {n j : Nat} {f : Nat → Int} (h : ∀ i, i < n → 0 ≤ f i) (hj : j < n) : f j ≤ sm n f := by
  have a := sm_le (n := n) (f := fun i => if i = j then f j else 0) (g := f) fun i hi => by
    by_cases e : i = j
    · subst e; show (if i = i then f i else 0) ≤ f i; rw [if_pos rfl]; exact Int.le_refl _
    · show (if i = j then f j else 0) ≤ f i; rw [if_neg e]; exact h i hi
  rw [sm_one n j (f j) hj] at a
  exact a
/-- one more at the place j -/
def bump (x : Nat → Int) (j : Nat) (c : Int) : Nat → Int := fun i => if i = j then x i + c else x i
theorem bump_same {x : Nat → Int} {j : Nat} {c : Int} : bump x j c j = x j + c := if_pos rfl
theorem bump_ne {x : Nat → Int} {i j : Nat} {c : Int} (h : i ≠ j) : bump x j c i = x i := if_neg h
theorem sm_bump {n j : Nat} {x : Nat → Int} {c : Int} (hj : j < n) : sm n (bump x j c) = sm n x + c := by
  have e : sm n (bump x j c) = sm n (fun i => x i + (if i = j then c else 0)) := sm_congr fun i _ => by
    by_cases q : i = j
    · subst q; rw [bump_same]; show _ = x i + (if i = i then c else 0); rw [if_pos rfl]
    · rw [bump_ne q]; show _ = x i + (if i = j then c else 0); rw [if_neg q, Int.add_zero]
  rw [e, sm_add, sm_one n j c hj]
theorem sm_lt {n j : Nat} {f g : Nat → Int} (h : ∀ i, i < n → f i ≤ g i) (hj : j < n) (hl : f j < g j) : sm n f < sm n g := by
  have a := sm_le (n := n) (f := bump f j 1) (g := g) fun i hi => by
    by_cases e : i = j
    · subst e; rw [bump_same]; omega
    · rw [bump_ne e]; exact h i hi
  rw [sm_bump hj] at a
  omega
/-! ### a list of n ints, told by a function -/
def li (n : Nat) (f : Nat → Int) : List Int := (List.range n).map f
theorem li_length (n : Nat) (f : Nat → Int) : (li n f).length = n := by
  unfold li; rw [List.length_map, List.length_range]
theorem li_succ (n : Nat) (f : Nat → Int) : li (n + 1) f = li n f ++ [f n] := by
  unfold li; rw [List.range_succ, List.map_append]; rfl
theorem li_get {n i : Nat} {f : Nat → Int} (h : i < n) : (li n f)[i]? = some (f i) := by
  unfold li; rw [List.getElem?_map, List.getElem?_range h]; rfl
theorem li_sum : ∀ (n : Nat) (f : Nat → Int), (li n f).sum = sm n f
  | 0, _ => rfl
  | n + 1, f => by
    rw [li_succ, List.sum_append, li_sum n f]
    show sm n f + (f n + 0) = sm n f + f n
    omega
theorem li_congr {n : Nat} {f g : Nat → Int} (h : ∀ i, i < n → f i = g i) : li n f = li n g := by
  unfold li
  exact List.map_congr_left fun i hi => h i (List.mem_range.mp hi)
theorem li_set {n j : Nat} {f : Nat → Int} {v : Int} : (li n f).set j v = li n (fun i => if i = j then v else f i) := by
  refine List.ext_getElem? fun i => ?_
  by_cases hi : i < n
  · rw [li_get hi]
    by_cases e : i = j
    · subst e
      rw [List.getElem?_set_self (by rw [li_length]; exact hi), if_pos rfl]
    · rw [List.getElem?_set_ne (Ne.symm e), li_get hi, if_neg e]
  · rw [List.getElem?_eq_none (by rw [List.length_set, li_length]; omega), List.getElem?_eq_none (by rw [li_length]; omega)]
theorem li_bump {n j : Nat} {f : Nat → Int} {c v : Int} (hv : v = f j + c) : (li n f).set j v = li n (bump f j c) := by
  rw [li_set]
  refine li_congr fun i _ => ?_
  by_cases e : i = j
  · subst e; rw [bump_same]; show (if i = i then v else f i) = _; rw [if_pos rfl, hv]
  · rw [bump_ne e]; show (if i = j then v else f i) = _; rw [if_neg e]
/-! ### a phase: weights w, pages left l, pages placed x, t of them -/
def tot (n : Nat) (w l : Nat → Int) : Int := sm n fun i => if 0 < l i then w i else 0
def due (A w x : Int) : Int := ((x + 1) * A + w - 1) / w
theorem due_le {A w x b : Int} (hw : 0 < w) : due A w x ≤ b ↔ (x + 1) * A ≤ w * b := by
  unfold due
  have e := Int.ediv_lt_iff_lt_mul (a := (x + 1) * A + w - 1) (b := b + 1) hw
  have m : (b + 1) * w = w * b + w := by rw [Int.add_mul, Int.one_mul, Int.mul_comm]
  rw [m] at e
  constructor
  · intro h
    have := e.mp (by omega)
    omega
  · intro h
    have := e.mpr (by omega)
    omega
/-- what is still due of the place i by the turn b -/
def owed (w l x : Nat → Int) (A b : Int) (i : Nat) : Int := if 0 < l i then max 0 (w i * b / A - x i) else 0
theorem owed_nonneg {w l x : Nat → Int} {A b : Int} {i : Nat} : 0 ≤ owed w l x A b i := by
  unfold owed; split <;> omega
structure Sta (n : Nat) (w l x : Nat → Int) (t : Int) : Prop where
  nn : ∀ i, i < n → 0 ≤ x i
  off : ∀ i, i < n → ¬ 0 < l i → x i = 0
  sum : sm n x = t
  up : ∀ i, i < n → 0 < l i → x i * tot n w l < w i * t + tot n w l
  dem : ∀ b, t ≤ b → sm n (owed w l x (tot n w l) b) ≤ b - t
structure Pick (n : Nat) (w l x : Nat → Int) (t : Int) (j : Nat) : Prop where
  lt : j < n
  act : 0 < l j
  may : x j * tot n w l < w j * (t + 1)
  first : ∀ i, i < n → 0 < l i → x i * tot n w l < w i * (t + 1) → due (tot n w l) (w j) (x j) ≤ due (tot n w l) (w i) (x i)
section
variable {n : Nat} {w l x : Nat → Int} {t : Int} {j : Nat}
/-- a bound of what is owed: where k is at most x, b - k turns are enough -/
theorem owed_mul_le {A b c : Int} {i : Nat} (hA : 0 < A) (hw : 0 ≤ w i) (hb : c ≤ b) (hx : 0 < l i → w i * c ≤ x i * A) : owed w l x A b i * A ≤ (if 0 < l i then w i else 0) * (b - c) := by
  unfold owed
  by_cases h : 0 < l i
  · rw [if_pos h, if_pos h]
    have q := Int.ediv_mul_le (w i * b) (Int.ne_of_gt hA)
    have y : 0 ≤ w i * (b - c) := Int.mul_nonneg hw (by omega)
    have hx := hx h
    by_cases z : 0 ≤ w i * b / A - x i
    · have e : max 0 (w i * b / A - x i) = w i * b / A - x i := by omega
      rw [e, Int.sub_mul, Int.mul_sub]
      omega
    · have e : max 0 (w i * b / A - x i) = 0 := by omega
      rw [e, Int.zero_mul]
      exact y
  · rw [if_neg h, if_neg h, Int.zero_mul, Int.zero_mul]; exact Int.le_refl _
theorem owed_sum_le {b c : Int} (hA : 0 < tot n w l) (f : Nat → Int) (hf : ∀ i, i < n → f i * tot n w l ≤ (if 0 < l i then w i else 0) * (b - c)) : sm n f ≤ b - c := by
  have a : sm n f * tot n w l ≤ tot n w l * (b - c) := by
    show _ ≤ sm n (fun i => if 0 < l i then w i else 0) * (b - c)
    rw [← sm_mul, ← sm_mul]
    exact sm_le hf
  rw [Int.mul_comm] at a
  exact Int.le_of_mul_le_mul_left a hA
theorem Sta.init (hA : 0 < tot n w l) (hw : ∀ i, i < n → 0 < w i) : Sta n w l (fun _ => 0) 0 where
  nn := fun _ _ => Int.le_refl _
  off := fun _ _ _ => rfl
  sum := sm_zero n
  up := fun i _ _ => by
    show 0 * tot n w l < w i * 0 + tot n w l
    rw [Int.zero_mul, Int.mul_zero]; omega
  dem := fun b hb => owed_sum_le hA _ fun i hi => owed_mul_le hA (Int.le_of_lt (hw i hi)) hb fun _ => by
    show w i * 0 ≤ 0 * tot n w l
    rw [Int.zero_mul, Int.mul_zero]; exact Int.le_refl _
theorem Sta.low (S : Sta n w l x t) (hA : 0 < tot n w l) {i : Nat} (hi : i < n) (h : 0 < l i) : w i * t < x i * tot n w l + tot n w l := by
  have a := S.dem t (Int.le_refl _)
  have b := le_sm (n := n) (f := owed w l x (tot n w l) t) (fun i _ => owed_nonneg) hi
  have c : owed w l x (tot n w l) t i ≤ 0 := by omega
  unfold owed at c
  rw [if_pos h] at c
  have d : w i * t / tot n w l < x i + 1 := by omega
  have e := (Int.ediv_lt_iff_lt_mul hA).mp d
  rw [Int.add_mul, Int.one_mul] at e
  exact e
theorem Sta.some (S : Sta n w l x t) (hA : 0 < tot n w l) : ∃ i, i < n ∧ 0 < l i ∧ x i * tot n w l < w i * (t + 1) := by
  by_cases h : ∃ i, i < n ∧ 0 < l i ∧ x i * tot n w l < w i * (t + 1)
  · exact h
  · exfalso
    have a : tot n w l * (t + 1) ≤ sm n x * tot n w l := by
      show sm n (fun i => if 0 < l i then w i else 0) * (t + 1) ≤ _
      rw [← sm_mul, ← sm_mul]
      refine sm_le fun i hi => ?_
      by_cases q : 0 < l i
      · rw [if_pos q]
        exact Int.not_lt.mp fun z => h ⟨i, hi, q, z⟩
      · rw [if_neg q, S.off i hi q, Int.zero_mul, Int.zero_mul]; exact Int.le_refl _
    rw [S.sum, Int.mul_comm] at a
    have b := Int.le_of_mul_le_mul_right a hA
    omega
theorem Sta.step (S : Sta n w l x t) (hA : 0 < tot n w l) (hw : ∀ i, i < n → 0 < w i) (P : Pick n w l x t j) : Sta n w l (bump x j 1) (t + 1) where
  nn := fun i hi => by
    have := S.nn i hi
    by_cases e : i = j
    · subst e; rw [bump_same]; omega
    · rw [bump_ne e]; exact this
  off := fun i hi h => by
    by_cases e : i = j
    · subst e; exact absurd P.act h
    · rw [bump_ne e]; exact S.off i hi h
  sum := by rw [sm_bump P.lt, S.sum]
  up := fun i hi h => by
    by_cases e : i = j
    · subst e
      rw [bump_same, Int.add_mul, Int.one_mul]
      have := P.may
      omega
    · rw [bump_ne e, Int.mul_add, Int.mul_one]
      have a := S.up i hi h
      have b := hw i hi
      omega
  dem := fun b hb => by
    by_cases hd : due (tot n w l) (w j) (x j) ≤ b
    · -- the one that is placed was owed by b
      have h1 := (due_le (hw j P.lt)).mp hd
      have h2 : x j + 1 ≤ w j * b / tot n w l := (Int.le_ediv_iff_mul_le hA).mpr h1
      have e : sm n (owed w l (bump x j 1) (tot n w l) b) = sm n (bump (owed w l x (tot n w l) b) j (-1)) := sm_congr fun i hi => by
        by_cases q : i = j
        · subst q
          rw [bump_same]
          unfold owed
          rw [if_pos P.act, if_pos P.act, bump_same]
          omega
        · rw [bump_ne q]
          unfold owed
          rw [bump_ne q]
      rw [e, sm_bump P.lt]
      have := S.dem b (by omega)
      omega
    · -- nothing that may come now is owed by b
      refine owed_sum_le hA (c := t + 1) _ fun i hi => ?_
      have mono : owed w l (bump x j 1) (tot n w l) b i ≤ owed w l x (tot n w l) b i := by
        unfold owed
        by_cases q : i = j
        · subst q
          rw [bump_same]
          split <;> omega
        · rw [bump_ne q]; exact Int.le_refl _
      refine Int.le_trans (Int.mul_le_mul_of_nonneg_right mono (Int.le_of_lt hA)) ?_
      by_cases h : 0 < l i
      · by_cases el : x i * tot n w l < w i * (t + 1)
        · have d := P.first i hi h el
          have d2 : ¬ due (tot n w l) (w i) (x i) ≤ b := by omega
          have d3 : w i * b < (x i + 1) * tot n w l := Int.not_le.mp fun z => d2 ((due_le (hw i hi)).mpr z)
          have d4 : w i * b / tot n w l < x i + 1 := (Int.ediv_lt_iff_lt_mul hA).mpr d3
          have z : owed w l x (tot n w l) b i = 0 := by
            unfold owed
            rw [if_pos h]; omega
          rw [z, Int.zero_mul, if_pos h]
          exact Int.mul_nonneg (Int.le_of_lt (hw i hi)) (by omega)
        · exact owed_mul_le hA (Int.le_of_lt (hw i hi)) hb fun _ => Int.not_lt.mp el
      · exact owed_mul_le hA (Int.le_of_lt (hw i hi)) hb fun q => absurd q h
end
/-! ### the choice of a turn: a walk over the places -/
def Elig (n : Nat) (w l x : Nat → Int) (t : Int) (i : Nat) : Prop := 0 < l i ∧ x i * tot n w l < w i * (t + 1)
def Best (n : Nat) (w l x : Nat → Int) (t : Int) (k : Nat) (b d : Int) : Prop :=
  (b = -1 ∧ ∀ i, i < k → ¬ Elig n w l x t i) ∨
  ∃ j : Nat, j < k ∧ b = (j : Int) ∧ d = due (tot n w l) (w j) (x j) ∧ Elig n w l x t j ∧ ∀ i, i < k → Elig n w l x t i → due (tot n w l) (w j) (x j) ≤ due (tot n w l) (w i) (x i)
section
variable {n : Nat} {w l x : Nat → Int} {t b d : Int} {k : Nat}
theorem Best.init : Best n w l x t 0 (-1) d := .inl ⟨rfl, fun i hi => absurd hi (Nat.not_lt_zero i)⟩
theorem Best.skip (B : Best n w l x t k b d) (h : ¬ Elig n w l x t k) : Best n w l x t (k + 1) b d := by
  rcases B with ⟨e, z⟩ | ⟨j, hj, e, ed, el, z⟩
  · refine .inl ⟨e, fun i hi => ?_⟩
    by_cases q : i = k
    · rw [q]; exact h
    · exact z i (by omega)
  · refine .inr ⟨j, by omega, e, ed, el, fun i hi hel => ?_⟩
    by_cases q : i = k
    · rw [q] at hel; exact absurd hel h
    · exact z i (by omega) hel
theorem Best.take (B : Best n w l x t k b d) (h : Elig n w l x t k) (c : b < 0 ∨ due (tot n w l) (w k) (x k) < d) : Best n w l x t (k + 1) (k : Int) (due (tot n w l) (w k) (x k)) := by
  refine .inr ⟨k, by omega, rfl, rfl, h, fun i hi hel => ?_⟩
  by_cases q : i = k
  · rw [q]; exact Int.le_refl _
  · rcases B with ⟨_, z⟩ | ⟨j, hj, e, ed, el, z⟩
    · exact absurd hel (z i (by omega))
    · have a := z i (by omega) hel
      rcases c with c | c
      · omega
      · omega
theorem Best.keep (B : Best n w l x t k b d) (_ : Elig n w l x t k) (c : ¬ b < 0) (c2 : ¬ due (tot n w l) (w k) (x k) < d) : Best n w l x t (k + 1) b d := by
  rcases B with ⟨e, z⟩ | ⟨j, hj, e, ed, el, z⟩
  · omega
  · refine .inr ⟨j, by omega, e, ed, el, fun i hi hel => ?_⟩
    by_cases q : i = k
    · rw [q]; omega
    · exact z i (by omega) hel
theorem Best.pick (B : Best n w l x t n b d) (h : ∃ i, i < n ∧ Elig n w l x t i) : ∃ j : Nat, b = (j : Int) ∧ Pick n w l x t j := by
  rcases B with ⟨_, z⟩ | ⟨j, hj, e, _, el, z⟩
  · obtain ⟨i, hi, q⟩ := h
    exact absurd q (z i hi)
  · exact ⟨j, e, hj, el.1, el.2, fun i hi h1 h2 => z i hi ⟨h1, h2⟩⟩
end
/-! ### how often a source stands in a row; what is left behind it -/
def cn (row : List Nat) : Nat → Int := fun i => ((row.count i : Nat) : Int)
theorem cn_nil : cn [] = fun _ => 0 := rfl
theorem cn_snoc (row : List Nat) (s : Nat) : cn (row ++ [s]) = bump (cn row) s 1 := by
  funext i
  unfold cn
  rw [List.count_append]
  by_cases e : i = s
  · subst e
    have h : List.count i [i] = 1 := by simp
    rw [h, bump_same]; omega
  · have h : List.count i [s] = 0 := by simp [Ne.symm e]
    rw [h, bump_ne e]; omega
theorem cn_nonneg (row : List Nat) (i : Nat) : 0 ≤ cn row i := Int.natCast_nonneg _
theorem cn_take (row : List Nat) (t i : Nat) : cn (row.take t) i ≤ cn row i := by
  unfold cn
  have := List.Sublist.count_le (l₁ := row.take t) (l₂ := row) i (List.take_sublist t row)
  omega
def aft (l : Nat → Int) (row : List Nat) : Nat → Int := fun i => l i - cn row i
theorem aft_nil (l : Nat → Int) : aft l [] = l := by
  funext i
  show l i - 0 = l i
  omega
theorem aft_snoc (l : Nat → Int) (row : List Nat) (s : Nat) : aft l (row ++ [s]) = bump (aft l row) s (-1) := by
  funext i
  unfold aft
  rw [cn_snoc]
  by_cases e : i = s
  · subst e; rw [bump_same, bump_same]; omega
  · rw [bump_ne e, bump_ne e]
theorem aft_append (l : Nat → Int) (a b : List Nat) : aft l (a ++ b) = aft (aft l a) b := by
  funext i
  unfold aft cn
  rw [List.count_append]; omega
theorem take_snoc {α : Type} {xs : List α} {i : Nat} {v : α} (h : xs[i]? = some v) : xs.take (i + 1) = xs.take i ++ [v] := by
  rw [List.take_add_one, h]; rfl
/-! ### what is asked of a phase -/
def Beg (n : Nat) (w l x : Nat → Int) (t : Int) : Prop := ∀ i, i < n →
  (0 < l i → x i * tot n w l < w i * t + tot n w l ∧ w i * t < x i * tot n w l + tot n w l) ∧ (¬ 0 < l i → x i ≤ 0)
structure PhaseOK (n : Nat) (w l : Nat → Int) (row : List Nat) : Prop where
  ne : 0 < row.length
  rng : ∀ s ∈ row, s < n
  beg : ∀ t, t ≤ row.length → Beg n w l (cn (row.take t)) t
  le : ∀ i, i < n → cn row i ≤ l i
  sum : sm n (cn row) = row.length
structure Going (n : Nat) (w l : Nat → Int) (row : List Nat) : Prop where
  st : Sta n w l (cn row) row.length
  rng : ∀ s ∈ row, s < n
  below : ∀ i, i < n → 0 < l i → cn row i < l i
  beg : ∀ t, t ≤ row.length → Beg n w l (cn (row.take t)) t
section
variable {n : Nat} {w l x : Nat → Int} {t : Int} {j : Nat} {row : List Nat}
theorem Sta.beg (S : Sta n w l x t) (hA : 0 < tot n w l) : Beg n w l x t := fun i hi =>
  ⟨fun h => ⟨S.up i hi h, S.low hA hi h⟩, fun h => by rw [S.off i hi h]; exact Int.le_refl _⟩
theorem tot_pos (hw : ∀ i, i < n → 0 < w i) (hl : 0 < sm n l) : 0 < tot n w l := by
  by_cases h : ∃ i, i < n ∧ 0 < l i
  · obtain ⟨i, hi, q⟩ := h
    have a := le_sm (n := n) (f := fun i => if 0 < l i then w i else 0) (fun k hk => by
      have := hw k hk
      show 0 ≤ if 0 < l k then w k else 0
      split <;> omega) hi
    rw [if_pos q] at a
    have := hw i hi
    show 0 < sm n fun i => if 0 < l i then w i else 0
    omega
  · exfalso
    have a := sm_le (n := n) (f := l) (g := fun _ => 0) fun i hi => Int.not_lt.mp fun q => h ⟨i, hi, q⟩
    rw [sm_zero] at a
    omega
theorem act_of (hl : 0 < sm n l) : ∃ i, i < n ∧ 0 < l i := by
  by_cases h : ∃ i, i < n ∧ 0 < l i
  · exact h
  · exfalso
    have a := sm_le (n := n) (f := l) (g := fun _ => 0) fun i hi => Int.not_lt.mp fun q => h ⟨i, hi, q⟩
    rw [sm_zero] at a
    omega
theorem Going.init (hA : 0 < tot n w l) (hw : ∀ i, i < n → 0 < w i) : Going n w l [] where
  st := Sta.init hA hw
  rng := fun s hs => absurd hs List.not_mem_nil
  below := fun i _ h => h
  beg := fun t ht => by
    have e : t = 0 := Nat.le_zero.mp ht
    subst e
    exact (Sta.init hA hw).beg hA
theorem beg_snoc {row : List Nat} {s : Nat} (h : ∀ t, t ≤ row.length → Beg n w l (cn (row.take t)) t) (h' : Beg n w l (cn (row ++ [s])) ((row ++ [s]).length : Nat)) :
    ∀ t, t ≤ (row ++ [s]).length → Beg n w l (cn ((row ++ [s]).take t)) t := fun t ht => by
  by_cases e : t ≤ row.length
  · rw [List.take_append_of_le_length e]; exact h t e
  · have q : t = (row ++ [s]).length := by
      rw [List.length_append, List.length_singleton] at ht ⊢; omega
    rw [q, List.take_length]
    exact h'
theorem Going.st_snoc (G : Going n w l row) (hA : 0 < tot n w l) (hw : ∀ i, i < n → 0 < w i) (P : Pick n w l (cn row) row.length j) : Sta n w l (cn (row ++ [j])) ((row ++ [j]).length : Nat) := by
  have a := G.st.step hA hw P
  rw [cn_snoc]
  have e : (((row ++ [j]).length : Nat) : Int) = (row.length : Int) + 1 := by rw [List.length_append, List.length_singleton]; omega
  rw [e]
  exact a
theorem rng_snoc (h : ∀ s ∈ row, s < n) (hj : j < n) : ∀ s ∈ row ++ [j], s < n := fun s hs => by
  rcases List.mem_append.mp hs with q | q
  · exact h s q
  · rw [List.mem_singleton.mp q]; exact hj
theorem Going.step (G : Going n w l row) (hA : 0 < tot n w l) (hw : ∀ i, i < n → 0 < w i) (P : Pick n w l (cn row) row.length j) (h : cn row j + 1 ≠ l j) : Going n w l (row ++ [j]) where
  st := G.st_snoc hA hw P
  rng := rng_snoc G.rng P.lt
  below := fun i hi q => by
    have a := G.below i hi q
    rw [cn_snoc]
    by_cases e : i = j
    · subst e; rw [bump_same]; omega
    · rw [bump_ne e]; exact a
  beg := beg_snoc G.beg ((G.st_snoc hA hw P).beg hA)
theorem Going.last (G : Going n w l row) (hA : 0 < tot n w l) (hw : ∀ i, i < n → 0 < w i) (hl : ∀ i, i < n → 0 ≤ l i) (P : Pick n w l (cn row) row.length j) : PhaseOK n w l (row ++ [j]) where
  ne := by rw [List.length_append, List.length_singleton]; omega
  rng := rng_snoc G.rng P.lt
  beg := beg_snoc G.beg ((G.st_snoc hA hw P).beg hA)
  le := fun i hi => by
    rw [cn_snoc]
    by_cases q : 0 < l i
    · have a := G.below i hi q
      by_cases e : i = j
      · subst e; rw [bump_same]; omega
      · rw [bump_ne e]; omega
    · have e : i ≠ j := fun e => q (by rw [e]; exact P.act)
      have a := G.st.off i hi q
      have b := hl i hi
      rw [bump_ne e]; omega
  sum := (G.st_snoc hA hw P).sum
theorem Going.short (G : Going n w l row) (hl : ∀ i, i < n → 0 ≤ l i) (hs : 0 < sm n l) : (row.length : Int) < sm n l := by
  obtain ⟨i, hi, q⟩ := act_of hs
  rw [← G.st.sum]
  refine sm_lt (fun k hk => ?_) hi (G.below i hi q)
  by_cases z : 0 < l k
  · exact Int.le_of_lt (G.below k hk z)
  · rw [G.st.off k hk z]; exact hl k hk
theorem Going.elig (G : Going n w l row) (hA : 0 < tot n w l) : ∃ i, i < n ∧ Elig n w l (cn row) row.length i := by
  obtain ⟨i, hi, a, b⟩ := G.st.some hA
  exact ⟨i, hi, a, b⟩
/-! ### all the phases -/
structure Run (n : Nat) (w c : Nat → Int) (rows : List (List Nat)) : Prop where
  ok : ∀ (k : Nat) (row : List Nat), rows[k]? = some row → PhaseOK n w (aft c (rows.take k).flatten) row
variable {c : Nat → Int} {rows : List (List Nat)}
theorem Run.nil : Run n w c [] := ⟨fun k row h => by simp at h⟩
theorem Run.snoc (R : Run n w c rows) (P : PhaseOK n w (aft c rows.flatten) row) : Run n w c (rows ++ [row]) := ⟨fun k r h => by
  by_cases e : k < rows.length
  · rw [List.getElem?_append_left e] at h
    rw [List.take_append_of_le_length (Nat.le_of_lt e)]
    exact R.ok k r h
  · have q : k = rows.length := by
      have := (List.getElem?_eq_some_iff.mp h).1
      rw [List.length_append, List.length_singleton] at this
      omega
    subst q
    rw [List.getElem?_append_right (Nat.le_refl _), Nat.sub_self] at h
    have z : row = r := Option.some.inj h
    subst z
    rw [List.take_append_of_le_length (Nat.le_refl _), List.take_length]
    exact P⟩
theorem flatten_snoc (rows : List (List Nat)) (row : List Nat) : (rows ++ [row]).flatten = rows.flatten ++ row := by simp
theorem PhaseOK.left (P : PhaseOK n w l row) : ∀ i, i < n → 0 ≤ aft l row i := fun i hi => by
  have := P.le i hi
  unfold aft; omega
theorem PhaseOK.rest (P : PhaseOK n w l row) : sm n (aft l row) = sm n l - row.length := by
  rw [← P.sum]
  exact sm_sub n l (cn row)
theorem aft_le (l : Nat → Int) (row : List Nat) (i : Nat) : aft l row i ≤ l i := by
  have := cn_nonneg row i
  unfold aft; omega
theorem Run.nonneg (R : Run n w c rows) (hc : ∀ i, i < n → 0 ≤ c i) : ∀ (k : Nat), k ≤ rows.length → ∀ i, i < n → 0 ≤ aft c (rows.take k).flatten i
  | 0, _, i, hi => by
    rw [List.take_zero, List.flatten_nil, aft_nil]; exact hc i hi
  | k + 1, hk, i, hi => by
    have e : rows[k]? = some rows[k] := List.getElem?_eq_getElem hk
    rw [take_snoc e, flatten_snoc, aft_append]
    exact (R.ok k _ e).left i hi
end
end Fair
/-! The walk, part 1: the text by places, small lemmas, due, _total, _next_source. -/
namespace My
open PySem L2 Fair
def top (i : Nat) : Stmt := PySem.Challenge.pw_corpuskeep_k46_pages_whole_fair.main.body.getD i (.Pass ⟨0, 0, 0, 0⟩)
abbrev sDue : Stmt := top 1
abbrev sTot : Stmt := top 2
abbrev sNext : Stmt := top 3
abbrev sFirst : Stmt := top 4
abbrev sPhases : Stmt := top 5
abbrev sCell : Stmt := top 7
abbrev sIsInt : Stmt := top 8
abbrev sWts : Stmt := top 9
abbrev sCnts : Stmt := top 10
abbrev sAre : Stmt := top 11
abbrev sBeg : Stmt := top 12
abbrev sLaw : Stmt := top 13
/-- the built-in names that the program leaves as they are -/
structure Txt (mg : Str → Option Value) : Prop where
  len : mg "len" = none
  range : mg "range" = none
  sum : mg "sum" = none
  list : mg "list" = none
  int : mg "int" = none
  bool : mg "bool" = none
  isi : mg "isinstance" = none
/-! ### lists of ints told by functions -/
abbrev lv (n : Nat) (f : Nat → Int) : List V := (li n f).map V.int
theorem lv_len (n : Nat) (f : Nat → Int) : (lv n f).length = n := by rw [List.length_map, li_length]
theorem lv_get {n i : Nat} {f : Nat → Int} (h : i < n) : (lv n f)[i]? = some (.int (f i)) := by
  rw [List.getElem?_map, li_get h]; rfl
theorem lv_at {n i : Nat} {f : Nat → Int} {z : Int} (e : z = (i : Int)) (h : i < n) : atI (lv n f) z = some (.int (f i)) := at_of e (lv_get h)
theorem ix_nat {n i : Nat} {z : Int} (e : z = (i : Int)) (h : i < n) : ixN n z = some i := by
  unfold ixN
  rw [if_pos (by omega), if_pos (by omega), e]; rfl
theorem lv_ix {n i : Nat} {f : Nat → Int} {z : Int} (e : z = (i : Int)) (h : i < n) : ixN (lv n f).length z = some i := by
  rw [lv_len]; exact ix_nat e h
theorem lv_bump {n j : Nat} {f : Nat → Int} {c v : Int} (hv : v = f j + c) : (lv n f).set j (.int v) = lv n (bump f j c) := by
  rw [← List.map_set, li_bump hv]
theorem lv_congr {n : Nat} {f g : Nat → Int} (h : ∀ i, i < n → f i = g i) : lv n f = lv n g := by rw [lv, li_congr h]
theorem lv_snoc (n : Nat) (f : Nat → Int) (z : Int) : lv n f ++ [.int z] = lv (n + 1) (fun k => if k = n then z else f k) := by
  have a : li (n + 1) (fun k => if k = n then z else f k) = li n f ++ [z] := by
    rw [li_succ]
    have b : li n (fun k => if k = n then z else f k) = li n f := li_congr fun i hi => if_neg (Nat.ne_of_lt hi)
    rw [b, if_pos rfl]
  rw [lv, lv, a, List.map_append]; rfl
theorem same_new {H : Hp} {p : Addr} (h : H p = none) (o : HO) : Same H (upd H p o) := fun b u q => by rw [upd_ne (ne_of_none q h)]; exact q
theorem size_of {n : Nat} (h : n ≤ 1000) : n ≤ sizeLine := Nat.le_of_lt (small1000 h)
/-! ### xs[j] += e of a tracked list: the read -/
def rGetL (K : PySem.W.Frag) : V → V → Hp → VK → Prop := fun o i H Q => ∃ p xs k v, o = .ref p ∧ i = .int k ∧ SqL K H p xs ∧ 0 ≤ k ∧ atI xs k = some v ∧ Q v H
theorem get_list {X : Cx} : PGet X (rGetL X.K) := by
  intro pins s σ H o i ov iv Q I ro ri h
  obtain ⟨p, xs, k, v, rfl, rfl, hq, h0, he, q⟩ := h
  cases ro
  obtain ⟨t, rfl⟩ := ri
  obtain ⟨its, r, pl, hz⟩ := I.list hq
  obtain ⟨j, h1, h2, h3, h4, h5⟩ := atI_get he
  obtain ⟨w, ew, rw'⟩ := r.get h2
  have hl := r.length
  have hn := line63
  have fin : EP X pins σ Q w s := ⟨v, H, I, rw', q⟩
  have hj : k.toNat = j := by
    rw [PySem.seqIndex_of h0 h5] at h1
    exact Option.some.inj h1
  exact wpAny_getItem_list pl.isList h0 (by omega) (by rw [hj]; simpa using ew) fin
section
variable {P : Program} {w : World} {K : PySem.W.Frag} {mg : Str → Option Value} {base : Heap}
/-! ### due -/
def spDue : Sp := fun vs H Q _ => ∃ A w x : Int, vs = [.int A, .int w, .int x] ∧ 0 < w ∧ w < 1073741824 ∧ (-(2 ^ 64) < x + 1 ∧ x + 1 < 2 ^ 64) ∧ Q (.int (due A w x)) H
theorem scDue : FnScope ["total", "weight", "placed"] ["total", "weight", "placed"] (defScope sDue) := ⟨rfl, rfl, rfl, by decide +kernel, rfl, by decide +kernel, by decide +kernel⟩
theorem ok_due {f : Addr} {fd : FuncData} (F : Fun K "due" "due" sDue f fd) : FnOk P w K mg base CX0 1 f fd ["total", "weight", "placed"] spDue := by
  refine F.ok scDue (fun vs H Q E h => ?_) (fun cdv A outer s H vs Q E hr h => ?_)
  · obtain ⟨A, w, x, rfl, _⟩ := h
    rfl
  obtain ⟨A, w, x, rfl, h1, h2, h3, q⟩ := h
  refine ⟨_, pss_one (ps_ret (pe_op op_fdiv (pe_op op_sub (pe_op op_add (pe_op op_mul (pe_op op_add (pv 2) pe_int) (pv 0)) (pv 1)) pe_int) (pv 1))), ?_⟩
  refine ⟨_, rfl, _, _, rfl, rfl, _, rfl, _, _, rfl, rfl, .inl h3, _, rfl, _, _, rfl, rfl, _, _, rfl, rfl, _, rfl, _, _, rfl, rfl, ⟨h1, h2⟩, ?_⟩
  exact q
/-! ### _total -/
def spTot (K : PySem.W.Frag) : Sp := fun vs H Q _ => ∃ (a b : Addr) (n : Nat) (w l : Nat → Int), vs = [.ref a, .ref b] ∧ SqL K H a (lv n w) ∧ SqL K H b (lv n l) ∧ n ≤ 8 ∧ Q (.int (tot n w l)) H
theorem scTot : FnScope ["weights", "left", "total", "index"] ["weights", "left"] (defScope sTot) := ⟨rfl, rfl, rfl, by decide +kernel, rfl, by decide +kernel, by decide +kernel⟩
theorem tot_on {w l : Nat → Int} {i : Nat} (h : 0 < l i) : tot (i + 1) w l = tot i w l + w i := by
  show tot i w l + (if 0 < l i then w i else 0) = _
  rw [if_pos h]
theorem tot_off {w l : Nat → Int} {i : Nat} (h : ¬ 0 < l i) : tot (i + 1) w l = tot i w l := by
  show tot i w l + (if 0 < l i then w i else 0) = _
  rw [if_neg h, Int.add_zero]
theorem ok_tot {f : Addr} {fd : FuncData} (T : Txt mg) (F : Fun K "_total" "_total" sTot f fd) : FnOk P w K mg base CX0 1 f fd ["weights", "left"] (spTot K) := by
  refine F.ok scTot (fun vs H Q E h => ?_) (fun cdv A outer s H vs Q E hr h => ?_)
  · obtain ⟨a, b, n, w, l, rfl, _⟩ := h
    rfl
  obtain ⟨a, b, n, w, l, rfl, ha, hb, hn, q⟩ := h
  refine ⟨_, pss_cons (ps_set (i := 2) scTot.nd rfl (Or.inl rfl) pe_int)
    (pss_cons (ps_for PassesOwn.never rfl (pi_range1 rfl T.range (pa_cons (pe_callB call_len_seq rfl T.len PySem.boot_len (pa_cons (pv 0) pa_nil)) pa_nil)) (pg_name (i := 3) scTot.nd rfl (Or.inl rfl))
      (pss_one (ps_if (pt_cmpR op_gt (pe_ix ix_list (pv 1) (pv 3) (fun _ _ => rfl)) pe_int (nomark _))
        (pss_one (ps_aug (i := 2) scTot.nd rfl (Or.inl rfl) (pe_ix ix_list (pv 0) (pv 3) (fun _ _ => rfl)) ip_add)) pss_nil)))
    (pss_one (ps_ret (pv 2)))), ?_⟩
  refine ⟨_, rfl, a, _, rfl, .inl ha, (n : Int), (by rw [lv_len]), by omega, by omega, for_range (lo := 0) (n := n)
    (fun k σ H' => H' = H ∧ ∃ v3, σ = [some (.ref a), some (.ref b), some (.int (tot k w l)), v3]) ⟨rfl, none, rfl⟩ ?_ ?_⟩
  · rintro i σ H' hi ⟨rfl, v3, rfl⟩
    refine ⟨_, rfl, _, rfl, b, _, _, _, rfl, rfl, hb, lv_at (Int.zero_add _) hi, _, _, rfl, rfl, _, rfl, ?_⟩
    refine ite2 (fun c => ?_) (fun c => ?_)
    · have c' := of_decide_eq_true c
      refine ⟨_, rfl, _, rfl, _, rfl, a, _, _, _, rfl, rfl, ha, lv_at (Int.zero_add _) hi, _, _, rfl, rfl, ?_⟩
      exact ⟨rfl, some (.int (0 + (i : Int))), by rw [tot_on c']; rfl⟩
    · have c' := of_decide_eq_false (Bool.eq_false_iff.mpr c)
      exact ⟨rfl, some (.int (0 + (i : Int))), by rw [tot_off c']; rfl⟩
  · rintro σ H' ⟨rfl, v3, rfl⟩
    exact ⟨_, rfl, q⟩
end
end My
/-! The walk, part 2: _next_source. -/
namespace My
open PySem L2 Fair
section
variable {P : Program} {w : World} {K : PySem.W.Frag} {mg : Str → Option Value} {base : Heap}
def spNext (K : PySem.W.Frag) : Sp := fun vs H Q _ => ∃ (a b c : Addr) (n : Nat) (w l x : Nat → Int) (t : Int), vs = [.ref a, .ref b, .ref c, .int t] ∧ SqL K H a (lv n w) ∧ SqL K H b (lv n l) ∧ SqL K H c (lv n x) ∧ n ≤ 8 ∧
  (∀ i, i < n → 0 < w i ∧ w i ≤ 1000) ∧ (∀ i, i < n → 0 ≤ x i ∧ x i ≤ 1000000) ∧ (∃ i, i < n ∧ Elig n w l x t i) ∧ ∀ j : Nat, Pick n w l x t j → Q (.int (j : Int)) H
theorem scNext : FnScope ["weights", "left", "placed", "turn", "total", "best", "best_due", "index", "when"] ["weights", "left", "placed", "turn"] (defScope sNext) := ⟨rfl, rfl, rfl, by decide +kernel, rfl, by decide +kernel, by decide +kernel⟩
theorem ok_next {f fT fD : Addr} {fd fdT fdD : FuncData} (T : Txt mg) (F : Fun K "_next_source" "_next_source" sNext f fd)
    (FT : Fun K "_total" "_total" sTot fT fdT) (bT : Binds K fdT ["weights", "left"] []) (mT : mg "_total" = some (.ref fT))
    (FD : Fun K "due" "due" sDue fD fdD) (bD : Binds K fdD ["total", "weight", "placed"] []) (mD : mg "due" = some (.ref fD)) :
    FnOk P w K mg base CX0 2 f fd ["weights", "left", "placed", "turn"] (spNext K) := by
  have GT : FnOk P w K mg base CX0 1 fT fdT ["weights", "left"] (spTot K) := ok_tot T FT
  have GD : FnOk P w K mg base CX0 1 fD fdD ["total", "weight", "placed"] spDue := ok_due FD
  refine F.ok scNext (fun vs H Q E h => ?_) (fun cdv A outer s H vs Q E hr h => ?_)
  · obtain ⟨a, b, c, n, w, l, x, t, rfl, _⟩ := h
    rfl
  obtain ⟨a, b, c, n, w, l, x, t, rfl, ha, hb, hc, hn, hw, hx, hel, q⟩ := h
  refine ⟨_, pss_cons (ps_set (i := 4) scNext.nd rfl (Or.inl rfl) (pe_call GT hr rfl mT FT.kp bT .nil pass0 (pa_cons (pv 0) (pa_cons (pv 1) pa_nil))))
    (pss_cons (ps_set (i := 5) scNext.nd rfl (Or.inl rfl) (pe_un un_neg pe_int))
    (pss_cons (ps_set (i := 6) scNext.nd rfl (Or.inl rfl) pe_int)
    (pss_cons (ps_for PassesOwn.never rfl (pi_range1 rfl T.range (pa_cons (pe_callB call_len_seq rfl T.len PySem.boot_len (pa_cons (pv 0) pa_nil)) pa_nil)) (pg_name (i := 7) scNext.nd rfl (Or.inl rfl))
      (pss_one (ps_if (PW.pt (pw_and (pt_cmpR op_gt (pe_ix ix_list (pv 1) (pv 7) (fun _ _ => rfl)) pe_int (nomark _))
            (pw_and1 (pt_cmpR op_lt (pe_op op_mul (pe_ix ix_list (pv 2) (pv 7) (fun _ _ => rfl)) (pv 4)) (pe_op op_mul (pe_ix ix_list (pv 0) (pv 7) (fun _ _ => rfl)) (pe_op op_add (pv 3) pe_int)) (nomark _)))))
        (pss_cons (ps_set (i := 8) scNext.nd rfl (Or.inl rfl) (pe_call GD hr rfl mD FD.kp bD .nil pass0 (pa_cons (pv 4) (pa_cons (pe_ix ix_list (pv 0) (pv 7) (fun _ _ => rfl)) (pa_cons (pe_ix ix_list (pv 2) (pv 7) (fun _ _ => rfl)) pa_nil)))))
        (pss_one (ps_if (PW.pt (pw_or (pt_cmpR op_lt (pv 5) pe_int (nomark _)) (pw_or1 (pt_cmpR op_lt (pv 8) (pv 6) (nomark _)))))
          (pss_cons (ps_set (i := 5) scNext.nd rfl (Or.inl rfl) (pv 7)) (pss_one (ps_set (i := 6) scNext.nd rfl (Or.inl rfl) (pv 8)))) pss_nil))) pss_nil)))
    (pss_one (ps_ret (pv 5)))))), ?_⟩
  refine ⟨_, rfl, _, rfl, a, b, n, w, l, rfl, ha, hb, hn, _, rfl, ?_⟩
  refine ⟨_, rfl, a, _, rfl, .inl ha, (n : Int), (by rw [lv_len]), by omega, by omega, for_range (lo := 0) (n := n)
    (fun k σ H' => H' = H ∧ ∃ (bi d : Int) (v7 v8 : Option V), σ = [some (.ref a), some (.ref b), some (.ref c), some (.int t), some (.int (tot n w l)), some (.int bi), some (.int d), v7, v8] ∧ Best n w l x t k bi d)
    ⟨rfl, -1, 0, none, none, rfl, Best.init⟩ ?_ ?_⟩
  · rintro i σ H' hi ⟨rfl, bi, d, v7, v8, rfl, B⟩
    have x64 : -(2 ^ 64) < x i ∧ x i < 2 ^ 64 := by have := hx i hi; omega
    have x64' : -(2 ^ 64) < x i + 1 ∧ x i + 1 < 2 ^ 64 := by have := hx i hi; omega
    have w64 : -(2 ^ 64) < w i ∧ w i < 2 ^ 64 := by have := hw i hi; omega
    have w30 : 0 < w i ∧ w i < 1073741824 := by have := hw i hi; omega
    refine ⟨_, rfl, _, rfl, b, _, _, _, rfl, rfl, hb, lv_at (Int.zero_add _) hi, _, _, rfl, rfl, _, rfl, ?_⟩
    refine ite2 (fun c1 => ?_) (fun c1 => ?_)
    · have c1' := of_decide_eq_true c1
      refine ⟨_, rfl, _, rfl, c, _, _, _, rfl, rfl, hc, lv_at (Int.zero_add _) hi, _, rfl, _, _, rfl, rfl, .inl x64,
        _, rfl, _, rfl, a, _, _, _, rfl, rfl, ha, lv_at (Int.zero_add _) hi, _, rfl, _, _, rfl, rfl, _, _, rfl, rfl, .inl w64, _, _, rfl, rfl, _, rfl, ?_⟩
      refine ite2 (fun c2 => ?_) (fun c2 => ?_)
      · have el : Elig n w l x t i := ⟨c1', of_decide_eq_true c2⟩
        refine ⟨_, rfl, _, rfl, _, rfl, a, _, _, _, rfl, rfl, ha, lv_at (Int.zero_add _) hi, _, rfl, _, rfl, c, _, _, _, rfl, rfl, hc, lv_at (Int.zero_add _) hi,
          _, _, _, rfl, w30.1, w30.2, x64', ?_⟩
        refine ⟨_, rfl, _, _, rfl, rfl, _, rfl, ?_⟩
        refine ite2 (fun c3 => ?_) (fun c3 => ?_)
        · have c3' : bi < 0 := of_decide_eq_true c3
          refine ⟨_, rfl, _, rfl, rfl, 0 + (i : Int), _, _, _, rfl, ?_⟩
          rw [Int.zero_add]
          exact B.take el (.inl c3')
        · have c3' : ¬ bi < 0 := of_decide_eq_false (Bool.eq_false_iff.mpr c3)
          refine ⟨_, rfl, _, rfl, _, _, rfl, rfl, _, rfl, ?_⟩
          refine ite2 (fun c4 => ?_) (fun c4 => ?_)
          · refine ⟨_, rfl, _, rfl, rfl, 0 + (i : Int), _, _, _, rfl, ?_⟩
            rw [Int.zero_add]
            exact B.take el (.inr (of_decide_eq_true c4))
          · exact ⟨rfl, bi, d, _, _, rfl, B.keep el c3' (of_decide_eq_false (Bool.eq_false_iff.mpr c4))⟩
      · exact ⟨rfl, bi, d, _, _, rfl, B.skip fun z => (of_decide_eq_false (Bool.eq_false_iff.mpr c2)) z.2⟩
    · exact ⟨rfl, bi, d, _, _, rfl, B.skip fun z => (of_decide_eq_false (Bool.eq_false_iff.mpr c1)) z.1⟩
  · rintro σ H' ⟨rfl, bi, d, v7, v8, rfl, B⟩
    obtain ⟨j, rfl, pk⟩ := B.pick hel
    exact ⟨_, rfl, q j pk⟩
end
end My
/-! The walk, part 3: _first_phase. -/
namespace My
open PySem L2 Fair
/-- a row of sources as the program holds it -/
abbrev rv (row : List Nat) : List V := row.map fun (s : Nat) => V.int (s : Int)
theorem rv_snoc (row : List Nat) (s : Nat) : rv row ++ [.int (s : Int)] = rv (row ++ [s]) := by
  rw [rv, rv, List.map_append]; rfl
theorem li_zero : ∀ n : Nat, li n (fun _ => 0) = List.replicate n 0
  | 0 => rfl
  | n + 1 => by rw [li_succ, li_zero n, List.replicate_succ']
theorem zeros (n : Nat) : (List.replicate n [V.int 0]).flatten = lv n (fun _ => 0) := by
  rw [lv, li_zero, List.map_replicate, List.flatten_replicate_singleton]
theorem sm_bound {n : Nat} {l : Nat → Int} {m : Int} (h : ∀ i, i < n → l i ≤ m) : sm n l ≤ n * m := by
  have a := sm_le (n := n) (f := l) (g := fun _ => 1 * m) fun i hi => by rw [Int.one_mul]; exact h i hi
  rw [sm_mul n (fun _ => 1) m] at a
  have b : ∀ k : Nat, sm k (fun _ => 1) = (k : Int) := fun k => by
    induction k with
    | zero => rfl
    | succ k ih => show sm k (fun _ => 1) + 1 = _; rw [ih]; omega
  rw [b] at a
  exact a
section
variable {P : Program} {w : World} {K : PySem.W.Frag} {mg : Str → Option Value} {base : Heap}
def spFirst (K : PySem.W.Frag) : Sp := fun vs H Q _ => ∃ (a b : Addr) (n : Nat) (w l : Nat → Int), vs = [.ref a, .ref b] ∧ SqL K H a (lv n w) ∧ SqL K H b (lv n l) ∧ n ≤ 8 ∧
  (∀ i, i < n → 0 < w i ∧ w i ≤ 1000) ∧ (∀ i, i < n → 0 ≤ l i ∧ l i ≤ 40) ∧ 0 < sm n l ∧
  ∀ (row : List Nat) (r : Addr) (H' : Hp), PhaseOK n w l row → Same H H' → H r = none → H' r = some (.lst (rv row)) → Q (.ref r) H'
theorem scFirst : FnScope ["weights", "left", "placed", "row", "turn", "source"] ["weights", "left"] (defScope sFirst) := ⟨rfl, rfl, rfl, by decide +kernel, rfl, by decide +kernel, by decide +kernel⟩
theorem ok_first {f fT fD fN : Addr} {fd fdT fdD fdN : FuncData} (T : Txt mg) (F : Fun K "_first_phase" "_first_phase" sFirst f fd)
    (FN : Fun K "_next_source" "_next_source" sNext fN fdN) (bN : Binds K fdN ["weights", "left", "placed", "turn"] []) (mN : mg "_next_source" = some (.ref fN))
    (FT : Fun K "_total" "_total" sTot fT fdT) (bT : Binds K fdT ["weights", "left"] []) (mT : mg "_total" = some (.ref fT))
    (FD : Fun K "due" "due" sDue fD fdD) (bD : Binds K fdD ["total", "weight", "placed"] []) (mD : mg "due" = some (.ref fD)) :
    FnOk P w K mg base CX0 3 f fd ["weights", "left"] (spFirst K) := by
  have GN : FnOk P w K mg base CX0 2 fN fdN ["weights", "left", "placed", "turn"] (spNext K) := ok_next T FN FT bT mT FD bD mD
  refine F.ok scFirst (fun vs H Q E h => ?_) (fun cdv A outer s H vs Q E hr h => ?_)
  · obtain ⟨a, b, n, w, l, rfl, _⟩ := h
    rfl
  obtain ⟨a, b, n, w, l, rfl, ha, hb, hn, hw, hl, hs, q⟩ := h
  refine ⟨_, pss_cons (ps_set (i := 2) scFirst.nd rfl (Or.inl rfl) (pe_op op_rep (pe_lst (pa_cons pe_int pa_nil)) (pe_callB call_len_seq rfl T.len PySem.boot_len (pa_cons (pv 0) pa_nil))))
    (pss_cons (ps_set (i := 3) scFirst.nd rfl (Or.inl rfl) (pe_lst pa_nil))
    (pss_cons (ps_for PassesOwn.never rfl (pi_range1 rfl T.range (pa_cons (pe_callB (cr_sum rfl) rfl T.sum (by decide +kernel) (pa_cons (pv 1) pa_nil)) pa_nil)) (pg_name (i := 4) scFirst.nd rfl (Or.inl rfl))
      (pss_cons (ps_set (i := 5) scFirst.nd rfl (Or.inl rfl) (pe_call GN hr rfl mN FN.kp bN .nil pass0 (pa_cons (pv 0) (pa_cons (pv 1) (pa_cons (pv 2) (pa_cons (pv 4) pa_nil))))))
      (pss_cons (ps_expr (pe_bm PySem.F.plainAttrs_list PySem.F.slot_list_append PySem.F.type_list_append mt_append (pv 3) (pa_cons (pv 5) pa_nil)))
      (pss_cons (ps_augS (pv 2) (pv 5) get_list pe_int ip_add set_list (by intros; rfl))
      (pss_one (ps_if (pt_cmpR op_eq (pe_ix ix_list (pv 2) (pv 5) (fun _ _ => rfl)) (pe_ix ix_list (pv 1) (pv 5) (fun _ _ => rfl)) (nomark _)) (pss_one (ps_ret (pv 3))) pss_nil))))))
    (pss_one (ps_ret (pv 3))))), ?_⟩
  have hA : 0 < tot n w l := tot_pos (fun i hi => (hw i hi).1) hs
  have hw0 : ∀ i, i < n → 0 < w i := fun i hi => (hw i hi).1
  have hl0 : ∀ i, i < n → 0 ≤ l i := fun i hi => (hl i hi).1
  have hsm : sm n l ≤ n * 40 := sm_bound fun i hi => (hl i hi).2
  -- placed = [0] * len(weights); row = []
  refine ⟨(by show 1 ≤ sizeLine; decide), fun p0 n0 => ?_⟩
  have s0 : Same H (upd H p0 (.lst [.int 0])) := same_new n0 _
  refine ⟨_, rfl, a, _, rfl, .inl (s0.seq ha), p0, (n : Int), _, rfl, (by rw [lv_len]), upd_same, by omega, by omega, (by show 1 * n ≤ sizeLine; rw [Nat.one_mul]; exact size_of (by omega)), fun p np => ?_⟩
  have s1 : Same H (upd (upd H p0 (.lst [.int 0])) p (.lst (List.replicate (n : Int).toNat [V.int 0]).flatten)) := s0.trans (same_new np _)
  have hp0 : H p = none := s0.free np
  refine ⟨(by show 0 ≤ sizeLine; decide), fun r nr => ?_⟩
  have hr0 : H r = none := s1.free nr
  have npr : p ≠ r := ne_of_none upd_same nr
  have s2 : Same H (upd (upd (upd H p0 (.lst [.int 0])) p (.lst (List.replicate (n : Int).toNat [V.int 0]).flatten)) r (.lst [])) := s1.trans (same_new nr _)
  -- for turn in range(sum(left))
  refine ⟨_, rfl, b, li n l, rfl, s2.seq hb, sm n l, (by rw [li_sum]), by omega, by omega, for_range (lo := 0) (n := (sm n l).toNat)
    (fun k σ H' => ∃ (row : List Nat) (v4 v5 : Option V), σ = [some (.ref a), some (.ref b), some (.ref p), some (.ref r), v4, v5] ∧ row.length = k ∧ Going n w l row ∧ Same H H' ∧ H' p = some (.lst (lv n (cn row))) ∧ H' r = some (.lst (rv row)))
    ⟨[], none, none, rfl, rfl, Going.init hA hw0, s2, ?_, upd_same⟩ ?_ ?_⟩
  · rw [upd_ne npr, upd_same, cn_nil, ← zeros]; rfl
  · rintro i σ H' hi ⟨row, v4, v5, rfl, hk, G, sm', hp, hrr⟩
    have ei : (0 : Int) + (i : Int) = (row.length : Int) := by omega
    have xb : ∀ i, i < n → 0 ≤ cn row i ∧ cn row i ≤ 1000000 := fun i hi => by
      refine ⟨cn_nonneg row i, ?_⟩
      have hli := hl i hi
      by_cases z : 0 < l i
      · have := G.below i hi z; omega
      · have := G.st.off i hi z; omega
    refine ⟨_, rfl, _, rfl, _, rfl, _, rfl, a, b, p, n, w, l, cn row, (row.length : Int), (by rw [ei]; rfl), sm'.seq ha, sm'.seq hb, SqL.of hp, hn, hw, xb, G.elig hA, fun j pk => ?_⟩
    have hj := pk.lt
    -- row.append(source)
    have len1 : row.length < 1000 := by
      have := G.short hl0 hs; omega
    refine ⟨_, rfl, .inl ⟨rfl, _, SqL.of hrr⟩, _, rfl, r, _, _, rfl, rfl, hrr, small1000 (by rw [List.length_map]; omega), ?_⟩
    -- placed[source] += 1
    refine ⟨_, rfl, _, rfl, p, _, _, _, rfl, rfl, SqL.of (by rw [upd_ne npr]; exact hp), by omega, lv_at rfl hj, _, _, rfl, rfl, p, _, _, j, rfl, rfl, (by rw [upd_ne npr]; exact hp), lv_ix rfl hj, ?_⟩
    have e1 : (lv n (cn row)).set j (.int (cn row j + 1)) = lv n (cn (row ++ [j])) := by rw [lv_bump rfl, cn_snoc]
    rw [e1]
    have s3 : Same H (upd (upd H' r (.lst (rv row ++ [V.int (j : Int)]))) p (.lst (lv n (cn (row ++ [j]))))) := fun d o e => by
      rw [upd_ne (ne_of_none e hp0), upd_ne (ne_of_none e hr0)]
      exact sm' d o e
    have hr3 : upd (upd H' r (.lst (rv row ++ [V.int (j : Int)]))) p (.lst (lv n (cn (row ++ [j])))) r = some (.lst (rv (row ++ [j]))) := by
      rw [upd_ne npr.symm, upd_same, rv_snoc]
    -- if placed[source] == left[source]
    refine ⟨_, rfl, _, rfl, p, _, _, _, rfl, rfl, SqL.of upd_same, lv_at rfl hj, _, rfl, _, rfl, b, _, _, _, rfl, rfl, s3.seq hb, lv_at rfl hj, rfl, _, rfl, ?_⟩
    have ec : cn (row ++ [j]) j = cn row j + 1 := by rw [cn_snoc, bump_same]
    refine ite2 (fun c => ?_) (fun c => ?_)
    · exact ⟨_, rfl, q (row ++ [j]) r _ (G.last hA hw0 hl0 pk) s3 hr0 hr3⟩
    · have c' : ¬ (V.int (cn (row ++ [j]) j) = V.int (l j)) := of_decide_eq_false (Bool.eq_false_iff.mpr c)
      refine ⟨row ++ [j], _, _, rfl, by rw [List.length_append, List.length_singleton, hk], G.step hA hw0 pk (fun z => c' (by rw [ec, z])), s3, upd_same, hr3⟩
  · rintro σ H' ⟨row, v4, v5, rfl, hk, G, sm', hp, hrr⟩
    exfalso
    have := G.short hl0 hs
    omega
end
end My
/-! The walk, part 4: phases. -/
namespace My
open PySem L2 Fair
/-- the rows stand at the addresses as; they are new since H -/
structure RowsAt (H H' : Hp) (as : List Addr) (rows : List (List Nat)) : Prop where
  len : as.length = rows.length
  at_ : ∀ (k : Nat) (ad : Addr) (row : List Nat), as[k]? = some ad → rows[k]? = some row → H ad = none ∧ H' ad = some (.lst (rv row))
theorem RowsAt.nil {H H' : Hp} : RowsAt H H' [] [] := ⟨rfl, fun k ad row h => by simp at h⟩
theorem RowsAt.move {H H' H2 : Hp} {as : List Addr} {rows : List (List Nat)} (R : RowsAt H H' as rows) (h : ∀ ad, ad ∈ as → ∀ o, H' ad = some o → H2 ad = some o) : RowsAt H H2 as rows :=
  ⟨R.len, fun k ad row h1 h2 => ⟨(R.at_ k ad row h1 h2).1, h ad (List.mem_of_getElem? h1) _ (R.at_ k ad row h1 h2).2⟩⟩
theorem RowsAt.snoc {H H' : Hp} {as : List Addr} {rows : List (List Nat)} {ad : Addr} {row : List Nat} (R : RowsAt H H' as rows) (h1 : H ad = none) (h2 : H' ad = some (.lst (rv row))) : RowsAt H H' (as ++ [ad]) (rows ++ [row]) := by
  refine ⟨by rw [List.length_append, List.length_append, R.len]; rfl, fun k a' row' e1 e2 => ?_⟩
  by_cases e : k < as.length
  · rw [List.getElem?_append_left e] at e1
    rw [List.getElem?_append_left (by rw [← R.len]; exact e)] at e2
    exact R.at_ k a' row' e1 e2
  · have q : k = as.length := by
      have := (List.getElem?_eq_some_iff.mp e1).1
      rw [List.length_append, List.length_singleton] at this
      omega
    subst q
    rw [List.getElem?_append_right (Nat.le_refl _), Nat.sub_self] at e1
    rw [R.len, List.getElem?_append_right (Nat.le_refl _), Nat.sub_self] at e2
    have z1 : ad = a' := Option.some.inj e1
    have z2 : row = row' := Option.some.inj e2
    subst z1 z2
    exact ⟨h1, h2⟩
section
variable {P : Program} {w : World} {K : PySem.W.Frag} {mg : Str → Option Value} {base : Heap}
def spPhases (K : PySem.W.Frag) : Sp := fun vs H Q _ => ∃ (a b : Addr) (n : Nat) (w c : Nat → Int), vs = [.ref a, .ref b] ∧ SqL K H a (lv n w) ∧ SqL K H b (lv n c) ∧ n ≤ 8 ∧
  (∀ i, i < n → 0 < w i ∧ w i ≤ 1000) ∧ (∀ i, i < n → 0 ≤ c i ∧ c i ≤ 40) ∧
  ∀ (rows : List (List Nat)) (as : List Addr) (p : Addr) (H' : Hp), Run n w c rows → sm n (aft c rows.flatten) = 0 → Same H H' → H p = none → H' p = some (.lst (as.map V.ref)) → RowsAt H H' as rows → Q (.ref p) H'
theorem scPhases : FnScope ["weights", "counts", "left", "rows", "row", "source"] ["weights", "counts"] (defScope sPhases) := ⟨rfl, rfl, rfl, by decide +kernel, rfl, by decide +kernel, by decide +kernel⟩
theorem ok_phases {f fT fD fN fF : Addr} {fd fdT fdD fdN fdF : FuncData} (T : Txt mg) (F : Fun K "phases" "phases" sPhases f fd)
    (FF : Fun K "_first_phase" "_first_phase" sFirst fF fdF) (bF : Binds K fdF ["weights", "left"] []) (mF : mg "_first_phase" = some (.ref fF))
    (FN : Fun K "_next_source" "_next_source" sNext fN fdN) (bN : Binds K fdN ["weights", "left", "placed", "turn"] []) (mN : mg "_next_source" = some (.ref fN))
    (FT : Fun K "_total" "_total" sTot fT fdT) (bT : Binds K fdT ["weights", "left"] []) (mT : mg "_total" = some (.ref fT))
    (FD : Fun K "due" "due" sDue fD fdD) (bD : Binds K fdD ["total", "weight", "placed"] []) (mD : mg "due" = some (.ref fD)) :
    FnOk P w K mg base CX0 4 f fd ["weights", "counts"] (spPhases K) := by
  have GF : FnOk P w K mg base CX0 3 fF fdF ["weights", "left"] (spFirst K) := ok_first T FF FN bN mN FT bT mT FD bD mD
  refine F.ok scPhases (fun vs H Q E h => ?_) (fun cdv A outer s H vs Q E hr h => ?_)
  · obtain ⟨a, b, n, w, c, rfl, _⟩ := h
    rfl
  obtain ⟨a, b, n, w, c, rfl, ha, hb, hn, hw, hc, k⟩ := h
  refine ⟨_, pss_cons (ps_set (i := 2) scPhases.nd rfl (Or.inl rfl) (pe_callTy call_list_of rfl T.list (by decide +kernel) (pa_cons (pv 1) pa_nil)))
    (pss_cons (ps_set (i := 3) scPhases.nd rfl (Or.inl rfl) (pe_lst pa_nil))
    (pss_cons (ps_while PassesOwn.never (pt_cmpR op_gt (pe_callB (cr_sum rfl) rfl T.sum (by decide +kernel) (pa_cons (pv 2) pa_nil)) pe_int (nomark _))
      (pss_cons (ps_set (i := 4) scPhases.nd rfl (Or.inl rfl) (pe_call GF hr rfl mF FF.kp bF .nil pass0 (pa_cons (pv 0) (pa_cons (pv 2) pa_nil))))
      (pss_cons (ps_for PassesOwn.never rfl (pi_list (pv 4)) (pg_name (i := 5) scPhases.nd rfl (Or.inl rfl))
        (pss_one (ps_augS (pv 2) (pv 5) get_list pe_int ip_sub set_list (by intros; rfl))))
      (pss_one (ps_expr (pe_bm PySem.F.plainAttrs_list PySem.F.slot_list_append PySem.F.type_list_append mt_append (pv 3) (pa_cons (pv 4) pa_nil)))))))
    (pss_one (ps_ret (pv 3))))), ?_⟩
  have hc0 : ∀ i, i < n → 0 ≤ c i := fun i hi => (hc i hi).1
  have hsm : sm n c ≤ n * 40 := sm_bound fun i hi => (hc i hi).2
  -- left = list(counts); rows = []
  refine ⟨_, rfl, b, _, rfl, .inl hb, fun q nq => ?_⟩
  have s1 : Same H (upd H q (.lst (lv n c))) := same_new nq _
  refine ⟨(by show 0 ≤ sizeLine; decide), fun r nr => ?_⟩
  have hr0 : H r = none := s1.free nr
  have nqr : q ≠ r := ne_of_none upd_same nr
  have s2 : Same H (upd (upd H q (.lst (lv n c))) r (.lst [])) := s1.trans (same_new nr _)
  -- while sum(left) > 0
  refine ⟨fun m σ H' => ∃ (rows : List (List Nat)) (as : List Addr) (v4 v5 : Option V), σ = [some (.ref a), some (.ref b), some (.ref q), some (.ref r), v4, v5] ∧ m = (sm n (aft c rows.flatten)).toNat ∧
      Run n w c rows ∧ (rows.length : Int) + sm n (aft c rows.flatten) ≤ sm n c ∧ Same H H' ∧ H' q = some (.lst (lv n (aft c rows.flatten))) ∧ H' r = some (.lst (as.map V.ref)) ∧ RowsAt H H' as rows ∧ (∀ ad, ad ∈ as → ad ≠ q ∧ ad ≠ r),
    ⟨_, [], [], none, none, rfl, rfl, Run.nil, ?_, s2, ?_, upd_same, RowsAt.nil, fun ad h => absurd h List.not_mem_nil⟩, ?_⟩
  · rw [List.flatten_nil, aft_nil]; show (0 : Int) + _ ≤ _; omega
  · rw [upd_ne nqr, upd_same, List.flatten_nil, aft_nil]
  rintro m σ H' ⟨rows, as, v4, v5, rfl, hm, R, hlen, sH, hq, hrr, RA, na⟩
  have nnR : ∀ i, i < n → 0 ≤ aft c rows.flatten i := fun i hi => by
    have := R.nonneg hc0 rows.length (Nat.le_refl _) i hi
    rw [List.take_length] at this
    exact this
  refine ⟨_, rfl, q, li n (aft c rows.flatten), rfl, SqL.of hq, _, _, rfl, rfl, _, rfl, ?_⟩
  refine ite2 (fun cd => ?_) (fun cd => ?_)
  · have cd' : 0 < sm n (aft c rows.flatten) := by rw [← li_sum]; exact of_decide_eq_true cd
    refine ⟨fun σ' H'' => ∃ m', m' < m ∧ ∃ (rows : List (List Nat)) (as : List Addr) (v4 v5 : Option V), σ' = [some (.ref a), some (.ref b), some (.ref q), some (.ref r), v4, v5] ∧ m' = (sm n (aft c rows.flatten)).toNat ∧
      Run n w c rows ∧ (rows.length : Int) + sm n (aft c rows.flatten) ≤ sm n c ∧ Same H H'' ∧ H'' q = some (.lst (lv n (aft c rows.flatten))) ∧ H'' r = some (.lst (as.map V.ref)) ∧ RowsAt H H'' as rows ∧ (∀ ad, ad ∈ as → ad ≠ q ∧ ad ≠ r),
      fun σ' H' z => z, ?_⟩
    -- row = _first_phase(weights, left)
    refine ⟨_, rfl, _, rfl, a, q, n, w, aft c rows.flatten, rfl, sH.seq ha, SqL.of hq, hn, hw, fun i hi => ⟨nnR i hi, Int.le_trans (aft_le c _ i) (hc i hi).2⟩, cd', fun row ra H2 Pk s2' nra hra => ?_⟩
    have hq2 := s2' _ _ hq
    have hr2 := s2' _ _ hrr
    have qra : q ≠ ra := ne_of_none hq nra
    have rra : r ≠ ra := ne_of_none hrr nra
    have ra0 : H ra = none := sH.free nra
    -- for source in row: left[source] -= 1
    refine ⟨_, rfl, ra, rfl, ⟨_, SqL.of hra⟩, for_list (K := K) (a := ra) (xs := rv row)
      (fun i σ H3 => ∃ v5, σ = [some (.ref a), some (.ref b), some (.ref q), some (.ref r), some (.ref ra), v5] ∧ (∀ d o, H2 d = some o → d ≠ q → H3 d = some o) ∧ H3 q = some (.lst (lv n (aft (aft c rows.flatten) (row.take i)))))
      ⟨v5, rfl, fun d o e _ => e, by rw [List.take_zero, aft_nil]; exact hq2⟩ (fun i σ H3 _ ⟨_, _, st, _⟩ => SqL.of (st _ _ hra qra.symm)) ?_ ?_⟩
    · rintro i y σ H3 hi ⟨v5, rfl, st, h3⟩
      obtain ⟨z, hz, rfl⟩ : ∃ z : Nat, row[i]? = some z ∧ y = V.int (z : Int) := by
        rw [List.getElem?_map] at hi
        cases e : row[i]? with
        | none =>
          rw [e] at hi
          cases hi
        | some z =>
          rw [e] at hi
          exact ⟨z, rfl, (Option.some.inj hi).symm⟩
      have hzn : z < n := Pk.rng z (List.mem_of_getElem? hz)
      refine ⟨_, rfl, _, rfl, q, _, _, _, rfl, rfl, SqL.of h3, by omega, lv_at rfl hzn, _, _, rfl, rfl, q, _, _, z, rfl, rfl, h3, lv_ix rfl hzn, ?_⟩
      refine ⟨_, rfl, fun d o e hd => by rw [upd_ne hd]; exact st d o e hd, ?_⟩
      have e1 : (lv n (aft (aft c rows.flatten) (row.take i))).set z (.int (aft (aft c rows.flatten) (row.take i) z - 1)) = lv n (aft (aft c rows.flatten) (row.take (i + 1))) := by
        rw [take_snoc hz, aft_snoc]
        exact lv_bump (Int.sub_eq_add_neg)
      rw [upd_same]
      exact congrArg (fun u => some (HO.lst u)) e1
    · rintro σ H3 ⟨v5, rfl, st, h3⟩
      have et : row.take (rv row).length = row := List.take_of_length_le (by rw [List.length_map]; exact Nat.le_refl _)
      rw [et, ← aft_append, ← flatten_snoc] at h3
      have hr3 := st _ _ hr2 nqr.symm
      have rest := Pk.rest
      rw [← aft_append, ← flatten_snoc] at rest
      have ne := Pk.ne
      have R' : Run n w c (rows ++ [row]) := R.snoc Pk
      have nn' : 0 ≤ sm n (aft c (rows ++ [row]).flatten) := sm_nonneg fun i hi => by
        have := R'.nonneg hc0 (rows ++ [row]).length (Nat.le_refl _) i hi
        rw [List.take_length] at this
        exact this
      -- rows.append(row)
      refine ⟨_, rfl, .inl ⟨rfl, _, SqL.of hr3⟩, _, rfl, r, _, _, rfl, rfl, hr3, small1000 (by rw [List.length_map, RA.len]; omega), ?_⟩
      refine ⟨(sm n (aft c (rows ++ [row]).flatten)).toNat, by omega, rows ++ [row], as ++ [ra], _, _, rfl, rfl, R', by rw [List.length_append, List.length_singleton]; omega, ?_, ?_, ?_, ?_, ?_⟩
      · intro d o e
        rw [upd_ne (ne_of_none e hr0)]
        exact st d o (s2' d o (sH d o e)) (ne_of_none e nq)
      · rw [upd_ne nqr]; exact h3
      · rw [upd_same, List.map_append]; rfl
      · refine (RA.move fun ad hm o e => ?_).snoc ra0 ?_
        · rw [upd_ne (na ad hm).2]
          exact st _ _ (s2' _ _ e) (na ad hm).1
        · rw [upd_ne rra.symm]
          exact st _ _ hra qra.symm
      · intro ad hm
        rcases List.mem_append.mp hm with z | z
        · exact na ad z
        · rw [List.mem_singleton.mp z]
          exact ⟨qra.symm, rra.symm⟩
  · have cd' : ¬ 0 < sm n (aft c rows.flatten) := by rw [← li_sum]; exact of_decide_eq_false (Bool.eq_false_iff.mpr cd)
    have z : sm n (aft c rows.flatten) = 0 := by
      have := sm_nonneg nnR
      omega
    exact ⟨_, rfl, k rows as r H' R z sH hr0 hrr RA⟩
end
end My
/-! The walk, part 5: the law's own helpers. -/
namespace My
open PySem L2 Fair
theorem menu3 (a b c z : Int) : ∃ m : Int, atI [V.int a, V.int b, V.int c] (z % 3) = some (.int m) ∧ (m = a ∨ m = b ∨ m = c) := by
  have h : z % 3 = ((0 : Nat) : Int) ∨ z % 3 = ((1 : Nat) : Int) ∨ z % 3 = ((2 : Nat) : Int) := by omega
  rcases h with h | h | h
  · exact ⟨a, at_of (j := 0) h rfl, .inl rfl⟩
  · exact ⟨b, at_of (j := 1) h rfl, .inr (.inl rfl)⟩
  · exact ⟨c, at_of (j := 2) h rfl, .inr (.inr rfl)⟩
section
variable {P : Program} {w : World} {K : PySem.W.Frag} {mg : Str → Option Value} {base : Heap}
/-! ### _law_cell: some int -/
def spCell (K : PySem.W.Frag) : Sp := fun vs H Q _ => ∃ (a : Addr) (ns : List Int) (k : Int), vs = [.ref a, .int k] ∧ SqL K H a (ns.map V.int) ∧ 0 ≤ k ∧ ∀ z : Int, Q (.int z) H
theorem scCell : FnScope ["_law_script", "_law_k"] ["_law_script", "_law_k"] (defScope sCell) := ⟨rfl, rfl, rfl, by decide +kernel, rfl, by decide +kernel, by decide +kernel⟩
theorem ok_cell {f : Addr} {fd : FuncData} (T : Txt mg) (F : Fun K "_law_cell" "_law_cell" sCell f fd) : FnOk P w K mg base CX0 1 f fd ["_law_script", "_law_k"] (spCell K) := by
  refine F.ok scCell (fun vs H Q E h => ?_) (fun cdv A outer s H vs Q E hr h => ?_)
  · obtain ⟨a, ns, k, rfl, _⟩ := h
    rfl
  obtain ⟨a, ns, k, rfl, hS, hk, q⟩ := h
  refine ⟨_, pss_cons (ps_if (pt_cmpR op_lt (pv 1) (pe_callB call_len_seq rfl T.len PySem.boot_len (pa_cons (pv 0) pa_nil)) (nomark _)) (pss_one (ps_ret (pe_ix ix_list (pv 0) (pv 1) (fun _ _ => rfl)))) pss_nil)
    (pss_one (ps_ret pe_int)), ?_⟩
  refine ⟨_, rfl, _, rfl, a, _, rfl, .inl hS, _, _, rfl, rfl, _, rfl, ?_⟩
  refine ite2 (fun c => ?_) (fun c => ?_)
  · have c' : k < (((ns.map V.int).length : Nat) : Int) := of_decide_eq_true c
    rw [List.length_map] at c'
    have hk2 : k.toNat < ns.length := by omega
    have e : atI (ns.map V.int) k = some (.int ns[k.toNat]) := at_of (j := k.toNat) (by omega) (by rw [List.getElem?_map, List.getElem?_eq_getElem hk2]; rfl)
    exact ⟨_, rfl, _, rfl, a, _, _, _, rfl, rfl, hS, e, q _⟩
  · exact q 0
/-! ### _law_is_integer: True of an int -/
def spIsInt : Sp := fun vs H Q _ => ∃ z : Int, vs = [.int z] ∧ Q (.bl true) H
theorem scIsInt : FnScope ["_law_actual"] ["_law_actual"] (defScope sIsInt) := ⟨rfl, rfl, rfl, by decide +kernel, rfl, by decide +kernel, by decide +kernel⟩
theorem kit_ii : kitB "int" "int" = some true := by decide +kernel
theorem kit_ib : kitB "int" "bool" = some false := by decide +kernel
theorem kit_ll : kitB "list" "list" = some true := by decide +kernel
theorem b_isi : bootBuiltins "isinstance" = some (.builtin "isinstance") := by decide +kernel
theorem b_int : bootBuiltins "int" = some (.type "int") := by decide +kernel
theorem b_bool : bootBuiltins "bool" = some (.type "bool") := by decide +kernel
theorem b_list : bootBuiltins "list" = some (.type "list") := by decide +kernel
theorem b_sum : bootBuiltins "sum" = some (.builtin "sum") := by decide +kernel
theorem ok_isInt {f : Addr} {fd : FuncData} (T : Txt mg) (F : Fun K "_law_is_integer" "_law_is_integer" sIsInt f fd) : FnOk P w K mg base CX0 1 f fd ["_law_actual"] spIsInt := by
  refine F.ok scIsInt (fun vs H Q E h => ?_) (fun cdv A outer s H vs Q E hr h => ?_)
  · obtain ⟨z, rfl, _⟩ := h
    rfl
  obtain ⟨z, rfl, q⟩ := h
  refine ⟨_, pss_one (ps_ret (pe_and (pe_callB call_isi rfl T.isi b_isi (pa_cons (pv 0) (pa_cons (pe_bltn (v := .ty "int") rfl T.int b_int rfl) pa_nil)))
    (pe_one (pe_not (pe_callB call_isi rfl T.isi b_isi (pa_cons (pv 0) (pa_cons (pe_bltn (v := .ty "bool") rfl T.bool b_bool rfl) pa_nil))))))), ?_⟩
  refine ⟨_, rfl, _, _, _, _, _, rfl, ClsV.ty "int", TyX.base (TyOf.int z), kit_ty kit_ii, _, rfl, ?_⟩
  refine iteT ?_
  exact ⟨_, rfl, _, _, _, _, _, rfl, ClsV.ty "bool", TyX.base (TyOf.int z), kit_ty kit_ib, _, rfl, q⟩
/-! ### _law_weights, _law_counts -/
def spWts (K : PySem.W.Frag) : Sp := fun vs H Q _ => ∃ (a : Addr) (ns : List Int), vs = [.ref a] ∧ SqL K H a (ns.map V.int) ∧
  ∀ (n : Nat) (w : Nat → Int) (p : Addr) (H' : Hp), n ≤ 8 → (∀ i, i < n → 0 < w i ∧ w i ≤ 1000) → Same H H' → H p = none → H' p = some (.lst (lv n w)) → Q (.ref p) H'
theorem scWts : FnScope ["_law_script", "_law_weights_here", "_law_k", "_law_cell_here"] ["_law_script"] (defScope sWts) := ⟨rfl, rfl, rfl, by decide +kernel, rfl, by decide +kernel, by decide +kernel⟩
theorem ok_wts {f fC : Addr} {fd fdC : FuncData} (T : Txt mg) (F : Fun K "_law_weights" "_law_weights" sWts f fd)
    (FC : Fun K "_law_cell" "_law_cell" sCell fC fdC) (bC : Binds K fdC ["_law_script", "_law_k"] []) (mC : mg "_law_cell" = some (.ref fC)) : FnOk P w K mg base CX0 2 f fd ["_law_script"] (spWts K) := by
  have GC : FnOk P w K mg base CX0 1 fC fdC ["_law_script", "_law_k"] (spCell K) := ok_cell T FC
  refine F.ok scWts (fun vs H Q E h => ?_) (fun cdv A outer s H vs Q E hr h => ?_)
  · obtain ⟨a, ns, rfl, _⟩ := h
    rfl
  obtain ⟨a, ns, rfl, hS, q⟩ := h
  refine ⟨_, pss_cons (ps_set (i := 1) scWts.nd rfl (Or.inl rfl) (pe_lst pa_nil))
    (pss_cons (ps_for PassesOwn.never rfl (pi_range1 rfl T.range (pa_cons (pe_op op_add pe_int (pe_op op_mod (pe_callTy call_int1 rfl T.int b_int (pa_cons (pe_call GC hr rfl mC FC.kp bC .nil pass0 (pa_cons (pv 0) (pa_cons pe_int pa_nil))) pa_nil)) pe_int)) pa_nil)) (pg_name (i := 2) scWts.nd rfl (Or.inl rfl))
      (pss_cons (ps_set (i := 3) scWts.nd rfl (Or.inl rfl) (pe_call GC hr rfl mC FC.kp bC .nil pass0 (pa_cons (pv 0) (pa_cons (pe_op op_add pe_int (pv 2)) pa_nil))))
      (pss_one (ps_expr (pe_bm PySem.F.plainAttrs_list PySem.F.slot_list_append PySem.F.type_list_append mt_append (pv 1) (pa_cons
        (pe_op op_add pe_int (pe_op op_mod (pe_callTy call_int1 rfl T.int b_int (pa_cons (pv 3) pa_nil))
          (pe_ix ix_list (pe_lst (pa_cons pe_int (pa_cons pe_int (pa_cons pe_int pa_nil)))) (pe_op op_mod (pe_callTy call_int1 rfl T.int b_int (pa_cons (pe_op op_fdiv (pv 3) pe_int) pa_nil)) pe_int) (fun _ _ => rfl)))) pa_nil))))))
    (pss_one (ps_ret (pv 1)))), ?_⟩
  refine ⟨(by show 0 ≤ sizeLine; decide), fun p np => ?_⟩
  have s1 : Same H (upd H p (.lst [])) := same_new np _
  refine ⟨_, rfl, a, ns, 0, rfl, s1.seq hS, Int.le_refl 0, fun z => .inl ⟨_, rfl, _, _, rfl, rfl, (by show (0 : Int) < 8; decide), _, _, rfl, rfl, 1 + z % 8, rfl, by omega, by omega, ?_⟩⟩
  refine for_range (lo := 0) (n := (1 + z % 8).toNat)
    (fun i σ H' => ∃ (g : Nat → Int) (v2 v3 : Option V), σ = [some (.ref a), some (.ref p), v2, v3] ∧ Same H H' ∧ H' p = some (.lst (lv i g)) ∧ ∀ k, k < i → 0 < g k ∧ g k ≤ 1000)
    ⟨fun _ => 0, none, none, rfl, s1, upd_same, fun k hk => absurd hk (Nat.not_lt_zero k)⟩ ?_ ?_
  · rintro i σ H' hi ⟨g, v2, v3, rfl, sm', hp, hg⟩
    refine ⟨_, rfl, _, rfl, _, _, rfl, rfl, a, ns, _, rfl, sm'.seq hS, (by show 0 ≤ 1 + (0 + (i : Int)); omega), fun y => ?_⟩
    obtain ⟨m, hm, hm3⟩ := menu3 1000 7 3 (y / 1000)
    have hm0 : 0 < m ∧ m ≤ 1000 := by omega
    refine ⟨_, rfl, .inl ⟨rfl, _, SqL.of hp⟩, _, rfl, .inl ⟨_, rfl, (by show 3 ≤ sizeLine; decide), fun t nt => ?_⟩⟩
    have npt : p ≠ t := ne_of_none hp nt
    refine ⟨_, rfl, _, _, rfl, rfl, ⟨by decide, by decide⟩, .inl ⟨_, rfl, _, _, rfl, rfl, (by show (0 : Int) < 3; decide), t, _, _, _, rfl, rfl, SqL.of upd_same, hm, _, _, rfl, rfl, hm0.1, _, _, rfl, rfl, ?_⟩⟩
    refine ⟨p, _, _, rfl, rfl, (by rw [upd_ne npt]; exact hp), small1000 (by rw [lv_len]; omega), ?_⟩
    have r0 := Int.emod_nonneg y (Int.ne_of_gt hm0.1)
    have r1 := Int.emod_lt_of_pos y hm0.1
    refine ⟨fun k => if k = i then 1 + y % m else g k, _, _, rfl, fun d o e => ?_, ?_, fun k hk => ?_⟩
    · rw [upd_ne (ne_of_none e np), upd_ne (ne_of_none (sm' d o e) nt)]
      exact sm' d o e
    · rw [upd_same, lv_snoc]
    · show 0 < (if k = i then 1 + y % m else g k) ∧ (if k = i then 1 + y % m else g k) ≤ 1000
      by_cases e : k = i
      · rw [if_pos e]; omega
      · rw [if_neg e]; exact hg k (by omega)
  · rintro σ H' ⟨g, v2, v3, rfl, sm', hp, hg⟩
    exact ⟨_, rfl, q _ g p H' (by omega) hg sm' np hp⟩
def spCnts (K : PySem.W.Frag) : Sp := fun vs H Q _ => ∃ (a : Addr) (ns : List Int) (n : Nat), vs = [.ref a, .int (n : Int)] ∧ SqL K H a (ns.map V.int) ∧ n ≤ 8 ∧
  ∀ (c : Nat → Int) (p : Addr) (H' : Hp), (∀ i, i < n → 0 ≤ c i ∧ c i ≤ 40) → Same H H' → H p = none → H' p = some (.lst (lv n c)) → Q (.ref p) H'
theorem scCnts : FnScope ["_law_script", "_law_many", "_law_counts_here", "_law_k", "_law_cell_here"] ["_law_script", "_law_many"] (defScope sCnts) := ⟨rfl, rfl, rfl, by decide +kernel, rfl, by decide +kernel, by decide +kernel⟩
theorem ok_cnts {f fC : Addr} {fd fdC : FuncData} (T : Txt mg) (F : Fun K "_law_counts" "_law_counts" sCnts f fd)
    (FC : Fun K "_law_cell" "_law_cell" sCell fC fdC) (bC : Binds K fdC ["_law_script", "_law_k"] []) (mC : mg "_law_cell" = some (.ref fC)) : FnOk P w K mg base CX0 2 f fd ["_law_script", "_law_many"] (spCnts K) := by
  have GC : FnOk P w K mg base CX0 1 fC fdC ["_law_script", "_law_k"] (spCell K) := ok_cell T FC
  refine F.ok scCnts (fun vs H Q E h => ?_) (fun cdv A outer s H vs Q E hr h => ?_)
  · obtain ⟨a, ns, n, rfl, _⟩ := h
    rfl
  obtain ⟨a, ns, n, rfl, hS, hn, q⟩ := h
  refine ⟨_, pss_cons (ps_set (i := 2) scCnts.nd rfl (Or.inl rfl) (pe_lst pa_nil))
    (pss_cons (ps_for PassesOwn.never rfl (pi_range1 rfl T.range (pa_cons (pv 1) pa_nil)) (pg_name (i := 3) scCnts.nd rfl (Or.inl rfl))
      (pss_cons (ps_set (i := 4) scCnts.nd rfl (Or.inl rfl) (pe_call GC hr rfl mC FC.kp bC .nil pass0 (pa_cons (pv 0) (pa_cons (pe_op op_add pe_int (pv 3)) pa_nil))))
      (pss_one (ps_expr (pe_bm PySem.F.plainAttrs_list PySem.F.slot_list_append PySem.F.type_list_append mt_append (pv 2) (pa_cons
        (pe_op op_mod (pe_callTy call_int1 rfl T.int b_int (pa_cons (pv 4) pa_nil))
          (pe_ix ix_list (pe_lst (pa_cons pe_int (pa_cons pe_int (pa_cons pe_int pa_nil)))) (pe_op op_mod (pe_callTy call_int1 rfl T.int b_int (pa_cons (pe_op op_fdiv (pv 4) pe_int) pa_nil)) pe_int) (fun _ _ => rfl))) pa_nil))))))
    (pss_one (ps_ret (pv 2)))), ?_⟩
  refine ⟨(by show 0 ≤ sizeLine; decide), fun p np => ?_⟩
  have s1 : Same H (upd H p (.lst [])) := same_new np _
  refine ⟨_, rfl, (n : Int), rfl, by omega, by omega, ?_⟩
  refine for_range (lo := 0) (n := n)
    (fun i σ H' => ∃ (g : Nat → Int) (v3 v4 : Option V), σ = [some (.ref a), some (.int (n : Int)), some (.ref p), v3, v4] ∧ Same H H' ∧ H' p = some (.lst (lv i g)) ∧ ∀ k, k < i → 0 ≤ g k ∧ g k ≤ 40)
    ⟨fun _ => 0, none, none, rfl, s1, upd_same, fun k hk => absurd hk (Nat.not_lt_zero k)⟩ ?_ ?_
  · rintro i σ H' hi ⟨g, v3, v4, rfl, sm', hp, hg⟩
    refine ⟨_, rfl, _, rfl, _, _, rfl, rfl, a, ns, _, rfl, sm'.seq hS, (by show 0 ≤ 10 + (0 + (i : Int)); omega), fun y => ?_⟩
    obtain ⟨m, hm, hm3⟩ := menu3 9 3 40 (y / 40)
    have hm0 : 0 < m ∧ m ≤ 40 := by omega
    refine ⟨_, rfl, .inl ⟨rfl, _, SqL.of hp⟩, _, rfl, .inl ⟨_, rfl, (by show 3 ≤ sizeLine; decide), fun t nt => ?_⟩⟩
    have npt : p ≠ t := ne_of_none hp nt
    refine ⟨_, rfl, _, _, rfl, rfl, ⟨by decide, by decide⟩, .inl ⟨_, rfl, _, _, rfl, rfl, (by show (0 : Int) < 3; decide), t, _, _, _, rfl, rfl, SqL.of upd_same, hm, _, _, rfl, rfl, hm0.1, ?_⟩⟩
    refine ⟨p, _, _, rfl, rfl, (by rw [upd_ne npt]; exact hp), small1000 (by rw [lv_len]; omega), ?_⟩
    have r0 := Int.emod_nonneg y (Int.ne_of_gt hm0.1)
    have r1 := Int.emod_lt_of_pos y hm0.1
    refine ⟨fun k => if k = i then y % m else g k, _, _, rfl, fun d o e => ?_, ?_, fun k hk => ?_⟩
    · rw [upd_ne (ne_of_none e np), upd_ne (ne_of_none (sm' d o e) nt)]
      exact sm' d o e
    · rw [upd_same, lv_snoc]
    · show 0 ≤ (if k = i then y % m else g k) ∧ (if k = i then y % m else g k) ≤ 40
      by_cases e : k = i
      · rw [if_pos e]; omega
      · rw [if_neg e]; exact hg k (by omega)
  · rintro σ H' ⟨g, v3, v4, rfl, sm', hp, hg⟩
    exact ⟨_, rfl, q g p H' hg sm' np hp⟩
end
end My
/-! The walk, part 6: _law_are_phases, _law_beginning. -/
namespace My
open PySem L2 Fair
theorem rv_item {row : List Nat} {i : Nat} {y : V} (h : (rv row)[i]? = some y) : ∃ z : Nat, row[i]? = some z ∧ y = V.int (z : Int) := by
  rw [List.getElem?_map] at h
  cases e : row[i]? with
  | none =>
    rw [e] at h
    cases h
  | some z =>
    rw [e] at h
    exact ⟨z, rfl, (Option.some.inj h).symm⟩
theorem ref_item {as : List Addr} {i : Nat} {y : V} (h : (as.map V.ref)[i]? = some y) : ∃ ad : Addr, as[i]? = some ad ∧ y = V.ref ad := by
  rw [List.getElem?_map] at h
  cases e : as[i]? with
  | none =>
    rw [e] at h
    cases h
  | some z =>
    rw [e] at h
    exact ⟨z, rfl, (Option.some.inj h).symm⟩
theorem row_of {as : List Addr} {rows : List (List Nat)} {i : Nat} {ad : Addr} (hl : as.length = rows.length) (h : as[i]? = some ad) : ∃ row, rows[i]? = some row := by
  have hi : i < as.length := (List.getElem?_eq_some_iff.mp h).1
  exact ⟨rows[i]'(by omega), List.getElem?_eq_getElem (by omega)⟩
section
variable {P : Program} {w : World} {K : PySem.W.Frag} {mg : Str → Option Value} {base : Heap}
/-! ### _law_are_phases -/
def spAre : Sp := fun vs H Q _ => ∃ (p : Addr) (as : List Addr) (rows : List (List Nat)) (n : Nat), vs = [.ref p, .int (n : Int)] ∧ H p = some (.lst (as.map V.ref)) ∧ as.length = rows.length ∧
  (∀ (k : Nat) (ad : Addr) (row : List Nat), as[k]? = some ad → rows[k]? = some row → H ad = some (.lst (rv row)) ∧ 0 < row.length ∧ ∀ s ∈ row, s < n) ∧ Q (.bl true) H
theorem scAre : FnScope ["_law_actual", "_law_many", "_law_phase", "_law_source"] ["_law_actual", "_law_many"] (defScope sAre) := ⟨rfl, rfl, rfl, by decide +kernel, rfl, by decide +kernel, by decide +kernel⟩
theorem ok_are {f fI : Addr} {fd fdI : FuncData} (T : Txt mg) (F : Fun K "_law_are_phases" "_law_are_phases" sAre f fd)
    (FI : Fun K "_law_is_integer" "_law_is_integer" sIsInt fI fdI) (bI : Binds K fdI ["_law_actual"] []) (mI : mg "_law_is_integer" = some (.ref fI)) : FnOk P w K mg base CX0 2 f fd ["_law_actual", "_law_many"] spAre := by
  have GI : FnOk P w K mg base CX0 1 fI fdI ["_law_actual"] spIsInt := ok_isInt T FI
  refine F.ok scAre (fun vs H Q E h => ?_) (fun cdv A outer s H vs Q E hr h => ?_)
  · obtain ⟨p, as, rows, n, rfl, _⟩ := h
    rfl
  obtain ⟨p, as, rows, n, rfl, hp, hl, hR, q⟩ := h
  refine ⟨_, pss_cons (ps_if (pt_not (pt_val (pe_callB call_isi rfl T.isi b_isi (pa_cons (pv 0) (pa_cons (pe_bltn (v := .ty "list") rfl T.list b_list rfl) pa_nil))))) (pss_one (ps_ret pe_bl)) pss_nil)
    (pss_cons (ps_for PassesOwn.never rfl (pi_list (pv 0)) (pg_name (i := 2) scAre.nd rfl (Or.inl rfl))
      (pss_cons (ps_if (PW.pt (pw_or (pt_not (pt_val (pe_callB call_isi rfl T.isi b_isi (pa_cons (pv 2) (pa_cons (pe_bltn (v := .ty "list") rfl T.list b_list rfl) pa_nil)))))
          (pw_or1 (pt_cmpR op_eq (pe_callB call_len_seq rfl T.len PySem.boot_len (pa_cons (pv 2) pa_nil)) pe_int (nomark _))))) (pss_one (ps_ret pe_bl)) pss_nil)
      (pss_one (ps_for PassesOwn.never rfl (pi_list (pv 2)) (pg_name (i := 3) scAre.nd rfl (Or.inl rfl))
        (pss_one (ps_if (PW.pt (pw_or (pt_not (pt_val (pe_call GI hr rfl mI FI.kp bI .nil pass0 (pa_cons (pv 3) pa_nil)))) (pw_or (pt_cmpR op_lt (pv 3) pe_int (nomark _)) (pw_or1 (pt_cmpR op_ge (pv 3) (pv 1) (nomark _))))))
          (pss_one (ps_ret pe_bl)) pss_nil))))))
    (pss_one (ps_ret pe_bl))), ?_⟩
  refine ⟨_, rfl, _, _, _, _, _, rfl, ClsV.ty "list", TyX.base (TyOf.lst hp), kit_ty kit_ll, _, rfl, ?_⟩
  refine iteF ?_
  refine ⟨_, rfl, p, rfl, ⟨_, SqL.of hp⟩, for_list (K := K) (a := p) (xs := as.map V.ref)
    (fun i σ H' => H' = H ∧ ∃ v2 v3, σ = [some (.ref p), some (.int (n : Int)), v2, v3]) ⟨rfl, none, none, rfl⟩ (fun i σ H' _ ⟨e, _⟩ => by rw [e]; exact SqL.of hp) ?_ ?_⟩
  · rintro i y σ H' hi ⟨rfl, v2, v3, rfl⟩
    obtain ⟨ad, had, rfl⟩ := ref_item hi
    obtain ⟨row, hrow⟩ := row_of hl had
    obtain ⟨h1, h2, h3⟩ := hR i ad row had hrow
    refine ⟨_, rfl, _, _, _, _, _, rfl, ClsV.ty "list", TyX.base (TyOf.lst h1), kit_ty kit_ll, _, rfl, ?_⟩
    refine iteF ?_
    refine ⟨_, rfl, ad, _, rfl, .inl (SqL.of h1), rfl, _, rfl, ?_⟩
    have e0 : decide (V.int (((rv row).length : Nat) : Int) = V.int 0) = false := decide_eq_false fun z => by
      have z' := V.int.inj z
      rw [List.length_map] at z'
      omega
    rw [e0]
    refine iteF ?_
    refine ⟨_, rfl, ad, rfl, ⟨_, SqL.of h1⟩, for_list (K := K) (a := ad) (xs := rv row)
      (fun i σ H2 => H2 = H' ∧ ∃ v3, σ = [some (.ref p), some (.int (n : Int)), some (.ref ad), v3]) ⟨rfl, v3, rfl⟩ (fun i σ H2 _ ⟨e, _⟩ => by rw [e]; exact SqL.of h1) ?_ ?_⟩
    · rintro i2 y σ H2 hi2 ⟨rfl, v3, rfl⟩
      obtain ⟨z, hz, rfl⟩ := rv_item hi2
      have hzn : z < n := h3 z (List.mem_of_getElem? hz)
      refine ⟨_, rfl, _, rfl, _, rfl, ?_⟩
      refine iteF ?_
      refine ⟨_, rfl, _, _, rfl, rfl, _, rfl, ?_⟩
      refine ite2 (fun c => ?_) (fun c => ?_)
      · have c' : (z : Int) < 0 := of_decide_eq_true c
        omega
      refine ⟨_, rfl, _, rfl, _, _, rfl, rfl, _, rfl, ?_⟩
      refine ite2 (fun c2 => ?_) (fun c2 => ?_)
      · have c' : (n : Int) ≤ (z : Int) := of_decide_eq_true c2
        omega
      exact ⟨rfl, _, rfl⟩
    · rintro σ H2 ⟨rfl, v3, rfl⟩
      exact ⟨rfl, _, _, rfl⟩
  · rintro σ H' ⟨rfl, v2, v3, rfl⟩
    exact q
/-! ### _law_beginning -/
def spBeg (K : PySem.W.Frag) : Sp := fun vs H Q _ => ∃ (a b c : Addr) (n : Nat) (w l x : Nat → Int) (t : Int), vs = [.ref a, .ref b, .ref c, .int t] ∧ SqL K H a (lv n w) ∧ SqL K H b (lv n l) ∧ SqL K H c (lv n x) ∧ n ≤ 8 ∧
  (∀ i, i < n → 0 < w i ∧ w i ≤ 1000) ∧ (∀ i, i < n → 0 ≤ x i ∧ x i ≤ 1000000) ∧ Beg n w l x t ∧ Q (.bl true) H
theorem scBeg : FnScope ["_law_weights_here", "_law_left", "_law_placed", "_law_turn", "_law_total", "_law_k", "_law_had", "_law_share"] ["_law_weights_here", "_law_left", "_law_placed", "_law_turn"] (defScope sBeg) :=
  ⟨rfl, rfl, rfl, by decide +kernel, rfl, by decide +kernel, by decide +kernel⟩
theorem ok_beg {f : Addr} {fd : FuncData} (T : Txt mg) (F : Fun K "_law_beginning" "_law_beginning" sBeg f fd) :
    FnOk P w K mg base CX0 1 f fd ["_law_weights_here", "_law_left", "_law_placed", "_law_turn"] (spBeg K) := by
  refine F.ok scBeg (fun vs H Q E h => ?_) (fun cdv A outer s H vs Q E hr h => ?_)
  · obtain ⟨a, b, c, n, w, l, x, t, rfl, _⟩ := h
    rfl
  obtain ⟨a, b, c, n, w, l, x, t, rfl, ha, hb, hc, hn, hw, hx, B, q⟩ := h
  refine ⟨_, pss_cons (ps_set (i := 4) scBeg.nd rfl (Or.inl rfl) pe_int)
    (pss_cons (ps_for PassesOwn.never rfl (pi_range1 rfl T.range (pa_cons (pe_callB call_len_seq rfl T.len PySem.boot_len (pa_cons (pv 0) pa_nil)) pa_nil)) (pg_name (i := 5) scBeg.nd rfl (Or.inl rfl))
      (pss_one (ps_if (pt_cmpR op_gt (pe_ix ix_list (pv 1) (pv 5) (fun _ _ => rfl)) pe_int (nomark _))
        (pss_one (ps_set (i := 4) scBeg.nd rfl (Or.inl rfl) (pe_op op_add (pv 4) (pe_ix ix_list (pv 0) (pv 5) (fun _ _ => rfl))))) pss_nil)))
    (pss_cons (ps_for PassesOwn.never rfl (pi_range1 rfl T.range (pa_cons (pe_callB call_len_seq rfl T.len PySem.boot_len (pa_cons (pv 0) pa_nil)) pa_nil)) (pg_name (i := 5) scBeg.nd rfl (Or.inl rfl))
      (pss_one (ps_if (pt_cmpR op_gt (pe_ix ix_list (pv 1) (pv 5) (fun _ _ => rfl)) pe_int (nomark _))
        (pss_cons (ps_set (i := 6) scBeg.nd rfl (Or.inl rfl) (pe_op op_mul (pe_ix ix_list (pv 2) (pv 5) (fun _ _ => rfl)) (pv 4)))
        (pss_cons (ps_set (i := 7) scBeg.nd rfl (Or.inl rfl) (pe_op op_mul (pe_ix ix_list (pv 0) (pv 5) (fun _ _ => rfl)) (pv 3)))
        (pss_one (ps_if (PW.pt (pw_or (pt_cmpR op_ge (pv 6) (pe_op op_add (pv 7) (pv 4)) (nomark _)) (pw_or1 (pt_cmpR op_ge (pv 7) (pe_op op_add (pv 6) (pv 4)) (nomark _))))) (pss_one (ps_ret pe_bl)) pss_nil))))
        (pss_one (ps_if (pt_cmpR op_gt (pe_ix ix_list (pv 2) (pv 5) (fun _ _ => rfl)) pe_int (nomark _)) (pss_one (ps_ret pe_bl)) pss_nil)))))
    (pss_one (ps_ret pe_bl)))), ?_⟩
  refine ⟨_, rfl, a, _, rfl, .inl ha, (n : Int), (by rw [lv_len]), by omega, by omega, for_range (lo := 0) (n := n)
    (fun k σ H' => H' = H ∧ ∃ v5, σ = [some (.ref a), some (.ref b), some (.ref c), some (.int t), some (.int (tot k w l)), v5, none, none]) ⟨rfl, none, rfl⟩ ?_ ?_⟩
  · rintro i σ H' hi ⟨rfl, v5, rfl⟩
    refine ⟨_, rfl, _, rfl, b, _, _, _, rfl, rfl, hb, lv_at (Int.zero_add _) hi, _, _, rfl, rfl, _, rfl, ?_⟩
    refine ite2 (fun c1 => ?_) (fun c1 => ?_)
    · have c' := of_decide_eq_true c1
      refine ⟨_, rfl, _, rfl, _, rfl, a, _, _, _, rfl, rfl, ha, lv_at (Int.zero_add _) hi, _, _, rfl, rfl, ?_⟩
      exact ⟨rfl, some (.int (0 + (i : Int))), by rw [tot_on c']; rfl⟩
    · have c' := of_decide_eq_false (Bool.eq_false_iff.mpr c1)
      exact ⟨rfl, some (.int (0 + (i : Int))), by rw [tot_off c']; rfl⟩
  · rintro σ H' ⟨rfl, v5, rfl⟩
    refine ⟨_, rfl, a, _, rfl, .inl ha, (n : Int), (by rw [lv_len]), by omega, by omega, for_range (lo := 0) (n := n)
      (fun k σ H2 => H2 = H' ∧ ∃ v5 v6 v7, σ = [some (.ref a), some (.ref b), some (.ref c), some (.int t), some (.int (tot n w l)), v5, v6, v7]) ⟨rfl, v5, none, none, rfl⟩ ?_ ?_⟩
    · rintro i σ H2 hi ⟨rfl, v5, v6, v7, rfl⟩
      obtain ⟨B1, B2⟩ := B i hi
      have x64 : -(2 ^ 64) < x i ∧ x i < 2 ^ 64 := by have := hx i hi; omega
      have w64 : -(2 ^ 64) < w i ∧ w i < 2 ^ 64 := by have := hw i hi; omega
      refine ⟨_, rfl, _, rfl, b, _, _, _, rfl, rfl, hb, lv_at (Int.zero_add _) hi, _, _, rfl, rfl, _, rfl, ?_⟩
      refine ite2 (fun c1 => ?_) (fun c1 => ?_)
      · have c' := of_decide_eq_true c1
        obtain ⟨g1, g2⟩ := B1 c'
        refine ⟨_, rfl, _, rfl, c, _, _, _, rfl, rfl, hc, lv_at (Int.zero_add _) hi, _, rfl, _, _, rfl, rfl, .inl x64, ?_⟩
        refine ⟨_, rfl, _, rfl, a, _, _, _, rfl, rfl, ha, lv_at (Int.zero_add _) hi, _, rfl, _, _, rfl, rfl, .inl w64, ?_⟩
        refine ⟨_, rfl, _, rfl, _, rfl, _, _, rfl, rfl, _, _, rfl, rfl, _, rfl, ?_⟩
        refine ite2 (fun c2 => ?_) (fun c2 => ?_)
        · have c2' : w i * t + tot n w l ≤ x i * tot n w l := of_decide_eq_true c2
          omega
        refine ⟨_, rfl, _, rfl, _, rfl, _, _, rfl, rfl, _, _, rfl, rfl, _, rfl, ?_⟩
        refine ite2 (fun c3 => ?_) (fun c3 => ?_)
        · have c3' : x i * tot n w l + tot n w l ≤ w i * t := of_decide_eq_true c3
          omega
        exact ⟨rfl, _, _, _, rfl⟩
      · have c' := of_decide_eq_false (Bool.eq_false_iff.mpr c1)
        have g := B2 c'
        refine ⟨_, rfl, _, rfl, c, _, _, _, rfl, rfl, hc, lv_at (Int.zero_add _) hi, _, _, rfl, rfl, _, rfl, ?_⟩
        refine ite2 (fun c2 => ?_) (fun c2 => ?_)
        · have c2' : 0 < x i := of_decide_eq_true c2
          omega
        exact ⟨rfl, _, _, _, rfl⟩
    · rintro σ H2 ⟨rfl, v5, v6, v7, rfl⟩
      exact q
end
end My
/-! The walk, part 7: law. -/
namespace My
open PySem L2 Fair
section
variable {P : Program} {w : World} {K : PySem.W.Frag} {mg : Str → Option Value} {base : Heap}
def spLaw (K : PySem.W.Frag) : Sp := fun vs H Q _ => ∃ (a : Addr) (ns : List Int), vs = [.ref a] ∧ SqL K H a (ns.map V.int) ∧ ns.length ≤ 63 ∧ ∀ H', Q (.bl true) H'
theorem scLaw : FnScope ["_law_script", "_law_weights_here", "_law_left", "_law_actual", "_law_phase", "_law_placed", "_law_turn", "_law_k"] ["_law_script"] (defScope sLaw) := ⟨rfl, rfl, rfl, by decide +kernel, rfl, by decide +kernel, by decide +kernel⟩
/-- left behind k turns of the last loop of a phase -/
def part (l : Nat → Int) (row : List Nat) (k : Nat) : Nat → Int := fun m => if m < k then aft l row m else l m
theorem part_zero (l : Nat → Int) (row : List Nat) : part l row 0 = l := by
  funext m
  exact if_neg (Nat.not_lt_zero m)
theorem part_at (l : Nat → Int) (row : List Nat) (k : Nat) : part l row k k = l k := if_neg (Nat.lt_irrefl k)
theorem part_up (l : Nat → Int) (row : List Nat) (k : Nat) : part l row (k + 1) k = aft l row k := if_pos (Nat.lt_succ_self k)
theorem part_set (n : Nat) (l : Nat → Int) (row : List Nat) (k : Nat) : (lv n (part l row k)).set k (.int (part l row k k - cn row k)) = lv n (part l row (k + 1)) := by
  rw [lv_bump (c := -(cn row k)) Int.sub_eq_add_neg]
  refine lv_congr fun m _ => ?_
  by_cases e : m = k
  · subst e
    rw [bump_same, part_at, part_up]
    unfold aft
    omega
  · rw [bump_ne e]
    unfold part
    by_cases q : m < k
    · rw [if_pos q, if_pos (by omega)]
    · rw [if_neg q, if_neg (by omega)]
theorem part_all (n : Nat) (l : Nat → Int) (row : List Nat) : lv n (part l row n) = lv n (aft l row) := lv_congr fun _ hm => if_pos hm
theorem ok_law {f fW fC fP fA fB : Addr} {fd fdW fdC fdP fdA fdB : FuncData} (T : Txt mg) (F : Fun K "law" "law" sLaw f fd)
    (GW : FnOk P w K mg base CX0 2 fW fdW ["_law_script"] (spWts K)) (kW : PySem.W.keepIn K (.ref fW) = true) (bW : Binds K fdW ["_law_script"] []) (mW : mg "_law_weights" = some (.ref fW))
    (GC : FnOk P w K mg base CX0 2 fC fdC ["_law_script", "_law_many"] (spCnts K)) (kC : PySem.W.keepIn K (.ref fC) = true) (bC : Binds K fdC ["_law_script", "_law_many"] []) (mC : mg "_law_counts" = some (.ref fC))
    (GP : FnOk P w K mg base CX0 4 fP fdP ["weights", "counts"] (spPhases K)) (kP : PySem.W.keepIn K (.ref fP) = true) (bP : Binds K fdP ["weights", "counts"] []) (mP : mg "phases" = some (.ref fP))
    (GA : FnOk P w K mg base CX0 2 fA fdA ["_law_actual", "_law_many"] spAre) (kA : PySem.W.keepIn K (.ref fA) = true) (bA : Binds K fdA ["_law_actual", "_law_many"] []) (mA : mg "_law_are_phases" = some (.ref fA))
    (GB : FnOk P w K mg base CX0 1 fB fdB ["_law_weights_here", "_law_left", "_law_placed", "_law_turn"] (spBeg K)) (kB : PySem.W.keepIn K (.ref fB) = true) (bB : Binds K fdB ["_law_weights_here", "_law_left", "_law_placed", "_law_turn"] []) (mB : mg "_law_beginning" = some (.ref fB)) :
    FnOk P w K mg base CX0 5 f fd ["_law_script"] (spLaw K) := by
  refine F.ok scLaw (fun vs H Q E h => ?_) (fun cdv A outer s H vs Q E hr h => ?_)
  · obtain ⟨a, ns, rfl, _⟩ := h
    rfl
  obtain ⟨a, ns, rfl, hS, _, q⟩ := h
  have hr2 : Room 2 _ := hr.mono (by decide)
  have hr1 : Room 1 _ := hr.mono (by decide)
  refine ⟨_, pss_cons (ps_set (i := 1) scLaw.nd rfl (Or.inl rfl) (pe_call GW hr2 rfl mW kW bW .nil pass0 (pa_cons (pv 0) pa_nil)))
    (pss_cons (ps_set (i := 2) scLaw.nd rfl (Or.inl rfl) (pe_call GC hr2 rfl mC kC bC .nil pass0 (pa_cons (pv 0) (pa_cons (pe_callB call_len_seq rfl T.len PySem.boot_len (pa_cons (pv 1) pa_nil)) pa_nil))))
    (pss_cons (ps_set (i := 3) scLaw.nd rfl (Or.inl rfl) (pe_call GP hr rfl mP kP bP .nil pass0 (pa_cons (pe_callTy call_list_of rfl T.list b_list (pa_cons (pv 1) pa_nil)) (pa_cons (pe_callTy call_list_of rfl T.list b_list (pa_cons (pv 2) pa_nil)) pa_nil))))
    (pss_cons (ps_if (pt_not (pt_val (pe_call GA hr2 rfl mA kA bA .nil pass0 (pa_cons (pv 3) (pa_cons (pe_callB call_len_seq rfl T.len PySem.boot_len (pa_cons (pv 1) pa_nil)) pa_nil))))) (pss_one (ps_ret pe_bl)) pss_nil)
    (pss_cons (ps_for PassesOwn.never rfl (pi_list (pv 3)) (pg_name (i := 4) scLaw.nd rfl (Or.inl rfl))
      (pss_cons (ps_set (i := 5) scLaw.nd rfl (Or.inl rfl) (pe_op op_rep (pe_lst (pa_cons pe_int pa_nil)) (pe_callB call_len_seq rfl T.len PySem.boot_len (pa_cons (pv 1) pa_nil))))
      (pss_cons (ps_for PassesOwn.never rfl (pi_range1 rfl T.range (pa_cons (pe_op op_add (pe_callB call_len_seq rfl T.len PySem.boot_len (pa_cons (pv 4) pa_nil)) pe_int) pa_nil)) (pg_name (i := 6) scLaw.nd rfl (Or.inl rfl))
        (pss_cons (ps_if (pt_not (pt_val (pe_call GB hr1 rfl mB kB bB .nil pass0 (pa_cons (pv 1) (pa_cons (pv 2) (pa_cons (pv 5) (pa_cons (pv 6) pa_nil))))))) (pss_one (ps_ret pe_bl)) pss_nil)
        (pss_one (ps_if (pt_cmpR op_lt (pv 6) (pe_callB call_len_seq rfl T.len PySem.boot_len (pa_cons (pv 4) pa_nil)) (nomark _))
          (pss_one (ps_asg (pe_op op_add (pe_ix ix_list (pv 5) (pe_ix ix_list (pv 4) (pv 6) (fun _ _ => rfl)) (fun _ _ => rfl)) pe_int) (pg_sub (pv 5) (pe_ix ix_list (pv 4) (pv 6) (fun _ _ => rfl)) set_list))) pss_nil))))
      (pss_one (ps_for PassesOwn.never rfl (pi_range1 rfl T.range (pa_cons (pe_callB call_len_seq rfl T.len PySem.boot_len (pa_cons (pv 1) pa_nil)) pa_nil)) (pg_name (i := 7) scLaw.nd rfl (Or.inl rfl))
        (pss_cons (ps_asg (pe_op op_sub (pe_ix ix_list (pv 2) (pv 7) (fun _ _ => rfl)) (pe_ix ix_list (pv 5) (pv 7) (fun _ _ => rfl))) (pg_sub (pv 2) (pv 7) set_list))
        (pss_one (ps_if (pt_cmpR op_lt (pe_ix ix_list (pv 2) (pv 7) (fun _ _ => rfl)) pe_int (nomark _)) (pss_one (ps_ret pe_bl)) pss_nil))))))))
    (pss_one (ps_ret (pe_cmpR op_eq (pe_callB (cr_sum rfl) rfl T.sum b_sum (pa_cons (pv 2) pa_nil)) pe_int (nomark _)))))))), ?_⟩
  -- weights, counts
  refine ⟨_, rfl, a, ns, rfl, hS, fun n w pw H1 hn hw s1 nw hwL => ?_⟩
  refine ⟨_, rfl, _, rfl, pw, _, rfl, .inl (SqL.of hwL), a, ns, n, (by rw [lv_len]; rfl), s1.seq hS, hn, fun c pc H2 hc s2 nc hcL => ?_⟩
  have hw2 := s2 _ _ hwL
  have hwc : pw ≠ pc := ne_of_none hwL nc
  -- phases(list(..), list(..))
  refine ⟨_, rfl, pw, _, rfl, .inl (SqL.of hw2), fun u1 n1 => ?_⟩
  have t1 : Same H2 (upd H2 u1 (.lst (lv n w))) := same_new n1 _
  refine ⟨_, rfl, pc, _, rfl, .inl (SqL.of (t1 _ _ hcL)), fun u2 n2 => ?_⟩
  have t2 : Same (upd H2 u1 (.lst (lv n w))) (upd (upd H2 u1 (.lst (lv n w))) u2 (.lst (lv n c))) := same_new n2 _
  refine ⟨u1, u2, n, w, c, rfl, SqL.of (t2 _ _ upd_same), SqL.of upd_same, hn, hw, hc, fun rows as pr H3 R z s3 npr hpr RA => ?_⟩
  have t3 : Same H2 H3 := (t1.trans t2).trans s3
  have hw3 := t3 _ _ hw2
  have hc3 := t3 _ _ hcL
  have hcr : pc ≠ pr := ne_of_none (t2 _ _ (t1 _ _ hcL)) npr
  have hc0 : ∀ i, i < n → 0 ≤ c i := fun i hi => (hc i hi).1
  -- _law_are_phases
  refine ⟨_, rfl, _, rfl, pw, _, rfl, .inl (SqL.of hw3), pr, as, rows, n, (by rw [lv_len]; rfl), hpr, RA.len, (fun k ad row h1 h2 => ⟨(RA.at_ k ad row h1 h2).2, (R.ok k row h2).ne, (R.ok k row h2).rng⟩), _, rfl, ?_⟩
  refine iteF ?_
  -- for phase in actual
  refine ⟨_, rfl, pr, rfl, ⟨_, SqL.of hpr⟩, for_list (K := K) (a := pr) (xs := as.map V.ref)
    (fun i σ H' => ∃ v4 v5 v6 v7, σ = [some (.ref a), some (.ref pw), some (.ref pc), some (.ref pr), v4, v5, v6, v7] ∧ (∀ d o, H3 d = some o → d ≠ pc → H' d = some o) ∧ H' pc = some (.lst (lv n (aft c (rows.take i).flatten))))
    ⟨none, none, none, none, rfl, fun d o e _ => e, by rw [List.take_zero, List.flatten_nil, aft_nil]; exact hc3⟩ (fun i σ H' _ ⟨_, _, _, _, _, st, _⟩ => SqL.of (st _ _ hpr hcr.symm)) ?_ ?_⟩
  · rintro i y σ H' hi ⟨v4, v5, v6, v7, rfl, st, hl⟩
    obtain ⟨ad, had, rfl⟩ := ref_item hi
    obtain ⟨row, hrow⟩ := row_of RA.len had
    have Pk := R.ok i row hrow
    have hil : i < rows.length := (List.getElem?_eq_some_iff.mp hrow).1
    obtain ⟨r0, r1⟩ := RA.at_ i ad row had hrow
    have cad : pc ≠ ad := ne_of_none (t2 _ _ (t1 _ _ hcL)) r0
    have hwH := st _ _ hw3 hwc
    have hadH := st _ _ r1 cad.symm
    have lnn := R.nonneg hc0 i (Nat.le_of_lt hil)
    have lle : ∀ k, k < n → aft c (rows.take i).flatten k ≤ 40 := fun k hk => Int.le_trans (aft_le c _ k) (hc k hk).2
    have hlen : (row.length : Int) ≤ n * 40 := by
      rw [← Pk.sum]
      exact sm_bound fun k hk => Int.le_trans (Pk.le k hk) (lle k hk)
    -- placed = [0] * len(weights)
    refine ⟨(by show 1 ≤ sizeLine; decide), fun p0 n0 => ?_⟩
    have q0 : Same H' (upd H' p0 (.lst [.int 0])) := same_new n0 _
    refine ⟨_, rfl, pw, _, rfl, .inl (SqL.of (q0 _ _ hwH)), p0, (n : Int), _, rfl, (by rw [lv_len]), upd_same, by omega, by omega, (by show 1 * n ≤ sizeLine; rw [Nat.one_mul]; exact size_of (by omega)), fun p np => ?_⟩
    have q1 : Same H' (upd (upd H' p0 (.lst [.int 0])) p (.lst (List.replicate (n : Int).toNat [V.int 0]).flatten)) := q0.trans (same_new np _)
    have pH : H' p = none := q0.free np
    have ppc : p ≠ pc := (ne_of_none hl pH).symm
    -- for turn in range(len(phase) + 1)
    refine ⟨_, rfl, ad, _, rfl, .inl (SqL.of (q1 _ _ hadH)), _, _, rfl, rfl, (row.length : Int) + 1, (by rw [List.length_map]), by omega, by omega, for_range (lo := 0) (n := ((row.length : Int) + 1).toNat)
      (fun t σ H5 => ∃ v6, σ = [some (.ref a), some (.ref pw), some (.ref pc), some (.ref pr), some (.ref ad), some (.ref p), v6, v7] ∧ Same H' H5 ∧ H5 p = some (.lst (lv n (cn (row.take t)))))
      ⟨v6, rfl, q1, by rw [upd_same, List.take_zero, cn_nil, ← zeros]; rfl⟩ ?_ ?_⟩
    · rintro t σ H5 ht ⟨v6, rfl, s5, h5⟩
      have ht' : t ≤ row.length := by omega
      have xb : ∀ k, k < n → 0 ≤ cn (row.take t) k ∧ cn (row.take t) k ≤ 1000000 := fun k hk => by
        have b1 := cn_take row t k
        have b2 := Pk.le k hk
        have b3 := lle k hk
        exact ⟨cn_nonneg _ k, by omega⟩
      refine ⟨_, rfl, _, rfl, _, rfl, _, rfl, pw, pc, p, n, w, aft c (rows.take i).flatten, cn (row.take t), (t : Int), (by rw [Int.zero_add]; rfl), SqL.of (s5 _ _ hwH), SqL.of (s5 _ _ hl), SqL.of h5, hn, hw, xb, Pk.beg t ht', _, rfl, ?_⟩
      refine iteF ?_
      refine ⟨_, rfl, _, rfl, ad, _, rfl, .inl (SqL.of (s5 _ _ hadH)), _, _, rfl, rfl, _, rfl, ?_⟩
      refine ite2 (fun c1 => ?_) (fun c1 => ?_)
      · have c1' : 0 + (t : Int) < (((rv row).length : Nat) : Int) := of_decide_eq_true c1
        rw [List.length_map] at c1'
        have htl : t < row.length := by omega
        have hz : row[t]? = some row[t] := List.getElem?_eq_getElem htl
        have hzn : row[t] < n := Pk.rng _ (List.getElem_mem htl)
        have hat : atI (rv row) (0 + (t : Int)) = some (.int ((row[t] : Nat) : Int)) := at_of (Int.zero_add _) (by rw [List.getElem?_map, hz]; rfl)
        refine ⟨_, rfl, _, rfl, _, rfl, ad, _, _, _, rfl, rfl, SqL.of (s5 _ _ hadH), hat, p, _, _, _, rfl, rfl, SqL.of h5, lv_at rfl hzn, _, _, rfl, rfl, ?_⟩
        refine ⟨_, rfl, _, rfl, _, rfl, ad, _, _, _, rfl, rfl, SqL.of (s5 _ _ hadH), hat, p, _, _, row[t], rfl, rfl, h5, lv_ix rfl hzn, ?_⟩
        have e1 : (lv n (cn (row.take t))).set row[t] (.int (cn (row.take t) row[t] + 1)) = lv n (cn (row.take (t + 1))) := by
          rw [lv_bump rfl, take_snoc hz, cn_snoc]
        refine ⟨_, rfl, fun d o e => ?_, ?_⟩
        · rw [upd_ne (ne_of_none e pH)]
          exact s5 d o e
        · rw [upd_same]
          exact congrArg (fun u => some (HO.lst u)) e1
      · have c1' : ¬ 0 + (t : Int) < (((rv row).length : Nat) : Int) := of_decide_eq_false (Bool.eq_false_iff.mpr c1)
        rw [List.length_map] at c1'
        refine ⟨_, rfl, s5, ?_⟩
        have e1 : row.take (t + 1) = row.take t := by
          rw [List.take_of_length_le (by omega), List.take_of_length_le (by omega)]
        rw [e1]
        exact h5
    · rintro σ H5 ⟨v6, rfl, s5, h5⟩
      have et : row.take ((row.length : Int) + 1).toNat = row := List.take_of_length_le (by omega)
      rw [et] at h5
      -- for k in range(len(weights)): left[k] = left[k] - placed[k]
      refine ⟨_, rfl, pw, _, rfl, .inl (SqL.of (s5 _ _ hwH)), (n : Int), (by rw [lv_len]), by omega, by omega, for_range (lo := 0) (n := n)
        (fun k σ H6 => ∃ v7, σ = [some (.ref a), some (.ref pw), some (.ref pc), some (.ref pr), some (.ref ad), some (.ref p), v6, v7] ∧ (∀ d o, H5 d = some o → d ≠ pc → H6 d = some o) ∧ H6 pc = some (.lst (lv n (part (aft c (rows.take i).flatten) row k))))
        ⟨v7, rfl, fun d o e _ => e, by rw [part_zero]; exact s5 _ _ hl⟩ ?_ ?_⟩
      · rintro k σ H6 hk ⟨v7, rfl, s6, h6⟩
        have h6p := s6 _ _ h5 ppc
        refine ⟨_, rfl, _, rfl, pc, _, _, _, rfl, rfl, SqL.of h6, lv_at (Int.zero_add _) hk, _, rfl, _, rfl, p, _, _, _, rfl, rfl, SqL.of h6p, lv_at (Int.zero_add _) hk, _, _, rfl, rfl, ?_⟩
        refine ⟨_, rfl, _, rfl, pc, _, _, k, rfl, rfl, h6, lv_ix (Int.zero_add _) hk, ?_⟩
        rw [part_set]
        refine ⟨_, rfl, _, rfl, pc, _, _, _, rfl, rfl, SqL.of upd_same, lv_at (Int.zero_add _) hk, _, _, rfl, rfl, _, rfl, ?_⟩
        refine ite2 (fun c1 => ?_) (fun c1 => ?_)
        · have c1' : part (aft c (rows.take i).flatten) row (k + 1) k < 0 := of_decide_eq_true c1
          rw [part_up] at c1'
          have := Pk.left k hk
          omega
        · exact ⟨_, rfl, fun d o e hd => by rw [upd_ne hd]; exact s6 d o e hd, upd_same⟩
      · rintro σ H6 ⟨v7, rfl, s6, h6⟩
        refine ⟨_, _, _, _, rfl, fun d o e hd => s6 d o (s5 d o (st d o e hd)) hd, ?_⟩
        rw [h6, part_all, take_snoc hrow, flatten_snoc, aft_append]
  · rintro σ H' ⟨v4, v5, v6, v7, rfl, st, hl⟩
    have et : rows.take (as.map V.ref).length = rows := List.take_of_length_le (by rw [List.length_map, RA.len]; exact Nat.le_refl _)
    rw [et] at hl
    -- return sum(left) == 0
    refine ⟨_, rfl, pc, li n (aft c rows.flatten), rfl, SqL.of hl, rfl, ?_⟩
    have ed : decide (V.int (li n (aft c rows.flatten)).sum = V.int 0) = true := decide_eq_true (by rw [li_sum, z])
    show Q (V.bl (decide (V.int (li n (aft c rows.flatten)).sum = V.int 0))) H'
    rw [ed]
    exact q _
end
end My
/-! The end: the program's top, the law's theorem. -/
namespace My
open PySem L2 Fair
theorem all_mk {l : PySem.W.OpenLaw} {w : World} {K : PySem.W.Frag} {h : Heap} {mg : Str → Option Value} {fa f1 f2 f3 f4 f5 f6 f7 f8 f9 f10 f11 f12 : Addr} (X : K.In h) (G : h.Ns mainGlobals mg) (hfa : mg "law" = some (.ref fa))
    {od1 an1 od2 an2 od3 an3 od4 an4 od5 an5 od6 an6 od7 an7 od8 an8 od9 an9 od10 an10 od11 an11 od12 an12 : Option Addr} {sl1 sl2 sl3 sl4 sl5 sl6 sl7 sl8 sl9 sl10 sl11 sl12 : Array (Option Value)} {oc1 kV1 dc1 pm1 cd1 ct1 oc2 kV2 dc2 pm2 cd2 ct2 oc3 kV3 dc3 pm3 cd3 ct3 oc4 kV4 dc4 pm4 cd4 ct4 oc5 kV5 dc5 pm5 cd5 ct5 oc6 kV6 dc6 pm6 cd6 ct6 oc7 kV7 dc7 pm7 cd7 ct7 oc8 kV8 dc8 pm8 cd8 ct8 oc9 kV9 dc9 pm9 cd9 ct9 oc10 kV10 dc10 pm10 cd10 ct10 oc11 kV11 dc11 pm11 cd11 ct11 oc12 kV12 dc12 pm12 cd12 ct12 : Value}
    (a1 : PySem.W.nsIn K mainGlobals "due" = some (some (.ref f1))) (l1 : K.lookup f1 = some ⟨oc1, od1, .func (PySem.W.fnOf "due" "due" (defArgs sDue) (defBody sDue) (defScope sDue) .none kV1 dc1 pm1 an1 cd1 ct1), sl1⟩) (c1 : PySem.W.codeIn K cd1 "due" = true) (k1 : PySem.W.keepIn K (.ref f1) = true)
    (a2 : PySem.W.nsIn K mainGlobals "_total" = some (some (.ref f2))) (l2 : K.lookup f2 = some ⟨oc2, od2, .func (PySem.W.fnOf "_total" "_total" (defArgs sTot) (defBody sTot) (defScope sTot) .none kV2 dc2 pm2 an2 cd2 ct2), sl2⟩) (c2 : PySem.W.codeIn K cd2 "_total" = true) (k2 : PySem.W.keepIn K (.ref f2) = true)
    (a3 : PySem.W.nsIn K mainGlobals "_next_source" = some (some (.ref f3))) (l3 : K.lookup f3 = some ⟨oc3, od3, .func (PySem.W.fnOf "_next_source" "_next_source" (defArgs sNext) (defBody sNext) (defScope sNext) .none kV3 dc3 pm3 an3 cd3 ct3), sl3⟩) (c3 : PySem.W.codeIn K cd3 "_next_source" = true) (k3 : PySem.W.keepIn K (.ref f3) = true)
    (a4 : PySem.W.nsIn K mainGlobals "_first_phase" = some (some (.ref f4))) (l4 : K.lookup f4 = some ⟨oc4, od4, .func (PySem.W.fnOf "_first_phase" "_first_phase" (defArgs sFirst) (defBody sFirst) (defScope sFirst) .none kV4 dc4 pm4 an4 cd4 ct4), sl4⟩) (c4 : PySem.W.codeIn K cd4 "_first_phase" = true) (k4 : PySem.W.keepIn K (.ref f4) = true)
    (a5 : PySem.W.nsIn K mainGlobals "phases" = some (some (.ref f5))) (l5 : K.lookup f5 = some ⟨oc5, od5, .func (PySem.W.fnOf "phases" "phases" (defArgs sPhases) (defBody sPhases) (defScope sPhases) .none kV5 dc5 pm5 an5 cd5 ct5), sl5⟩) (c5 : PySem.W.codeIn K cd5 "phases" = true) (k5 : PySem.W.keepIn K (.ref f5) = true)
    (a6 : PySem.W.nsIn K mainGlobals "_law_cell" = some (some (.ref f6))) (l6 : K.lookup f6 = some ⟨oc6, od6, .func (PySem.W.fnOf "_law_cell" "_law_cell" (defArgs sCell) (defBody sCell) (defScope sCell) .none kV6 dc6 pm6 an6 cd6 ct6), sl6⟩) (c6 : PySem.W.codeIn K cd6 "_law_cell" = true) (k6 : PySem.W.keepIn K (.ref f6) = true)
    (a7 : PySem.W.nsIn K mainGlobals "_law_is_integer" = some (some (.ref f7))) (l7 : K.lookup f7 = some ⟨oc7, od7, .func (PySem.W.fnOf "_law_is_integer" "_law_is_integer" (defArgs sIsInt) (defBody sIsInt) (defScope sIsInt) .none kV7 dc7 pm7 an7 cd7 ct7), sl7⟩) (c7 : PySem.W.codeIn K cd7 "_law_is_integer" = true) (k7 : PySem.W.keepIn K (.ref f7) = true)
    (a8 : PySem.W.nsIn K mainGlobals "_law_weights" = some (some (.ref f8))) (l8 : K.lookup f8 = some ⟨oc8, od8, .func (PySem.W.fnOf "_law_weights" "_law_weights" (defArgs sWts) (defBody sWts) (defScope sWts) .none kV8 dc8 pm8 an8 cd8 ct8), sl8⟩) (c8 : PySem.W.codeIn K cd8 "_law_weights" = true) (k8 : PySem.W.keepIn K (.ref f8) = true)
    (a9 : PySem.W.nsIn K mainGlobals "_law_counts" = some (some (.ref f9))) (l9 : K.lookup f9 = some ⟨oc9, od9, .func (PySem.W.fnOf "_law_counts" "_law_counts" (defArgs sCnts) (defBody sCnts) (defScope sCnts) .none kV9 dc9 pm9 an9 cd9 ct9), sl9⟩) (c9 : PySem.W.codeIn K cd9 "_law_counts" = true) (k9 : PySem.W.keepIn K (.ref f9) = true)
    (a10 : PySem.W.nsIn K mainGlobals "_law_are_phases" = some (some (.ref f10))) (l10 : K.lookup f10 = some ⟨oc10, od10, .func (PySem.W.fnOf "_law_are_phases" "_law_are_phases" (defArgs sAre) (defBody sAre) (defScope sAre) .none kV10 dc10 pm10 an10 cd10 ct10), sl10⟩) (c10 : PySem.W.codeIn K cd10 "_law_are_phases" = true) (k10 : PySem.W.keepIn K (.ref f10) = true)
    (a11 : PySem.W.nsIn K mainGlobals "_law_beginning" = some (some (.ref f11))) (l11 : K.lookup f11 = some ⟨oc11, od11, .func (PySem.W.fnOf "_law_beginning" "_law_beginning" (defArgs sBeg) (defBody sBeg) (defScope sBeg) .none kV11 dc11 pm11 an11 cd11 ct11), sl11⟩) (c11 : PySem.W.codeIn K cd11 "_law_beginning" = true) (k11 : PySem.W.keepIn K (.ref f11) = true)
    (a12 : PySem.W.nsIn K mainGlobals "law" = some (some (.ref f12))) (l12 : K.lookup f12 = some ⟨oc12, od12, .func (PySem.W.fnOf "law" "law" (defArgs sLaw) (defBody sLaw) (defScope sLaw) .none kV12 dc12 pm12 an12 cd12 ct12), sl12⟩) (c12 : PySem.W.codeIn K cd12 "law" = true) (k12 : PySem.W.keepIn K (.ref f12) = true)
    (z1 : PySem.W.nsIn K mainGlobals "len" = some none) (z2 : PySem.W.nsIn K mainGlobals "range" = some none) (z3 : PySem.W.nsIn K mainGlobals "sum" = some none) (z4 : PySem.W.nsIn K mainGlobals "list" = some none) (z5 : PySem.W.nsIn K mainGlobals "int" = some none) (z6 : PySem.W.nsIn K mainGlobals "bool" = some none) (z7 : PySem.W.nsIn K mainGlobals "isinstance" = some none) :
    ∃ fd : FuncData, (∀ (s : Shared) (v : Value), BindsTo s fd ⟨[v], []⟩ [("_law_script", v)]) ∧ ∀ base : Heap, K.In base → base.Ns mainGlobals mg → FnOk l.prog w K mg base CX0 5 fa fd ["_law_script"] (spLaw K) := by
  have e := hfa.symm.trans (PySem.W.mg_of X G a12)
  cases e
  have F1 := fun_mk (st := sDue) l1 c1 k1
  have F2 := fun_mk (st := sTot) l2 c2 k2
  have F3 := fun_mk (st := sNext) l3 c3 k3
  have F4 := fun_mk (st := sFirst) l4 c4 k4
  have F5 := fun_mk (st := sPhases) l5 c5 k5
  have F6 := fun_mk (st := sCell) l6 c6 k6
  have F7 := fun_mk (st := sIsInt) l7 c7 k7
  have F8 := fun_mk (st := sWts) l8 c8 k8
  have F9 := fun_mk (st := sCnts) l9 c9 k9
  have F10 := fun_mk (st := sAre) l10 c10 k10
  have F11 := fun_mk (st := sBeg) l11 c11 k11
  have F12 := fun_mk (st := sLaw) l12 c12 k12
  have b1 := F1.binds (ps := ["total", "weight", "placed"]) fun _ _ _ _ _ _ us hl => match us, hl with | [_, _, _], _ => rfl
  have m1 := PySem.W.mg_of X G a1
  have b2 := F2.binds (ps := ["weights", "left"]) fun _ _ _ _ _ _ us hl => match us, hl with | [_, _], _ => rfl
  have m2 := PySem.W.mg_of X G a2
  have b3 := F3.binds (ps := ["weights", "left", "placed", "turn"]) fun _ _ _ _ _ _ us hl => match us, hl with | [_, _, _, _], _ => rfl
  have m3 := PySem.W.mg_of X G a3
  have b4 := F4.binds (ps := ["weights", "left"]) fun _ _ _ _ _ _ us hl => match us, hl with | [_, _], _ => rfl
  have m4 := PySem.W.mg_of X G a4
  have b5 := F5.binds (ps := ["weights", "counts"]) fun _ _ _ _ _ _ us hl => match us, hl with | [_, _], _ => rfl
  have m5 := PySem.W.mg_of X G a5
  have b6 := F6.binds (ps := ["_law_script", "_law_k"]) fun _ _ _ _ _ _ us hl => match us, hl with | [_, _], _ => rfl
  have m6 := PySem.W.mg_of X G a6
  have b7 := F7.binds (ps := ["_law_actual"]) fun _ _ _ _ _ _ us hl => match us, hl with | [_], _ => rfl
  have m7 := PySem.W.mg_of X G a7
  have b8 := F8.binds (ps := ["_law_script"]) fun _ _ _ _ _ _ us hl => match us, hl with | [_], _ => rfl
  have m8 := PySem.W.mg_of X G a8
  have b9 := F9.binds (ps := ["_law_script", "_law_many"]) fun _ _ _ _ _ _ us hl => match us, hl with | [_, _], _ => rfl
  have m9 := PySem.W.mg_of X G a9
  have b10 := F10.binds (ps := ["_law_actual", "_law_many"]) fun _ _ _ _ _ _ us hl => match us, hl with | [_, _], _ => rfl
  have m10 := PySem.W.mg_of X G a10
  have b11 := F11.binds (ps := ["_law_weights_here", "_law_left", "_law_placed", "_law_turn"]) fun _ _ _ _ _ _ us hl => match us, hl with | [_, _, _, _], _ => rfl
  have m11 := PySem.W.mg_of X G a11
  have T : Txt mg := ⟨PySem.W.mg_none_of X G z1, PySem.W.mg_none_of X G z2, PySem.W.mg_none_of X G z3, PySem.W.mg_none_of X G z4, PySem.W.mg_none_of X G z5, PySem.W.mg_none_of X G z6, PySem.W.mg_none_of X G z7⟩
  refine ⟨PySem.W.fnOf "law" "law" (defArgs sLaw) (defBody sLaw) (defScope sLaw) .none kV12 dc12 pm12 an12 cd12 ct12, fun s v => .of_eq rfl, fun base _ _ => ?_⟩
  exact ok_law T F12 (ok_wts T F8 F6 b6 m6) k8 b8 m8 (ok_cnts T F9 F6 b6 m6) k9 b9 m9
    (ok_phases T F5 F4 b4 m4 F3 b3 m3 F2 b2 m2 F1 b1 m1) k5 b5 m5 (ok_are T F10 F7 b7 m7) k10 b10 m10 (ok_beg T F11) k11 b11 m11
theorem walk {l : PySem.W.OpenLaw} {q : Program} {loose : List Str} {XP : (Str → Option Value) → Heap → Prop} {YP : World → Heap → Prop} {d : DefRec} {K : Params → PySem.W.Frag} (hn : l.most = some 63) (hdf : d.params.defaults = [])
    (hY : ∀ (w : World) (h : Heap), YP w h → (K w.params).In h)
    (F : ∀ (w : World) (mg : Str → Option Value) (fa : Addr) (h : Heap), (K w.params).In h → h.Ns mainGlobals mg → mg d.name = some (.ref fa) →
      ∃ fd : FuncData, (∀ (s : Shared) (u : Value), BindsTo s fd ⟨[u], []⟩ [("_law_script", u)]) ∧ ∀ base : Heap, (K w.params).In base → base.Ns mainGlobals mg → FnOk l.prog w (K w.params) mg base CX0 5 fa fd ["_law_script"] (spLaw (K w.params))) :
    PySem.W.WalkO q loose XP YP l.row.toRowW d [] (fun f vs => PySem.call f vs) :=
  L2.walk_of (n := 63) (k := 5) (x := "_law_script") (CX := fun _ => CX0) (sp := fun w => spLaw (K w.params)) hn (by decide) hdf ⟨rfl, by decide, by decide⟩ hY F (fun _ _ a ns hl _ hS => ⟨a, ns, rfl, hS, hl, fun _ => rfl⟩) fun _ _ _ _ _ z => z
end My
open PySem PySem.W PyProof.Rows
set_option maxRecDepth 100000 in
set_option maxHeartbeats 0 in
theorem PySem.Challenge.cw_corpuskeep_k46_pages_whole_fair_holds : PySem.Challenge.rw_corpuskeep_k46_pages_whole_fair.Holds := by
  w_on; o_law; k_head; (case hw => w_witness2)
  k_fill
  refine My.walk (l := PySem.Challenge.rw_corpuskeep_k46_pages_whole_fair) rfl rfl (fun w h Y => PySem.W.kIn_of Y) ?F
  case F =>
    intro w mg fa h KX G hmg
    refine' My.all_mk KX G hmg ?a1 ?l1 ?c1 ?k1 ?a2 ?l2 ?c2 ?k2 ?a3 ?l3 ?c3 ?k3 ?a4 ?l4 ?c4 ?k4 ?a5 ?l5 ?c5 ?k5 ?a6 ?l6 ?c6 ?k6 ?a7 ?l7 ?c7 ?k7 ?a8 ?l8 ?c8 ?k8 ?a9 ?l9 ?c9 ?k9 ?a10 ?l10 ?c10 ?k10 ?a11 ?l11 ?c11 ?k11 ?a12 ?l12 ?c12 ?k12 ?z1 ?z2 ?z3 ?z4 ?z5 ?z6 ?z7
    (case a1 => k_is); (case l1 => k_is); (case c1 => k_is); (case k1 => k_is)
    (case a2 => k_is); (case l2 => k_is); (case c2 => k_is); (case k2 => k_is)
    (case a3 => k_is); (case l3 => k_is); (case c3 => k_is); (case k3 => k_is)
    (case a4 => k_is); (case l4 => k_is); (case c4 => k_is); (case k4 => k_is)
    (case a5 => k_is); (case l5 => k_is); (case c5 => k_is); (case k5 => k_is)
    (case a6 => k_is); (case l6 => k_is); (case c6 => k_is); (case k6 => k_is)
    (case a7 => k_is); (case l7 => k_is); (case c7 => k_is); (case k7 => k_is)
    (case a8 => k_is); (case l8 => k_is); (case c8 => k_is); (case k8 => k_is)
    (case a9 => k_is); (case l9 => k_is); (case c9 => k_is); (case k9 => k_is)
    (case a10 => k_is); (case l10 => k_is); (case c10 => k_is); (case k10 => k_is)
    (case a11 => k_is); (case l11 => k_is); (case c11 => k_is); (case k11 => k_is)
    (case a12 => k_is); (case l12 => k_is); (case c12 => k_is); (case k12 => k_is)
    (case z1 => k_is); (case z2 => k_is); (case z3 => k_is); (case z4 => k_is); (case z5 => k_is); (case z6 => k_is); (case z7 => k_is)
