import PyProof.Rows.All
import Wide.All
import OpenK.AllK
import Wide.FinOn
import HandS.ForMost
import HandS.Defaults
import HandS.Wide
import HandS.Gcd
import HandS.Zip
import HandS.IsInst
import HandS.Walk
import HandS.Evl
import KE.KMathGC
import PySem.Challenge.RW_metricparts_k05_whole_weights_or_functio
set_option linter.all false
/-! Sums and determinants of whole numbers, by expansion: linear in each place, 0 for two equal rows, 1 at the unit rows, bounded. -/
namespace K5

/-- the sum of f i for i < n -/
def S : Nat → (Nat → Int) → Int
  | 0, _ => 0
  | n + 1, f => S n f + f n

theorem S_congr {n : Nat} {f g : Nat → Int} (h : ∀ i, i < n → f i = g i) : S n f = S n g := by
  induction n with
  | zero => rfl
  | succ n ih =>
    show S n f + f n = S n g + g n
    rw [ih fun i hi => h i (by omega), h n (by omega)]
theorem S_add {n : Nat} {f g : Nat → Int} : S n (fun i => f i + g i) = S n f + S n g := by
  induction n with
  | zero => rfl
  | succ n ih =>
    show S n (fun i => f i + g i) + (f n + g n) = (S n f + f n) + (S n g + g n)
    rw [ih]; omega
theorem S_mul {n : Nat} {c : Int} {f : Nat → Int} : S n (fun i => c * f i) = c * S n f := by
  induction n with
  | zero => simp [S]
  | succ n ih =>
    show S n (fun i => c * f i) + c * f n = c * (S n f + f n)
    rw [ih, Int.mul_add]
theorem S_sub {n : Nat} {f g : Nat → Int} : S n (fun i => f i - g i) = S n f - S n g := by
  induction n with
  | zero => rfl
  | succ n ih =>
    show S n (fun i => f i - g i) + (f n - g n) = (S n f + f n) - (S n g + g n)
    rw [ih]; omega
theorem S_neg {n : Nat} {f : Nat → Int} : S n (fun i => - f i) = - S n f := by
  induction n with
  | zero => rfl
  | succ n ih =>
    show S n (fun i => - f i) + - f n = - (S n f + f n)
    rw [ih]; omega
theorem S_zero {n : Nat} {f : Nat → Int} (h : ∀ i, i < n → f i = 0) : S n f = 0 := by
  induction n with
  | zero => rfl
  | succ n ih =>
    show S n f + f n = 0
    rw [ih fun i hi => h i (by omega), h n (by omega)]; rfl
theorem S_one {n i : Nat} {f : Nat → Int} (hi : i < n) (h : ∀ j, j < n → j ≠ i → f j = 0) : S n f = f i := by
  induction n with
  | zero => omega
  | succ n ih =>
    show S n f + f n = f i
    by_cases e : i = n
    · subst e
      rw [S_zero fun j hj => h j (by omega) (by omega)]; omega
    · rw [ih (by omega) fun j hj => h j (by omega), h n (by omega) (by omega)]; omega
theorem S_two {n i j : Nat} {f : Nat → Int} (hi : i < j) (hj : j < n) (h : ∀ k, k < n → k ≠ i → k ≠ j → f k = 0) : S n f = f i + f j := by
  induction n with
  | zero => omega
  | succ n ih =>
    show S n f + f n = f i + f j
    by_cases e : j = n
    · subst e
      rw [S_one hi fun k hk hne => h k (by omega) hne (by omega)]
    · rw [ih (by omega) fun k hk => h k (by omega), h n (by omega) (by omega) (by omega)]; omega
theorem S_swap {n m : Nat} {f : Nat → Nat → Int} : S n (fun i => S m (fun j => f i j)) = S m (fun j => S n (fun i => f i j)) := by
  induction n with
  | zero => exact (S_zero fun _ _ => rfl).symm
  | succ n ih =>
    show S n (fun i => S m (fun j => f i j)) + S m (fun j => f n j) = S m (fun j => S n (fun i => f i j) + f n j)
    rw [S_add, ih]
theorem S_nonneg {n : Nat} {f : Nat → Int} (h : ∀ i, i < n → 0 ≤ f i) : 0 ≤ S n f := by
  induction n with
  | zero => exact Int.le_refl _
  | succ n ih =>
    have a := ih fun i hi => h i (by omega)
    have b := h n (by omega)
    show 0 ≤ S n f + f n
    omega
/-- a sum above 0 has an item above 0 -/
theorem S_pos {n : Nat} {f : Nat → Int} (h : 0 < S n f) : ∃ i, i < n ∧ 0 < f i := by
  induction n with
  | zero => exact absurd h (Int.lt_irrefl 0)
  | succ n ih =>
    by_cases e : 0 < f n
    · exact ⟨n, by omega, e⟩
    · obtain ⟨i, hi, q⟩ := ih (by
        have h' : 0 < S n f + f n := h
        omega)
      exact ⟨i, by omega, q⟩
/-- items from 0 on with the sum at most 0 are 0 -/
theorem S_all0 {n : Nat} {f : Nat → Int} (h : ∀ i, i < n → 0 ≤ f i) (z : S n f ≤ 0) : ∀ i, i < n → f i = 0 := by
  induction n with
  | zero => intro i hi; omega
  | succ n ih =>
    have z' : S n f + f n ≤ 0 := z
    have a := S_nonneg (n := n) fun i hi => h i (by omega)
    have b := h n (by omega)
    intro i hi
    by_cases e : i = n
    · subst e; omega
    · exact ih (fun i hi => h i (by omega)) (by omega) i (by omega)
theorem S_abs {n : Nat} {f : Nat → Int} {B : Nat} (h : ∀ i, i < n → (f i).natAbs ≤ B) : (S n f).natAbs ≤ n * B := by
  induction n with
  | zero => simp [S]
  | succ n ih =>
    have a := ih fun i hi => h i (by omega)
    have b := h n (by omega)
    show (S n f + f n).natAbs ≤ (n + 1) * B
    rw [Nat.succ_mul]
    have := Int.natAbs_add_le (S n f) (f n)
    omega

abbrev Vec := Nat → Int
/-- the rows without the l-th -/
def skip (l : Nat) (v : Nat → Vec) : Nat → Vec := fun k => if k < l then v k else v (k + 1)
/-- the rows with x in the i-th place -/
def put (v : Nat → Vec) (i : Nat) (x : Vec) : Nat → Vec := fun k => if k = i then x else v k
theorem put_same {v : Nat → Vec} {i : Nat} {x : Vec} : put v i x i = x := if_pos rfl
theorem put_ne {v : Nat → Vec} {i k : Nat} {x : Vec} (h : k ≠ i) : put v i x k = v k := if_neg h
theorem put_put {v : Nat → Vec} {i : Nat} {x y : Vec} : put (put v i x) i y = put v i y := by
  funext k; unfold put; split <;> rfl
theorem put_comm {v : Nat → Vec} {i j : Nat} {x y : Vec} (h : i ≠ j) : put (put v i x) j y = put (put v j y) i x := by
  funext k; unfold put; split <;> split <;> first | rfl | omega
theorem put_self {v : Nat → Vec} {i : Nat} : put v i (v i) = v := by
  funext k; unfold put; split
  · rename_i h; rw [h]
  · rfl
def sg : Nat → Int
  | 0 => 1
  | n + 1 => - sg n
theorem sg_dbl (m : Nat) : sg (m + m) = 1 := by
  induction m with
  | zero => rfl
  | succ m ih =>
    rw [show m + 1 + (m + 1) = (m + m) + 1 + 1 by omega]
    show - - sg (m + m) = 1
    rw [ih]; rfl
theorem sg_abs (n : Nat) : (sg n).natAbs = 1 := by
  induction n with
  | zero => rfl
  | succ n ih =>
    show (- sg n).natAbs = 1
    rw [Int.natAbs_neg]; exact ih
def det : Nat → (Nat → Vec) → Int
  | 0, _ => 1
  | m + 1, v => S (m + 1) fun l => sg (m + l) * (v l m * det m (skip l v))
theorem det_succ (m : Nat) (v : Nat → Vec) : det (m + 1) v = S (m + 1) fun l => sg (m + l) * (v l m * det m (skip l v)) := rfl
theorem det_congr : ∀ {m : Nat} {v w : Nat → Vec}, (∀ k, k < m → ∀ t, t < m → v k t = w k t) → det m v = det m w
  | 0, _, _, _ => rfl
  | m + 1, v, w, h => by
    rw [det_succ, det_succ]
    refine S_congr fun l hl => ?_
    rw [h l hl m (by omega), det_congr (m := m) (v := skip l v) (w := skip l w) fun k hk t ht => ?_]
    unfold skip
    split
    · exact h k (by omega) t (by omega)
    · exact h (k + 1) (by omega) t (by omega)
theorem skip_put_same {v : Nat → Vec} {i : Nat} {x : Vec} : skip i (put v i x) = skip i v := by
  funext k; unfold skip put; split <;> split <;> first | rfl | omega
theorem skip_put_lt {v : Nat → Vec} {i l : Nat} {x : Vec} (h : i < l) : skip l (put v i x) = put (skip l v) i x := by
  funext k; unfold skip put; grind
theorem skip_put_gt {v : Nat → Vec} {i l : Nat} {x : Vec} (h : l < i) : skip l (put v i x) = put (skip l v) (i - 1) x := by
  funext k; unfold skip put; grind
/-- linear in each place -/
theorem det_lin : ∀ {m i : Nat} {v : Nat → Vec} {x y : Vec} {a b : Int}, i < m →
    det m (put v i fun t => a * x t + b * y t) = a * det m (put v i x) + b * det m (put v i y)
  | 0, _, _, _, _, _, _, h => by omega
  | m + 1, i, v, x, y, a, b, h => by
    rw [det_succ, det_succ, det_succ, ← S_mul, ← S_mul, ← S_add]
    refine S_congr fun l hl => ?_
    by_cases e : l = i
    · subst e
      rw [skip_put_same, skip_put_same, skip_put_same, put_same, put_same, put_same]
      grind
    · rw [put_ne e, put_ne e, put_ne e]
      rcases Nat.lt_or_gt_of_ne e with q | q
      · rw [skip_put_gt q, skip_put_gt q, skip_put_gt q, det_lin (m := m) (i := i - 1) (by omega)]
        grind
      · rw [skip_put_lt q, skip_put_lt q, skip_put_lt q, det_lin (m := m) (i := i) (by omega)]
        grind
theorem det_add {m i : Nat} {v : Nat → Vec} {x y : Vec} (h : i < m) : det m (put v i fun t => x t + y t) = det m (put v i x) + det m (put v i y) := by
  have e := det_lin (v := v) (x := x) (y := y) (a := 1) (b := 1) h
  rw [Int.one_mul, Int.one_mul] at e
  rw [← e]
  refine congrArg _ (congrArg _ (funext fun t => ?_))
  rw [Int.one_mul, Int.one_mul]
theorem det_scale {m i : Nat} {v : Nat → Vec} {x : Vec} {a : Int} (h : i < m) : det m (put v i fun t => a * x t) = a * det m (put v i x) := by
  have e := det_lin (v := v) (x := x) (y := x) (a := a) (b := 0) h
  rw [Int.zero_mul, Int.add_zero] at e
  rw [← e]
  refine congrArg _ (congrArg _ (funext fun t => ?_))
  rw [Int.zero_mul, Int.add_zero]
theorem det_sum {m i n : Nat} {v : Nat → Vec} {c : Nat → Int} {x : Nat → Vec} (h : i < m) :
    det m (put v i fun t => S n fun l => c l * x l t) = S n fun l => c l * det m (put v i (x l)) := by
  induction n with
  | zero =>
    have e := det_scale (v := v) (x := fun _ => 0) (a := 0) h
    simp only [Int.zero_mul] at e
    exact e
  | succ n ih =>
    show det m (put v i fun t => S n (fun l => c l * x l t) + c n * x n t) = S n (fun l => c l * det m (put v i (x l))) + c n * det m (put v i (x n))
    rw [det_add h, ih, det_scale h]
theorem det_add1 {m i j : Nat} {v : Nat → Vec} {x y z : Vec} (h : i < m) (n : i ≠ j) : det m (put (put v i fun t => x t + y t) j z) = det m (put (put v i x) j z) + det m (put (put v i y) j z) := by
  rw [put_comm n, put_comm n, put_comm n, det_add h]
/-- two equal neighbours -/
theorem det_next : ∀ {m j : Nat} {v : Nat → Vec}, j + 1 < m → v j = v (j + 1) → det m v = 0
  | 0, _, _, h, _ => by omega
  | m + 1, j, v, h, e => by
    rw [det_succ, S_two (i := j) (j := j + 1) (by omega) h fun k hk n1 n2 => ?_]
    · have q : skip j v = skip (j + 1) v := by
        funext k; unfold skip
        by_cases c1 : k < j
        · rw [if_pos c1, if_pos (by omega)]
        · rw [if_neg c1]
          by_cases c2 : k = j
          · subst c2
            rw [if_pos (by omega), e]
          · rw [if_neg (by omega)]
      rw [← q, ← e, show m + (j + 1) = (m + j) + 1 by omega]
      show sg (m + j) * (v j m * det m (skip j v)) + (- sg (m + j)) * (v j m * det m (skip j v)) = 0
      rw [Int.neg_mul]; omega
    · have z : det m (skip k v) = 0 := by
        rcases Nat.lt_or_gt_of_ne n1 with q | q
        · refine det_next (j := j - 1) (by omega) ?_
          unfold skip
          rw [if_neg (by omega), if_neg (by omega), show j - 1 + 1 = j by omega]
          exact e
        · refine det_next (j := j) (by omega) ?_
          unfold skip
          rw [if_pos (by omega), if_pos (by omega)]
          exact e
      rw [z, Int.mul_zero, Int.mul_zero]
/-- swapped neighbours -/
theorem det_swap {m j : Nat} {v : Nat → Vec} (h : j + 1 < m) : det m (put (put v j (v (j + 1))) (j + 1) (v j)) = - det m v := by
  have hn : j ≠ j + 1 := by omega
  have z : ∀ x y : Vec, det m (put (put v j x) (j + 1) y) + det m (put (put v j y) (j + 1) x) = 0 := fun x y => by
    have a := det_next (m := m) (j := j) (v := put (put v j fun t => x t + y t) (j + 1) fun t => x t + y t) h (by rw [put_ne hn, put_same, put_same])
    have b := det_next (m := m) (j := j) (v := put (put v j x) (j + 1) x) h (by rw [put_ne hn, put_same, put_same])
    have c := det_next (m := m) (j := j) (v := put (put v j y) (j + 1) y) h (by rw [put_ne hn, put_same, put_same])
    rw [det_add h, det_add1 (by omega) hn, det_add1 (by omega) hn, b, c] at a
    omega
  have q := z (v j) (v (j + 1))
  rw [put_self, put_self] at q
  omega
/-- two equal rows -/
theorem det_eq {m : Nat} : ∀ {d i : Nat} {v : Nat → Vec}, i + d + 1 < m → v i = v (i + d + 1) → det m v = 0
  | 0, i, v, h, e => det_next h e
  | d + 1, i, v, h, e => by
    have s := det_swap (m := m) (j := i + d + 1) (v := v) (by omega)
    have z : det m (put (put v (i + d + 1) (v (i + d + 1 + 1))) (i + d + 1 + 1) (v (i + d + 1))) = 0 := by
      refine det_eq (d := d) (i := i) (by omega) ?_
      rw [put_ne (by omega), put_ne (by omega), put_ne (by omega), put_same]
      exact e
    omega
theorem det_alt {m i j : Nat} {v : Nat → Vec} (hi : i < m) (hj : j < m) (n : i ≠ j) (e : v i = v j) : det m v = 0 := by
  rcases Nat.lt_or_gt_of_ne n with q | q
  · exact det_eq (d := j - i - 1) (i := i) (by omega) (by rw [show i + (j - i - 1) + 1 = j by omega]; exact e)
  · exact det_eq (d := i - j - 1) (i := j) (by omega) (by rw [show j + (i - j - 1) + 1 = i by omega]; exact e.symm)
theorem det_anti {m i j : Nat} {v : Nat → Vec} {x y : Vec} (hi : i < m) (hj : j < m) (n : i ≠ j) : det m (put (put v i x) j y) = - det m (put (put v i y) j x) := by
  have a := det_alt (m := m) (v := put (put v i fun t => x t + y t) j fun t => x t + y t) hi hj n (by rw [put_ne n, put_same, put_same])
  have b := det_alt (m := m) (v := put (put v i x) j x) hi hj n (by rw [put_ne n, put_same, put_same])
  have c := det_alt (m := m) (v := put (put v i y) j y) hi hj n (by rw [put_ne n, put_same, put_same])
  rw [det_add hj, det_add1 hi n, det_add1 hi n, b, c] at a
  omega
/-- the unit rows -/
def unit (k : Nat) : Vec := fun t => if t = k then 1 else 0
theorem det_unit : ∀ {m : Nat} {v : Nat → Vec}, (∀ k, k < m → ∀ t, t < m → v k t = unit k t) → det m v = 1
  | 0, _, _ => rfl
  | m + 1, v, h => by
    rw [det_succ, S_one (i := m) (by omega) fun j hj n => ?_]
    · rw [h m (by omega) m (by omega), sg_dbl, det_unit (m := m) fun k hk t ht => ?_]
      · show 1 * (unit m m * 1) = 1
        unfold unit; simp
      · unfold skip
        rw [if_pos hk]
        exact h k (by omega) t (by omega)
    · rw [h j hj m (by omega), show unit j m = 0 from if_neg (by omega), Int.zero_mul, Int.mul_zero]
/-- a bound -/
def detB (R : Nat) : Nat → Nat
  | 0 => 1
  | m + 1 => (m + 1) * (R * detB R m)
theorem det_abs {R : Nat} : ∀ {m : Nat} {v : Nat → Vec}, (∀ k, k < m → ∀ t, t < m → (v k t).natAbs ≤ R) → (det m v).natAbs ≤ detB R m
  | 0, _, _ => Nat.le_refl _
  | m + 1, v, h => by
    rw [det_succ]
    refine S_abs fun l hl => ?_
    rw [Int.natAbs_mul, sg_abs, Nat.one_mul, Int.natAbs_mul]
    refine Nat.mul_le_mul (h l hl m (by omega)) (det_abs fun k hk t ht => ?_)
    unfold skip
    split
    · exact h k (by omega) t (by omega)
    · exact h (k + 1) (by omega) t (by omega)
end K5
set_option linter.all false
/-! The simplex method over whole numbers: the tableau, one step, no basis twice (Bland), what the end tells. -/
namespace K5

structure Tab where
  M : Nat → Nat → Int
  P : Nat → Int
  D : Int
  b : Nat → Nat

/-- the costs: 1 at the added columns -/
def cst (n m j : Nat) : Int := if n ≤ j ∧ j < n + m then 1 else 0
theorem cst_lo {n m j : Nat} (h : j < n) : cst n m j = 0 := if_neg (by omega)
theorem cst_hi {n m : Nat} : cst n m (n + m) = 0 := if_neg (by omega)
theorem cst_nn {n m j : Nat} : 0 ≤ cst n m j := by unfold cst; split <;> decide
theorem cst_le {n m j : Nat} : (cst n m j).natAbs ≤ 1 := by unfold cst; split <;> decide
theorem cst_add {n m k : Nat} (h : k < m) : cst n m (n + k) = 1 := if_pos (by omega)

abbrev Tab.B (T : Tab) (A : Nat → Vec) : Nat → Vec := fun k => A (T.b k)

structure Inv (m n : Nat) (A : Nat → Vec) (T : Tab) : Prop where
  hD : 0 < T.D
  dt : T.D = det m (T.B A)
  ent : ∀ k, k < m → ∀ j, j ≤ n + m → T.M k j = det m (put (T.B A) k (A j))
  cram : ∀ j, j ≤ n + m → ∀ t, t < m → T.D * A j t = S m fun k => T.M k j * A (T.b k) t
  bas : ∀ k, k < m → T.b k < n + m
  rhs : ∀ k, k < m → 0 ≤ T.M k (n + m)
  pri : ∀ j, j ≤ n + m → T.P j = T.D * cst n m j - S m fun k => cst n m (T.b k) * T.M k j

structure Enters (n : Nat) (T : Tab) (a : Nat) : Prop where
  lt : a < n
  neg : T.P a < 0
  fst : ∀ j, j < a → 0 ≤ T.P j
structure Leaves (m n : Nat) (T : Tab) (a o : Nat) : Prop where
  lt : o < m
  pos : 0 < T.M o a
  bst : ∀ i, i < m → 0 < T.M i a → T.M o (n + m) * T.M i a < T.M i (n + m) * T.M o a ∨ (T.M o (n + m) * T.M i a = T.M i (n + m) * T.M o a ∧ T.b o ≤ T.b i)
structure Step (m n : Nat) (T T' : Tab) (a o : Nat) : Prop where
  en : Enters n T a
  lv : Leaves m n T a o
  eD : T'.D = T.M o a
  eo : ∀ j, j ≤ n + m → T'.M o j = T.M o j
  ei : ∀ i, i < m → i ≠ o → ∀ j, j ≤ n + m → T'.M i j = (T.M i j * T.M o a - T.M i a * T.M o j) / T.D
  eP : ∀ j, j ≤ n + m → T'.P j = (T.P j * T.M o a - T.P a * T.M o j) / T.D
  bo : T'.b o = a
  bi : ∀ i, i < m → i ≠ o → T'.b i = T.b i

section
variable {m n : Nat} {A : Nat → Vec} {T T' : Tab} {a o : Nat}

/-- the basis has no column twice -/
theorem Inv.inj (I : Inv m n A T) {i k : Nat} (hi : i < m) (hk : k < m) (e : T.b i = T.b k) : i = k := by
  refine Decidable.byContradiction fun ne => ?_
  have h := I.hD
  rw [I.dt, det_alt hi hk ne (show A (T.b i) = A (T.b k) by rw [e])] at h
  omega
theorem Inv.diag (I : Inv m n A T) {k : Nat} (hk : k < m) : T.M k (T.b k) = T.D := by
  rw [I.ent k hk _ (Nat.le_of_lt (I.bas k hk)), I.dt, put_self (v := T.B A)]
theorem Inv.off (I : Inv m n A T) {k l : Nat} (hk : k < m) (hl : l < m) (ne : k ≠ l) : T.M k (T.b l) = 0 := by
  rw [I.ent k hk _ (Nat.le_of_lt (I.bas l hl))]
  exact det_alt hk hl ne (by rw [put_same, put_ne ne.symm])
theorem Inv.pri0 (I : Inv m n A T) {l : Nat} (hl : l < m) : T.P (T.b l) = 0 := by
  rw [I.pri _ (Nat.le_of_lt (I.bas l hl)), S_one hl fun j hj ne => ?_, I.diag hl]
  · rw [Int.mul_comm]; omega
  · rw [I.off hj hl ne, Int.mul_zero]
/-- two tableaux of one system -/
theorem Inv.two (I : Inv m n A T) (I' : Inv m n A T') {j : Nat} (hj : j ≤ n + m) : T.D * T'.P j - (S m fun l => T.M l j * T'.P (T.b l)) = T'.D * T.P j := by
  have h1 : ∀ k, k < m → T.D * T'.M k j = S m fun l => T.M l j * T'.M k (T.b l) := fun k hk => by
    rw [I'.ent k hk j hj, ← det_scale hk, S_congr fun l hl => by rw [I'.ent k hk _ (Nat.le_of_lt (I.bas l hl))], ← det_sum hk]
    refine det_congr fun i hi t ht => ?_
    by_cases e : i = k
    · subst e
      rw [put_same, put_same]
      exact I.cram j hj t ht
    · rw [put_ne e, put_ne e]
  have h2 : (S m fun l => T.M l j * T'.P (T.b l)) = T'.D * (S m fun l => cst n m (T.b l) * T.M l j) - S m fun k => cst n m (T'.b k) * (T.D * T'.M k j) := by
    rw [S_congr (g := fun k => cst n m (T'.b k) * (T.D * T'.M k j)) (f := fun k => cst n m (T'.b k) * (T.D * T'.M k j)) fun _ _ => rfl,
      S_congr (f := fun k => cst n m (T'.b k) * (T.D * T'.M k j)) (g := fun k => S m fun l => cst n m (T'.b k) * (T.M l j * T'.M k (T.b l))) fun k hk => by rw [h1 k hk, S_mul], S_swap, ← S_mul, ← S_sub]
    refine S_congr fun l hl => ?_
    rw [I'.pri _ (Nat.le_of_lt (I.bas l hl)), S_congr (f := fun k => cst n m (T'.b k) * (T.M l j * T'.M k (T.b l))) (g := fun k => T.M l j * (cst n m (T'.b k) * T'.M k (T.b l))) fun k hk => by grind, S_mul]
    grind
  rw [h2, I.pri j hj, I'.pri j hj, S_congr (f := fun k => cst n m (T'.b k) * (T.D * T'.M k j)) (g := fun k => T.D * (cst n m (T'.b k) * T'.M k j)) fun k hk => by grind, S_mul]
  grind
/-- a column with a negative price has an item above 0 -/
theorem Inv.bounded (I : Inv m n A T) (ha : a < n) (h : T.P a < 0) : ∃ o, o < m ∧ 0 < T.M o a := by
  rw [I.pri a (by omega), cst_lo ha] at h
  have h2 : 0 < S m fun k => cst n m (T.b k) * T.M k a := by omega
  obtain ⟨k, hk, q⟩ := S_pos h2
  refine ⟨k, hk, ?_⟩
  unfold cst at q
  split at q <;> omega
/-! ### one step -/
theorem Step.pl (I : Inv m n A T) (s : Step m n T T' a o) {i j : Nat} (hi : i < m) (ne : i ≠ o) (hj : j ≤ n + m) :
    T.D * det m (put (put (T.B A) o (A a)) i (A j)) = T.M i j * T.M o a - T.M i a * T.M o j := by
  have ho := s.lv.lt
  have ha : a ≤ n + m := by have := s.en.lt; omega
  rw [put_comm ne.symm, ← det_scale ho]
  have e : det m (put (put (T.B A) i (A j)) o fun t => T.D * A a t) = det m (put (put (T.B A) i (A j)) o fun t => S m fun k => T.M k a * A (T.b k) t) := by
    refine det_congr fun k hk t ht => ?_
    by_cases z : k = o
    · subst z
      rw [put_same, put_same]
      exact I.cram a ha t ht
    · rw [put_ne z, put_ne z]
  rw [e, det_sum ho]
  have e1 : det m (put (put (T.B A) i (A j)) o (A (T.b o))) = T.M i j := by
    rw [← put_comm ne.symm, put_self (v := T.B A), I.ent i hi j hj]
  have e2 : det m (put (put (T.B A) i (A j)) o (A (T.b i))) = - T.M o j := by
    rw [det_anti hi ho ne, put_self (v := T.B A), I.ent o ho j hj]
  have z : ∀ k, k < m → k ≠ i → k ≠ o → T.M k a * det m (put (put (T.B A) i (A j)) o (A (T.b k))) = 0 := fun k hk n1 n2 => by
    rw [det_alt hk ho n2 (by rw [put_same, put_ne n2, put_ne n1]), Int.mul_zero]
  rcases Nat.lt_or_gt_of_ne ne with q | q
  · rw [S_two q ho fun k hk n1 n2 => z k hk n1 n2, e1, e2]
    grind
  · rw [S_two q hi fun k hk n1 n2 => z k hk n2 n1, e1, e2]
    grind
theorem Step.B' (s : Step m n T T' a o) : ∀ k, k < m → ∀ t, T'.B A k t = put (T.B A) o (A a) k t := fun k hk t => by
  by_cases e : k = o
  · subst e
    show A (T'.b k) t = _
    rw [s.bo, put_same]
  · show A (T'.b k) t = _
    rw [s.bi k hk e, put_ne e]
theorem Step.exI (I : Inv m n A T) (s : Step m n T T' a o) {i j : Nat} (hi : i < m) (ne : i ≠ o) (hj : j ≤ n + m) : T.D * T'.M i j = T.M i j * T.M o a - T.M i a * T.M o j := by
  have h := Step.pl I s hi ne hj
  rw [s.ei i hi ne j hj, ← h, Int.mul_ediv_cancel_left _ (Int.ne_of_gt I.hD)]
theorem Step.priX (I : Inv m n A T) (s : Step m n T T' a o) {j : Nat} (hj : j ≤ n + m) :
    T.D * (T'.D * cst n m j - S m fun k => cst n m (T'.b k) * T'.M k j) = T.P j * T.M o a - T.P a * T.M o j := by
  have ho := s.lv.lt
  have ha : a ≤ n + m := by have := s.en.lt; omega
  have e : ∀ k, k < m → T.D * (cst n m (T'.b k) * T'.M k j) = (cst n m (T.b k) * T.M k j * T.M o a - cst n m (T.b k) * T.M k a * T.M o j) + (if k = o then T.D * (cst n m a * T.M o j) else 0) := fun k hk => by
    by_cases z : k = o
    · subst z
      rw [if_pos rfl, s.bo, s.eo j hj]
      grind
    · rw [if_neg z, s.bi k hk z]
      have := Step.exI I s hk z hj
      grind
  have e2 : T.D * (S m fun k => cst n m (T'.b k) * T'.M k j) = (T.M o a * (S m fun k => cst n m (T.b k) * T.M k j) - T.M o j * (S m fun k => cst n m (T.b k) * T.M k a)) + T.D * (cst n m a * T.M o j) := by
    rw [← S_mul, S_congr e, S_add, S_one (f := fun k => if k = o then T.D * (cst n m a * T.M o j) else 0) ho fun k _ hne => if_neg hne, if_pos rfl, S_sub,
      S_congr (f := fun k => cst n m (T.b k) * T.M k j * T.M o a) (g := fun k => T.M o a * (cst n m (T.b k) * T.M k j)) fun k _ => Int.mul_comm _ _, S_mul,
      S_congr (f := fun k => cst n m (T.b k) * T.M k a * T.M o j) (g := fun k => T.M o j * (cst n m (T.b k) * T.M k a)) fun k _ => Int.mul_comm _ _, S_mul]
  rw [Int.mul_sub, e2, s.eD, I.pri j hj, I.pri a ha]
  grind
theorem Inv.step (I : Inv m n A T) (s : Step m n T T' a o) : Inv m n A T' := by
  have ho := s.lv.lt
  have ha : a ≤ n + m := by have := s.en.lt; omega
  have hD := I.hD
  have hD' : 0 < T'.D := by rw [s.eD]; exact s.lv.pos
  refine ⟨hD', ?_, ?_, ?_, ?_, ?_, ?_⟩
  · rw [s.eD, I.ent o ho a ha]
    exact (det_congr fun k hk t _ => s.B' k hk t).symm
  · intro k hk j hj
    by_cases z : k = o
    · subst z
      rw [s.eo j hj, I.ent k hk j hj]
      refine det_congr fun i hi t _ => ?_
      by_cases y : i = k
      · subst y; rw [put_same, put_same]
      · rw [put_ne y, put_ne y, s.B' i hi t, put_ne y]
    · have h := Step.pl I s hk z hj
      have e := Step.exI I s hk z hj
      refine Int.eq_of_mul_eq_mul_left (Int.ne_of_gt hD) ?_
      rw [e, ← h]
      refine congrArg _ (det_congr fun i hi t _ => ?_)
      by_cases y : i = k
      · subst y; rw [put_same, put_same]
      · rw [put_ne y, put_ne y, s.B' i hi t]
  · intro j hj t ht
    have c1 := I.cram j hj t ht
    have c2 := I.cram a ha t ht
    refine Int.eq_of_mul_eq_mul_left (Int.ne_of_gt hD) ?_
    have e : ∀ k, k < m → T.D * (T'.M k j * A (T'.b k) t) = (T.M k j * A (T.b k) t * T.M o a - T.M k a * A (T.b k) t * T.M o j) + (if k = o then T.D * A a t * T.M o j else 0) := fun k hk => by
      by_cases z : k = o
      · subst z
        rw [if_pos rfl, s.bo, s.eo j hj]
        grind
      · rw [if_neg z, s.bi k hk z]
        have := Step.exI I s hk z hj
        grind
    rw [← S_mul, S_congr e, S_add, S_one (f := fun k => if k = o then T.D * A a t * T.M o j else 0) ho fun k _ hne => if_neg hne, if_pos rfl, S_sub,
      S_congr (f := fun k => T.M k j * A (T.b k) t * T.M o a) (g := fun k => T.M o a * (T.M k j * A (T.b k) t)) fun k _ => Int.mul_comm _ _, S_mul,
      S_congr (f := fun k => T.M k a * A (T.b k) t * T.M o j) (g := fun k => T.M o j * (T.M k a * A (T.b k) t)) fun k _ => Int.mul_comm _ _, S_mul, ← c1, ← c2, s.eD]
    grind
  · intro k hk
    by_cases z : k = o
    · subst z; rw [s.bo]; have := s.en.lt; omega
    · rw [s.bi k hk z]; exact I.bas k hk
  · intro k hk
    by_cases z : k = o
    · subst z
      rw [s.eo _ (Nat.le_refl _)]
      exact I.rhs k hk
    · have e := Step.exI I s hk z (Nat.le_refl _)
      have r0 := I.rhs o ho
      have r1 := I.rhs k hk
      have p := s.lv.pos
      refine Int.le_of_mul_le_mul_left (a := T.D) ?_ hD
      rw [e, Int.mul_zero]
      by_cases q : 0 < T.M k a
      · rcases s.lv.bst k hk q with x | ⟨x, _⟩
        · rw [Int.mul_comm (T.M k a)]; omega
        · rw [Int.mul_comm (T.M k a)]; omega
      · have y1 := Int.mul_nonneg r1 (Int.le_of_lt p)
        have y2 := Int.mul_nonneg (show 0 ≤ - T.M k a by omega) r0
        rw [Int.neg_mul] at y2
        omega
  · intro j hj
    have h := Step.priX I s hj
    rw [s.eP j hj, ← h, Int.mul_ediv_cancel_left _ (Int.ne_of_gt hD)]
theorem Step.exP (I : Inv m n A T) (s : Step m n T T' a o) {j : Nat} (hj : j ≤ n + m) : T.D * T'.P j = T.P j * T.M o a - T.P a * T.M o j := by
  have h := Step.priX I s hj
  rw [s.eP j hj, ← h, Int.mul_ediv_cancel_left _ (Int.ne_of_gt I.hD)]
end
end K5
set_option linter.all false
/-! No basis comes twice (Bland's rule), so the steps end. -/
namespace K5

/-! ### pigeons -/
def code : Nat → (Nat → Bool) → Nat
  | 0, _ => 0
  | N + 1, p => 2 * code N p + (if p N then 1 else 0)
theorem code_lt : ∀ (N : Nat) (p : Nat → Bool), code N p < 2 ^ N
  | 0, _ => Nat.one_pos
  | N + 1, p => by
    have h := code_lt N p
    show 2 * code N p + (if p N then 1 else 0) < 2 ^ N * 2
    split <;> omega
theorem code_inj : ∀ (N : Nat) (p q : Nat → Bool), code N p = code N q → ∀ x, x < N → p x = q x
  | 0, _, _, _, x, h => by omega
  | N + 1, p, q, e, x, h => by
    have e' : 2 * code N p + (if p N then 1 else 0) = 2 * code N q + (if q N then 1 else 0) := e
    by_cases c1 : p N = true <;> by_cases c2 : q N = true <;> simp [c1, c2] at e' <;> first
      | omega
      | (by_cases z : x = N
         · subst z; simp_all
         · exact code_inj N p q (by omega) x (by omega))
theorem pigeon : ∀ (B : Nat) (f : Nat → Nat), (∀ i, i ≤ B → f i < B) → ∃ i j, i < j ∧ j ≤ B ∧ f i = f j
  | 0, f, h => absurd (h 0 (Nat.le_refl 0)) (Nat.not_lt_zero _)
  | B + 1, f, h => by
    by_cases hit : ∃ i, i ≤ B ∧ f i = f (B + 1)
    · obtain ⟨i, hi, e⟩ := hit
      exact ⟨i, B + 1, by omega, Nat.le_refl _, e⟩
    · -- the value of the last one is taken out
      let g : Nat → Nat := fun i => if f i < f (B + 1) then f i else f i - 1
      have hg : ∀ i, i ≤ B → g i < B := fun i hi => by
        have a := h i (by omega)
        have b := h (B + 1) (Nat.le_refl _)
        have ne : f i ≠ f (B + 1) := fun z => hit ⟨i, hi, z⟩
        show (if f i < f (B + 1) then f i else f i - 1) < B
        split <;> omega
      obtain ⟨i, j, hij, hj, e⟩ := pigeon B g hg
      refine ⟨i, j, hij, by omega, ?_⟩
      have ni : f i ≠ f (B + 1) := fun z => hit ⟨i, by omega, z⟩
      have nj : f j ≠ f (B + 1) := fun z => hit ⟨j, by omega, z⟩
      have e' : (if f i < f (B + 1) then f i else f i - 1) = (if f j < f (B + 1) then f j else f j - 1) := e
      split at e' <;> split at e' <;> omega

/-- x is a basic column -/
def Tab.has (m : Nat) (T : Tab) (x : Nat) : Prop := ∃ l, l < m ∧ T.b l = x

section
variable {m n : Nat} {A : Nat → Vec}
/-- the tableaux Ts i .. Ts j, each the step of the one before -/
structure Walk (m n : Nat) (A : Nat → Vec) (Ts : Nat → Tab) (a o : Nat → Nat) (i j : Nat) : Prop where
  inv : ∀ k, i ≤ k → k ≤ j → Inv m n A (Ts k)
  stp : ∀ k, i ≤ k → k < j → Step m n (Ts k) (Ts (k + 1)) (a k) (o k)
variable {Ts : Nat → Tab} {a o : Nat → Nat} {i j : Nat}

theorem Walk.out_has (w : Walk m n A Ts a o i j) {k : Nat} (h1 : i ≤ k) (h2 : k < j) : ¬ (Ts k).has m (a k) := fun ⟨l, hl, e⟩ => by
  have I := w.inv k h1 (by omega)
  have := (w.stp k h1 h2).en.neg
  rw [← e, I.pri0 hl] at this
  omega
theorem Walk.new_has (w : Walk m n A Ts a o i j) {k : Nat} (h1 : i ≤ k) (h2 : k < j) : (Ts (k + 1)).has m (a k) :=
  ⟨o k, (w.stp k h1 h2).lv.lt, (w.stp k h1 h2).bo⟩
theorem Walk.has_succ (w : Walk m n A Ts a o i j) {k x : Nat} (h1 : i ≤ k) (h2 : k < j) (h : (Ts k).has m x) (hx : x ≠ (Ts k).b (o k)) : (Ts (k + 1)).has m x := by
  obtain ⟨l, hl, e⟩ := h
  refine ⟨l, hl, ?_⟩
  rw [(w.stp k h1 h2).bi l hl fun z => hx (by rw [← e, z])]
  exact e
theorem Walk.has_pred (w : Walk m n A Ts a o i j) {k x : Nat} (h1 : i ≤ k) (h2 : k < j) (h : (Ts (k + 1)).has m x) (hx : x ≠ a k) : (Ts k).has m x := by
  obtain ⟨l, hl, e⟩ := h
  have s := w.stp k h1 h2
  by_cases z : l = o k
  · subst z
    rw [s.bo] at e
    exact absurd e.symm hx
  · exact ⟨l, hl, by rw [← s.bi l hl z]; exact e⟩
/-- a column that never enters: its being basic only falls -/
theorem Walk.fall (w : Walk m n A Ts a o i j) {x : Nat} (hx : ∀ k, i ≤ k → k < j → a k ≠ x) : ∀ d k, i ≤ k → k + d ≤ j → (Ts (k + d)).has m x → (Ts k).has m x
  | 0, _, _, _, h => h
  | d + 1, k, h1, h2, h => w.fall hx d k h1 (by omega) (w.has_pred (k := k + d) (by omega) (by omega) h fun z => hx (k + d) (by omega) (by omega) z.symm)
/-- a column that never leaves: its being basic only rises -/
theorem Walk.rise (w : Walk m n A Ts a o i j) {x : Nat} (hx : ∀ k, i ≤ k → k < j → (Ts k).b (o k) ≠ x) : ∀ d k, i ≤ k → k + d ≤ j → (Ts k).has m x → (Ts (k + d)).has m x
  | 0, _, _, _, h => h
  | d + 1, k, h1, h2, h => w.has_succ (k := k + d) (by omega) (by omega) (w.rise hx d k h1 (by omega) h) fun z => hx (k + d) (by omega) (by omega) z.symm
variable (w : Walk m n A Ts a o i j) (hij : i < j) (same : ∀ x, (Ts i).has m x ↔ (Ts j).has m x)
include w hij same
/-- who changes enters -/
theorem Walk.enters {x p q : Nat} (hp1 : i ≤ p) (hp2 : p ≤ j) (hq1 : i ≤ q) (hq2 : q ≤ j) (h1 : (Ts p).has m x) (h2 : ¬ (Ts q).has m x) : ∃ k, i ≤ k ∧ k < j ∧ a k = x := by
  refine Classical.byContradiction fun no => ?_
  have hx : ∀ k, i ≤ k → k < j → a k ≠ x := fun k k1 k2 z => no ⟨k, k1, k2, z⟩
  have a1 : (Ts i).has m x := by
    have := w.fall hx (p - i) i (Nat.le_refl _) (by omega) (by rw [show i + (p - i) = p by omega]; exact h1)
    exact this
  have a2 : (Ts j).has m x := (same x).mp a1
  exact h2 (w.fall hx (j - q) q hq1 (by omega) (by rw [show q + (j - q) = j by omega]; exact a2))
/-- who enters leaves -/
theorem Walk.leaves {x k : Nat} (h1 : i ≤ k) (h2 : k < j) (e : a k = x) : ∃ p, i ≤ p ∧ p < j ∧ (Ts p).b (o p) = x := by
  refine Classical.byContradiction fun no => ?_
  have hx : ∀ k, i ≤ k → k < j → (Ts k).b (o k) ≠ x := fun k k1 k2 z => no ⟨k, k1, k2, z⟩
  have a1 : (Ts (k + 1)).has m x := e ▸ w.new_has h1 h2
  have a2 : (Ts j).has m x := by
    have := w.rise hx (j - (k + 1)) (k + 1) (by omega) (by omega) a1
    rw [show k + 1 + (j - (k + 1)) = j by omega] at this
    exact this
  have a3 : (Ts i).has m x := (same x).mpr a2
  have a4 : (Ts k).has m x := by
    have := w.rise hx (k - i) i (Nat.le_refl _) (by omega) a3
    rw [show i + (k - i) = k by omega] at this
    exact this
  exact w.out_has h1 h2 (e ▸ a4)
omit hij same in
/-- the end's price never falls, as a quotient -/
theorem Walk.up {k : Nat} (h1 : i ≤ k) (h2 : k < j) : (Ts k).P (n + m) * (Ts (k + 1)).D ≤ (Ts (k + 1)).P (n + m) * (Ts k).D ∧
    ((Ts (k + 1)).P (n + m) * (Ts k).D = (Ts k).P (n + m) * (Ts (k + 1)).D → (Ts k).M (o k) (n + m) = 0) := by
  have I := w.inv k h1 (by omega)
  have s := w.stp k h1 h2
  have e := Step.exP I s (Nat.le_refl _)
  have r := I.rhs _ s.lv.lt
  have ng := s.en.neg
  have q : (Ts k).P (a k) * (Ts k).M (o k) (n + m) ≤ 0 := Int.mul_nonpos_of_nonpos_of_nonneg (Int.le_of_lt ng) r
  rw [s.eD, Int.mul_comm ((Ts (k + 1)).P (n + m))]
  refine ⟨by omega, fun z => ?_⟩
  have z2 : (Ts k).P (a k) * (Ts k).M (o k) (n + m) = 0 := by omega
  rcases Int.mul_eq_zero.mp z2 with y | y
  · omega
  · exact y
omit hij same in
theorem Walk.upTo : ∀ d k, i ≤ k → k + d ≤ j → (Ts k).P (n + m) * (Ts (k + d)).D ≤ (Ts (k + d)).P (n + m) * (Ts k).D
  | 0, _, _, _ => Int.le_refl _
  | d + 1, k, h1, h2 => by
    have u := Walk.upTo d k h1 (by omega)
    have v := (w.up (k := k + d) (by omega) (by omega)).1
    have p0 := (w.inv k h1 (by omega)).hD
    have p1 := (w.inv (k + d) (by omega) (by omega)).hD
    have p2 := (w.inv (k + d + 1) (by omega) (by omega)).hD
    refine Int.le_of_mul_le_mul_right (a := (Ts (k + d)).D) ?_ p1
    have u' := Int.mul_le_mul_of_nonneg_right u (Int.le_of_lt p2)
    have v' := Int.mul_le_mul_of_nonneg_right v (Int.le_of_lt p0)
    show (Ts k).P (n + m) * (Ts (k + d + 1)).D * (Ts (k + d)).D ≤ (Ts (k + d + 1)).P (n + m) * (Ts k).D * (Ts (k + d)).D
    grind
/-- every step is degenerate -/
theorem Walk.flat {k : Nat} (h1 : i ≤ k) (h2 : k < j) : (Ts k).M (o k) (n + m) = 0 := by
  refine (w.up h1 h2).2 ?_
  have Ii := w.inv i (Nat.le_refl _) (by omega)
  have Ij := w.inv j (by omega) (Nat.le_refl _)
  have e : (Ts i).D * (Ts j).P (n + m) = (Ts j).D * (Ts i).P (n + m) := by
    rw [← Ii.two Ij (Nat.le_refl _), S_zero fun l hl => ?_]
    · omega
    · obtain ⟨l', hl', el⟩ := (same ((Ts i).b l)).mp ⟨l, hl, rfl⟩
      rw [← el, Ij.pri0 hl', Int.mul_zero]
  have u1 := w.upTo (k - i) i (Nat.le_refl _) (by omega)
  rw [show i + (k - i) = k by omega] at u1
  have u2 := (w.up h1 h2).1
  have u3 := w.upTo (j - (k + 1)) (k + 1) (by omega) (by omega)
  rw [show k + 1 + (j - (k + 1)) = j by omega] at u3
  have pi := Ii.hD
  have pj := Ij.hD
  have pk := (w.inv k h1 (by omega)).hD
  have pl := (w.inv (k + 1) (by omega) (by omega)).hD
  refine Int.le_antisymm ?_ u2
  -- P(k+1) D(k) <= P(k) D(k+1): by P(k+1) D(j) <= P(j) D(k+1), P(j) D(i) = P(i) D(j), P(i) D(k) <= P(k) D(i)
  refine Int.le_of_mul_le_mul_right (a := (Ts j).D * (Ts i).D) ?_ (Int.mul_pos pj pi)
  have v3 := Int.mul_le_mul_of_nonneg_right u3 (Int.mul_nonneg (Int.le_of_lt pk) (Int.le_of_lt pi))
  have v1 := Int.mul_le_mul_of_nonneg_right u1 (Int.mul_nonneg (Int.le_of_lt pl) (Int.le_of_lt pj))
  have e2 : (Ts i).D * (Ts j).P (n + m) * ((Ts (k + 1)).D * (Ts k).D) = (Ts j).D * (Ts i).P (n + m) * ((Ts (k + 1)).D * (Ts k).D) := by rw [e]
  grind
/-- a basic value above 0 stays where it is -/
theorem Walk.val1 {k x : Nat} (h1 : i ≤ k) (h2 : k < j) : (∃ l, l < m ∧ (Ts k).b l = x ∧ (Ts k).M l (n + m) ≠ 0) ↔ ∃ l, l < m ∧ (Ts (k + 1)).b l = x ∧ (Ts (k + 1)).M l (n + m) ≠ 0 := by
  have I := w.inv k h1 (by omega)
  have s := w.stp k h1 h2
  have f := w.flat hij same h1 h2
  have hD := I.hD
  have hp := s.lv.pos
  constructor
  · rintro ⟨l, hl, e, nz⟩
    have ne : l ≠ o k := fun z => nz (by rw [z]; exact f)
    refine ⟨l, hl, by rw [s.bi l hl ne]; exact e, fun z => ?_⟩
    have x := Step.exI I s hl ne (Nat.le_refl _)
    rw [z, f, Int.mul_zero, Int.mul_zero] at x
    rcases Int.mul_eq_zero.mp (show (Ts k).M l (n + m) * (Ts k).M (o k) (a k) = 0 by omega) with y | y
    · exact nz y
    · omega
  · rintro ⟨l, hl, e, nz⟩
    have ne : l ≠ o k := fun z => nz (by
      rw [z, s.eo _ (Nat.le_refl _)]
      exact f)
    refine ⟨l, hl, by rw [← s.bi l hl ne]; exact e, fun z => ?_⟩
    have x := Step.exI I s hl ne (Nat.le_refl _)
    rw [z, f, Int.mul_zero, Int.zero_mul] at x
    rcases Int.mul_eq_zero.mp (show (Ts k).D * (Ts (k + 1)).M l (n + m) = 0 by omega) with y | y
    · omega
    · exact nz y
theorem Walk.valD {x : Nat} : ∀ d k, i ≤ k → k + d ≤ j → ((∃ l, l < m ∧ (Ts k).b l = x ∧ (Ts k).M l (n + m) ≠ 0) ↔ ∃ l, l < m ∧ (Ts (k + d)).b l = x ∧ (Ts (k + d)).M l (n + m) ≠ 0)
  | 0, _, _, _ => Iff.rfl
  | d + 1, k, h1, h2 => (Walk.valD d k h1 (by omega)).trans (w.val1 hij same (k := k + d) (by omega) (by omega))
theorem Walk.val {x p q : Nat} (hp1 : i ≤ p) (hp2 : p ≤ j) (hq1 : i ≤ q) (hq2 : q ≤ j) (h : ∃ l, l < m ∧ (Ts p).b l = x ∧ (Ts p).M l (n + m) ≠ 0) : ∃ l, l < m ∧ (Ts q).b l = x ∧ (Ts q).M l (n + m) ≠ 0 := by
  have u := Walk.valD w hij same (x := x) (p - i) i (Nat.le_refl _) (by omega)
  have v := Walk.valD w hij same (x := x) (q - i) i (Nat.le_refl _) (by omega)
  rw [show i + (p - i) = p by omega] at u
  rw [show i + (q - i) = q by omega] at v
  exact v.mp (u.mpr h)
/-- the greatest column that enters -/
theorem Walk.top : ∃ q, i ≤ q ∧ q < j ∧ ∀ k, i ≤ k → k < j → a k ≤ a q := by
  have gen : ∀ d, i + d < j → ∃ q, i ≤ q ∧ q ≤ i + d ∧ ∀ k, i ≤ k → k ≤ i + d → a k ≤ a q := by
    intro d
    induction d with
    | zero => intro h; exact ⟨i, Nat.le_refl _, Nat.le_refl _, fun k h1 h2 => by rw [show k = i by omega]; exact Nat.le_refl _⟩
    | succ d ih =>
      intro h
      obtain ⟨q, q1, q2, q3⟩ := ih (by omega)
      by_cases c : a q ≤ a (i + d + 1)
      · refine ⟨i + d + 1, by omega, Nat.le_refl _, fun k h1 h2 => ?_⟩
        by_cases z : k = i + d + 1
        · subst z; exact Nat.le_refl _
        · exact Nat.le_trans (q3 k h1 (by omega)) c
      · refine ⟨q, q1, by omega, fun k h1 h2 => ?_⟩
        by_cases z : k = i + d + 1
        · subst z; omega
        · exact q3 k h1 (by omega)
  obtain ⟨q, q1, q2, q3⟩ := gen (j - i - 1) (by omega)
  exact ⟨q, q1, by omega, fun k h1 h2 => q3 k h1 (by omega)⟩
/-- BLAND: no basis comes twice -/
theorem Walk.bland : False := by
  obtain ⟨q, q1, q2, q3⟩ := Walk.top w hij same
  obtain ⟨p, p1, p2, ep⟩ := Walk.leaves w hij same q1 q2 rfl
  have Ip := w.inv p p1 (by omega)
  have Iq := w.inv q q1 (by omega)
  have sp := w.stp p p1 p2
  have sq := w.stp q q1 q2
  have hn : a q < n := sq.en.lt
  have sn : a p < n := sp.en.lt
  have sle : a p ≤ a q := q3 p p1 p2
  have sne : a p ≠ a q := fun z => w.out_has p1 p2 ⟨o p, sp.lv.lt, by rw [ep, z]⟩
  have slt : a p < a q := by omega
  have s0 : 0 ≤ (Ts q).P (a p) := sq.en.fst _ slt
  have e := Ip.two Iq (j := a p) (by omega)
  have neg : (Ts q).D * (Ts p).P (a p) < 0 := Int.mul_neg_of_pos_of_neg Iq.hD sp.en.neg
  have y0 : 0 ≤ (Ts p).D * (Ts q).P (a p) := Int.mul_nonneg (Int.le_of_lt Ip.hD) s0
  have pos : 0 < S m fun l => (Ts p).M l (a p) * (Ts q).P ((Ts p).b l) := by omega
  obtain ⟨l, hl, hpos⟩ := S_pos pos
  have nb : ¬ (Ts q).has m ((Ts p).b l) := fun ⟨l', hl', el⟩ => by
    rw [← el, Iq.pri0 hl', Int.mul_zero] at hpos
    omega
  obtain ⟨k, k1, k2, ek⟩ := Walk.enters w hij same p1 (by omega) q1 (by omega) ⟨l, hl, rfl⟩ nb
  have rle : (Ts p).b l ≤ a q := by rw [← ek]; exact q3 k k1 k2
  by_cases z : (Ts p).b l = a q
  · have el : l = o p := Ip.inj hl sp.lv.lt (by rw [z, ep])
    subst el
    have h1 := sp.lv.pos
    have h2 := sq.en.neg
    rw [z] at hpos
    have := Int.mul_neg_of_pos_of_neg h1 h2
    omega
  · have rlt : (Ts p).b l < a q := by omega
    have r0 := sq.en.fst _ rlt
    have ml : 0 < (Ts p).M l (a p) := by
      refine Decidable.byContradiction fun c => ?_
      have := Int.mul_nonpos_of_nonpos_of_nonneg (show (Ts p).M l (a p) ≤ 0 by omega) r0
      omega
    have v0 : (Ts p).M l (n + m) = 0 := by
      refine Decidable.byContradiction fun c => ?_
      obtain ⟨l', hl', el', _⟩ := Walk.val w hij same (x := (Ts p).b l) p1 (by omega) q1 (by omega) ⟨l, hl, rfl, c⟩
      exact nb ⟨l', hl', el'⟩
    have f := Walk.flat w hij same p1 p2
    rcases sp.lv.bst l hl ml with c | ⟨_, c⟩
    · rw [v0, f, Int.zero_mul, Int.zero_mul] at c
      omega
    · rw [ep] at c
      omega
end

/-! ### the steps so far, and their number -/
def Run (m n : Nat) (A : Nat → Vec) (k : Nat) (T : Tab) : Prop := ∃ (Ts : Nat → Tab) (a o : Nat → Nat), Walk m n A Ts a o 0 k ∧ Ts k = T
theorem Run.start {m n : Nat} {A : Nat → Vec} {T : Tab} (I : Inv m n A T) : Run m n A 0 T :=
  ⟨fun _ => T, fun _ => 0, fun _ => 0, ⟨fun _ _ _ => I, fun k _ h => by omega⟩, rfl⟩
theorem Run.inv {m n : Nat} {A : Nat → Vec} {k : Nat} {T : Tab} (r : Run m n A k T) : Inv m n A T := by
  obtain ⟨Ts, a, o, w, rfl⟩ := r
  exact w.inv k (Nat.zero_le _) (Nat.le_refl _)
theorem Run.next {m n : Nat} {A : Nat → Vec} {k : Nat} {T T' : Tab} {x y : Nat} (r : Run m n A k T) (s : Step m n T T' x y) : Run m n A (k + 1) T' := by
  have I := r.inv
  obtain ⟨Ts, a, o, w, rfl⟩ := r
  refine ⟨fun i => if i ≤ k then Ts i else T', fun i => if i < k then a i else x, fun i => if i < k then o i else y, ⟨fun i _ h => ?_, fun i _ h => ?_⟩, if_neg (by omega)⟩
  · by_cases c : i ≤ k
    · rw [if_pos c]; exact w.inv i (Nat.zero_le _) c
    · rw [if_neg c]; exact I.step s
  · by_cases c : i < k
    · rw [if_pos (by omega), if_pos (by omega), if_pos c, if_pos c]
      exact w.stp i (Nat.zero_le _) c
    · have e : i = k := by omega
      subst e
      rw [if_pos (Nat.le_refl _), if_neg (by omega), if_neg c, if_neg c]
      exact s
theorem Run.bound {m n : Nat} {A : Nat → Vec} {k : Nat} {T : Tab} (r : Run m n A k T) : k < 2 ^ (n + m) := by
  obtain ⟨Ts, a, o, w, rfl⟩ := r
  refine Decidable.byContradiction fun c => ?_
  let p : Nat → Nat → Bool := fun i x => (List.range m).any fun l => (Ts i).b l == x
  have hp : ∀ i x, p i x = true ↔ (Ts i).has m x := fun i x => by
    show ((List.range m).any fun l => (Ts i).b l == x) = true ↔ _
    rw [List.any_eq_true]
    constructor
    · rintro ⟨l, hl, e⟩
      exact ⟨l, List.mem_range.mp hl, by simpa using e⟩
    · rintro ⟨l, hl, e⟩
      exact ⟨l, List.mem_range.mpr hl, by simpa using e⟩
  obtain ⟨i, j, hij, hj, e⟩ := pigeon (2 ^ (n + m)) (fun i => code (n + m) (p i)) fun i _ => code_lt _ _
  have eq := code_inj _ _ _ e
  have w' : Walk m n A Ts a o i j := ⟨fun k _ h => w.inv k (Nat.zero_le _) (by omega), fun k _ h => w.stp k (Nat.zero_le _) (by omega)⟩
  refine Walk.bland w' hij fun x => ?_
  have big : ∀ t, t ≤ k → (Ts t).has m x → x < n + m := fun t ht ⟨l, hl, el⟩ => by
    rw [← el]
    exact (w.inv t (Nat.zero_le _) ht).bas l hl
  constructor
  · intro h
    have := eq x (big i (by omega) h)
    exact (hp j x).mp (this ▸ (hp i x).mpr h)
  · intro h
    have := eq x (big j (by omega) h)
    exact (hp i x).mp (this ▸ (hp j x).mpr h)
end K5
set_option linter.all false
/-! The first tableau of rational columns and a right side; what the last one tells; bounds. -/
namespace K5

/-! ### sums of rationals -/
def SR : Nat → (Nat → Rat) → Rat
  | 0, _ => 0
  | n + 1, f => SR n f + f n
theorem SR_congr {n : Nat} {f g : Nat → Rat} (h : ∀ i, i < n → f i = g i) : SR n f = SR n g := by
  induction n with
  | zero => rfl
  | succ n ih =>
    show SR n f + f n = SR n g + g n
    rw [ih fun i hi => h i (by omega), h n (by omega)]
theorem SR_add {n : Nat} {f g : Nat → Rat} : SR n (fun i => f i + g i) = SR n f + SR n g := by
  induction n with
  | zero => exact (Rat.add_zero 0).symm
  | succ n ih =>
    show SR n (fun i => f i + g i) + (f n + g n) = (SR n f + f n) + (SR n g + g n)
    rw [ih]; grind
theorem SR_mul {n : Nat} {c : Rat} {f : Nat → Rat} : SR n (fun i => c * f i) = c * SR n f := by
  induction n with
  | zero => exact (Rat.mul_zero c).symm
  | succ n ih =>
    show SR n (fun i => c * f i) + c * f n = c * (SR n f + f n)
    rw [ih, Rat.mul_add]
theorem SR_zero {n : Nat} {f : Nat → Rat} (h : ∀ i, i < n → f i = 0) : SR n f = 0 := by
  induction n with
  | zero => rfl
  | succ n ih =>
    show SR n f + f n = 0
    rw [ih fun i hi => h i (by omega), h n (by omega)]; exact Rat.add_zero 0
theorem SR_swap {n m : Nat} {f : Nat → Nat → Rat} : SR n (fun i => SR m (fun j => f i j)) = SR m (fun j => SR n (fun i => f i j)) := by
  induction n with
  | zero => exact (SR_zero fun _ _ => rfl).symm
  | succ n ih =>
    show SR n (fun i => SR m (fun j => f i j)) + SR m (fun j => f n j) = SR m (fun j => SR n (fun i => f i j) + f n j)
    rw [SR_add, ih]
theorem SR_nonpos {n : Nat} {f : Nat → Rat} (h : ∀ i, i < n → f i ≤ 0) : SR n f ≤ 0 := by
  induction n with
  | zero => exact Rat.le_refl
  | succ n ih =>
    have a := ih fun i hi => h i (by omega)
    have b := h n (by omega)
    show SR n f + f n ≤ 0
    grind
theorem SR_cast {n : Nat} {f : Nat → Int} : ((S n f : Int) : Rat) = SR n fun i => (f i : Rat) := by
  induction n with
  | zero => rfl
  | succ n ih =>
    show ((S n f + f n : Int) : Rat) = SR n (fun i => (f i : Rat)) + (f n : Rat)
    rw [Rat.intCast_add, ih]

/-! ### the first rows -/
/-- the least common multiple of f 0 .. f (n - 1) -/
def lcmN : Nat → (Nat → Nat) → Nat
  | 0, _ => 1
  | n + 1, f => (lcmN n f).lcm (f n)
theorem lcmN_dvd {f : Nat → Nat} : ∀ {n i : Nat}, i < n → f i ∣ lcmN n f
  | n + 1, i, h => by
    by_cases e : i = n
    · subst e; exact Nat.dvd_lcm_right _ _
    · exact Nat.dvd_trans (lcmN_dvd (n := n) (by omega)) (Nat.dvd_lcm_left _ _)
theorem lcmN_pos {f : Nat → Nat} : ∀ {n : Nat}, (∀ i, i < n → 0 < f i) → 0 < lcmN n f
  | 0, _ => Nat.one_pos
  | n + 1, h => Nat.lcm_pos (lcmN_pos fun i hi => h i (by omega)) (h n (by omega))
theorem lcm_le (a b : Nat) : a.lcm b ≤ a * b := by
  unfold Nat.lcm
  exact Nat.div_le_self _ _
theorem lcmN_le {f : Nat → Nat} {B : Nat} : ∀ {n : Nat}, (∀ i, i < n → f i ≤ B) → lcmN n f ≤ B ^ n
  | 0, _ => Nat.le_refl _
  | n + 1, h => by
    rw [Nat.pow_succ]
    exact Nat.le_trans (lcm_le _ _) (Nat.mul_le_mul (lcmN_le fun i hi => h i (by omega)) (h n (by omega)))
/-- row i: the columns' items, the right side's at the end -/
def itm (n : Nat) (c : Nat → Nat → Rat) (r : Nat → Rat) (i j : Nat) : Rat := if j < n then c j i else r i
def lcd (n : Nat) (c : Nat → Nat → Rat) (r : Nat → Rat) (i : Nat) : Nat := lcmN (n + 1) fun j => (itm n c r i j).den
def fac (n : Nat) (c : Nat → Nat → Rat) (r : Nat → Rat) (i : Nat) : Int := if (r i).num < 0 then - (lcd n c r i : Int) else (lcd n c r i : Int)
def own (n : Nat) (c : Nat → Nat → Rat) (r : Nat → Rat) (i j : Nat) : Int := (itm n c r i j).num * (fac n c r i / ((itm n c r i j).den : Int))
def row0 (m n : Nat) (c : Nat → Nat → Rat) (r : Nat → Rat) (i j : Nat) : Int := if j < n then own n c r i j else if j < n + m then (if j - n = i then 1 else 0) else own n c r i n
def col0 (m n : Nat) (c : Nat → Nat → Rat) (r : Nat → Rat) (j : Nat) : Vec := fun i => row0 m n c r i j
def tab0 (m n : Nat) (c : Nat → Nat → Rat) (r : Nat → Rat) : Tab where
  M := row0 m n c r
  P := fun j => cst n m j - S m fun i => row0 m n c r i j
  D := 1
  b := fun k => n + k
section
variable {m n : Nat} {c : Nat → Nat → Rat} {r : Nat → Rat}
theorem lcd_pos (i : Nat) : 0 < lcd n c r i := lcmN_pos fun j _ => Rat.den_pos _
theorem fac_dvd {i j : Nat} (h : j ≤ n) : ((itm n c r i j).den : Int) ∣ fac n c r i := by
  have d : ((itm n c r i j).den : Int) ∣ (lcd n c r i : Int) := Int.natCast_dvd_natCast.mpr (lcmN_dvd (f := fun j => (itm n c r i j).den) (by omega))
  unfold fac
  split
  · exact Int.dvd_neg.mpr d
  · exact d
theorem fac_ne (i : Nat) : fac n c r i ≠ 0 := by
  have := lcd_pos (n := n) (c := c) (r := r) i
  unfold fac
  split <;> omega
theorem own_rat {i j : Nat} (h : j ≤ n) : (own n c r i j : Rat) = (fac n c r i : Rat) * itm n c r i j := by
  obtain ⟨k, e⟩ := fac_dvd (c := c) (r := r) (i := i) h
  have d0 : ((itm n c r i j).den : Int) ≠ 0 := by have := (itm n c r i j).den_pos; omega
  unfold own
  rw [e, Int.mul_ediv_cancel_left _ d0]
  have q : itm n c r i j * ((itm n c r i j).den : Rat) = ((itm n c r i j).num : Rat) := by
    have h1 := Rat.num_divInt_den (itm n c r i j)
    rw [Rat.divInt_eq_div] at h1
    have h2 : (((itm n c r i j).den : Int) : Rat) ≠ 0 := by
      intro z
      exact d0 (Rat.intCast_eq_zero_iff.mp z)
    have h3 := Rat.div_mul_cancel (a := ((itm n c r i j).num : Rat)) h2
    rw [h1] at h3
    exact h3
  rw [Rat.intCast_mul, Rat.intCast_mul, ← q]
  show _ * ((itm n c r i j).den : Rat) * (k : Rat) = (((itm n c r i j).den : Nat) : Rat) * (k : Rat) * _
  grind
theorem own_rhs (i : Nat) : 0 ≤ own n c r i n := by
  have e : itm n c r i n = r i := if_neg (by omega)
  unfold own
  rw [e]
  have d0 := (r i).den_pos
  have l := lcd_pos (n := n) (c := c) (r := r) i
  obtain ⟨k, hk⟩ := fac_dvd (c := c) (r := r) (i := i) (j := n) (Nat.le_refl n)
  rw [e] at hk
  rw [hk, Int.mul_ediv_cancel_left _ (by omega)]
  have hs : fac n c r i = if (r i).num < 0 then - (lcd n c r i : Int) else (lcd n c r i : Int) := rfl
  by_cases s : (r i).num < 0
  · rw [if_pos s] at hs
    have k0 : k ≤ 0 := by
      refine Decidable.byContradiction fun z => ?_
      have := Int.mul_pos (show (0 : Int) < ((r i).den : Int) by omega) (show 0 < k by omega)
      omega
    exact Int.mul_nonneg_of_nonpos_of_nonpos (Int.le_of_lt s) k0
  · rw [if_neg s] at hs
    have k0 : 0 ≤ k := by
      refine Decidable.byContradiction fun z => ?_
      have := Int.mul_neg_of_pos_of_neg (show (0 : Int) < ((r i).den : Int) by omega) (show k < 0 by omega)
      omega
    exact Int.mul_nonneg (by omega) k0
theorem row0_lo {i j : Nat} (h : j < n) : row0 m n c r i j = own n c r i j := if_pos h
theorem row0_mid {i k : Nat} (h : k < m) : row0 m n c r i (n + k) = if k = i then 1 else 0 := by
  unfold row0
  rw [if_neg (by omega), if_pos (by omega), show n + k - n = k by omega]
theorem row0_hi {i : Nat} : row0 m n c r i (n + m) = own n c r i n := by
  unfold row0
  rw [if_neg (by omega), if_neg (by omega)]
theorem inv0 : Inv m n (col0 m n c r) (tab0 m n c r) := by
  have u : ∀ k, k < m → ∀ t, t < m → (tab0 m n c r).B (col0 m n c r) k t = unit k t := fun k hk t ht => by
    show row0 m n c r t (n + k) = if t = k then 1 else 0
    rw [row0_mid hk]
    by_cases e : t = k
    · rw [if_pos e.symm, if_pos e]
    · rw [if_neg (fun z => e z.symm), if_neg e]
  refine ⟨by show (0 : Int) < 1; decide, ?_, ?_, ?_, ?_, ?_, ?_⟩
  · exact (det_unit u).symm
  · intro k hk j hj
    show row0 m n c r k j = det m (put ((tab0 m n c r).B (col0 m n c r)) k (col0 m n c r j))
    have e : det m (put ((tab0 m n c r).B (col0 m n c r)) k (col0 m n c r j)) = det m (put ((tab0 m n c r).B (col0 m n c r)) k fun t => S m fun l => col0 m n c r j l * (tab0 m n c r).B (col0 m n c r) l t) := by
      refine det_congr fun i hi t ht => ?_
      by_cases z : i = k
      · subst z
        rw [put_same, put_same, S_one ht fun l hl ne => by rw [u l hl t ht]; unfold unit; rw [if_neg (fun y => ne y.symm), Int.mul_zero], u t ht t ht]
        unfold unit
        rw [if_pos rfl, Int.mul_one]
      · rw [put_ne z, put_ne z]
    rw [e, det_sum hk, S_one hk fun l hl ne => by rw [det_alt hk hl ne.symm (by rw [put_same, put_ne ne]), Int.mul_zero], put_self (v := (tab0 m n c r).B (col0 m n c r)), det_unit u, Int.mul_one]
    rfl
  · intro j hj t ht
    show 1 * row0 m n c r t j = S m fun k => row0 m n c r k j * col0 m n c r (n + k) t
    rw [S_one ht fun l hl ne => by
      show _ * row0 m n c r t (n + l) = 0
      rw [row0_mid hl, if_neg ne, Int.mul_zero]]
    show 1 * row0 m n c r t j = row0 m n c r t j * row0 m n c r t (n + t)
    rw [row0_mid ht, if_pos rfl]; omega
  · intro k hk
    show n + k < n + m
    omega
  · intro k hk
    show 0 ≤ row0 m n c r k (n + m)
    rw [row0_hi]
    exact own_rhs k
  · intro j hj
    show cst n m j - S m (fun i => row0 m n c r i j) = 1 * cst n m j - S m fun k => cst n m (n + k) * row0 m n c r k j
    rw [Int.one_mul, S_congr (f := fun k => cst n m (n + k) * row0 m n c r k j) (g := fun k => row0 m n c r k j) fun k hk => by rw [cst_add hk, Int.one_mul]]
end

/-! ### the end -/
section
variable {m n : Nat} {c : Nat → Nat → Rat} {r : Nat → Rat} {T : Tab}
/-- the row of the functional, times D, before the rows' factors -/
def yy (n : Nat) (T : Tab) (i : Nat) : Int := T.D - T.P (n + i)
theorem price_yy (I : Inv m n (col0 m n c r) T) {j : Nat} (hj : j ≤ n + m) (hc : cst n m j = 0) : T.P j = - S m fun i => yy n T i * row0 m n c r i j := by
  have key : ∀ j, j ≤ n + m → (S m fun k => cst n m (T.b k) * T.M k j) = S m fun i => row0 m n c r i j * S m fun k => cst n m (T.b k) * T.M k (n + i) := fun j hj => by
    have e : ∀ k, k < m → T.M k j = S m fun i => row0 m n c r i j * T.M k (n + i) := fun k hk => by
      rw [I.ent k hk j hj, S_congr fun i hi => by rw [I.ent k hk (n + i) (by omega)], ← det_sum hk]
      refine det_congr fun l hl t ht => ?_
      by_cases z : l = k
      · subst z
        rw [put_same, put_same, S_one ht fun i hi ne => by
          show _ * row0 m n c r t (n + i) = 0
          rw [row0_mid hi, if_neg ne, Int.mul_zero]]
        show row0 m n c r t j = row0 m n c r t j * row0 m n c r t (n + t)
        rw [row0_mid ht, if_pos rfl, Int.mul_one]
      · rw [put_ne z, put_ne z]
    rw [S_congr fun k hk => by rw [e k hk, ← S_mul], S_swap]
    refine S_congr fun i hi => ?_
    rw [← S_mul]
    exact S_congr fun k hk => by grind
  have y : ∀ i, i < m → yy n T i = S m fun k => cst n m (T.b k) * T.M k (n + i) := fun i hi => by
    unfold yy
    rw [I.pri (n + i) (by omega), cst_add hi]
    omega
  rw [I.pri j hj, hc, key j hj, S_congr (f := fun i => yy n T i * row0 m n c r i j) (g := fun i => row0 m n c r i j * S m fun k => cst n m (T.b k) * T.M k (n + i)) fun i hi => by rw [y i hi, Int.mul_comm]]
  omega
/-- the functional's row -/
def fun0 (n : Nat) (c : Nat → Nat → Rat) (r : Nat → Rat) (T : Tab) (i : Nat) : Rat := Rat.divInt (fac n c r i * (T.D - T.P (n + i))) T.D
theorem fun0_dot (hD : 0 < T.D) {j : Nat} (hj : j ≤ n) {q : Nat → Rat} (hq : ∀ i, i < m → q i = itm n c r i j) {row : Nat → Int} (hr : ∀ i, i < m → row i = own n c r i j) :
    (T.D : Rat) * (SR m fun i => fun0 n c r T i * q i) = ((S m fun i => yy n T i * row i : Int) : Rat) := by
  have d0 : (T.D : Rat) ≠ 0 := fun z => by
    have := Rat.intCast_eq_zero_iff.mp z
    omega
  rw [SR_cast, ← SR_mul]
  refine SR_congr fun i hi => ?_
  rw [hr i hi, hq i hi, Rat.intCast_mul, own_rat hj]
  unfold fun0
  rw [Rat.divInt_eq_div, Rat.intCast_mul]
  have h := Rat.div_mul_cancel (a := (fac n c r i : Rat) * ((T.D - T.P (n + i) : Int) : Rat)) d0
  unfold yy
  grind
/-- THE FUNCTIONAL: where no price is below 0 and the end's price is -/
theorem end_fun (I : Inv m n (col0 m n c r) T) (hp : ∀ j, j < n → 0 ≤ T.P j) (hn : T.P (n + m) < 0) :
    (∀ j, j < n → (SR m fun i => fun0 n c r T i * c j i) ≤ 0) ∧ 0 < SR m fun i => fun0 n c r T i * r i := by
  have hD := I.hD
  have pD : (0 : Rat) < (T.D : Rat) := Rat.intCast_pos.mpr hD
  refine ⟨fun j hj => ?_, ?_⟩
  · have e := fun0_dot (m := m) (c := c) (r := r) hD (j := j) (Nat.le_of_lt hj) (q := fun i => c j i) (fun i _ => (if_pos hj).symm) (row := fun i => row0 m n c r i j) (fun i _ => row0_lo hj)
    have p := price_yy I (j := j) (by omega) (cst_lo hj)
    have le : (S m fun i => yy n T i * row0 m n c r i j) ≤ 0 := by have := hp j hj; omega
    have le' : ((S m fun i => yy n T i * row0 m n c r i j : Int) : Rat) ≤ 0 := Rat.intCast_nonpos.mpr le
    refine Rat.le_of_mul_le_mul_left (c := (T.D : Rat)) ?_ pD
    rw [e, Rat.mul_zero]
    exact le'
  · have e := fun0_dot (m := m) (c := c) (r := r) hD (j := n) (Nat.le_refl n) (q := r) (fun i _ => (if_neg (by omega)).symm) (row := fun i => row0 m n c r i (n + m)) (fun i _ => row0_hi)
    have p := price_yy I (j := n + m) (Nat.le_refl _) cst_hi
    have gt : 0 < S m fun i => yy n T i * row0 m n c r i (n + m) := by omega
    have gt' : (0 : Rat) < ((S m fun i => yy n T i * row0 m n c r i (n + m) : Int) : Rat) := Rat.intCast_pos.mpr gt
    rw [← e] at gt'
    exact (Rat.mul_pos_iff_of_pos_left pD).mp gt'
/-- the weights: the basic values of the columns -/
def wgt (n m : Nat) (T : Tab) (j : Nat) : Rat := SR m fun l => if T.b l = j then Rat.divInt (T.M l (n + m)) T.D else 0
theorem SR_one {n i : Nat} {f : Nat → Rat} (hi : i < n) (h : ∀ j, j < n → j ≠ i → f j = 0) : SR n f = f i := by
  induction n with
  | zero => omega
  | succ n ih =>
    show SR n f + f n = f i
    by_cases e : i = n
    · subst e
      rw [SR_zero fun j hj => h j (by omega) (by omega)]; exact Rat.zero_add _
    · rw [ih (by omega) fun j hj => h j (by omega), h n (by omega) (by omega)]; exact Rat.add_zero _
theorem SR_nonneg {n : Nat} {f : Nat → Rat} (h : ∀ i, i < n → 0 ≤ f i) : 0 ≤ SR n f := by
  induction n with
  | zero => exact Rat.le_refl
  | succ n ih => exact Rat.add_nonneg (ih fun i hi => h i (by omega)) (h n (by omega))
theorem wgt_in {I : Inv m n (col0 m n c r) T} {l : Nat} (hl : l < m) : wgt n m T (T.b l) = Rat.divInt (T.M l (n + m)) T.D := by
  unfold wgt
  rw [SR_one hl fun k hk ne => if_neg fun z => ne (I.inj hk hl z), if_pos rfl]
theorem wgt_out {j : Nat} (h : ∀ l, l < m → T.b l ≠ j) : wgt n m T j = 0 := SR_zero fun l hl => if_neg (h l hl)
theorem wgt_nn (I : Inv m n (col0 m n c r) T) (j : Nat) : 0 ≤ wgt n m T j := SR_nonneg fun l hl => by
  split
  · exact Rat.divInt_nonneg (I.rhs l hl) (Int.le_of_lt I.hD)
  · exact Rat.le_refl
/-- THE WEIGHTS: where no price is below 0, the end's too -/
theorem end_wgt (I : Inv m n (col0 m n c r) T) (hn : 0 ≤ T.P (n + m)) : ∀ i, i < m → (SR n fun j => wgt n m T j * c j i) = r i := by
  intro i hi
  have hD := I.hD
  have pD : (0 : Rat) < (T.D : Rat) := Rat.intCast_pos.mpr hD
  have d0 : (T.D : Rat) ≠ 0 := Rat.ne_of_gt pD
  have z : ∀ k, k < m → cst n m (T.b k) * T.M k (n + m) = 0 := by
    have p := I.pri (n + m) (Nat.le_refl _)
    rw [cst_hi] at p
    exact S_all0 (fun k hk => Int.mul_nonneg cst_nn (I.rhs k hk)) (by omega)
  have z' : ∀ k, k < m → n ≤ T.b k → T.M k (n + m) = 0 := fun k hk h => by
    have e := z k hk
    have b := I.bas k hk
    rw [show cst n m (T.b k) = 1 from if_pos ⟨h, b⟩] at e
    omega
  -- D * own_i(right) = sum of the basic values times the columns
  have cr := I.cram (n + m) (Nat.le_refl _) i hi
  have cr' : (T.D : Rat) * ((fac n c r i : Rat) * r i) = SR m fun k => (T.M k (n + m) : Rat) * (if T.b k < n then (fac n c r i : Rat) * c (T.b k) i else 0) := by
    have e1 : ((T.D * col0 m n c r (n + m) i : Int) : Rat) = (T.D : Rat) * ((fac n c r i : Rat) * r i) := by
      rw [Rat.intCast_mul]
      show _ * ((row0 m n c r i (n + m) : Int) : Rat) = _
      rw [row0_hi, own_rat (Nat.le_refl n), show itm n c r i n = r i from if_neg (by omega)]
    rw [← e1, cr, SR_cast]
    refine SR_congr fun k hk => ?_
    rw [Rat.intCast_mul]
    by_cases h : T.b k < n
    · rw [if_pos h]
      show _ * ((row0 m n c r i (T.b k) : Int) : Rat) = _
      rw [row0_lo h, own_rat (Nat.le_of_lt h), show itm n c r i (T.b k) = c (T.b k) i from if_pos h]
    · rw [z' k hk (by omega), if_neg h]
      grind
  have fz : (fac n c r i : Rat) ≠ 0 := fun y => fac_ne i (Rat.intCast_eq_zero_iff.mp y)
  -- the weights' sum
  have sw : (SR n fun j => wgt n m T j * c j i) = SR m fun k => if T.b k < n then Rat.divInt (T.M k (n + m)) T.D * c (T.b k) i else 0 := by
    have e1 : ∀ j, j < n → wgt n m T j * c j i = SR m fun l => (if T.b l = j then Rat.divInt (T.M l (n + m)) T.D else 0) * c j i := fun j hj => by
      unfold wgt
      rw [Rat.mul_comm, ← SR_mul]
      exact SR_congr fun l _ => Rat.mul_comm _ _
    rw [SR_congr e1, SR_swap]
    refine SR_congr fun k hk => ?_
    by_cases h : T.b k < n
    · rw [if_pos h, SR_one (i := T.b k) h fun j hj ne => by rw [if_neg (fun y => ne y.symm), Rat.zero_mul], if_pos rfl]
    · rw [if_neg h]
      exact SR_zero fun j hj => by rw [if_neg (by omega), Rat.zero_mul]
  have key : (T.D : Rat) * (fac n c r i : Rat) * (SR n fun j => wgt n m T j * c j i) = (T.D : Rat) * (fac n c r i : Rat) * r i := by
    rw [sw, ← SR_mul, Rat.mul_assoc, cr']
    refine SR_congr fun k hk => ?_
    by_cases h : T.b k < n
    · rw [if_pos h, if_pos h, Rat.divInt_eq_div]
      have q := Rat.div_mul_cancel (a := (T.M k (n + m) : Rat)) d0
      grind
    · rw [if_neg h, if_neg h]
      grind
  have nz : (T.D : Rat) * (fac n c r i : Rat) ≠ 0 := fun y => (Rat.mul_eq_zero.mp y).elim d0 fz
  grind
end

/-! ### bounds -/
section
variable {m n : Nat} {A : Nat → Vec} {T : Tab} {R : Nat}
theorem Inv.absB (I : Inv m n A T) (h : ∀ j, j ≤ n + m → ∀ t, t < m → (A j t).natAbs ≤ R) : T.D.natAbs ≤ detB R m ∧ (∀ k, k < m → ∀ j, j ≤ n + m → (T.M k j).natAbs ≤ detB R m) ∧ ∀ j, j ≤ n + m → (T.P j).natAbs ≤ (m + 1) * detB R m := by
  have b : ∀ k, k < m → ∀ t, t < m → (T.B A k t).natAbs ≤ R := fun k hk t ht => h _ (Nat.le_of_lt (I.bas k hk)) t ht
  have hD : T.D.natAbs ≤ detB R m := by rw [I.dt]; exact det_abs b
  have hM : ∀ k, k < m → ∀ j, j ≤ n + m → (T.M k j).natAbs ≤ detB R m := fun k hk j hj => by
    rw [I.ent k hk j hj]
    refine det_abs fun i hi t ht => ?_
    by_cases z : i = k
    · subst z; rw [put_same]; exact h j hj t ht
    · rw [put_ne z]; exact b i hi t ht
  refine ⟨hD, hM, fun j hj => ?_⟩
  rw [I.pri j hj]
  have h1 : (T.D * cst n m j).natAbs ≤ detB R m := by
    rw [Int.natAbs_mul]
    exact Nat.le_trans (Nat.mul_le_mul hD cst_le) (by omega)
  have h2 : (S m fun k => cst n m (T.b k) * T.M k j).natAbs ≤ m * detB R m := S_abs fun k hk => by
    rw [Int.natAbs_mul]
    exact Nat.le_trans (Nat.mul_le_mul cst_le (hM k hk j hj)) (by omega)
  rw [Nat.succ_mul]
  have := Int.natAbs_sub_le (T.D * cst n m j) (S m fun k => cst n m (T.b k) * T.M k j)
  omega
end
end K5
set_option linter.all false
/-! The step as the program makes it; the two answers; their sizes; not both. -/
namespace K5
def piv (T : Tab) (a o : Nat) : Tab where
  M := fun i j => if i = o then T.M o j else (T.M i j * T.M o a - T.M i a * T.M o j) / T.D
  P := fun j => (T.P j * T.M o a - T.P a * T.M o j) / T.D
  D := T.M o a
  b := fun k => if k = o then a else T.b k
theorem piv_step {m n : Nat} {T : Tab} {a o : Nat} (en : Enters n T a) (lv : Leaves m n T a o) : Step m n T (piv T a o) a o :=
  ⟨en, lv, rfl, fun j _ => if_pos rfl, fun i _ ne j _ => if_neg ne, fun j _ => rfl, if_pos rfl, fun i _ ne => if_neg ne⟩
/-- weights, a functional -/
structure IsFun (m n : Nat) (c : Nat → Nat → Rat) (r y : Nat → Rat) : Prop where
  le : ∀ j, j < n → (SR m fun i => y i * c j i) ≤ 0
  gt : 0 < SR m fun i => y i * r i
structure IsWgt (m n : Nat) (c : Nat → Nat → Rat) (r w : Nat → Rat) : Prop where
  nn : ∀ j, j < n → 0 ≤ w j
  eq : ∀ i, i < m → (SR n fun j => w j * c j i) = r i
theorem not_both {m n : Nat} {c : Nat → Nat → Rat} {r y w : Nat → Rat} (F : IsFun m n c r y) (W : IsWgt m n c r w) : False := by
  have e : (SR m fun i => y i * r i) = SR n fun j => w j * SR m fun i => y i * c j i := by
    rw [SR_congr (g := fun i => SR n fun j => w j * (y i * c j i)) fun i hi => by
      rw [← W.eq i hi, ← SR_mul]
      exact SR_congr fun j _ => by grind]
    rw [SR_swap]
    exact SR_congr fun j _ => SR_mul
  have l : (SR n fun j => w j * SR m fun i => y i * c j i) ≤ 0 := SR_nonpos fun j hj => by
    have h := Rat.mul_le_mul_of_nonneg_left (F.le j hj) (W.nn j hj)
    rw [Rat.mul_zero] at h
    exact h
  have g := F.gt
  rw [e] at g
  exact absurd g (Rat.not_lt.mpr l)
/-- a bound for at most four rows -/
theorem detB4 {m : Nat} (h : m ≤ 4) : detB (2 ^ 164) m < 2 ^ 700 := by
  have e : m = 0 ∨ m = 1 ∨ m = 2 ∨ m = 3 ∨ m = 4 := by omega
  rcases e with rfl | rfl | rfl | rfl | rfl <;> decide +kernel
theorem row0_abs {m n : Nat} {c : Nat → Nat → Rat} {r : Nat → Rat} {R : Nat} (hR : 1 ≤ R) {i j : Nat} (hi : i < m) (hj : j ≤ n + m) (h : ∀ j, j < n + 1 → (own n c r i j).natAbs ≤ R) : (row0 m n c r i j).natAbs ≤ R := by
  unfold row0
  split
  · exact h j (by omega)
  · split
    · split
      · exact hR
      · exact Nat.zero_le _
    · exact h n (by omega)
/-- all entries are below 2 ^ 710 -/
theorem Inv.small {m n : Nat} {c : Nat → Nat → Rat} {r : Nat → Rat} {T : Tab} (I : Inv m n (col0 m n c r) T) (hm : m ≤ 4) (h : ∀ i, i < m → ∀ j, j < n + 1 → (own n c r i j).natAbs ≤ 2 ^ 164) :
    T.D.natAbs < 2 ^ 710 ∧ (∀ k, k < m → ∀ j, j ≤ n + m → (T.M k j).natAbs < 2 ^ 710) ∧ ∀ j, j ≤ n + m → (T.P j).natAbs < 2 ^ 710 := by
  obtain ⟨a, b, d⟩ := I.absB (R := 2 ^ 164) fun j hj t ht => row0_abs (by decide +kernel) ht hj (h t ht)
  have e := detB4 hm
  have p : (2 : Nat) ^ 700 * 8 < 2 ^ 710 := by decide +kernel
  have q : (m + 1) * detB (2 ^ 164) m ≤ 5 * detB (2 ^ 164) m := Nat.mul_le_mul_right _ (by omega)
  generalize (2 : Nat) ^ 710 = B at *
  generalize (2 : Nat) ^ 700 = B0 at *
  generalize detB (2 ^ 164) m = X at *
  generalize (m + 1) * X = Y at *
  exact ⟨by omega, fun k hk j hj => by have := b k hk j hj; omega, fun j hj => by have := d j hj; omega⟩
end K5
set_option Elab.async false
set_option linter.all false
set_option maxRecDepth 100000
namespace K5W
open PySem PySem.Spec PyProof.Rows L2
/-! ### the text by places -/
def topS (i : Nat) : Stmt := PySem.Challenge.pw_metricparts_k05_whole_weights_or_functio.main.body.getD i (.Pass ⟨0, 0, 0, 0⟩)
/-! ### lists told by a function of the place -/
def VL (n : Nat) (f : Nat → V) : List V := (List.range n).map f
theorem VL_len {n : Nat} {f : Nat → V} : (VL n f).length = n := by unfold VL; rw [List.length_map, List.length_range]
theorem VL_get {n i : Nat} {f : Nat → V} (h : i < n) : (VL n f)[i]? = some (f i) := by
  unfold VL
  rw [List.getElem?_map, List.getElem?_range h]
  rfl
theorem VL_inv {n i : Nat} {f : Nat → V} {x : V} (h : (VL n f)[i]? = some x) : i < n ∧ x = f i := by
  have hl : i < (VL n f).length := (List.getElem?_eq_some_iff.mp h).1
  rw [VL_len] at hl
  rw [VL_get hl] at h
  exact ⟨hl, (Option.some.inj h).symm⟩
theorem VL_succ {n : Nat} {f : Nat → V} : VL n f ++ [f n] = VL (n + 1) f := by
  unfold VL
  rw [List.range_succ, List.map_append]
  rfl
theorem VL_add {n : Nat} {f : Nat → V} {v : V} (h : v = f n) : VL n f ++ [v] = VL (n + 1) f := by rw [h, VL_succ]
theorem VL_congr {n : Nat} {f g : Nat → V} (h : ∀ i, i < n → f i = g i) : VL n f = VL n g := by
  unfold VL
  exact List.map_congr_left fun i hi => h i (List.mem_range.mp hi)
theorem VL_ext {n : Nat} {f : Nat → V} {xs : List V} (hl : xs.length = n) (h : ∀ i, i < n → xs[i]? = some (f i)) : xs = VL n f := by
  refine List.ext_getElem? fun i => ?_
  by_cases hi : i < n
  · rw [h i hi, VL_get hi]
  · rw [List.getElem?_eq_none (by omega), List.getElem?_eq_none (by rw [VL_len]; omega)]
theorem VL_set {n i : Nat} {f : Nat → V} {v : V} : (VL n f).set i v = VL n fun k => if k = i then v else f k := by
  refine VL_ext (by rw [List.length_set, VL_len]) fun k hk => ?_
  rw [List.getElem?_set]
  by_cases e : i = k
  · subst e
    rw [if_pos rfl, if_pos (by rw [VL_len]; exact hk), if_pos rfl]
  · rw [if_neg e, VL_get hk, if_neg (fun z => e z.symm)]
theorem VL_app {a b : Nat} {f g : Nat → V} : VL a f ++ VL b g = VL (a + b) fun k => if k < a then f k else g (k - a) := by
  refine VL_ext (by rw [List.length_append, VL_len, VL_len]) fun k hk => ?_
  by_cases e : k < a
  · rw [List.getElem?_append_left (by rw [VL_len]; exact e), VL_get e, if_pos e]
  · rw [List.getElem?_append_right (by rw [VL_len]; omega), VL_len, VL_get (by omega), if_neg e]
theorem VL_at {n j : Nat} {f : Nat → V} (h : j < n) : atI (VL n f) (j : Int) = some (f j) := atI_nat (VL_get h)
theorem VL_atZ {n j : Nat} {f : Nat → V} {i : Int} (h : j < n) (e : i = (j : Int)) : atI (VL n f) i = some (f j) := by rw [e]; exact VL_at h
theorem VL_last {n : Nat} {f : Nat → V} : atI (VL (n + 1) f) (-1) = some (f n) := by
  rw [← VL_succ]
  exact atI_last _ _
theorem VL_one {f : Nat → V} {v : V} (h : v = f 0) : [v] = VL 1 f := by rw [h]; rfl
theorem sIx_m1 (n : Nat) (d : Nat) : HT.sIx (n + 1) d (some (-1)) = n := by
  unfold HT.sIx
  simp
  omega
theorem cut_init {n : Nat} {f : Nat → V} : cutV (VL (n + 1) f) none (some (-1)) = VL n f := by
  unfold cutV
  rw [VL_len, HT.sIx_none, sIx_m1, List.drop_zero, Nat.sub_zero, ← VL_succ, List.take_left' VL_len]
theorem cut_last {n : Nat} {f : Nat → V} : cutV (VL (n + 1) f) (some (-1)) none = VL 1 fun _ => f n := by
  unfold cutV
  rw [VL_len, HT.sIx_none, sIx_m1, ← VL_succ, List.drop_left' VL_len, show n + 1 - n = 1 by omega]
  rfl
/-! ### heaps -/
theorem same_new {H : Hp} {p : Addr} {o : HO} (h : H p = none) : Same H (upd H p o) := fun b x e => by
  rw [upd_ne (ne_of_none e h)]
  exact e
/-- a write at an address that was free ahead -/
theorem same_own {H0 H : Hp} {D : Addr} {o : HO} (s : Same H0 H) (h : H0 D = none) : Same H0 (upd H D o) := fun b x e => by
  rw [upd_ne (ne_of_none e h)]
  exact s b x e
/-! ### math.lcm -/
section
variable {X : Cx}
def rLcm : List V → Hp → VK → Prop := fun vs H Q => ∃ a b : Int, vs = [.int a, .int b] ∧ a.natAbs < 2 ^ 64 ∧ b.natAbs < 2 ^ 64 ∧ Q (.int ((Nat.lcm a.natAbs b.natAbs : Nat) : Int)) H
theorem cr_lcm : CallR X (.builtin "math.lcm") rLcm := by
  intro pins s σ H vs us Q I r h
  obtain ⟨a, b, rfl, ha, hb, q⟩ := h
  obtain ⟨t, u, rfl⟩ := Vals.int2 r
  exact PySem.W.mc_lcm ha hb fun _ => ⟨.int _, H, I.tok _, ⟨_, rfl⟩, q⟩
end
/-! ### what the walks ask of the top -/
structure Txt (K : PySem.W.Frag) (mg : Str → Option Value) (C : Addr) : Prop where
  cl : Cls K C
  nN : NoAttr K C "n"
  nD : NoAttr K C "d"
  mgC : mg "Ratio" = some (.ref C)
  gcd : mg "gcd" = some (.builtin "math.gcd")
  lcm : mg "lcm" = some (.builtin "math.lcm")
  len : mg "len" = none
  int : mg "int" = none
  sum : mg "sum" = none
  range : mg "range" = none
  zip : mg "zip" = none
  tuple : mg "tuple" = none
  isi : mg "isinstance" = none
  abs : mg "abs" = none
/-! ### the objects -/
def ratF (q : Rat) : List (Str × V) := putF "d" (.int (q.den : Int)) (putF "n" (.int q.num) [])
theorem knd : ¬ (("n" : Str) = "d") := by decide +kernel
theorem ratF_n (q : Rat) : (ratF q).lookup ("n" : Str) = some (.int q.num) := by
  unfold ratF
  rw [lookup_putF, if_neg knd, lookup_putF, if_pos rfl]
theorem ratF_d (q : Rat) : (ratF q).lookup ("d" : Str) = some (.int (q.den : Int)) := by
  unfold ratF
  rw [lookup_putF, if_pos rfl]
theorem ratF_no (q : Rat) {m : Str} (h1 : ¬ m = "d") (h2 : ¬ m = "n") : (ratF q).lookup m = none := by
  unfold ratF
  rw [lookup_putF, if_neg h1, lookup_putF, if_neg h2]
  all_goals rfl
/-- a Ratio -/
def RatAt (C : Addr) (H : Hp) (p : Addr) (q : Rat) : Prop := ∃ dx, H p = some (.ins C dx (ratF q))
theorem RatAt.same {C : Addr} {H H' : Hp} {p : Addr} {q : Rat} (s : Same H H') (h : RatAt C H p q) : RatAt C H' p q := let ⟨dx, e⟩ := h; ⟨dx, s _ _ e⟩
/-- a pair of ints in lowest terms -/
def PairAt (H : Hp) (p : Addr) (q : Rat) : Prop := H p = some (.tup [.int q.num, .int (q.den : Int)])
/-! ### sizes -/
def Bd (k : Nat) (i : Int) : Prop := i.natAbs < 2 ^ k
theorem Bd.mono {k l : Nat} {i : Int} (h : Bd k i) (hl : k ≤ l) : Bd l i := Nat.lt_of_lt_of_le h (Nat.pow_le_pow_right (by decide) hl)
theorem Bd.mul {k l : Nat} {i j : Int} (h : Bd k i) (h' : Bd l j) : Bd (k + l) (i * j) := wide_lt h h'
theorem Bd.add {k : Nat} {i j : Int} (h : Bd k i) (h' : Bd k j) : Bd (k + 1) (i + j) := by
  unfold Bd at *
  rw [Nat.pow_succ]
  have := Int.natAbs_add_le i j
  omega
theorem Bd.sub {k : Nat} {i j : Int} (h : Bd k i) (h' : Bd k j) : Bd (k + 1) (i - j) := by
  unfold Bd at *
  rw [Nat.pow_succ]
  have := Int.natAbs_sub_le i j
  omega
theorem Bd.neg {k : Nat} {i : Int} (h : Bd k i) : Bd k (-i) := by
  unfold Bd at *
  rw [Int.natAbs_neg]; exact h
theorem Bd.cmul {k l : Nat} {i j : Int} (h : Bd k i) (h' : Bd l j) (k0 : 0 < k) (l0 : 0 < l) (m : k + l ≤ 1000000) : CMulW i j := wide_mul h h' k0 l0 m
/-- the divisor's wish -/
theorem Bd.cdiv {k : Nat} {i j : Int} (p : 0 < j) (h : Bd k j) (k0 : 0 < k) (m : k ≤ 9000) : CDivW i j := wide_div p h k0 m
/-- a rational whose terms are below 2 ^ k -/
structure Sm (k : Nat) (q : Rat) : Prop where
  n : Bd k q.num
  d : Bd k (q.den : Int)
theorem Sm.mono {k l : Nat} {q : Rat} (h : Sm k q) (hl : k ≤ l) : Sm l q := ⟨h.n.mono hl, h.d.mono hl⟩
theorem divInt_num {n d : Int} (h : d ≠ 0) : (Rat.divInt n d).num.natAbs ≤ n.natAbs := by
  rw [Rat.num_divInt, Int.natAbs_ediv_of_dvd (Int.dvd_trans (Int.gcd_dvd_right d n) (Int.dvd_mul_left _ _))]
  refine Nat.le_trans (Nat.div_le_self _ _) ?_
  rw [Int.natAbs_mul]
  refine Nat.le_trans (Nat.mul_le_mul_right _ (show d.sign.natAbs ≤ 1 from ?_)) (by omega)
  rcases Int.lt_trichotomy d 0 with z | z | z
  · rw [Int.sign_eq_neg_one_of_neg z]; decide
  · exact absurd z h
  · rw [Int.sign_eq_one_of_pos z]; decide
theorem divInt_den {n d : Int} (h : d ≠ 0) : (Rat.divInt n d).den ≤ d.natAbs := by
  rw [Rat.den_divInt, if_neg h]
  exact Nat.div_le_self _ _
theorem Sm.of {k : Nat} {n d : Int} (h : d ≠ 0) (hn : Bd k n) (hd : Bd k d) : Sm k (Rat.divInt n d) := by
  refine ⟨Nat.lt_of_le_of_lt (divInt_num h) hn, ?_⟩
  show ((Rat.divInt n d).den : Int).natAbs < 2 ^ k
  rw [Int.natAbs_natCast]
  exact Nat.lt_of_le_of_lt (divInt_den h) hd
theorem den_ne (q : Rat) : (q.den : Int) ≠ 0 := by have := q.den_pos; omega
theorem den_pos (q : Rat) : 0 < (q.den : Int) := by have := q.den_pos; omega
theorem add_raw (x y : Rat) : Rat.divInt (x.num * (y.den : Int) + y.num * (x.den : Int)) ((x.den : Int) * (y.den : Int)) = x + y := by
  have h := Rat.divInt_add_divInt x.num y.num (den_ne x) (den_ne y)
  rw [Rat.num_divInt_den, Rat.num_divInt_den] at h
  exact h.symm
theorem mul_raw (x y : Rat) : Rat.divInt (x.num * y.num) ((x.den : Int) * (y.den : Int)) = x * y := by
  have h := Rat.divInt_mul_divInt x.num y.num (d₁ := (x.den : Int)) (d₂ := (y.den : Int))
  rw [Rat.num_divInt_den, Rat.num_divInt_den] at h
  exact h.symm
theorem mul_ne (x y : Rat) : (x.den : Int) * (y.den : Int) ≠ 0 := Int.ne_of_gt (Int.mul_pos (den_pos x) (den_pos y))
theorem Sm.add {k l : Nat} {x y : Rat} (h : Sm k x) (h' : Sm l y) : Sm (k + l + 1) (x + y) := by
  rw [← add_raw]
  refine Sm.of (mul_ne x y) ((h.n.mul h'.d).add ?_) ((h.d.mul h'.d).mono (by omega))
  have := h'.n.mul h.d
  rwa [Nat.add_comm] at this
theorem Sm.mul {k l : Nat} {x y : Rat} (h : Sm k x) (h' : Sm l y) : Sm (k + l) (x * y) := by
  rw [← mul_raw]
  exact Sm.of (mul_ne x y) (h.n.mul h'.n) (h.d.mul h'.d)
/-- the lowest terms, as the program reckons them -/
def sgnN (n d : Int) : Int := if d < 0 then -n else n
def sgnD (d : Int) : Int := if d < 0 then -d else d
theorem low_num {n d : Int} (h : d ≠ 0) : sgnN n d / ((Nat.gcd (sgnN n d).natAbs (sgnD d).natAbs : Nat) : Int) = (Rat.divInt n d).num := by
  rw [Rat.num_divInt]
  have e1 : d.sign * n = sgnN n d := by
    unfold sgnN
    rcases Int.lt_trichotomy d 0 with z | z | z
    · rw [if_pos z, Int.sign_eq_neg_one_of_neg z]; omega
    · exact absurd z h
    · rw [if_neg (by omega), Int.sign_eq_one_of_pos z]; omega
  have e2 : d.gcd n = Nat.gcd (sgnN n d).natAbs (sgnD d).natAbs := by
    unfold sgnN sgnD Int.gcd
    rw [Nat.gcd_comm]
    split
    · rw [Int.natAbs_neg, Int.natAbs_neg]
    · rfl
  rw [e1, e2]
theorem low_den {n d : Int} (h : d ≠ 0) : sgnD d / ((Nat.gcd (sgnN n d).natAbs (sgnD d).natAbs : Nat) : Int) = ((Rat.divInt n d).den : Int) := by
  rw [Rat.den_divInt, if_neg h]
  have e2 : d.gcd n = Nat.gcd (sgnN n d).natAbs (sgnD d).natAbs := by
    unfold sgnN sgnD Int.gcd
    rw [Nat.gcd_comm]
    split
    · rw [Int.natAbs_neg, Int.natAbs_neg]
    · rfl
  rw [e2, Int.natCast_ediv]
  congr 1
  unfold sgnD
  split <;> omega
theorem sgnD_pos {d : Int} (h : d ≠ 0) : 0 < sgnD d := by unfold sgnD; split <;> omega
theorem low_gcd {n d : Int} (h : d ≠ 0) : 0 < ((Nat.gcd (sgnN n d).natAbs (sgnD d).natAbs : Nat) : Int) ∧ ((Nat.gcd (sgnN n d).natAbs (sgnD d).natAbs : Nat) : Int).natAbs ≤ d.natAbs := by
  have p := sgnD_pos h
  have e : (sgnD d).natAbs = d.natAbs := by unfold sgnD; split <;> omega
  have a : 0 < Nat.gcd (sgnN n d).natAbs (sgnD d).natAbs := Nat.gcd_pos_of_pos_right _ (by omega)
  have b : Nat.gcd (sgnN n d).natAbs (sgnD d).natAbs ≤ (sgnD d).natAbs := Nat.le_of_dvd (by omega) (Nat.gcd_dvd_right _ _)
  rw [Int.natAbs_natCast]
  omega
end K5W
set_option Elab.async false
set_option linter.all false
set_option maxRecDepth 100000
set_option maxHeartbeats 4000000
namespace K5W
open PySem PySem.Spec PyProof.Rows L2
section
variable {P : Program} {w : World} {K : PySem.W.Frag} {mg : Str → Option Value} {base : Heap}
/-! ### Ratio.__init__ -/
abbrev sInit : Stmt := inClass (topS 6) 0
def spInit (C : Addr) : Sp := fun vs H Q _ => ∃ (p dx : Addr) (n d : Int), vs = [.ref p, .int n, .int d] ∧ H p = some (.ins C dx []) ∧ d ≠ 0 ∧ Bd 9000 d ∧
  ∀ H' : Hp, (∀ b o, H b = some o → b ≠ p → H' b = some o) → RatAt C H' p (Rat.divInt n d) → Q .non H'
theorem scI : FnScope ["self", "n", "d", "shared"] ["self", "n", "d"] (defScope sInit) := ⟨rfl, rfl, rfl, by decide +kernel, rfl, by decide +kernel, by decide +kernel⟩
theorem ok_init {f C : Addr} {fd : FuncData} {dvs : List V} (F : FunD K "__init__" "Ratio.__init__" (defArgs sInit) (defBody sInit) (defScope sInit) dvs [] f fd) (T : Txt K mg C) : FnOk P w K mg base CX0 1 f fd ["self", "n", "d"] (spInit C) := by
  refine F.ok scI (fun vs H Q E h => ?_) (fun cdv A outer s H vs Q E hr h => ?_)
  · obtain ⟨p, dx, n, d, rfl, _⟩ := h
    rfl
  · obtain ⟨p, dx, n, d, rfl, hp, h0, hb, k⟩ := h
    refine ⟨_, pss_cons (ps_if (pt_cmpR op_eq (pv 2) pe_int (nomark _)) (pss_one ps_never) pss_nil)
      (pss_cons (ps_if (pt_cmpR op_lt (pv 2) pe_int (nomark _)) (pss_cons (ps_set (i := 1) scI.nd rfl (Or.inl rfl) (pe_un un_neg (pv 1))) (pss_one (ps_set (i := 2) scI.nd rfl (Or.inl rfl) (pe_un un_neg (pv 2))))) pss_nil)
      (pss_cons (ps_set (i := 3) scI.nd rfl (Or.inl rfl) (pe_callBfun cr_gcd (by rfl) T.gcd (pa_cons (pv 1) (pa_cons (pv 2) pa_nil))))
      (pss_cons (ps_fld (pv 0) (pe_op op_fdivW (pv 1) (pv 3)) rfl)
      (pss_one (ps_fld (pv 0) (pe_op op_fdivW (pv 2) (pv 3)) rfl))))), ?_⟩
    refine ⟨_, rfl, rfl, _, rfl, ite2 (fun e => absurd (V.int.inj (of_decide_eq_true e)) h0) (fun _ => ?_)⟩
    refine ⟨_, rfl, _, _, rfl, rfl, _, rfl, ?_⟩
    obtain ⟨g0, g1⟩ := low_gcd (n := n) h0
    have gd : CDivW 0 ((Nat.gcd (sgnN n d).natAbs (sgnD d).natAbs : Nat) : Int) := ⟨g0, (Bd.cdiv (i := 0) g0 (Nat.lt_of_le_of_lt g1 hb) (by decide) (Nat.le_refl _)).2⟩
    have fin : ∀ (H2 : Hp), H2 = upd (upd H p (.ins C dx (putF "n" (.int (Rat.divInt n d).num) []))) p (.ins C dx (putF "d" (.int ((Rat.divInt n d).den : Int)) (putF "n" (.int (Rat.divInt n d).num) []))) → Q .non H2 := fun H2 e => by
      subst e
      refine k _ (fun b o e nb => ?_) ⟨dx, upd_same⟩
      rw [upd_ne nb, upd_ne nb]
      exact e
    by_cases hd : d < 0
    · rw [decide_eq_true hd]
      refine iteT ?_
      have e1 : sgnN n d = -n := if_pos hd
      have e2 : sgnD d = -d := if_pos hd
      have ln := low_num (n := n) h0
      have ld := low_den (n := n) h0
      rw [e1, e2] at gd ln
      rw [e1, e2] at ld
      refine ⟨_, rfl, _, rfl, _, rfl, _, rfl, _, rfl, _, rfl, _, _, rfl, ?_⟩
      refine ⟨_, rfl, _, rfl, _, _, rfl, rfl, gd, _, rfl, p, C, dx, _, rfl, hp, T.cl, T.nN, (by show 0 < 1000; decide), ?_⟩
      refine ⟨_, rfl, _, rfl, _, _, rfl, rfl, gd, _, rfl, p, C, dx, _, rfl, upd_same, T.cl, T.nD, (by show 1 < 1000; decide), ?_⟩
      refine fin _ ?_
      dsimp only
      rw [ln, ld]
    · rw [decide_eq_false hd]
      refine iteF ?_
      have e1 : sgnN n d = n := if_neg hd
      have e2 : sgnD d = d := if_neg hd
      have ln := low_num (n := n) h0
      have ld := low_den (n := n) h0
      rw [e1, e2] at gd ln
      rw [e1, e2] at ld
      refine ⟨_, rfl, _, rfl, _, _, rfl, ?_⟩
      refine ⟨_, rfl, _, rfl, _, _, rfl, rfl, gd, _, rfl, p, C, dx, _, rfl, hp, T.cl, T.nN, (by show 0 < 1000; decide), ?_⟩
      refine ⟨_, rfl, _, rfl, _, _, rfl, rfl, gd, _, rfl, p, C, dx, _, rfl, upd_same, T.cl, T.nD, (by show 1 < 1000; decide), ?_⟩
      refine fin _ ?_
      dsimp only
      rw [ln, ld]
/-- Ratio(n, d): a new one -/
theorem made {C : Addr} {H : Hp} {x dx : Addr} {n d : Int} {R : Hp → Prop} {E : XK} (hx : H x = none) (hdx : H dx = none) (h0 : d ≠ 0) (hb : Bd 9000 d) (k : ∀ H' : Hp, Same H H' → RatAt C H' x (Rat.divInt n d) → R H') :
    spInit C [.ref x, .int n, .int d] (upd (upd H dx (.own x)) x (.ins C dx [])) (fun v H2 => v = .non ∧ R H2) E := by
  refine ⟨x, dx, n, d, rfl, upd_same, h0, hb, fun H' s r => ⟨rfl, k H' (fun b o e => ?_) r⟩⟩
  have nx : b ≠ x := ne_of_none e hx
  refine s b o ?_ nx
  rw [upd_ne nx, upd_ne (ne_of_none e hdx)]
  exact e
/-! ### Ratio.sign -/
abbrev sSign : Stmt := inClass (topS 6) 8
def spSign (C : Addr) : Sp := fun vs H Q _ => ∃ (p : Addr) (q : Rat), vs = [.ref p] ∧ RatAt C H p q ∧ ∀ v : Int, (v < 0 ↔ q.num < 0) → Q (.int v) H
theorem scSg : FnScope ["self"] ["self"] (defScope sSign) := ⟨rfl, rfl, rfl, by decide +kernel, rfl, by decide +kernel, by decide +kernel⟩
theorem ok_sign {f C : Addr} {fd : FuncData} (F : Fun K "sign" "Ratio.sign" sSign f fd) (T : Txt K mg C) : FnOk P w K mg base CX0 1 f fd ["self"] (spSign C) := by
  refine F.ok scSg (fun vs H Q E h => ?_) (fun cdv A outer s H vs Q E hr h => ?_)
  · obtain ⟨p, q, rfl, _⟩ := h
    rfl
  · obtain ⟨p, q, rfl, ⟨dx, hp⟩, k⟩ := h
    refine ⟨_, pss_one (ps_ret (pe_op op_sub (pe_callTy call_int1 (by rfl) T.int (by decide +kernel) (pa_cons (pe_cmpR op_gt (pe_fld (pv 0) rfl) pe_int (nomark _)) pa_nil))
      (pe_callTy call_int1 (by rfl) T.int (by decide +kernel) (pa_cons (pe_cmpR op_lt (pe_fld (pv 0) rfl) pe_int (nomark _)) pa_nil)))), ?_⟩
    refine ⟨_, rfl, p, C, dx, _, _, rfl, hp, T.cl, T.nN, ratF_n q, _, _, rfl, rfl, .inr ⟨_, rfl, ?_⟩⟩
    refine ⟨_, rfl, p, C, dx, _, _, rfl, hp, T.cl, T.nN, ratF_n q, _, _, rfl, rfl, .inr ⟨_, rfl, ?_⟩⟩
    refine ⟨_, _, rfl, rfl, k _ ?_⟩
    by_cases h1 : q.num > 0 <;> by_cases h2 : q.num < 0 <;> simp [h1, h2] <;> omega
/-! ### zero -/
abbrev sZero : Stmt := topS 7
def spZero (C : Addr) : Sp := fun vs H Q _ => vs = [] ∧ ∀ (H' : Hp) (p : Addr), Same H H' → H p = none → RatAt C H' p 0 → Q (.ref p) H'
theorem scZ : FnScope [] [] (defScope sZero) := ⟨rfl, rfl, rfl, by decide +kernel, rfl, by decide +kernel, by decide +kernel⟩
theorem ok_zero {f C fI : Addr} {fd fdI : FuncData} {ds : List Value} (F : Fun K "zero" "zero" sZero f fd) (T : Txt K mg C) (M : Mk K C fI) (GI : FnOk P w K mg base CX0 1 fI fdI ["self", "n", "d"] (spInit C)) (bI : Binds K fdI ["self", "n", "d"] ds) (hds : Vals [.int 1] ds) :
    FnOk P w K mg base CX0 3 f fd [] (spZero C) := by
  refine F.ok scZ (fun vs H Q E h => ?_) (fun cdv A outer s H vs Q E hr h => ?_)
  · obtain ⟨rfl, _⟩ := h
    rfl
  · obtain ⟨rfl, k⟩ := h
    refine ⟨_, pss_one (ps_ret (pe_make M GI hr (by rfl) T.mgC bI hds pass0 (pa_cons pe_int pa_nil))), ?_⟩
    refine fun x dx hx hdx ne => made hx hdx (by decide) (by unfold Bd; exact Nat.one_lt_two_pow (by decide)) fun H' s r => k H' x s hx ?_
    have e : Rat.divInt 0 1 = 0 := by decide +kernel
    rw [e] at r
    exact r
/-! ### row_factor -/
abbrev sFac : Stmt := topS 9
def spFac (C : Addr) (K : PySem.W.Frag) : Sp := fun vs H Q _ => ∃ (a : Addr) (n : Nat) (p : Nat → Addr) (q : Nat → Rat), vs = [.ref a] ∧ SqL K H a (VL (n + 1) fun j => .ref (p j)) ∧ (∀ j, j < n + 1 → RatAt C H (p j) (q j)) ∧
  (∀ j, j < n + 1 → (q j).den < 2 ^ 64) ∧ (∀ j, j < n + 1 → K5.lcmN j (fun j => (q j).den) < 2 ^ 64) ∧ Q (.int (if (q n).num < 0 then - (K5.lcmN (n + 1) (fun j => (q j).den) : Int) else (K5.lcmN (n + 1) (fun j => (q j).den) : Int))) H
theorem scF : FnScope ["items", "found", "item"] ["items"] (defScope sFac) := ⟨rfl, rfl, rfl, by decide +kernel, rfl, by decide +kernel, by decide +kernel⟩
theorem ok_fac {f C fS : Addr} {fd fdS : FuncData} (F : Fun K "row_factor" "row_factor" sFac f fd) (T : Txt K mg C) (GS : FnOk P w K mg base CX0 1 fS fdS ["self"] (spSign C)) (bS : Binds K fdS ["self"] []) (mS : Meth K C "sign" fS) :
    FnOk P w K mg base CX0 2 f fd ["items"] (spFac C K) := by
  refine F.ok scF (fun vs H Q E h => ?_) (fun cdv A outer s H vs Q E hr h => ?_)
  · obtain ⟨a, n, p, q, rfl, _⟩ := h
    rfl
  · obtain ⟨a, n, p, q, rfl, hS, hR, hd, hl, k⟩ := h
    refine ⟨_, pss_cons (ps_set (i := 1) scF.nd rfl (Or.inl rfl) pe_int)
      (pss_cons (ps_for PassesOwn.never rfl (pi_list (pv 0)) (pg_name (i := 2) scF.nd rfl (Or.inl rfl))
        (pss_one (ps_set (i := 1) scF.nd rfl (Or.inl rfl) (pe_callBfun cr_lcm (by rfl) T.lcm (pa_cons (pv 1) (pa_cons (pe_fld (pv 2) rfl) pa_nil))))))
      (pss_one (ps_ret (pe_ifExp (pt_cmpR op_lt (pe_meth0 (pe_ix ix_list (pv 0) (pe_un un_neg pe_int) (fun _ _ => rfl)) T.cl mS GS hr bS .nil pass0) pe_int (nomark _)) (pe_un un_neg (pv 1)) (pv 1))))), ?_⟩
    refine ⟨_, rfl, a, rfl, ⟨_, hS⟩, for_list (K := K) (a := a) (xs := VL (n + 1) fun j => .ref (p j)) (fun i σ H2 => H2 = H ∧ ∃ v, σ = [some (.ref a), some (.int (K5.lcmN i (fun j => (q j).den) : Int)), v])
      ⟨rfl, none, rfl⟩ (fun i σ H2 _ ⟨e, _⟩ => e ▸ hS) ?_ ?_⟩
    · rintro i x σ H2 hx ⟨rfl, v, rfl⟩
      obtain ⟨hi, rfl⟩ := VL_inv hx
      obtain ⟨dx, hp⟩ := hR i hi
      refine ⟨_, rfl, _, rfl, p i, C, dx, _, _, rfl, hp, T.cl, T.nD, ratF_d (q i), _, _, rfl, ?_, ?_, ?_⟩
      · rw [Int.natAbs_natCast]; exact hl i hi
      · rw [Int.natAbs_natCast]; exact hd i hi
      · exact ⟨rfl, _, rfl⟩
    · rintro σ H2 ⟨rfl, v, rfl⟩
      rw [VL_len]
      obtain ⟨dx, hp⟩ := hR n (by omega)
      refine ⟨_, rfl, _, rfl, a, _, _, _, rfl, rfl, hS, VL_last, p n, dx, _, rfl, hp, ratF_no _ (by decide +kernel) (by decide +kernel), p n, q n, rfl, ⟨dx, hp⟩, fun v hv => ?_⟩
      refine ⟨_, _, rfl, rfl, _, rfl, ?_⟩
      by_cases hn : (q n).num < 0
      · rw [decide_eq_true (hv.mpr hn)]
        rw [if_pos hn] at k
        exact iteT ⟨_, rfl, _, rfl, k⟩
      · rw [decide_eq_false (fun z => hn (hv.mp z))]
        rw [if_neg hn] at k
        exact iteF ⟨_, rfl, k⟩
end
end K5W
set_option Elab.async false
set_option linter.all false
set_option maxRecDepth 100000
set_option maxHeartbeats 4000000
namespace K5W
open PySem PySem.Spec PyProof.Rows L2
theorem same_seqT {K : PySem.W.Frag} {H H' : Hp} {a : Addr} {xs : List V} (e : Same H H') (h : SqT K H a xs) : SqT K H' a xs :=
  h.imp (fun z => z.imp (e a _) fun ⟨o, q⟩ => ⟨o, e a _ q⟩) id
theorem yesT {σ : L2.St} {H : Hp} {A B : Hp → Prop} (h : A H) : tYes σ H fun b H3 => if b = true then A H3 else B H3 := by
  show (if true = true then A H else B H)
  exact iteT h
section
variable {P : Program} {w : World} {K : PySem.W.Frag} {mg : Str → Option Value} {base : Heap}
/-! ### subtracted -/
abbrev sSub : Stmt := topS 13
def spSub (K : PySem.W.Frag) : Sp := fun vs H Q _ => ∃ (a b : Addr) (n j B : Nat) (f g : Nat → Int) (sc : Int), vs = [.ref a, .ref b, .int (j : Int), .int sc] ∧ SqL K H a (VL n fun k => .int (f k)) ∧ SqL K H b (VL n fun k => .int (g k)) ∧ n ≤ 1000 ∧ j < n ∧
  0 < sc ∧ 0 < B ∧ B ≤ 9000 ∧ Bd B sc ∧ (∀ k, k < n → Bd B (f k)) ∧ (∀ k, k < n → Bd B (g k)) ∧
  ∀ (H' : Hp) (p : Addr), Same H H' → H p = none → H' p = some (.lst (VL n fun k => .int ((f k * g j - f j * g k) / sc))) → Q (.ref p) H'
theorem scSub : FnScope ["row", "head", "at", "scale", "top", "factor", "x", "y"] ["row", "head", "at", "scale"] (defScope sSub) := ⟨rfl, rfl, rfl, by decide +kernel, rfl, by decide +kernel, by decide +kernel⟩
theorem ok_sub {f C : Addr} {fd : FuncData} (F : Fun K "subtracted" "subtracted" sSub f fd) (T : Txt K mg C) : FnOk P w K mg base CX0 1 f fd ["row", "head", "at", "scale"] (spSub K) := by
  refine F.ok scSub (fun vs H Q E h => ?_) (fun cdv A outer s H vs Q E hr h => ?_)
  · obtain ⟨a, b, n, j, B, f, g, sc, rfl, _⟩ := h
    rfl
  · obtain ⟨a, b, n, j, B, f, g, sc, rfl, ha, hb, hn, hj, sp, b0, b9, bs, bf, bg, k⟩ := h
    refine ⟨_, pss_cons (ps_set (i := 4) scSub.nd rfl (Or.inr rfl) (pe_ix ix_list (pv 1) (pv 2) (fun _ _ => rfl)))
      (pss_cons (ps_set (i := 5) scSub.nd rfl (Or.inr rfl) (pe_ix ix_list (pv 0) (pv 2) (fun _ _ => rfl)))
      (pss_one (ps_ret (pe_lc (own := [("x", 6), ("y", 7)]) (g := gTup K 2 (gCons (gName 6) (gCons (gName 7) gNil))) (tt := tYes) rfl scSub.nd (pi_zip (by rfl) T.zip (pa_cons (pv 0) (pa_cons (pv 1) pa_nil)))
        (blkOk_by (N := ["row", "head", "at", "scale", "top", "factor", "x", "y"]) (sc := defScope sSub) (by decide +kernel))
        (fun _ _ _ _ _ => pg_tup rfl (pgs_cons (pg_name (i := 6) scSub.nd rfl (Or.inl rfl) (Or.inr rfl)) (pgs_cons (pg_name (i := 7) scSub.nd rfl (Or.inl rfl) (Or.inr rfl)) pgs_nil)))
        (fun _ _ _ _ _ => pts_nil)
        (fun _ _ _ _ _ => pe_op op_fdivW (pe_op op_sub (pe_op op_mulW (pv 6) (pv 4)) (pe_op op_mulW (pv 5) (pv 7))) (pv 3)))))), ?_⟩
    refine ⟨_, rfl, _, rfl, b, _, _, _, rfl, rfl, hb, VL_at hj, ?_⟩
    refine ⟨_, rfl, _, rfl, a, _, _, _, rfl, rfl, ha, VL_at hj, ?_⟩
    refine ⟨_, rfl, _, rfl, a, b, _, _, rfl, ha, hb, fun D hD => ?_⟩
    refine lc_it (walk_zip (K := K) (n := n) (by rw [VL_len, VL_len, Nat.min_self])) (fun i H2 => Same H H2 ∧ H2 D = some (.lst (VL i fun k => .int ((f k * g j - f j * g k) / sc)))) ⟨same_new hD, upd_same⟩ (fun i H2 _ ⟨s2, _⟩ => ⟨s2.seq ha, s2.seq hb⟩) ?_ ?_
    · rintro i v H2 H3 _ ⟨s2, hD2⟩ ⟨T, x, y, rfl, hT, rfl, hx, hy⟩
      obtain ⟨hi, rfl⟩ := VL_inv hx
      obtain ⟨_, rfl⟩ := VL_inv hy
      have nDT : D ≠ T := ne_of_none hD2 hT
      refine ⟨T, _, rfl, .inl (.inl upd_same), rfl, _, _, rfl, _, _, rfl, rfl, rfl, yesT ?_⟩
      have c1 : CMulW (f i) (g j) := (bf i hi).cmul (bg j hj) b0 b0 (by omega)
      have c2 : CMulW (f j) (g i) := (bf j hj).cmul (bg i hi) b0 b0 (by omega)
      refine ⟨_, rfl, _, rfl, _, _, rfl, rfl, c1, _, rfl, _, rfl, _, _, rfl, rfl, c2, _, _, rfl, rfl, _, rfl, _, _, rfl, rfl, bs.cdiv sp b0 b9, _, by rw [upd_ne nDT]; exact hD2, by rw [VL_len]; exact small1000 (by omega), ?_, ?_⟩
      · exact same_own (s2.trans (same_new hT)) hD
      · rw [upd_same]
        exact congrArg (fun l => some (HO.lst l)) (VL_add rfl)
    · rintro H2 ⟨s2, hD2⟩
      exact k H2 D s2 hD hD2
end
end K5W
set_option Elab.async false
set_option linter.all false
set_option maxRecDepth 100000
set_option maxHeartbeats 4000000
namespace K5W
open PySem PySem.Spec PyProof.Rows L2
section
variable {P : Program} {w : World} {K : PySem.W.Frag} {mg : Str → Option Value} {base : Heap}
theorem VL_ints {n : Nat} {f : Nat → Int} : VL n (fun i => V.int (f i)) = ((List.range n).map f).map V.int := by
  unfold VL
  rw [List.map_map]
  rfl
theorem sum_S {n : Nat} {f : Nat → Int} : ((List.range n).map f).sum = K5.S n f := by
  induction n with
  | zero => rfl
  | succ n ih =>
    rw [List.range_succ, List.map_append, List.sum_append, ih]
    show K5.S n f + (f n + 0) = K5.S n f + f n
    omega
theorem tchain2 {ta tb tc : TE} {σ : L2.St} {H : Hp} {Q : VK} {a b c : Int} (ha : ∀ Q : VK, Q (.int a) H → ta σ H Q) (hb : ∀ Q : VK, Q (.int b) H → tb σ H Q) (hc : ∀ Q : VK, Q (.int c) H → tc σ H Q)
    (k : Q (.bl (decide (a ≤ b) && decide (b < c))) H) : tChain (rI0 fun i j => .bl (decide (i ≤ j))) (rI0 fun i j => .bl (decide (i < j))) ta tb tc σ H Q := by
  refine ha _ (hb _ ⟨_, _, rfl, rfl, _, rfl, ?_⟩)
  by_cases h : a ≤ b
  · rw [decide_eq_true h] at k ⊢
    rw [Bool.true_and] at k
    exact iteT (hc _ ⟨_, _, rfl, rfl, k⟩)
  · rw [decide_eq_false h] at k ⊢
    rw [Bool.false_and] at k
    exact iteF k
/-! ### costs -/
abbrev sCost : Stmt := topS 11
def spCost (K : PySem.W.Frag) : Sp := fun vs H Q _ => ∃ (R : Addr) (m n : Nat) (p : Nat → Addr) (M : Nat → Nat → Int), vs = [.ref R, .int (n : Int)] ∧ m ≤ 100 ∧ n ≤ 100 ∧ SqL K H R (VL m fun i => .ref (p i)) ∧ (∀ i, i < m → SqL K H (p i) (VL (n + m + 1) fun j => .int (M i j))) ∧
  ∀ (H' : Hp) (q : Addr), Same H H' → H q = none → H' q = some (.lst (VL (n + m + 1) fun j => .int (K5.cst n m j - K5.S m fun i => M i j))) → Q (.ref q) H'
theorem scC : FnScope ["rows", "count", "width", "found", "j", "row"] ["rows", "count"] (defScope sCost) := ⟨rfl, rfl, rfl, by decide +kernel, rfl, by decide +kernel, by decide +kernel⟩
theorem ok_cost {f C : Addr} {fd : FuncData} (F : Fun K "costs" "costs" sCost f fd) (T : Txt K mg C) : FnOk P w K mg base CX0 1 f fd ["rows", "count"] (spCost K) := by
  refine F.ok scC (fun vs H Q E h => ?_) (fun cdv A outer s H vs Q E hr h => ?_)
  · obtain ⟨R, m, n, p, M, rfl, _⟩ := h
    rfl
  · obtain ⟨R, m, n, p, M, rfl, hm, hn, hR, hM, k⟩ := h
    refine ⟨_, pss_cons (ps_set (i := 2) scC.nd rfl (Or.inl rfl) (pe_op op_add (pe_op op_add (pv 1) (pe_callB call_len_seq (by rfl) T.len PySem.boot_len (pa_cons (pv 0) pa_nil))) pe_int))
      (pss_cons (ps_set (i := 3) scC.nd rfl (Or.inl rfl) (pe_lst pa_nil))
      (pss_cons (ps_for PassesOwn.never rfl (pi_range1 (by rfl) T.range (pa_cons (pv 2) pa_nil)) (pg_name (i := 4) scC.nd rfl (Or.inr rfl))
        (pss_one (ps_expr (pe_bm PySem.F.plainAttrs_list PySem.F.slot_list_append PySem.F.type_list_append mt_append (pv 3) (pa_cons
          (pe_op op_sub (pe_callTy call_int1 (by rfl) T.int (by decide +kernel) (pa_cons (pe_chain op_le op_lt (pv 1) (pv 4) (pe_op op_sub (pv 2) pe_int)) pa_nil))
            (pe_callB (cr_sum rfl) (by rfl) T.sum (by decide +kernel) (pa_cons (pe_lc (own := [("row", 5)]) (g := gName 5) (tt := tYes) rfl scC.nd (pi_list (pv 0))
              (blkOk_by (N := ["rows", "count", "width", "found", "j", "row"]) (sc := defScope sCost) (by decide +kernel))
              (fun _ _ _ _ _ => pg_name (i := 5) scC.nd rfl (Or.inl rfl)) (fun _ _ _ _ _ => pts_nil)
              (fun _ _ _ _ _ => pe_ix (r := rIxL K) ix_list (pv 5) (pv 4) (fun _ _ => rfl))) pa_nil))) pa_nil)))))
      (pss_one (ps_ret (pv 3))))), ?_⟩
    refine ⟨_, rfl, _, rfl, R, _, rfl, .inl hR, _, _, rfl, rfl, _, _, rfl, rfl, ?_⟩
    refine ⟨Nat.zero_le _, fun G hG => ?_⟩
    have ew : (n : Int) + (((VL m fun i => V.ref (p i)).length : Nat) : Int) + 1 = ((n + m + 1 : Nat) : Int) := by rw [VL_len]; omega
    refine ⟨_, rfl, ((n + m + 1 : Nat) : Int), by rw [← ew], by omega, by omega, ?_⟩
    refine for_range (lo := 0) (fun i σ H2 => Same H H2 ∧ H2 G = some (.lst (VL i fun j => .int (K5.cst n m j - K5.S m fun i => M i j))) ∧ ∃ v4 v5, σ = [some (.ref R), some (.int (n : Int)), some (.int ((n + m + 1 : Nat) : Int)), some (.ref G), v4, v5])
      ⟨same_new hG, upd_same, none, none, by rw [← ew]; rfl⟩ ?_ ?_
    · rintro i σ H2 hi ⟨s2, hG2, v4, v5, rfl⟩
      have e0 : (0 : Int) + (i : Int) = (i : Int) := by omega
      rw [e0]
      refine ⟨_, rfl, .inl ⟨rfl, _, .inl (.inl hG2)⟩, ?_⟩
      refine tchain2 (a := (n : Int)) (b := (i : Int)) (c := ((n + m : Nat) : Int)) (fun Q q => ⟨_, rfl, q⟩) (fun Q q => ⟨_, rfl, q⟩) (fun Q q => ⟨_, rfl, _, _, rfl, rfl, by
        show Q (V.int (((n + m + 1 : Nat) : Int) - 1)) H2
        rw [show ((n + m + 1 : Nat) : Int) - 1 = ((n + m : Nat) : Int) by omega]
        exact q⟩) (.inr ⟨_, rfl, ?_⟩)
      refine ⟨_, rfl, R, rfl, ⟨_, s2.seq hR⟩, fun D hD => ?_⟩
      have nGD : G ≠ D := ne_of_none hG2 hD
      refine lc_list (K := K) (a := R) (xs := VL m fun i => .ref (p i)) (fun t H3 => Same H2 H3 ∧ H3 D = some (.lst (VL t fun l => .int (M l i)))) ⟨same_new hD, upd_same⟩ (fun t H3 _ ⟨s3, _⟩ => s3.seq (s2.seq hR)) ?_ ?_
      · rintro t x H3 hx ⟨s3, hD3⟩
        obtain ⟨ht, rfl⟩ := VL_inv hx
        refine ⟨rfl, yesT ?_⟩
        refine ⟨_, rfl, _, rfl, p t, _, _, _, rfl, rfl, s3.seq (s2.seq (hM t ht)), VL_at hi, _, hD3, by rw [VL_len]; exact small1000 (by omega), same_own s3 hD, ?_⟩
        rw [upd_same]
        exact congrArg (fun l => some (HO.lst l)) (VL_add rfl)
      · rintro H3 ⟨s3, hD3⟩
        rw [VL_len] at hD3
        refine ⟨D, (List.range m).map fun l => M l i, rfl, by rw [← VL_ints]; exact .inl (.inl hD3), _, _, rfl, rfl, ?_⟩
        have hG3 := s3 _ _ hG2
        refine ⟨G, _, _, rfl, rfl, hG3, by rw [VL_len]; exact small1000 (by omega), (same_own (s2.trans s3) hG), ?_, _, _, rfl⟩
        rw [upd_same]
        refine congrArg (fun l => some (HO.lst l)) (VL_add (congrArg V.int ?_))
        rw [sum_S]
        congr 1
        unfold K5.cst
        by_cases h1 : n ≤ i <;> by_cases h2 : i < n + m <;> simp [h1, h2] <;> omega
    · rintro σ H2 ⟨s2, hG2, v4, v5, rfl⟩
      refine ⟨_, rfl, k H2 G s2 hG ?_⟩
      rw [hG2]
      rfl
end
end K5W
set_option Elab.async false
set_option linter.all false
set_option maxRecDepth 100000
set_option maxHeartbeats 4000000
namespace K5W
open PySem PySem.Spec PyProof.Rows L2
/-! ### the order of the rows that may leave -/
/-- row o comes before row k -/
def Bt (M : Nat → Nat → Int) (b : Nat → Nat) (N a o k : Nat) : Prop := M o N * M k a < M k N * M o a ∨ (M o N * M k a = M k N * M o a ∧ b o ≤ b k)
theorem Bt.refl {M : Nat → Nat → Int} {b : Nat → Nat} {N a o : Nat} : Bt M b N a o o := .inr ⟨rfl, Nat.le_refl _⟩
theorem Bt.trans {M : Nat → Nat → Int} {b : Nat → Nat} {N a i o k : Nat} (hi : 0 < M i a) (ho : 0 < M o a) (hk : 0 < M k a) (h1 : Bt M b N a i o) (h2 : Bt M b N a o k) : Bt M b N a i k := by
  have e1 : M i N * M k a * M o a = M i N * M o a * M k a := by grind
  have e2 : M k N * M i a * M o a = M k N * M o a * M i a := by grind
  have e3 : M o N * M i a * M k a = M o N * M k a * M i a := by grind
  have a1 : M i N * M o a * M k a ≤ M o N * M i a * M k a := by
    rcases h1 with h | ⟨h, _⟩
    · exact Int.mul_le_mul_of_nonneg_right (Int.le_of_lt h) (Int.le_of_lt hk)
    · rw [h]; exact Int.le_refl _
  have a2 : M o N * M k a * M i a ≤ M k N * M o a * M i a := by
    rcases h2 with h | ⟨h, _⟩
    · exact Int.mul_le_mul_of_nonneg_right (Int.le_of_lt h) (Int.le_of_lt hi)
    · rw [h]; exact Int.le_refl _
  rcases h1 with h | ⟨h, hb⟩
  · have s := Int.mul_lt_mul_of_pos_right h hk
    exact .inl (Int.lt_of_mul_lt_mul_right (a := M o a) (by omega) (Int.le_of_lt ho))
  · rcases h2 with h' | ⟨h', hb'⟩
    · have s := Int.mul_lt_mul_of_pos_right h' hi
      exact .inl (Int.lt_of_mul_lt_mul_right (a := M o a) (by omega) (Int.le_of_lt ho))
    · refine .inr ⟨Int.eq_of_mul_eq_mul_right (Int.ne_of_gt ho) ?_, Nat.le_trans hb hb'⟩
      rw [e1, e2, h, e3, h']
/-- the best of the first i rows, or none -/
def Best (M : Nat → Nat → Int) (b : Nat → Nat) (N a i : Nat) (v : Int) : Prop := (v = -1 ∧ ∀ k, k < i → ¬ 0 < M k a) ∨ ∃ o, o < i ∧ v = (o : Int) ∧ 0 < M o a ∧ ∀ k, k < i → 0 < M k a → Bt M b N a o k
theorem Best.skip {M : Nat → Nat → Int} {b : Nat → Nat} {N a i : Nat} {v : Int} (h : Best M b N a i v) (n : ¬ 0 < M i a) : Best M b N a (i + 1) v := by
  rcases h with ⟨e, h⟩ | ⟨o, ho, e, hp, h⟩
  · refine .inl ⟨e, fun k hk => ?_⟩
    by_cases z : k = i
    · subst z; exact n
    · exact h k (by omega)
  · refine .inr ⟨o, by omega, e, hp, fun k hk hpk => ?_⟩
    by_cases z : k = i
    · subst z; exact absurd hpk n
    · exact h k (by omega) hpk
theorem Best.keep {M : Nat → Nat → Int} {b : Nat → Nat} {N a i o : Nat} (ho : o < i + 1) (po : 0 < M o a) (h : ∀ k, k < i → 0 < M k a → Bt M b N a o k) (hb : Bt M b N a o i) : Best M b N a (i + 1) (o : Int) := by
  refine .inr ⟨o, ho, rfl, po, fun k hk hpk => ?_⟩
  by_cases z : k = i
  · subst z; exact hb
  · exact h k (by omega) hpk
theorem Best.new {M : Nat → Nat → Int} {b : Nat → Nat} {N a i o : Nat} (pi : 0 < M i a) (po : 0 < M o a) (h : ∀ k, k < i → 0 < M k a → Bt M b N a o k) (hb : Bt M b N a i o) : Best M b N a (i + 1) (i : Int) := by
  refine .inr ⟨i, Nat.lt_succ_self _, rfl, pi, fun k hk hpk => ?_⟩
  by_cases z : k = i
  · subst z; exact Bt.refl
  · exact Bt.trans pi po hpk hb (h k (by omega) hpk)
section
variable {P : Program} {w : World} {K : PySem.W.Frag} {mg : Str → Option Value} {base : Heap}
/-! ### leaving -/
abbrev sLeave : Stmt := topS 12
def spLeave (K : PySem.W.Frag) : Sp := fun vs H Q _ => ∃ (R Bs : Addr) (m N a B : Nat) (p : Nat → Addr) (M : Nat → Nat → Int) (b : Nat → Nat), vs = [.ref R, .ref Bs, .int (a : Int)] ∧ m ≤ 100 ∧ a < N + 1 ∧ 0 < B ∧ B ≤ 9000 ∧
  SqL K H R (VL m fun i => .ref (p i)) ∧ (∀ i, i < m → SqL K H (p i) (VL (N + 1) fun j => .int (M i j))) ∧ SqL K H Bs (VL m fun i => .int (b i : Int)) ∧ (∀ i, i < m → ∀ j, j < N + 1 → Bd B (M i j)) ∧ (∃ o, o < m ∧ 0 < M o a) ∧
  ∀ o, o < m → 0 < M o a → (∀ i, i < m → 0 < M i a → Bt M b N a o i) → Q (.int (o : Int)) H
theorem scLv : FnScope ["rows", "basis", "at", "best", "i", "one", "two"] ["rows", "basis", "at"] (defScope sLeave) := ⟨rfl, rfl, rfl, by decide +kernel, rfl, by decide +kernel, by decide +kernel⟩
theorem ok_leave {f C : Addr} {fd : FuncData} (F : Fun K "leaving" "leaving" sLeave f fd) (T : Txt K mg C) : FnOk P w K mg base CX0 1 f fd ["rows", "basis", "at"] (spLeave K) := by
  refine F.ok scLv (fun vs H Q E h => ?_) (fun cdv A outer s H vs Q E hr h => ?_)
  · obtain ⟨R, Bs, m, N, a, B, p, M, b, rfl, _⟩ := h
    rfl
  · obtain ⟨R, Bs, m, N, a, B, p, M, b, rfl, hm, ha, b0, b9, hR, hM, hB, hBd, hex, k⟩ := h
    refine ⟨_, pss_cons (ps_set (i := 3) scLv.nd rfl (Or.inl rfl) (pe_un un_neg pe_int))
      (pss_cons (ps_for PassesOwn.never rfl (pi_range1 (by rfl) T.range (pa_cons (pe_callB call_len_seq (by rfl) T.len PySem.boot_len (pa_cons (pv 0) pa_nil)) pa_nil)) (pg_name (i := 4) scLv.nd rfl (Or.inl rfl))
        (pss_one (ps_if (pt_cmpR op_gt (pe_ix ix_list (pe_ix ix_list (pv 0) (pv 4) (fun _ _ => rfl)) (pv 2) (fun _ _ => rfl)) pe_int (nomark _))
          (pss_cons (ps_if (pt_cmpR op_lt (pv 3) pe_int (nomark _)) (pss_one (ps_set (i := 3) scLv.nd rfl (Or.inl rfl) (pv 4))) pss_nil)
          (pss_cons (ps_set (i := 5) scLv.nd rfl (Or.inl rfl) (pe_op op_mulW (pe_ix ix_list (pe_ix ix_list (pv 0) (pv 4) (fun _ _ => rfl)) (pe_un un_neg pe_int) (fun _ _ => rfl)) (pe_ix ix_list (pe_ix ix_list (pv 0) (pv 3) (fun _ _ => rfl)) (pv 2) (fun _ _ => rfl))))
          (pss_cons (ps_set (i := 6) scLv.nd rfl (Or.inl rfl) (pe_op op_mulW (pe_ix ix_list (pe_ix ix_list (pv 0) (pv 3) (fun _ _ => rfl)) (pe_un un_neg pe_int) (fun _ _ => rfl)) (pe_ix ix_list (pe_ix ix_list (pv 0) (pv 4) (fun _ _ => rfl)) (pv 2) (fun _ _ => rfl))))
          (pss_one (ps_if (PW.pt (pw_or (pt_cmpR op_lt (pv 5) (pv 6) (nomark _)) (pw_or1 (PW.pt (pw_and (pt_cmpR op_eq (pv 5) (pv 6) (nomark _)) (pw_and1 (pt_cmpR op_lt (pe_ix ix_list (pv 1) (pv 4) (fun _ _ => rfl)) (pe_ix ix_list (pv 1) (pv 3) (fun _ _ => rfl)) (nomark _))))))))
            (pss_one (ps_set (i := 3) scLv.nd rfl (Or.inl rfl) (pv 4))) pss_nil))))) pss_nil)))
      (pss_one (ps_ret (pv 3)))), ?_⟩
    refine ⟨_, rfl, ?_⟩
    refine ⟨_, rfl, R, _, rfl, .inl hR, _, rfl, by rw [VL_len]; omega, by rw [VL_len]; omega, ?_⟩
    refine for_range (lo := 0) (fun i σ H2 => H2 = H ∧ ∃ v x4 x5 x6, Best M b N a i v ∧ σ = [some (.ref R), some (.ref Bs), some (.int (a : Int)), some (.int v), x4, x5, x6])
      ⟨rfl, -1, none, none, none, .inl ⟨rfl, fun k hk => by omega⟩, rfl⟩ ?_ ?_
    · rintro i σ H2 hi ⟨rfl, v, x4, x5, x6, hv, rfl⟩
      rw [VL_len] at hi
      replace hi : i < m := by omega
      have e0 : (0 : Int) + (i : Int) = (i : Int) := by omega
      rw [e0]
      refine ⟨_, rfl, _, rfl, R, _, _, _, rfl, rfl, hR, VL_at hi, _, rfl, p i, _, _, _, rfl, rfl, hM i hi, VL_at ha, _, _, rfl, rfl, _, rfl, ite2 (fun q => ?_) (fun q => ?_)⟩
      · have pi : 0 < M i a := of_decide_eq_true q
        have go : ∃ o, o < i + 1 ∧ o < m ∧ 0 < M o a ∧ (∀ k, k < i → 0 < M k a → Bt M b N a o k) ∧ ((v = -1 ∧ o = i) ∨ v = (o : Int)) := by
          rcases hv with ⟨rfl, hv⟩ | ⟨o, ho', rfl, po, hv⟩
          · exact ⟨i, Nat.lt_succ_self i, hi, pi, fun k h1 h2 => absurd h2 (hv k h1), .inl ⟨rfl, rfl⟩⟩
          · exact ⟨o, by omega, by omega, po, hv, .inr rfl⟩
        obtain ⟨o, ho', ho, po, hk, hvo⟩ := go
        rcases hvo with ⟨rfl, eo⟩ | rfl
        · refine ⟨_, rfl, _, _, rfl, rfl, _, rfl, ite2 (fun _ => ⟨_, rfl, ?_⟩) (fun z => absurd rfl z)⟩
          subst eo
          refine ⟨_, rfl, _, rfl, R, _, _, _, rfl, rfl, hR, VL_at hi, _, rfl, p _, _, _, _, rfl, rfl, hM _ hi, VL_last, _, rfl, _, rfl, R, _, _, _, rfl, rfl, hR, VL_at ho, _, rfl, p _, _, _, _, rfl, rfl, hM _ ho, VL_at ha, _, _, rfl, rfl, (hBd _ hi N (Nat.lt_succ_self N)).cmul (hBd _ ho a ha) b0 b0 (by omega), ?_⟩
          refine ⟨_, rfl, _, rfl, R, _, _, _, rfl, rfl, hR, VL_at ho, _, rfl, p _, _, _, _, rfl, rfl, hM _ ho, VL_last, _, rfl, _, rfl, R, _, _, _, rfl, rfl, hR, VL_at hi, _, rfl, p _, _, _, _, rfl, rfl, hM _ hi, VL_at ha, _, _, rfl, rfl, (hBd _ ho N (Nat.lt_succ_self N)).cmul (hBd _ hi a ha) b0 b0 (by omega), ?_⟩
          refine ⟨_, rfl, _, rfl, _, _, rfl, rfl, _, rfl, ite2 (fun z => ?_) (fun z => ?_)⟩
          · exact absurd (of_decide_eq_true z) (Int.lt_irrefl _)
          · refine ⟨_, rfl, _, rfl, rfl, _, rfl, ite2 (fun z2 => ?_) (fun z2 => absurd (decide_eq_true rfl) z2)⟩
            refine ⟨_, rfl, _, rfl, Bs, _, _, _, rfl, rfl, hB, VL_at hi, _, rfl, _, rfl, Bs, _, _, _, rfl, rfl, hB, VL_at ho, _, _, rfl, rfl, _, rfl, ite2 (fun z3 => ?_) (fun z3 => ?_)⟩
            · exact absurd (of_decide_eq_true z3) (Int.lt_irrefl _)
            · exact ⟨rfl, _, _, _, _, Best.keep ho' po hk Bt.refl, rfl⟩
        · refine ⟨_, rfl, _, _, rfl, rfl, _, rfl, ite2 (fun z => absurd (of_decide_eq_true z) (by omega)) (fun _ => ?_)⟩
          refine ⟨_, rfl, _, rfl, R, _, _, _, rfl, rfl, hR, VL_at hi, _, rfl, p _, _, _, _, rfl, rfl, hM _ hi, VL_last, _, rfl, _, rfl, R, _, _, _, rfl, rfl, hR, VL_at ho, _, rfl, p _, _, _, _, rfl, rfl, hM _ ho, VL_at ha, _, _, rfl, rfl, (hBd _ hi N (Nat.lt_succ_self N)).cmul (hBd _ ho a ha) b0 b0 (by omega), ?_⟩
          refine ⟨_, rfl, _, rfl, R, _, _, _, rfl, rfl, hR, VL_at ho, _, rfl, p _, _, _, _, rfl, rfl, hM _ ho, VL_last, _, rfl, _, rfl, R, _, _, _, rfl, rfl, hR, VL_at hi, _, rfl, p _, _, _, _, rfl, rfl, hM _ hi, VL_at ha, _, _, rfl, rfl, (hBd _ ho N (Nat.lt_succ_self N)).cmul (hBd _ hi a ha) b0 b0 (by omega), ?_⟩
          refine ⟨_, rfl, _, rfl, _, _, rfl, rfl, _, rfl, ite2 (fun z => ?_) (fun z => ?_)⟩
          · exact ⟨_, rfl, rfl, _, _, _, _, Best.new pi po hk (.inl (of_decide_eq_true z)), rfl⟩
          · have n1 : ¬ M i N * M o a < M o N * M i a := fun y => z (decide_eq_true y)
            refine ⟨_, rfl, _, rfl, rfl, _, rfl, ite2 (fun z2 => ?_) (fun z2 => ?_)⟩
            · have e1 : M i N * M o a = M o N * M i a := V.int.inj (of_decide_eq_true z2)
              refine ⟨_, rfl, _, rfl, Bs, _, _, _, rfl, rfl, hB, VL_at hi, _, rfl, _, rfl, Bs, _, _, _, rfl, rfl, hB, VL_at ho, _, _, rfl, rfl, _, rfl, ite2 (fun z3 => ?_) (fun z3 => ?_)⟩
              · have e2 : (b i : Int) < (b o : Int) := of_decide_eq_true z3
                exact ⟨_, rfl, rfl, _, _, _, _, Best.new pi po hk (.inr ⟨e1, by omega⟩), rfl⟩
              · have e2 : ¬ (b i : Int) < (b o : Int) := fun y => z3 (decide_eq_true y)
                exact ⟨rfl, _, _, _, _, Best.keep ho' po hk (.inr ⟨e1.symm, by omega⟩), rfl⟩
            · have n2 : ¬ M i N * M o a = M o N * M i a := fun y => z2 (decide_eq_true (congrArg V.int y))
              exact ⟨rfl, _, _, _, _, Best.keep ho' po hk (.inl (by omega)), rfl⟩
      · refine ⟨rfl, v, _, _, _, hv.skip (fun z => q (decide_eq_true z)), rfl⟩
    · rintro σ H2 ⟨rfl, v, x4, x5, x6, hv, rfl⟩
      rw [VL_len] at hv
      replace hv : Best M b N a m v := by rw [show ((m : Nat) : Int).toNat = m by omega] at hv; exact hv
      rcases hv with ⟨_, hv⟩ | ⟨o, ho, rfl, po, hv⟩
      · obtain ⟨o, h1, h2⟩ := hex
        exact absurd h2 (hv o h1)
      · exact ⟨_, rfl, k o ho po hv⟩
end
end K5W
set_option Elab.async false
set_option linter.all false
set_option maxRecDepth 100000
set_option maxHeartbeats 4000000
namespace K5W
open PySem PySem.Spec PyProof.Rows L2
/-- a list of addresses with one more -/
def fset (f : Nat → Addr) (i : Nat) (v : Addr) : Nat → Addr := fun t => if t = i then v else f t
theorem fset_same {f : Nat → Addr} {i : Nat} {v : Addr} : fset f i v i = v := if_pos rfl
theorem fset_ne {f : Nat → Addr} {i t : Nat} {v : Addr} (h : t ≠ i) : fset f i v t = f t := if_neg h
theorem VL_fset {f : Nat → Addr} {i : Nat} {v : Addr} : VL i (fun t => .ref (f t)) ++ [.ref v] = VL (i + 1) fun t => .ref (fset f i v t) := by
  rw [← VL_succ, fset_same]
  congr 1
  exact VL_congr fun t ht => by rw [fset_ne (by omega)]
/-! ### walked: a list or a tuple -/
def Seq (K : PySem.W.Frag) (H : Hp) (a : Addr) (xs : List V) : Prop := SqL K H a xs ∨ SqT K H a xs
theorem Seq.same {K : PySem.W.Frag} {H H' : Hp} {a : Addr} {xs : List V} (e : Same H H') (h : Seq K H a xs) : Seq K H' a xs := h.elim (fun z => .inl (e.seq z)) fun z => .inr (same_seqT e z)
/-- what walks it -/
def SeqIt (K : PySem.W.Frag) (H : Hp) (a : Addr) (J : It) : Prop := (J = Itl K a ∧ ∃ xs, SqL K H a xs) ∨ (J = Itt K a ∧ ∃ xs, SqT K H a xs)
theorem Seq.it {K : PySem.W.Frag} {H : Hp} {a : Addr} {xs : List V} (h : Seq K H a xs) : ∃ J, SeqIt K H a J ∧ ∃ G : Hp → Prop, (∀ H', Same H H' → G H') ∧ L2.Walk J xs.length G (YAt xs) := by
  rcases h with h | h
  · exact ⟨_, .inl ⟨rfl, xs, h⟩, _, fun H' s => s.seq h, walk_list⟩
  · exact ⟨_, .inr ⟨rfl, xs, h⟩, _, fun H' s => same_seqT s h, walk_tup⟩
def iSeq (K : PySem.W.Frag) (i : Nat) : TI := fun σ H R => ∃ a J, σ[i]? = some (some (V.ref a)) ∧ SeqIt K H a J ∧ R J H
/-- a name that holds a list or a tuple -/
theorem pi_seq {X : Cx} {tg l : Expr} {i : Nat} (hl : PE X l (tVar i)) : PI X tg l (iSeq X.K i) := by
  constructor
  intro pins s σ H R inv h
  obtain ⟨a, J, hi, hJ, q⟩ := h
  rcases hJ with ⟨rfl, e⟩ | ⟨rfl, e⟩
  · exact (pi_list hl).run pins s σ H R inv ⟨_, hi, a, rfl, e, q⟩
  · exact (pi_tup hl).run pins s σ H R inv ⟨_, hi, a, rfl, e, q⟩
section
variable {P : Program} {w : World} {K : PySem.W.Frag} {mg : Str → Option Value} {base : Heap}
/-! ### the columns and the right side in the heap; their sizes -/
structure Given (K : PySem.W.Frag) (C : Addr) (H : Hp) (cs rt : Addr) (m n : Nat) (c : Nat → Nat → Rat) (r : Nat → Rat) (pc : Nat → Addr) (pe : Nat → Nat → Addr) (pr : Nat → Addr) : Prop where
  cols : Seq K H cs (VL n fun j => .ref (pc j))
  col : ∀ j, j < n → SqT K H (pc j) (VL m fun i => .ref (pe j i))
  ite : ∀ j, j < n → ∀ i, i < m → RatAt C H (pe j i) (c j i)
  rgt : SqT K H rt (VL m fun i => .ref (pr i))
  rit : ∀ i, i < m → RatAt C H (pr i) (r i)
theorem Given.same {C : Addr} {H H' : Hp} {cs rt : Addr} {m n : Nat} {c : Nat → Nat → Rat} {r : Nat → Rat} {pc : Nat → Addr} {pe : Nat → Nat → Addr} {pr : Nat → Addr} (G : Given K C H cs rt m n c r pc pe pr) (s : Same H H') : Given K C H' cs rt m n c r pc pe pr :=
  ⟨G.cols.same s, fun j hj => same_seqT s (G.col j hj), fun j hj i hi => (G.ite j hj i hi).same s, same_seqT s G.rgt, fun i hi => (G.rit i hi).same s⟩
structure Fits (m n : Nat) (c : Nat → Nat → Rat) (r : Nat → Rat) : Prop where
  m4 : m ≤ 4
  n8 : n ≤ 8
  den : ∀ i, i < m → ∀ j, j < n + 1 → (K5.itm n c r i j).den < 2 ^ 64
  lcm : ∀ i, i < m → ∀ j, j ≤ n + 1 → K5.lcmN j (fun j => (K5.itm n c r i j).den) < 2 ^ 64
  num : ∀ i, i < m → ∀ j, j < n + 1 → Bd 100 (K5.itm n c r i j).num
theorem Fits.fac {m n : Nat} {c : Nat → Nat → Rat} {r : Nat → Rat} (F : Fits m n c r) {i : Nat} (hi : i < m) : Bd 64 (K5.fac n c r i) := by
  have h := F.lcm i hi (n + 1) (Nat.le_refl _)
  unfold K5.fac K5.lcd Bd
  split
  · rw [Int.natAbs_neg, Int.natAbs_natCast]; exact h
  · rw [Int.natAbs_natCast]; exact h
theorem Bd.div {k : Nat} {i j : Int} (h : Bd k i) (hj : 0 < j) (d : j ∣ i) : Bd k (i / j) := by
  unfold Bd at *
  rw [Int.natAbs_ediv_of_dvd d]
  exact Nat.lt_of_le_of_lt (Nat.div_le_self _ _) h
theorem Fits.own {m n : Nat} {c : Nat → Nat → Rat} {r : Nat → Rat} (F : Fits m n c r) {i j : Nat} (hi : i < m) (hj : j < n + 1) : Bd 164 (K5.own n c r i j) :=
  (F.num i hi j hj).mul ((F.fac hi).div (den_pos _) (K5.fac_dvd (by omega)))
/-! ### starting -/
abbrev sStart : Stmt := topS 10
abbrev NStart : List Str := ["columns", "right", "factors", "rows", "i", "items", "factor", "own", "extra", "column", "item", "k"]
def spStart (C : Addr) (K : PySem.W.Frag) : Sp := fun vs H Q _ => ∃ (cs rt : Addr) (m n : Nat) (c : Nat → Nat → Rat) (r : Nat → Rat) (pc : Nat → Addr) (pe : Nat → Nat → Addr) (pr : Nat → Addr), vs = [.ref cs, .ref rt] ∧ Given K C H cs rt m n c r pc pe pr ∧ Fits m n c r ∧
  ∀ (H' : Hp) (t fa ra : Addr) (rw : Nat → Addr), Same H H' → H' t = some (.tup [.ref fa, .ref ra]) → H' fa = some (.lst (VL m fun i => .int (K5.fac n c r i))) → H' ra = some (.lst (VL m fun i => .ref (rw i))) →
    (∀ i, i < m → H' (rw i) = some (.lst (VL (n + m + 1) fun j => .int (K5.row0 m n c r i j)))) → Q (.ref t) H'
theorem scSt : FnScope NStart ["columns", "right"] (defScope sStart) := ⟨rfl, rfl, rfl, by decide +kernel, rfl, by decide +kernel, by decide +kernel⟩
theorem ok_start {f C fF : Addr} {fd fdF : FuncData} (F : Fun K "starting" "starting" sStart f fd) (T : Txt K mg C) (GF : FnOk P w K mg base CX0 2 fF fdF ["items"] (spFac C K)) (bF : Binds K fdF ["items"] []) (kF : PySem.W.keepIn K (.ref fF) = true) (gF : mg "row_factor" = some (.ref fF)) :
    FnOk P w K mg base CX0 3 f fd ["columns", "right"] (spStart C K) := by
  refine F.ok scSt (fun vs H Q E h => ?_) (fun cdv A outer s H vs Q E hr h => ?_)
  · obtain ⟨cs, rt, m, n, c, r, pc, pe, pr, rfl, _⟩ := h
    rfl
  · obtain ⟨cs, rt, m, n, c, r, pc, pe, pr, rfl, G, Z, k⟩ := h
    refine ⟨_, pss_cons (ps_set (i := 2) scSt.nd rfl (Or.inl rfl) (pe_lst pa_nil))
      (pss_cons (ps_set (i := 3) scSt.nd rfl (Or.inl rfl) (pe_lst pa_nil))
      (pss_cons (ps_for PassesOwn.never rfl (pi_range1 (by rfl) T.range (pa_cons (pe_callB call_len_seq (by rfl) T.len PySem.boot_len (pa_cons (pv 1) pa_nil)) pa_nil)) (pg_name (i := 4) scSt.nd rfl (Or.inr rfl))
        (pss_cons (ps_set (i := 5) scSt.nd rfl (Or.inl rfl) (pe_op op_cat
          (pe_lc (own := [("column", 9)]) (g := gName 9) (tt := tYes) rfl scSt.nd (pi_seq (pv 0)) (blkOk_by (N := NStart) (sc := defScope sStart) (by decide +kernel)) (fun _ _ _ _ _ => pg_name (i := 9) scSt.nd rfl (Or.inl rfl)) (fun _ _ _ _ _ => pts_nil)
            (fun _ _ _ _ _ => pe_ix (r := rIxT K) ix_tup (pv 9) (pv 4) (fun _ _ => rfl)))
          (pe_lst (pa_cons (pe_ix ix_tup (pv 1) (pv 4) (fun _ _ => rfl)) pa_nil))))
        (pss_cons (ps_set (i := 6) scSt.nd rfl (Or.inr rfl) (pe_call GF hr (by rfl) gF kF bF .nil pass0 (pa_cons (pv 5) pa_nil)))
        (pss_cons (ps_setLc (i := 7) (own := [("item", 10)]) (g := gName 10) (tt := tYes) (te := tOp (rI CMulW fun i j => .int (i * j)) (tFld K (tVar 10) "n") (tOp (rI CDivW fun i j => .int (i / j)) (tVar 6) (tFld K (tVar 10) "d"))) rfl scSt.nd rfl rfl (sw_true rfl rfl rfl (by decide +kernel)) (pi_list (pv 5)) (blkOk_by (N := NStart) (sc := defScope sStart) (by decide +kernel)) (fun _ _ _ _ _ => pg_name (i := 10) scSt.nd rfl (Or.inl rfl)) (fun _ _ _ _ _ => pts_nil)
            (fun _ _ _ _ _ => pe_op op_mulW (pe_fld (pv 10) rfl) (pe_op op_fdivW (pv 6) (pe_fld (pv 10) rfl))))
        (pss_cons (ps_setLc (i := 8) (own := [("k", 11)]) (g := gName 11) (tt := tYes) rfl scSt.nd rfl rfl (sw_true rfl rfl rfl (by decide +kernel)) (pi_range1 (by rfl) T.range (pa_cons (pe_callB call_len_seq (by rfl) T.len PySem.boot_len (pa_cons (pv 1) pa_nil)) pa_nil)) (blkOk_by (N := NStart) (sc := defScope sStart) (by decide +kernel)) (fun _ _ _ _ _ => pg_name (i := 11) scSt.nd rfl (Or.inl rfl)) (fun _ _ _ _ _ => pts_nil)
            (fun _ _ _ _ _ => pe_callTy call_int1 (by rfl) T.int (by decide +kernel) (pa_cons (pe_cmpR op_eq (pv 11) (pv 4) (nomark _)) pa_nil)))
        (pss_cons (ps_expr (pe_bm PySem.F.plainAttrs_list PySem.F.slot_list_append PySem.F.type_list_append mt_append (pv 2) (pa_cons (pv 6) pa_nil)))
        (pss_one (ps_expr (pe_bm PySem.F.plainAttrs_list PySem.F.slot_list_append PySem.F.type_list_append mt_append (pv 3) (pa_cons (pe_op op_cat (pe_op op_cat (pe_slice sl_list (pv 7) po_none (po_some (pe_un un_neg pe_int))) (pv 8)) (pe_slice sl_list (pv 7) (po_some (pe_un un_neg pe_int)) po_none)) pa_nil))))))))))
      (pss_one (ps_ret (pe_tup (pa_cons (pv 2) (pa_cons (pv 3) pa_nil))))))), ?_⟩
    refine ⟨Nat.zero_le _, fun Fa hFa => ⟨Nat.zero_le _, fun Ra hRa => ?_⟩⟩
    have nFR : Fa ≠ Ra := fun e => by
      rw [← e, upd_same] at hRa
      cases hRa
    have hRa0 : H Ra = none := by
      rw [upd_ne nFR.symm] at hRa
      exact hRa
    refine ⟨_, rfl, rt, _, rfl, .inr (same_seqT ((same_new hFa).trans (same_new hRa)) G.rgt), _, rfl, by rw [VL_len]; have := Z.m4; omega, by rw [VL_len]; have := Z.m4; omega, ?_⟩
    refine for_range (lo := 0) (fun i σ H2 => Same H H2 ∧ H2 Fa = some (.lst (VL i fun t => .int (K5.fac n c r t))) ∧ (∃ rw : Nat → Addr, H2 Ra = some (.lst (VL i fun t => .ref (rw t))) ∧ ∀ t, t < i → rw t ≠ Fa ∧ rw t ≠ Ra ∧ H2 (rw t) = some (.lst (VL (n + m + 1) fun j => .int (K5.row0 m n c r t j)))) ∧
        ∃ x4 x5 x6 x7 x8 x9 x10 x11, σ = [some (.ref cs), some (.ref rt), some (.ref Fa), some (.ref Ra), x4, x5, x6, x7, x8, x9, x10, x11])
      ⟨(same_new hFa).trans (same_new hRa), by rw [upd_ne nFR, upd_same]; rfl, ⟨fun _ => 0, upd_same, fun t ht => by omega⟩, _, _, _, _, _, _, _, _, rfl⟩ ?_ ?_
    · rintro i σ H2 hi ⟨s2, hF2, ⟨rw, hR2, hrw⟩, x4, x5, x6, x7, x8, x9, x10, x11, rfl⟩
      rw [VL_len] at hi
      replace hi : i < m := by omega
      have e0 : (0 : Int) + (i : Int) = (i : Int) := by omega
      rw [e0]
      have G2 := G.same s2
      -- the columns' items
      obtain ⟨J, hJ, GJ, hGJ, wJ⟩ := G2.cols.it
      refine ⟨cs, J, rfl, hJ, fun D hD => lc_it wJ (fun j H3 => Same H2 H3 ∧ H3 D = some (.lst (VL j fun l => .ref (pe l i)))) ⟨same_new hD, upd_same⟩ (fun j H3 _ q => hGJ _ q.1) ?_ ?_⟩
      · rintro j x H3 H3' _ ⟨s3, hD3⟩ ⟨rfl, hx⟩
        obtain ⟨hj, rfl⟩ := VL_inv hx
        refine ⟨rfl, yesT ?_⟩
        refine ⟨_, rfl, _, rfl, pc j, _, _, _, rfl, rfl, same_seqT s3 (G2.col j hj), VL_at hi, _, hD3, by rw [VL_len]; exact small1000 (by have := Z.n8; omega), same_own s3 hD, ?_⟩
        rw [upd_same]
        exact congrArg (fun l => some (HO.lst l)) (VL_add rfl)
      · rintro H3 ⟨s3, hD3⟩
        rw [VL_len] at hD3
        refine ⟨_, rfl, _, rfl, rt, _, _, _, rfl, rfl, same_seqT s3 G2.rgt, VL_at hi, by show 1 ≤ sizeLine; decide, fun L hL => ?_⟩
        have s4 : Same H2 (upd H3 L (.lst [.ref (pr i)])) := s3.trans (same_new hL)
        have nDL : D ≠ L := ne_of_none hD3 hL
        refine ⟨D, L, _, _, rfl, rfl, by rw [upd_ne nDL]; exact hD3, upd_same, by rw [VL_len]; show n + 1 ≤ sizeLine; have := small1000 (n := n + 1) (by have := Z.n8; omega); omega, fun I hI => ?_⟩
        -- items
        have s5 := s4.trans (same_new (o := .lst ((VL n fun l => V.ref (pe l i)) ++ [.ref (pr i)])) hI)
        generalize hH5 : upd (upd H3 L (.lst [.ref (pr i)])) I (.lst ((VL n fun l => V.ref (pe l i)) ++ [.ref (pr i)])) = H5 at s5
        have hI5 : H5 I = some (.lst (VL (n + 1) fun j => .ref (if j < n then pe j i else pr i))) := by
          rw [← hH5, upd_same, ← VL_succ]
          congr 3
          · exact VL_congr fun j hj => by rw [if_pos hj]
          · rw [if_neg (Nat.lt_irrefl n)]
        have G5 := G2.same s5
        have hit : ∀ j, j < n + 1 → RatAt C H5 (if j < n then pe j i else pr i) (K5.itm n c r i j) := fun j hj => by
          unfold K5.itm
          split
          · exact G5.ite j (by omega) i hi
          · exact G5.rit i hi
        have efac : (if (K5.itm n c r i n).num < 0 then - (K5.lcmN (n + 1) (fun j => (K5.itm n c r i j).den) : Int) else (K5.lcmN (n + 1) (fun j => (K5.itm n c r i j).den) : Int)) = K5.fac n c r i := by
          rw [show K5.itm n c r i n = r i from if_neg (Nat.lt_irrefl n)]
          rfl
        refine ⟨_, rfl, I, n, _, _, rfl, .inl (.inl hI5), hit, fun j hj => Z.den i hi j hj, fun j hj => Z.lcm i hi j (by omega), ?_⟩
        rw [efac]
        -- own
        refine ⟨_, rfl, I, rfl, ⟨_, .inl (.inl hI5)⟩, fun O hO => ?_⟩
        refine lc_list (K := K) (a := I) (xs := VL (n + 1) fun j => .ref (if j < n then pe j i else pr i)) (fun j H6 => Same H5 H6 ∧ H6 O = some (.lst (VL j fun l => .int (K5.own n c r i l)))) ⟨same_new hO, upd_same⟩ (fun j H6 _ q => .inl (.inl (q.1 _ _ hI5))) ?_ ?_
        · rintro j x H6 hx ⟨s6, hO6⟩
          obtain ⟨hj, rfl⟩ := VL_inv hx
          obtain ⟨dx, hp⟩ := (hit j hj).same s6
          refine ⟨rfl, yesT ?_⟩
          have d1 : CDivW (K5.fac n c r i) ((K5.itm n c r i j).den : Int) := Bd.cdiv (k := 64) (den_pos _) (by unfold Bd; rw [Int.natAbs_natCast]; exact Z.den i hi j hj) (by decide) (by decide)
          have d2 : CMulW (K5.itm n c r i j).num (K5.fac n c r i / ((K5.itm n c r i j).den : Int)) := (Z.num i hi j hj).cmul ((Z.fac hi).div (den_pos _) (K5.fac_dvd (by omega))) (by decide) (by decide) (by decide)
          refine ⟨_, rfl, _, C, dx, _, _, rfl, hp, T.cl, T.nN, ratF_n _, _, rfl, _, rfl, _, C, dx, _, _, rfl, hp, T.cl, T.nD, ratF_d _, _, _, rfl, rfl, d1, _, _, rfl, rfl, d2, _, hO6, by rw [VL_len]; exact small1000 (by have := Z.n8; omega), same_own s6 hO, ?_⟩
          rw [upd_same]
          exact congrArg (fun l => some (HO.lst l)) (VL_add rfl)
        · rintro H6 ⟨s6, hO6⟩
          rw [VL_len] at hO6
          have s26 := s5.trans s6
          -- extra
          refine ⟨_, rfl, rt, _, rfl, .inr (same_seqT s26 G2.rgt), _, rfl, by rw [VL_len]; have := Z.m4; omega, by rw [VL_len]; have := Z.m4; omega, fun X hX => ?_⟩
          refine lc_range (lo := 0) (fun j H7 => Same H6 H7 ∧ H7 X = some (.lst (VL j fun l => .int (if l = i then 1 else 0)))) ⟨same_new hX, upd_same⟩ ?_ ?_
          · rintro j H7 hj ⟨s7, hX7⟩
            rw [VL_len] at hj
            rw [show (0 : Int) + (j : Int) = (j : Int) by omega]
            refine ⟨rfl, yesT ?_⟩
            refine ⟨_, rfl, _, rfl, rfl, .inr ⟨_, rfl, _, hX7, by rw [VL_len]; exact small1000 (by have := Z.m4; omega), same_own s7 hX, ?_⟩⟩
            rw [upd_same]
            refine congrArg (fun l => some (HO.lst l)) (VL_add (congrArg V.int ?_))
            by_cases e : j = i
            · subst e
              rw [if_pos rfl, decide_eq_true rfl]
              rfl
            · rw [if_neg e, decide_eq_false (fun z => e (by have := V.int.inj z; omega))]
              rfl
          · rintro H7 ⟨s7, hX7⟩
            rw [VL_len] at hX7
            replace hX7 : H7 X = some (.lst (VL m fun l => .int (if l = i then 1 else 0))) := hX7
            have s27 := s26.trans s7
            have hF7 := s27 _ _ hF2
            have hR7 := s27 _ _ hR2
            have hO7 := s7 _ _ hO6
            -- factors.append(factor)
            refine ⟨_, rfl, .inl ⟨rfl, _, .inl (.inl hF7)⟩, _, rfl, Fa, _, _, rfl, rfl, hF7, by rw [VL_len]; exact small1000 (by have := Z.m4; omega), ?_⟩
            have nOF : O ≠ Fa := fun e => by
              have := s5 _ _ hF2
              rw [← e, hO] at this
              cases this
            have nXF : X ≠ Fa := fun e => by
              have := s26 _ _ hF2
              rw [← e, hX] at this
              cases this
            have hR8 : (upd H7 Fa (.lst (VL i (fun t => .int (K5.fac n c r t)) ++ [.int (K5.fac n c r i)]))) Ra = some (.lst (VL i fun t => .ref (rw t))) := by
              rw [upd_ne nFR.symm]
              exact hR7
            have hO8 : (upd H7 Fa (.lst (VL i (fun t => .int (K5.fac n c r t)) ++ [.int (K5.fac n c r i)]))) O = some (.lst (VL (n + 1) fun l => .int (K5.own n c r i l))) := by
              rw [upd_ne nOF]
              exact hO7
            have hX8 : (upd H7 Fa (.lst (VL i (fun t => .int (K5.fac n c r t)) ++ [.int (K5.fac n c r i)]))) X = some (.lst (VL m fun l => .int (if l = i then 1 else 0))) := by
              rw [upd_ne nXF]
              exact hX7
            have hF8 : (upd H7 Fa (.lst (VL i (fun t => .int (K5.fac n c r t)) ++ [.int (K5.fac n c r i)]))) Fa = some (.lst (VL (i + 1) fun t => .int (K5.fac n c r t))) := by
              rw [upd_same, VL_succ]
            have s8 : Same H (upd H7 Fa (.lst (VL i (fun t => .int (K5.fac n c r t)) ++ [.int (K5.fac n c r i)]))) := same_own (s2.trans s27) hFa
            have old8 : ∀ b o, H2 b = some o → b ≠ Fa → (upd H7 Fa (.lst (VL i (fun t => .int (K5.fac n c r t)) ++ [.int (K5.fac n c r i)]))) b = some o := fun b o e nb => by
              rw [upd_ne nb]
              exact s27 _ _ e
            revert hR8 hO8 hX8 hF8 s8 old8
            generalize upd H7 Fa (.lst (VL i (fun t => .int (K5.fac n c r t)) ++ [.int (K5.fac n c r i)])) = H8
            intro hR8 hO8 hX8 hF8 s8 old8
            -- rows.append(..)
            refine ⟨_, rfl, .inl ⟨rfl, _, .inl (.inl hR8)⟩, ?_⟩
            refine ⟨_, rfl, _, rfl, _, rfl, O, _, rfl, .inl (.inl hO8), fun U hU => ?_⟩
            have nXU : X ≠ U := ne_of_none hX8 hU
            refine ⟨_, rfl, U, X, _, _, rfl, rfl, upd_same, (by rw [upd_ne nXU]; exact hX8), ?_, fun U2 hU2 => ?_⟩
            · rw [show cutV (VL (n + 1) fun l => V.int (K5.own n c r i l)) none (some (-1)) = _ from cut_init, VL_len, VL_len]
              have := small1000 (n := n + m) (by have := Z.n8; have := Z.m4; omega)
              omega
            have s9 : Same H8 (upd (upd H8 U (.lst (cutV (VL (n + 1) fun l => V.int (K5.own n c r i l)) none (some (-1))))) U2 (.lst (cutV (VL (n + 1) fun l => V.int (K5.own n c r i l)) none (some (-1)) ++ VL m fun l => .int (if l = i then 1 else 0)))) := (same_new hU).trans (same_new hU2)
            have hU29 : (upd (upd H8 U (.lst (cutV (VL (n + 1) fun l => V.int (K5.own n c r i l)) none (some (-1))))) U2 (.lst (cutV (VL (n + 1) fun l => V.int (K5.own n c r i l)) none (some (-1)) ++ VL m fun l => .int (if l = i then 1 else 0)))) U2 = some (.lst (VL (n + m) fun k => if k < n then .int (K5.own n c r i k) else .int (if k - n = i then 1 else 0))) := by
              rw [upd_same, cut_init, VL_app]
            revert s9 hU29
            generalize (upd (upd H8 U (.lst (cutV (VL (n + 1) fun l => V.int (K5.own n c r i l)) none (some (-1))))) U2 (.lst (cutV (VL (n + 1) fun l => V.int (K5.own n c r i l)) none (some (-1)) ++ VL m fun l => .int (if l = i then 1 else 0)))) = H9
            intro s9 hU29
            have hO9 := s9 _ _ hO8
            have hR9 := s9 _ _ hR8
            have hF9 := s9 _ _ hF8
            refine ⟨_, rfl, _, rfl, _, rfl, O, _, rfl, .inl (.inl hO9), fun U3 hU3 => ?_⟩
            have n23 : U2 ≠ U3 := ne_of_none hU29 hU3
            refine ⟨U2, U3, _, _, rfl, rfl, (by rw [upd_ne n23]; exact hU29), upd_same, ?_, fun U4 hU4 => ?_⟩
            · rw [show cutV (VL (n + 1) fun l => V.int (K5.own n c r i l)) (some (-1)) none = _ from cut_last, VL_len, VL_len]
              have := small1000 (n := n + m + 1) (by have := Z.n8; have := Z.m4; omega)
              omega
            have s10 := (same_new (o := .lst (cutV (VL (n + 1) fun l => V.int (K5.own n c r i l)) (some (-1)) none)) hU3).trans (same_new (o := .lst ((VL (n + m) fun k => if k < n then V.int (K5.own n c r i k) else .int (if k - n = i then 1 else 0)) ++ cutV (VL (n + 1) fun l => V.int (K5.own n c r i l)) (some (-1)) none)) hU4)
            have hRow : (upd (upd H9 U3 (.lst (cutV (VL (n + 1) fun l => V.int (K5.own n c r i l)) (some (-1)) none))) U4 (.lst ((VL (n + m) fun k => if k < n then V.int (K5.own n c r i k) else .int (if k - n = i then 1 else 0)) ++ cutV (VL (n + 1) fun l => V.int (K5.own n c r i l)) (some (-1)) none))) U4 = some (.lst (VL (n + m + 1) fun j => .int (K5.row0 m n c r i j))) := by
              rw [upd_same, cut_last, VL_app]
              refine congrArg (fun l => some (HO.lst l)) (VL_congr fun j hj => ?_)
              unfold K5.row0
              by_cases h1 : j < n
              · rw [if_pos (show j < n + m by omega), if_pos h1, if_pos h1]
              · by_cases h2 : j < n + m
                · rw [if_pos h2, if_neg h1, if_neg h1, if_pos h2]
                · rw [if_neg h2, if_neg h1, if_neg h2]
            revert s10 hRow
            generalize (upd (upd H9 U3 (.lst (cutV (VL (n + 1) fun l => V.int (K5.own n c r i l)) (some (-1)) none))) U4 (.lst ((VL (n + m) fun k => if k < n then V.int (K5.own n c r i k) else .int (if k - n = i then 1 else 0)) ++ cutV (VL (n + 1) fun l => V.int (K5.own n c r i l)) (some (-1)) none))) = H10
            intro s10 hRow
            have f4 : ∀ b o, H9 b = some o → U4 ≠ b := fun b o e z => ne_of_none (same_new hU3 _ _ e) hU4 z.symm
            have hR10 := s10 _ _ hR9
            refine ⟨Ra, _, _, rfl, rfl, hR10, by rw [VL_len]; exact small1000 (by have := Z.m4; omega), same_own (s8.trans (s9.trans s10)) hRa0, (by rw [upd_ne nFR]; exact s10 _ _ hF9), ⟨fset rw i U4, ?_, fun t ht => ?_⟩, _, _, _, _, _, _, _, _, rfl⟩
            · rw [upd_same, VL_fset]
            · by_cases e : t = i
              · subst e
                rw [fset_same]
                exact ⟨f4 _ _ hF9, f4 _ _ hR9, by rw [upd_ne (f4 _ _ hR9)]; exact hRow⟩
              · rw [fset_ne e]
                obtain ⟨a1, a2, a3⟩ := hrw t (by omega)
                exact ⟨a1, a2, by rw [upd_ne a2]; exact s10 _ _ (s9 _ _ (old8 _ _ a3 a1))⟩
    · rintro σ H2 ⟨s2, hF2, ⟨rw, hR2, hrw⟩, x4, x5, x6, x7, x8, x9, x10, x11, rfl⟩
      rw [VL_len] at hF2 hR2 hrw
      replace hF2 : H2 Fa = some (.lst (VL m fun t => .int (K5.fac n c r t))) := hF2
      replace hR2 : H2 Ra = some (.lst (VL m fun t => .ref (rw t))) := hR2
      refine ⟨_, rfl, _, rfl, by show 2 ≤ sizeLine; decide, fun t ht => ?_⟩
      have s3 := same_new (o := .tup [.ref Fa, .ref Ra]) ht
      exact k _ t Fa Ra rw (s2.trans s3) upd_same (s3 _ _ hF2) (s3 _ _ hR2) fun i hi => s3 _ _ (hrw i hi).2.2
end
end K5W
set_option Elab.async false
set_option linter.all false
set_option maxRecDepth 100000
set_option maxHeartbeats 4000000
namespace K5W
open PySem PySem.Spec PyProof.Rows L2
section
variable {P : Program} {w : World} {K : PySem.W.Frag} {mg : Str → Option Value} {base : Heap}
/-! ### feasible -/
abbrev sFeas : Stmt := topS 14
abbrev NFeas : List Str := ["columns", "right", "factors", "rows", "count", "i", "basis", "price", "scale", "entering", "at", "out", "head", "found", "j", "_"]
def spFeas (C : Addr) (K : PySem.W.Frag) : Sp := fun vs H Q _ => ∃ (cs rt : Addr) (m n : Nat) (c : Nat → Nat → Rat) (r : Nat → Rat) (pc : Nat → Addr) (pe : Nat → Nat → Addr) (pr : Nat → Addr), vs = [.ref cs, .ref rt] ∧ Given K C H cs rt m n c r pc pe pr ∧ Fits m n c r ∧
  (∀ (H' : Hp) (t p : Addr) (a : Nat → Addr) (y : Nat → Rat), Same H H' → H' t = some (.tup [.str "functional", .ref p]) → H' p = some (.tup (VL m fun i => .ref (a i))) → (∀ i, i < m → RatAt C H' (a i) (y i) ∧ Sm 775 (y i)) → K5.IsFun m n c r y → Q (.ref t) H') ∧
  ∀ (H' : Hp) (t p : Addr) (a : Nat → Addr) (y : Nat → Rat), Same H H' → H' t = some (.tup [.str "weights", .ref p]) → H' p = some (.tup (VL n fun j => .ref (a j))) → (∀ j, j < n → RatAt C H' (a j) (y j) ∧ Sm 775 (y j)) → K5.IsWgt m n c r y → Q (.ref t) H'
/-- the columns that may enter -/
def EnOk (n : Nat) (T : K5.Tab) (es : List V) : Prop := (es = [] ∧ ∀ j, j < n → 0 ≤ T.P j) ∨ ∃ (a : Nat) (es' : List V), es = .int (a : Int) :: es' ∧ K5.Enters n T a
/-- .. among the first i -/
def EnTo (n : Nat) (T : K5.Tab) (i : Nat) (es : List V) : Prop := es.length ≤ i ∧ ((es = [] ∧ ∀ j, j < i → 0 ≤ T.P j) ∨ ∃ (a : Nat) (es' : List V), es = .int (a : Int) :: es' ∧ K5.Enters n T a)
theorem EnTo.skip {n : Nat} {T : K5.Tab} {i : Nat} {es : List V} (h : EnTo n T i es) (p : 0 ≤ T.P i) : EnTo n T (i + 1) es := by
  obtain ⟨l, h⟩ := h
  refine ⟨by omega, h.elim (fun ⟨e, q⟩ => .inl ⟨e, fun j hj => ?_⟩) .inr⟩
  by_cases z : j = i
  · subst z; exact p
  · exact q j (by omega)
theorem EnTo.add {n : Nat} {T : K5.Tab} {i : Nat} {es : List V} (h : EnTo n T i es) (hi : i < n) (p : T.P i < 0) : EnTo n T (i + 1) (es ++ [.int (i : Int)]) := by
  obtain ⟨l, h⟩ := h
  refine ⟨by rw [List.length_append]; show es.length + 1 ≤ i + 1; omega, .inr ?_⟩
  rcases h with ⟨rfl, q⟩ | ⟨a, es', rfl, q⟩
  · exact ⟨i, [], rfl, hi, p, q⟩
  · exact ⟨a, es' ++ [.int (i : Int)], rfl, q⟩

/-- [j for j in range(count) if price[j] < 0] -/
theorem ent_comp {K : PySem.W.Frag} {m n : Nat} {T : K5.Tab} {Pr D : Addr} {H2 : Hp} {vs : List Nat} {σ : L2.St} {Qd : Hp → Prop} (hD : H2 D = none) (hn : n ≤ 8) (hP : H2 Pr = some (.lst (VL (n + m + 1) fun j => .int (T.P j))))
    (hw : ∀ v : Option V, wipe ((wipe σ vs).set 14 v) vs = wipe σ vs) (h7 : ∀ v : Option V, ((wipe σ vs).set 14 v)[7]? = some (some (.ref Pr))) (h14 : ∀ v : Option V, ((wipe σ vs).set 14 v)[14]? = some v)
    (k : ∀ (es : List V) (H3 : Hp), Same H2 H3 → H3 D = some (.lst es) → EnOk n T es → es.length ≤ n → Qd H3) :
    ∃ W : Nat → Nat → Hp → Prop, (∃ m, W 0 m (upd H2 D (.lst []))) ∧ ∀ i m H, W i m H →
      ((Itr 0 (n : Int).toNat).stop i H ∧ Qd H) ∨ ((Itr 0 (n : Int).toNat).go i H ∧ ∃ Nx : Hp → Prop, (∀ H', Nx H' → ∃ m', m' < m ∧ W (i + 1) m' H') ∧ ∀ x H', (Itr 0 (n : Int).toNat).yld i H x H' → gName 14 x (wipe σ vs) H' fun σ2 H2 => wipe σ2 vs = wipe σ vs ∧ tTest (tOp (rI0 fun i j => .bl (decide (i < j))) (tOp (rIxL K) (tVar 7) (tVar 14)) (tC (.int 0))) σ2 H2 fun b H3 =>
        if b = true then tVar 14 σ2 H3 fun y H4 => ∃ acc, H4 D = some (.lst acc) ∧ acc.length < sizeLine ∧ Nx (upd H4 D (.lst (acc ++ [y]))) else Nx H3) := by
  have nPD : Pr ≠ D := ne_of_none hP hD
  refine lc_range (lo := 0) (fun i H3 => Same H2 H3 ∧ ∃ es, H3 D = some (.lst es) ∧ EnTo n T i es) ⟨same_new hD, [], upd_same, Nat.le_refl _, .inl ⟨rfl, fun j hj => by omega⟩⟩ ?_ ?_
  · rintro i H3 hi ⟨s3, es, hD3, he⟩
    replace hi : i < n := by omega
    rw [show (0 : Int) + (i : Int) = (i : Int) by omega]
    refine ⟨hw _, _, h7 _, _, h14 _, Pr, _, _, _, rfl, rfl, .inl (.inl (s3 _ _ hP)), VL_at (show i < n + m + 1 by omega), _, _, rfl, rfl, _, rfl, ite2 (fun z => ?_) (fun z => ?_)⟩
    · have p : T.P i < 0 := of_decide_eq_true z
      refine ⟨_, h14 _, es, hD3, small1000 (by have := he.1; omega), same_own s3 hD, _, upd_same, he.add hi p⟩
    · exact ⟨s3, es, hD3, he.skip (by
        have p : ¬ T.P i < 0 := fun y => z (decide_eq_true y)
        omega)⟩
  · rintro H3 ⟨s3, es, hD3, he⟩
    replace he : EnTo n T n es := by rw [show ((n : Nat) : Int).toNat = n by omega] at he; exact he
    exact k es H3 s3 hD3 he.2 he.1
theorem RatAt.own {C : Addr} {H : Hp} {p D : Addr} {q : Rat} {xs : List V} {o : HO} (h : RatAt C H p q) (hD : H D = some (.lst xs)) : RatAt C (upd H D o) p q := by
  obtain ⟨dx, e⟩ := h
  exact ⟨dx, by rw [upd_ne (ne_of e hD (by intro z; cases z))]; exact e⟩
/-- the weights of the first i basic columns -/
def wN (n m : Nat) (T : K5.Tab) (i j : Nat) : Rat := K5.SR i fun l => if T.b l = j then Rat.divInt (T.M l (n + m)) T.D else 0
/-- the loop's objects -/
structure Loop (H : Hp) (m n : Nat) (c : Nat → Nat → Rat) (r : Nat → Rat) (T : K5.Tab) (Fa Bs R Pr En : Addr) (H2 : Hp) : Prop where
  same : Same H H2
  new : H Bs = none
  nF : Fa ≠ Bs
  hF : H2 Fa = some (.lst (VL m fun i => .int (K5.fac n c r i)))
  hB : H2 Bs = some (.lst (VL m fun i => .int (T.b i : Int)))
  nR : R ≠ Bs
  hR : ∃ rw : Nat → Addr, H2 R = some (.lst (VL m fun i => .ref (rw i))) ∧ ∀ i, i < m → rw i ≠ Bs ∧ H2 (rw i) = some (.lst (VL (n + m + 1) fun j => .int (T.M i j)))
  nP : Pr ≠ Bs
  hP : H2 Pr = some (.lst (VL (n + m + 1) fun j => .int (T.P j)))
  nE : En ≠ Bs
  hE : ∃ es, H2 En = some (.lst es) ∧ EnOk n T es ∧ es.length ≤ n
theorem scFs : FnScope NFeas ["columns", "right"] (defScope sFeas) := ⟨rfl, rfl, rfl, by decide +kernel, rfl, by decide +kernel, by decide +kernel⟩
theorem ok_feas {f C fSt fC fL fS fI fZ : Addr} {fd fdSt fdC fdL fdS fdI fdZ : FuncData} (F : Fun K "feasible" "feasible" sFeas f fd) (T : Txt K mg C)
    (GSt : FnOk P w K mg base CX0 3 fSt fdSt ["columns", "right"] (spStart C K)) (bSt : Binds K fdSt ["columns", "right"] []) (kSt : PySem.W.keepIn K (.ref fSt) = true) (gSt : mg "starting" = some (.ref fSt))
    (GC : FnOk P w K mg base CX0 1 fC fdC ["rows", "count"] (spCost K)) (bC : Binds K fdC ["rows", "count"] []) (kC : PySem.W.keepIn K (.ref fC) = true) (gC : mg "costs" = some (.ref fC))
    (GL : FnOk P w K mg base CX0 1 fL fdL ["rows", "basis", "at"] (spLeave K)) (bL : Binds K fdL ["rows", "basis", "at"] []) (kL : PySem.W.keepIn K (.ref fL) = true) (gL : mg "leaving" = some (.ref fL))
    (GS : FnOk P w K mg base CX0 1 fS fdS ["row", "head", "at", "scale"] (spSub K)) (bS : Binds K fdS ["row", "head", "at", "scale"] []) (kS : PySem.W.keepIn K (.ref fS) = true) (gS : mg "subtracted" = some (.ref fS))
    (GZ : FnOk P w K mg base CX0 3 fZ fdZ [] (spZero C)) (bZ : Binds K fdZ [] []) (kZ : PySem.W.keepIn K (.ref fZ) = true) (gZ : mg "zero" = some (.ref fZ))
    (M : Mk K C fI) (GI : FnOk P w K mg base CX0 1 fI fdI ["self", "n", "d"] (spInit C)) (bI : Binds K fdI ["self", "n", "d"] []) :
    FnOk P w K mg base CX0 4 f fd ["columns", "right"] (spFeas C K) := by
  refine F.ok scFs (fun vs H Q E h => ?_) (fun cdv A outer s H vs Q E hr h => ?_)
  · obtain ⟨cs, rt, m, n, c, r, pc, pe, pr, rfl, _⟩ := h
    rfl
  · obtain ⟨cs, rt, m, n, c, r, pc, pe, pr, rfl, G, Z, kf, kw⟩ := h
    have hr1 : Room 1 (A.deeper (envOfC "feasible" (defScope sFeas) s.heap.objs.size f cdv)) := hr.mono (by decide)
    have hr2 : Room 2 (A.deeper (envOfC "feasible" (defScope sFeas) s.heap.objs.size f cdv)) := hr.mono (by decide)
    refine ⟨_,
      pss_cons (ps_asg (pe_call GSt hr (by rfl) gSt kSt bSt .nil pass0 (pa_cons (pv 0) (pa_cons (pv 1) pa_nil))) (pg_tup (by rfl) (pgs_cons (pg_name (i := 2) scFs.nd rfl (Or.inr rfl) (Or.inl rfl)) (pgs_cons (pg_name (i := 3) scFs.nd rfl (Or.inr rfl) (Or.inl rfl)) pgs_nil)))) <|
      pss_cons (ps_set (i := 4) scFs.nd rfl (Or.inr rfl) (pe_callB call_len_seq (by rfl) T.len PySem.boot_len (pa_cons (pv 0) pa_nil))) <|
      pss_cons (ps_setLc (i := 6) (own := [("i", 5)]) (g := gName 5) (tt := tYes) rfl scFs.nd rfl rfl (sw_true rfl rfl rfl (by decide +kernel)) (pi_range1 (by rfl) T.range (pa_cons (pe_callB call_len_seq (by rfl) T.len PySem.boot_len (pa_cons (pv 3) pa_nil)) pa_nil)) (blkOk_by (N := NFeas) (sc := defScope sFeas) (by decide +kernel)) (fun _ _ _ _ _ => pg_name (i := 5) scFs.nd rfl (Or.inl rfl)) (fun _ _ _ _ _ => pts_nil)
          (fun _ _ _ _ _ => pe_op op_add (pv 4) (pv 5))) <|
      pss_cons (ps_set (i := 7) scFs.nd rfl (Or.inr rfl) (pe_call GC hr1 (by rfl) gC kC bC .nil pass0 (pa_cons (pv 3) (pa_cons (pv 4) pa_nil)))) <|
      pss_cons (ps_set (i := 8) scFs.nd rfl (Or.inr rfl) pe_int) <|
      pss_cons (ps_setLc (i := 9) (own := [("j", 14)]) (g := gName 14) (tt := tTest (tOp (rI0 fun i j => .bl (decide (i < j))) (tOp (rIxL K) (tVar 7) (tVar 14)) (tC (.int 0)))) rfl scFs.nd rfl rfl (sw_true rfl rfl rfl (by decide +kernel)) (pi_range1 (by rfl) T.range (pa_cons (pv 4) pa_nil)) (blkOk_by (N := NFeas) (sc := defScope sFeas) (by decide +kernel)) (fun _ _ _ _ _ => pg_name (i := 14) scFs.nd rfl (Or.inl rfl))
          (fun _ _ _ _ _ => pts_one (pt_cmpR op_lt (pe_ix (r := rIxL K) ix_list (pv 7) (pv 14) (fun _ _ => rfl)) pe_int (nomark _))) (fun _ _ _ _ _ => pv 14)) <|
      pss_cons (ps_while PassesOwn.never (pt_cmpR op_gt (pe_callB call_len_seq (by rfl) T.len PySem.boot_len (pa_cons (pv 9) pa_nil)) pe_int (nomark _)) <|
        pss_cons (ps_set (i := 10) scFs.nd rfl (Or.inr rfl) (pe_ix ix_list (pv 9) pe_int (fun _ _ => rfl))) <|
        pss_cons (ps_set (i := 11) scFs.nd rfl (Or.inr rfl) (pe_call GL hr1 (by rfl) gL kL bL .nil pass0 (pa_cons (pv 3) (pa_cons (pv 6) (pa_cons (pv 10) pa_nil))))) <|
        pss_cons (ps_set (i := 12) scFs.nd rfl (Or.inr rfl) (pe_ix ix_list (pv 3) (pv 11) (fun _ _ => rfl))) <|
        pss_cons (ps_set (i := 3) scFs.nd rfl (Or.inr rfl) (pe_lc (own := [("i", 5)]) (g := gName 5) (tt := tYes) rfl scFs.nd (pi_range1 (by rfl) T.range (pa_cons (pe_callB call_len_seq (by rfl) T.len PySem.boot_len (pa_cons (pv 3) pa_nil)) pa_nil)) (blkOk_by (N := NFeas) (sc := defScope sFeas) (by decide +kernel)) (fun _ _ _ _ _ => pg_name (i := 5) scFs.nd rfl (Or.inl rfl)) (fun _ _ _ _ _ => pts_nil)
            (fun _ _ _ _ _ => pe_ifExp (pt_cmpR op_eq (pv 5) (pv 11) (nomark _)) (pv 12) (pe_call (E := E0) GS hr1 (by rfl) gS kS bS .nil pass0 (pa_cons (pe_ix (r := rIxL K) ix_list (pv 3) (pv 5) (fun _ _ => rfl)) (pa_cons (pv 12) (pa_cons (pv 10) (pa_cons (pv 8) pa_nil)))))))) <|
        pss_cons (ps_set (i := 7) scFs.nd rfl (Or.inr rfl) (pe_call GS hr1 (by rfl) gS kS bS .nil pass0 (pa_cons (pv 7) (pa_cons (pv 12) (pa_cons (pv 10) (pa_cons (pv 8) pa_nil)))))) <|
        pss_cons (ps_set (i := 8) scFs.nd rfl (Or.inr rfl) (pe_ix ix_list (pv 12) (pv 10) (fun _ _ => rfl))) <|
        pss_cons (ps_asg (pv 10) (pg_sub (pv 6) (pv 11) set_list)) <|
        pss_one (ps_setLc (i := 9) (own := [("j", 14)]) (g := gName 14) (tt := tTest (tOp (rI0 fun i j => .bl (decide (i < j))) (tOp (rIxL K) (tVar 7) (tVar 14)) (tC (.int 0)))) rfl scFs.nd rfl rfl (sw_true rfl rfl rfl (by decide +kernel)) (pi_range1 (by rfl) T.range (pa_cons (pv 4) pa_nil)) (blkOk_by (N := NFeas) (sc := defScope sFeas) (by decide +kernel)) (fun _ _ _ _ _ => pg_name (i := 14) scFs.nd rfl (Or.inl rfl))
          (fun _ _ _ _ _ => pts_one (pt_cmpR op_lt (pe_ix (r := rIxL K) ix_list (pv 7) (pv 14) (fun _ _ => rfl)) pe_int (nomark _))) (fun _ _ _ _ _ => pv 14))) <|
      pss_cons (ps_if (pt_cmpR op_lt (pe_ix ix_list (pv 7) (pe_un un_neg pe_int) (fun _ _ => rfl)) pe_int (nomark _))
        (pss_one (ps_ret (pe_tup (pa_cons pe_str (pa_cons (pe_callTy call_tuple_of (by rfl) T.tuple (by decide +kernel) (pa_cons
          (pe_lc (own := [("i", 5)]) (g := gName 5) (tt := tYes) (te := tMake C (spInit C) [] E0 (tCons (tOp (rI CMulW fun i j => .int (i * j)) (tOp (rIxL K) (tVar 2) (tVar 5)) (tOp (rI0 fun i j => .int (i - j)) (tVar 8) (tOp (rIxL K) (tVar 7) (tOp (rI0 fun i j => .int (i + j)) (tVar 4) (tVar 5))))) (tCons (tVar 8) tNil))) rfl scFs.nd (pi_range1 (by rfl) T.range (pa_cons (pe_callB call_len_seq (by rfl) T.len PySem.boot_len (pa_cons (pv 3) pa_nil)) pa_nil)) (blkOk_by (N := NFeas) (sc := defScope sFeas) (by decide +kernel)) (fun _ _ _ _ _ => pg_name (i := 5) scFs.nd rfl (Or.inl rfl)) (fun _ _ _ _ _ => pts_nil)
            (fun _ _ _ _ _ => pe_make (E := E0) M GI hr2 (by rfl) T.mgC bI .nil pass0 (pa_cons (pe_op op_mulW (pe_ix (r := rIxL K) ix_list (pv 2) (pv 5) (fun _ _ => rfl)) (pe_op op_sub (pv 8) (pe_ix (r := rIxL K) ix_list (pv 7) (pe_op op_add (pv 4) (pv 5)) (fun _ _ => rfl)))) (pa_cons (pv 8) pa_nil)))) pa_nil)) pa_nil))))) pss_nil) <|
      pss_cons (ps_setLc (i := 13) (own := [("_", 15)]) (g := gName 15) (tt := tYes) rfl scFs.nd rfl rfl (sw_true rfl rfl rfl (by decide +kernel)) (pi_range1 (by rfl) T.range (pa_cons (pv 4) pa_nil)) (blkOk_by (N := NFeas) (sc := defScope sFeas) (by decide +kernel)) (fun _ _ _ _ _ => pg_name (i := 15) scFs.nd rfl (Or.inl rfl)) (fun _ _ _ _ _ => pts_nil)
          (fun _ _ _ _ _ => pe_call0 (E := E0) GZ hr (by rfl) gZ kZ bZ .nil pass0)) <|
      pss_cons (ps_for PassesOwn.never rfl (pi_range1 (by rfl) T.range (pa_cons (pe_callB call_len_seq (by rfl) T.len PySem.boot_len (pa_cons (pv 3) pa_nil)) pa_nil)) (pg_name (i := 5) scFs.nd rfl (Or.inl rfl)) <|
        pss_one (ps_if (pt_cmpR op_lt (pe_ix ix_list (pv 6) (pv 5) (fun _ _ => rfl)) (pv 4) (nomark _))
          (pss_one (ps_asg (pe_make M GI hr2 (by rfl) T.mgC bI .nil pass0 (pa_cons (pe_ix ix_list (pe_ix ix_list (pv 3) (pv 5) (fun _ _ => rfl)) (pe_un un_neg pe_int) (fun _ _ => rfl)) (pa_cons (pv 8) pa_nil))) (pg_sub (pv 13) (pe_ix ix_list (pv 6) (pv 5) (fun _ _ => rfl)) set_list))) pss_nil)) <|
      pss_one (ps_ret (pe_tup (pa_cons pe_str (pa_cons (pe_callTy call_tuple_of (by rfl) T.tuple (by decide +kernel) (pa_cons (pv 13) pa_nil)) pa_nil)))), ?_⟩
    refine ⟨_, rfl, _, rfl, cs, rt, m, n, c, r, pc, pe, pr, rfl, G, Z, fun H1 t Fa Ra rw s1 ht hF1 hR1 hrw1 => ?_⟩
    refine ⟨t, _, rfl, .inl (.inl ht), rfl, _, _, rfl, _, _, rfl, rfl, ?_⟩
    have G1 := G.same s1
    have hn8 := Z.n8
    have hm4 := Z.m4
    refine ⟨_, rfl, cs, _, rfl, G1.cols, ?_⟩
    rw [VL_len]
    -- basis
    refine ⟨_, rfl, Ra, _, rfl, .inl (.inl (.inl hR1)), _, rfl, by rw [VL_len]; omega, by rw [VL_len]; omega, fun Bs hBs => ?_⟩
    rw [VL_len]
    refine lc_range (lo := 0) (fun i H2 => Same H1 H2 ∧ H2 Bs = some (.lst (VL i fun l => .int ((n + l : Nat) : Int)))) ⟨same_new hBs, upd_same⟩ ?_ ?_
    · rintro i H2 hi ⟨s2, hB2⟩
      replace hi : i < m := by omega
      rw [show (0 : Int) + (i : Int) = (i : Int) by omega]
      refine ⟨rfl, yesT ?_⟩
      refine ⟨_, rfl, _, rfl, _, _, rfl, rfl, _, hB2, by rw [VL_len]; exact small1000 (by omega), same_own s2 hBs, ?_⟩
      rw [upd_same]
      exact congrArg (fun l => some (HO.lst l)) (VL_add (congrArg V.int (by omega)))
    · rintro H2 ⟨s2, hB2⟩
      replace hB2 : H2 Bs = some (.lst (VL m fun l => .int ((n + l : Nat) : Int))) := by rw [show ((m : Nat) : Int).toNat = m by omega] at hB2; exact hB2
      have I0 : K5.Inv m n (K5.col0 m n c r) (K5.tab0 m n c r) := K5.inv0
      have hBs0 : H Bs = none := s1.free hBs
      -- costs
      refine ⟨_, rfl, _, rfl, Ra, m, n, rw, K5.row0 m n c r, rfl, by omega, by omega, .inl (.inl (s2 _ _ hR1)), fun i hi => .inl (.inl (s2 _ _ (hrw1 i hi))), fun H3 Pr s3 hPr hP3 => ?_⟩
      -- entering
      refine ⟨_, rfl, _, rfl, by omega, by omega, fun En hEn => ent_comp (m := m) (T := K5.tab0 m n c r) hEn hn8 hP3 (fun _ => rfl) (fun _ => rfl) (fun _ => rfl) fun es H4 s4 hE4 he hle => ?_⟩
      have s34 := s3.trans s4
      have nb : ∀ b o, H1 b = some o → b ≠ Bs := fun b o e => ne_of_none e hBs
      have L0 : Loop H m n c r (K5.tab0 m n c r) Fa Bs Ra Pr En H4 :=
        ⟨s1.trans (s2.trans s34), hBs0, nb _ _ hF1, s34 _ _ (s2 _ _ hF1), s34 _ _ hB2, nb _ _ hR1, ⟨rw, s34 _ _ (s2 _ _ hR1), fun i hi => ⟨nb _ _ (hrw1 i hi), s34 _ _ (s2 _ _ (hrw1 i hi))⟩⟩,
          (fun e => by rw [e, hB2] at hPr; cases hPr), s4 _ _ hP3, (fun e => by rw [e, s3 _ _ hB2] at hEn; cases hEn), ⟨es, hE4, he, hle⟩⟩
      refine ⟨fun μ σ H5 => ∃ (k : Nat) (T : K5.Tab) (R Pr En : Addr) (x5 x10 x11 x12 x13 x14 x15 : Option V), μ = 2 ^ (n + m) - k ∧ K5.Run m n (K5.col0 m n c r) k T ∧ Loop H m n c r T Fa Bs R Pr En H5 ∧
        σ = [some (.ref cs), some (.ref rt), some (.ref Fa), some (.ref R), some (.int (n : Int)), x5, some (.ref Bs), some (.ref Pr), some (.int T.D), some (.ref En), x10, x11, x12, x13, x14, x15],
        ⟨_, 0, K5.tab0 m n c r, Ra, Pr, En, _, _, _, _, _, _, _, rfl, K5.Run.start I0, L0, rfl⟩, ?_⟩
      clear L0 he hle hE4 hEn s34 s4 s3 hP3 hPr I0
      rintro μ σ H5 ⟨kk, T5, R, Pr, En, x5, x10, x11, x12, x13, x14, x15, rfl, hRun, L, rfl⟩
      have I := hRun.inv
      obtain ⟨bD, bM, bP⟩ := I.small hm4 fun i hi j hj => Nat.le_of_lt (Z.own hi hj)
      obtain ⟨es, hE, hEn, hle⟩ := L.hE
      obtain ⟨rw, hR, hrw⟩ := L.hR
      have nn := small1000 (n := n + m + 1) (by omega)
      refine ⟨_, rfl, En, es, rfl, .inl (.inl (.inl hE)), _, _, rfl, rfl, _, rfl, ?_⟩
      rcases hEn with ⟨rfl, hp⟩ | ⟨a, es', rfl, en⟩
      · refine ite2 (fun z => absurd (of_decide_eq_true z) (by show ¬ (0 : Int) < 0; omega)) (fun _ => ?_)
        have D0 : T5.D ≠ 0 := by have := I.hD; omega
        have D9 : Bd 9000 T5.D := Bd.mono (k := 710) bD (by decide)
        refine ⟨_, rfl, _, rfl, Pr, _, _, _, rfl, rfl, .inl (.inl L.hP), VL_last, _, _, rfl, rfl, _, rfl, ite2 (fun z => ?_) (fun z => ?_)⟩
        · -- the functional
          have neg : T5.P (n + m) < 0 := of_decide_eq_true z
          refine ⟨_, rfl, R, _, rfl, .inl (.inl (.inl hR)), _, rfl, by rw [VL_len]; omega, by rw [VL_len]; omega, fun D hD => ?_⟩
          rw [VL_len]
          refine lc_range (lo := 0) (fun i H6 => Same H5 H6 ∧ ∃ ya : Nat → Addr, H6 D = some (.lst (VL i fun t => .ref (ya t))) ∧ ∀ t, t < i → RatAt C H6 (ya t) (K5.fun0 n c r T5 t)) ⟨same_new hD, fun _ => 0, upd_same, fun t ht => by omega⟩ ?_ ?_
          · rintro i H6 hi ⟨s6, ya, hD6, hya⟩
            replace hi : i < m := by omega
            rw [show (0 : Int) + (i : Int) = (i : Int) by omega]
            refine ⟨rfl, yesT ?_⟩
            have c1 : CMulW (K5.fac n c r i) (T5.D - T5.P (n + i)) := (Z.fac hi).cmul (Bd.sub (k := 710) bD (bP (n + i) (by omega))) (by decide) (by decide) (by decide)
            refine ⟨_, rfl, _, rfl, Fa, _, _, _, rfl, rfl, .inl (.inl (s6 _ _ L.hF)), VL_at hi, _, rfl, _, rfl, _, rfl, _, rfl, _, _, rfl, rfl, Pr, _, _, _, rfl, rfl, .inl (.inl (s6 _ _ L.hP)), VL_atZ (j := n + i) (by omega) (by omega), _, _, rfl, rfl, _, _, rfl, rfl, c1, _, rfl, fun x dx hx hdx ne => made hx hdx D0 D9 fun H7 s7 r7 => ?_⟩
            have hD7 := s7 _ _ hD6
            refine ⟨_, hD7, by rw [VL_len]; exact small1000 (by omega), same_own (s6.trans s7) hD, fset ya i x, by rw [upd_same, VL_fset], fun t ht => ?_⟩
            by_cases e : t = i
            · subst e
              rw [fset_same]
              exact RatAt.own r7 hD7
            · rw [fset_ne e]
              exact ((hya t (by omega)).same s7).own hD7
          · rintro H6 ⟨s6, ya, hD6, hya⟩
            replace hD6 : H6 D = some (.lst (VL m fun t => .ref (ya t))) := by rw [show ((m : Nat) : Int).toNat = m by omega] at hD6; exact hD6
            replace hya : ∀ t, t < m → RatAt C H6 (ya t) (K5.fun0 n c r T5 t) := fun t ht => hya t (by omega)
            refine ⟨D, _, rfl, .inl ⟨.inl (.inl hD6), fun l hl => ?_⟩⟩
            refine ⟨by show 2 ≤ sizeLine; decide, fun t ht => ?_⟩
            have s7 := (same_new (o := .tup (VL m fun t => V.ref (ya t))) hl).trans (same_new (o := .tup [.str "functional", .ref l]) ht)
            obtain ⟨e1, e2⟩ := K5.end_fun I hp neg
            refine kf _ t l ya (K5.fun0 n c r T5) ((L.same.trans s6).trans s7) upd_same (same_new ht _ _ upd_same) (fun i hi => ⟨(hya i hi).same s7, ?_⟩) ⟨e1, e2⟩
            exact Sm.of D0 ((Z.fac hi).mul (Bd.sub (k := 710) bD (bP (n + i) (by omega)))) (Bd.mono (k := 710) bD (by decide))
        · -- the weights
          have pos : 0 ≤ T5.P (n + m) := by
            have p : ¬ T5.P (n + m) < 0 := fun y => z (decide_eq_true y)
            omega
          refine ⟨_, rfl, _, rfl, by omega, by omega, fun Fd hFd => ?_⟩
          refine lc_range (lo := 0) (fun i H6 => Same H5 H6 ∧ ∃ ya : Nat → Addr, H6 Fd = some (.lst (VL i fun t => .ref (ya t))) ∧ ∀ t, t < i → RatAt C H6 (ya t) 0) ⟨same_new hFd, fun _ => 0, upd_same, fun t ht => by omega⟩ ?_ ?_
          · rintro i H6 hi ⟨s6, ya, hD6, hya⟩
            replace hi : i < n := by omega
            refine ⟨rfl, yesT ?_⟩
            refine ⟨rfl, fun H7 x s7 hx r7 => ?_⟩
            have hD7 := s7 _ _ hD6
            refine ⟨_, hD7, by rw [VL_len]; exact small1000 (by omega), same_own (s6.trans s7) hFd, fset ya i x, by rw [upd_same, VL_fset], fun t ht => ?_⟩
            by_cases e : t = i
            · subst e
              rw [fset_same]
              exact RatAt.own r7 hD7
            · rw [fset_ne e]
              exact ((hya t (by omega)).same s7).own hD7
          · rintro H6 ⟨s6, ya, hD6, hya⟩
            replace hD6 : H6 Fd = some (.lst (VL n fun t => .ref (ya t))) := by rw [show ((n : Nat) : Int).toNat = n by omega] at hD6; exact hD6
            replace hya : ∀ t, t < n → RatAt C H6 (ya t) 0 := fun t ht => hya t (by omega)
            refine ⟨_, rfl, R, _, rfl, .inl (.inl (.inl (s6 _ _ hR))), _, rfl, by rw [VL_len]; omega, by rw [VL_len]; omega, ?_⟩
            rw [VL_len]
            refine for_range (lo := 0) (fun i σ H7 => Same H5 H7 ∧ (∃ ya : Nat → Addr, H7 Fd = some (.lst (VL n fun t => .ref (ya t))) ∧ ∀ j, j < n → RatAt C H7 (ya j) (wN n m T5 i j)) ∧
                ∃ y5 y14 y15, σ = [some (.ref cs), some (.ref rt), some (.ref Fa), some (.ref R), some (.int (n : Int)), y5, some (.ref Bs), some (.ref Pr), some (.int T5.D), some (.ref En), x10, x11, x12, some (.ref Fd), y14, y15])
              ⟨s6, ⟨ya, hD6, hya⟩, _, _, _, rfl⟩ ?_ ?_
            · rintro i σ H7 hi ⟨s7, ⟨ya, hD7, hya⟩, y5, y14, y15, rfl⟩
              replace hi : i < m := by omega
              rw [show (0 : Int) + (i : Int) = (i : Int) by omega]
              have hB7 := s7 _ _ L.hB
              refine ⟨_, rfl, _, rfl, Bs, _, _, _, rfl, rfl, .inl (.inl hB7), VL_at hi, _, rfl, _, _, rfl, rfl, _, rfl, ite2 (fun y => ?_) (fun y => ?_)⟩
              · have bi : T5.b i < n := by
                  have : (T5.b i : Int) < (n : Int) := of_decide_eq_true y
                  omega
                refine ⟨_, rfl, _, rfl, R, _, _, _, rfl, rfl, .inl (.inl (s7 _ _ hR)), VL_at hi, _, rfl, rw i, _, _, _, rfl, rfl, .inl (.inl (s7 _ _ (hrw i hi).2)), VL_last, _, rfl, fun x dx hx hdx ne => made hx hdx D0 D9 fun H8 s8 r8 => ?_⟩
                have hD8 := s8 _ _ hD7
                refine ⟨_, rfl, _, rfl, _, rfl, Bs, _, _, _, rfl, rfl, .inl (.inl (s8 _ _ hB7)), VL_at hi, Fd, _, _, T5.b i, rfl, rfl, hD8, by rw [VL_len]; exact Evl.ixN_nat bi, same_own (s7.trans s8) hFd, ⟨fset ya (T5.b i) x, ?_, fun j hj => ?_⟩, _, _, _, rfl⟩
                · rw [upd_same, VL_set]
                  refine congrArg (fun l => some (HO.lst l)) (VL_congr fun j _ => ?_)
                  show (if j = T5.b i then V.ref x else V.ref (ya j)) = V.ref (if j = T5.b i then x else ya j)
                  split <;> rfl
                · show RatAt C _ _ (wN n m T5 i j + (if T5.b i = j then Rat.divInt (T5.M i (n + m)) T5.D else 0))
                  by_cases e : j = T5.b i
                  · subst e
                    have w0 : wN n m T5 i (T5.b i) = 0 := K5.SR_zero fun l hl => if_neg fun q => by have := I.inj (show l < m by omega) hi q; omega
                    rw [fset_same, if_pos rfl, w0, Rat.zero_add]
                    exact RatAt.own r8 hD8
                  · rw [fset_ne e, if_neg (fun q => e q.symm), Rat.add_zero]
                    exact ((hya j hj).same s8).own hD8
              · have bi : n ≤ T5.b i := by
                  have : ¬ (T5.b i : Int) < (n : Int) := fun q => y (decide_eq_true q)
                  omega
                refine ⟨s7, ⟨ya, hD7, fun j hj => ?_⟩, _, _, _, rfl⟩
                show RatAt C _ _ (wN n m T5 i j + (if T5.b i = j then Rat.divInt (T5.M i (n + m)) T5.D else 0))
                rw [if_neg (by omega), Rat.add_zero]
                exact hya j hj
            · rintro σ H7 ⟨s7, ⟨ya, hD7, hya⟩, y5, y14, y15, rfl⟩
              replace hya : ∀ j, j < n → RatAt C H7 (ya j) (K5.wgt n m T5 j) := fun j hj => by
                have q := hya j hj
                rw [show ((m : Nat) : Int).toNat = m by omega] at q
                exact q
              refine ⟨_, rfl, Fd, _, rfl, .inl ⟨.inl (.inl hD7), fun l hl => ?_⟩⟩
              refine ⟨by show 2 ≤ sizeLine; decide, fun t ht => ?_⟩
              have s8 := (same_new (o := .tup (VL n fun t => V.ref (ya t))) hl).trans (same_new (o := .tup [.str "weights", .ref l]) ht)
              refine kw _ t l ya (K5.wgt n m T5) ((L.same.trans s7).trans s8) upd_same (same_new ht _ _ upd_same) (fun j hj => ⟨(hya j hj).same s8, ?_⟩) ⟨fun j _ => K5.wgt_nn I j, K5.end_wgt I pos⟩
              by_cases q : ∃ l, l < m ∧ T5.b l = j
              · obtain ⟨l, hl, rfl⟩ := q
                rw [K5.wgt_in (I := I) hl]
                exact Sm.of D0 (Bd.mono (k := 710) (bM l hl _ (Nat.le_refl _)) (by decide)) (Bd.mono (k := 710) bD (by decide))
              · rw [K5.wgt_out fun l hl e => q ⟨l, hl, e⟩]
                exact ⟨by show (0 : Int).natAbs < 2 ^ 775; exact Nat.pow_pos (by decide), by show (1 : Int).natAbs < 2 ^ 775; exact Nat.one_lt_two_pow (by decide)⟩
      · refine ite2 (fun _ => ?_) (fun z => absurd (decide_eq_true (by rw [List.length_cons]; omega)) z)
        refine ⟨fun σ' H' => ∃ (T6 : K5.Tab) (o : Nat) (R Pr En : Addr) (x5 x10 x11 x12 x13 x14 x15 : Option V), K5.Step m n T5 T6 a o ∧ Loop H m n c r T6 Fa Bs R Pr En H' ∧
          σ' = [some (.ref cs), some (.ref rt), some (.ref Fa), some (.ref R), some (.int (n : Int)), x5, some (.ref Bs), some (.ref Pr), some (.int T6.D), some (.ref En), x10, x11, x12, x13, x14, x15], ?_, ?_⟩
        · rintro σ' H' ⟨T6, o, R', Pr', En', y5, y10, y11, y12, y13, y14, y15, st, L', rfl⟩
          have r2 := hRun.next st
          have b2 := r2.bound
          refine ⟨_, ?_, kk + 1, T6, R', Pr', En', y5, y10, y11, y12, y13, y14, y15, rfl, r2, L', rfl⟩
          generalize 2 ^ (n + m) = BB at b2 ⊢
          omega
        · have ha : a < n + m + 1 := by have := en.lt; omega
          -- at, out, head
          refine ⟨_, rfl, En, _, _, _, rfl, rfl, .inl (.inl hE), atI_nat (j := 0) rfl, ?_⟩
          refine ⟨_, rfl, _, rfl, _, rfl, R, Bs, m, n + m, a, 710, rw, T5.M, T5.b, rfl, by omega, ha, by decide, by decide, .inl (.inl hR), fun i hi => .inl (.inl (hrw i hi).2), .inl (.inl L.hB), fun i hi j hj => bM i hi j (by omega), I.bounded en.lt en.neg, fun o ho po hb => ?_⟩
          have st : K5.Step m n T5 (K5.piv T5 a o) a o := K5.piv_step en ⟨ho, po, hb⟩
          refine ⟨_, rfl, _, rfl, R, _, _, _, rfl, rfl, .inl (.inl hR), VL_at ho, ?_⟩
          -- rows
          refine ⟨_, rfl, R, _, rfl, .inl (.inl (.inl hR)), _, rfl, by rw [VL_len]; omega, by rw [VL_len]; omega, fun D hD => ?_⟩
          rw [VL_len]
          have nBD : Bs ≠ D := ne_of_none L.hB hD
          refine lc_range (lo := 0) (fun i H6 => Same H5 H6 ∧ ∃ rw' : Nat → Addr, H6 D = some (.lst (VL i fun t => .ref (rw' t))) ∧ ∀ t, t < i → rw' t ≠ D ∧ rw' t ≠ Bs ∧ H6 (rw' t) = some (.lst (VL (n + m + 1) fun j => .int ((K5.piv T5 a o).M t j)))) ⟨same_new hD, fun _ => 0, upd_same, fun t ht => by omega⟩ ?_ ?_
          · rintro i H6 hi ⟨s6, rw', hD6, hrw'⟩
            replace hi : i < m := by omega
            rw [show (0 : Int) + (i : Int) = (i : Int) by omega]
            refine ⟨rfl, yesT ?_⟩
            refine ⟨_, rfl, _, rfl, rfl, _, rfl, ite2 (fun z => ?_) (fun z => ?_)⟩
            · have e : i = o := by have := V.int.inj (of_decide_eq_true z); omega
              subst e
              have nD : rw i ≠ D := ne_of_none (hrw i hi).2 hD
              refine ⟨_, rfl, _, hD6, by rw [VL_len]; exact small1000 (by omega), same_own s6 hD, fset rw' i (rw i), by rw [upd_same, VL_fset], fun t ht => ?_⟩
              by_cases e : t = i
              · subst e
                rw [fset_same, upd_ne nD]
                refine ⟨nD, (hrw t hi).1, ?_⟩
                rw [s6 _ _ (hrw t hi).2]
                exact congrArg (fun l => some (HO.lst l)) (VL_congr fun j _ => congrArg V.int (if_pos rfl).symm)
              · rw [fset_ne e]
                obtain ⟨a1, a2, a3⟩ := hrw' t (by omega)
                exact ⟨a1, a2, by rw [upd_ne a1]; exact a3⟩
            · have e : i ≠ o := fun y => z (decide_eq_true (by rw [y]))
              refine ⟨_, rfl, _, rfl, R, _, _, _, rfl, rfl, .inl (.inl (s6 _ _ hR)), VL_at hi, _, rfl, _, rfl, _, rfl, rw i, rw o, n + m + 1, a, 710, T5.M i, T5.M o, T5.D, rfl, .inl (.inl (s6 _ _ (hrw i hi).2)), .inl (.inl (s6 _ _ (hrw o ho).2)), by omega, ha, I.hD, by decide, by decide, bD, fun k hk => bM i hi k (by omega), fun k hk => bM o ho k (by omega), fun H7 U s7 hU hU7 => ?_⟩
              have hD7 := s7 _ _ hD6
              have nU : ∀ b o, H6 b = some o → U ≠ b := fun b o e z => ne_of_none e hU z.symm
              refine ⟨_, hD7, by rw [VL_len]; exact small1000 (by omega), same_own (s6.trans s7) hD, fset rw' i U, by rw [upd_same, VL_fset], fun t ht => ?_⟩
              by_cases e' : t = i
              · subst e'
                rw [fset_same, upd_ne (nU _ _ hD6)]
                refine ⟨nU _ _ hD6, nU _ _ (s6 _ _ L.hB), ?_⟩
                rw [hU7]
                exact congrArg (fun l => some (HO.lst l)) (VL_congr fun j _ => congrArg V.int (if_neg e).symm)
              · rw [fset_ne e']
                obtain ⟨a1, a2, a3⟩ := hrw' t (by omega)
                exact ⟨a1, a2, by rw [upd_ne a1]; exact s7 _ _ a3⟩
          · rintro H6 ⟨s6, rw', hD6, hrw'⟩
            replace hD6 : H6 D = some (.lst (VL m fun t => .ref (rw' t))) := by rw [show ((m : Nat) : Int).toNat = m by omega] at hD6; exact hD6
            replace hrw' : ∀ t, t < m → rw' t ≠ D ∧ rw' t ≠ Bs ∧ H6 (rw' t) = some (.lst (VL (n + m + 1) fun j => .int ((K5.piv T5 a o).M t j))) := fun t ht => hrw' t (by omega)
            have hHd := s6 _ _ (hrw o ho).2
            -- price
            refine ⟨_, rfl, _, rfl, _, rfl, _, rfl, Pr, rw o, n + m + 1, a, 710, T5.P, T5.M o, T5.D, rfl, .inl (.inl (s6 _ _ L.hP)), .inl (.inl hHd), by omega, ha, I.hD, by decide, by decide, bD, fun k hk => bP k (by omega), fun k hk => bM o ho k (by omega), fun H7 U s7 hU hU7 => ?_⟩
            -- scale
            refine ⟨_, rfl, _, rfl, rw o, _, _, _, rfl, rfl, .inl (.inl (s7 _ _ hHd)), VL_at ha, ?_⟩
            -- basis[out] = at
            have hB7 := s7 _ _ (s6 _ _ L.hB)
            refine ⟨_, rfl, _, rfl, _, rfl, Bs, _, _, o, rfl, rfl, hB7, by rw [VL_len]; exact Evl.ixN_nat ho, ?_⟩
            have nUB : U ≠ Bs := fun z => ne_of_none (s6 _ _ L.hB) hU z.symm
            have s8 : ∀ b ob, b ≠ Bs → H7 b = some ob → (upd H7 Bs (.lst ((VL m fun i => V.int (T5.b i : Int)).set o (.int (a : Int))))) b = some ob := fun b ob nb e => by rw [upd_ne nb]; exact e
            have hB8 : (upd H7 Bs (.lst ((VL m fun i => V.int (T5.b i : Int)).set o (.int (a : Int))))) Bs = some (.lst (VL m fun i => .int ((K5.piv T5 a o).b i : Int))) := by
              rw [upd_same, VL_set]
              refine congrArg (fun l => some (HO.lst l)) (VL_congr fun j _ => ?_)
              show _ = V.int (((if j = o then a else T5.b j : Nat)) : Int)
              split <;> rfl
            have s8H : Same H (upd H7 Bs (.lst ((VL m fun i => V.int (T5.b i : Int)).set o (.int (a : Int))))) := same_own (L.same.trans (s6.trans s7)) L.new
            revert s8 hB8 s8H
            generalize upd H7 Bs (.lst ((VL m fun i => V.int (T5.b i : Int)).set o (.int (a : Int)))) = H8
            intro s8 hB8 s8H
            have hU8 : H8 U = some (.lst (VL (n + m + 1) fun j => .int ((K5.piv T5 a o).P j))) := s8 _ _ nUB hU7
            -- entering
            refine ⟨_, rfl, _, rfl, by omega, by omega, fun En' hEn' => ent_comp (m := m) (T := K5.piv T5 a o) hEn' hn8 hU8 (fun _ => rfl) (fun _ => rfl) (fun _ => rfl) fun es2 H9 s9 hE9 he9 hle9 => ?_⟩
            refine ⟨K5.piv T5 a o, o, D, U, En', _, _, _, _, _, _, _, st, ⟨s8H.trans s9, L.new, L.nF, s9 _ _ (s8 _ _ L.nF (s7 _ _ (s6 _ _ L.hF))), s9 _ _ hB8, nBD.symm, ⟨rw', s9 _ _ (s8 _ _ nBD.symm (s7 _ _ hD6)), fun i hi => ?_⟩, nUB, s9 _ _ hU8, (fun z => ne_of_none hB8 hEn' z.symm), ⟨es2, hE9, he9, hle9⟩⟩, rfl⟩
            obtain ⟨a1, a2, a3⟩ := hrw' i hi
            exact ⟨a2, s9 _ _ (s8 _ _ a2 (s7 _ _ a3))⟩
end
end K5W
set_option Elab.async false
set_option linter.all false
set_option maxRecDepth 100000
set_option maxHeartbeats 4000000
namespace K5W
open PySem PySem.Spec PyProof.Rows L2
section
variable {P : Program} {w : World} {K : PySem.W.Frag} {mg : Str → Option Value} {base : Heap}
/-! ### _law_state: a new list of two ints -/
abbrev sState : Stmt := topS 16
def spState (K : PySem.W.Frag) : Sp := fun vs H Q _ => ∃ (a : Addr) (ns : List Int), vs = [.ref a] ∧ SqL K H a (ns.map V.int) ∧ ∀ (H' : Hp) (S : Addr) (x y : Int), Same H H' → H S = none → H' S = some (.lst [.int x, .int y]) → Q (.ref S) H'
theorem scStt : FnScope ["_law_script", "_law_seed", "_law_total", "_law_cell"] ["_law_script"] (defScope sState) := ⟨rfl, rfl, rfl, by decide +kernel, rfl, by decide +kernel, by decide +kernel⟩
theorem cutV_ints (ns : List Int) (lo hi : Option Int) : ∃ ms : List Int, cutV (ns.map V.int) lo hi = ms.map V.int := by
  refine ⟨(ns.drop (HT.sIx (ns.map V.int).length 0 lo)).take (HT.sIx (ns.map V.int).length (ns.map V.int).length hi - HT.sIx (ns.map V.int).length 0 lo), ?_⟩
  unfold cutV
  rw [List.map_take, List.map_drop]
theorem ok_state {f C : Addr} {fd : FuncData} (F : Fun K "_law_state" "_law_state" sState f fd) (T : Txt K mg C) : FnOk P w K mg base CX0 1 f fd ["_law_script"] (spState K) := by
  refine F.ok scStt (fun vs H Q E h => ?_) (fun cdv A outer s H vs Q E hr h => ?_)
  · obtain ⟨a, ns, rfl, _⟩ := h
    rfl
  · obtain ⟨a, ns, rfl, hS, k⟩ := h
    refine ⟨_,
      pss_cons (ps_set (i := 1) scStt.nd rfl (Or.inl rfl) pe_int) <|
      pss_cons (ps_set (i := 2) scStt.nd rfl (Or.inl rfl) pe_int) <|
      pss_cons (ps_for PassesOwn.never rfl (pi_list (pe_slice sl_list (pv 0) po_none (po_some pe_int))) (pg_name (i := 3) scStt.nd rfl (Or.inl rfl)) <|
        pss_cons (ps_set (i := 1) scStt.nd rfl (Or.inl rfl) (pe_op op_add (pe_op op_mul (pv 1) pe_int) (pe_callB call_abs (by rfl) T.abs (by decide +kernel) (pa_cons (pv 3) pa_nil)))) <|
        pss_one (ps_set (i := 2) scStt.nd rfl (Or.inl rfl) (pe_op op_mod (pe_callTy call_int1 (by rfl) T.int (by decide +kernel) (pa_cons (pe_op op_add (pe_op op_mul (pv 2) pe_int) (pv 3)) pa_nil)) pe_int))) <|
      pss_one (ps_ret (pe_lst (pa_cons (pv 1) (pa_cons (pv 2) pa_nil)))), ?_⟩
    refine ⟨_, rfl, _, rfl, a, _, rfl, hS, fun c hc => ?_⟩
    obtain ⟨ms, em⟩ := cutV_ints ns none (some 63)
    rw [em]
    have hc1 : SqL K (upd H c (.lst (ms.map V.int))) c (ms.map V.int) := .inl (.inl upd_same)
    refine ⟨c, rfl, ⟨_, hc1⟩, for_list (K := K) (a := c) (xs := ms.map V.int) (fun i σ H2 => H2 = upd H c (.lst (ms.map V.int)) ∧ ∃ (x y : Int) (v : Option V), σ = [some (.ref a), some (.int x), some (.int y), v]) ⟨rfl, _, _, _, rfl⟩ (fun i σ H2 _ q => q.1 ▸ hc1) ?_ ?_⟩
    · rintro i z σ H2 hz ⟨rfl, x, y, v, rfl⟩
      obtain ⟨u, rfl⟩ : ∃ u, z = V.int u := by
        rw [List.getElem?_map] at hz
        cases e : ms[i]? with
        | none => rw [e] at hz; cases hz
        | some u => rw [e] at hz; exact ⟨u, (Option.some.inj hz).symm⟩
      refine ⟨_, rfl, _, _, rfl, rfl, .inr ⟨by decide, by decide⟩, _, rfl, _, rfl, _, _, rfl, rfl, ?_⟩
      refine ⟨_, rfl, _, _, rfl, rfl, .inr ⟨by decide, by decide⟩, _, rfl, _, _, rfl, rfl, .inl ⟨_, rfl, _, _, rfl, rfl, (by show (0 : Int) < 2147483647; decide), ?_⟩⟩
      exact ⟨rfl, _, _, _, rfl⟩
    · rintro σ H2 ⟨rfl, x, y, v, rfl⟩
      refine ⟨_, rfl, _, rfl, by show 2 ≤ sizeLine; decide, fun S hS2 => ?_⟩
      have s1 := same_new (o := .lst (ms.map V.int)) hc
      exact k _ S x y (s1.trans (same_new hS2)) (s1.free hS2) upd_same
/-! ### _law_take: a number from 0 on, below m -/
abbrev sTake : Stmt := topS 17
def spTake : Sp := fun vs H Q _ => ∃ (S : Addr) (x y : Int) (m : Int), vs = [.ref S, .int m] ∧ H S = some (.lst [.int x, .int y]) ∧ 0 < m ∧ m < 1000 ∧ ∀ v x' y' : Int, 0 ≤ v → v < m → Q (.int v) (upd H S (.lst [.int x', .int y']))
theorem scTk : FnScope ["_law_state_here", "_law_m", "_law_value"] ["_law_state_here", "_law_m"] (defScope sTake) := ⟨rfl, rfl, rfl, by decide +kernel, rfl, by decide +kernel, by decide +kernel⟩
theorem ok_take {f C : Addr} {fd : FuncData} (F : Fun K "_law_take" "_law_take" sTake f fd) (T : Txt K mg C) : FnOk P w K mg base CX0 1 f fd ["_law_state_here", "_law_m"] spTake := by
  refine F.ok scTk (fun vs H Q E h => ?_) (fun cdv A outer s H vs Q E hr h => ?_)
  · obtain ⟨S, x, y, m, rfl, _⟩ := h
    rfl
  · obtain ⟨S, x, y, m, rfl, hS, m0, m1, k⟩ := h
    have kit : PE (cxOf CX0 P w K mg base ["_law_state_here", "_law_m", "_law_value"] "_law_take" (defScope sTake) f cdv A outer s H E).nox (.Name "_law_state_here" ⟨0, 0, 0, 0⟩) (tVar 0) := pv 0
    refine ⟨_,
      pss_cons (ps_if (pt_cmpR op_gt (pe_ix ix_list (pv 0) pe_int (fun _ _ => rfl)) pe_int (nomark _))
        (pss_cons (ps_set (i := 2) scTk.nd rfl (Or.inl rfl) (pe_op op_mod (pe_callTy call_int1 (by rfl) T.int (by decide +kernel) (pa_cons (pe_ix ix_list (pv 0) pe_int (fun _ _ => rfl)) pa_nil)) (pv 1))) <|
         pss_cons (ps_asg (pe_op op_fdiv (pe_ix ix_list (pv 0) pe_int (fun _ _ => rfl)) (pv 1)) (pg_sub (pv 0) pe_int set_list)) <|
         pss_one (ps_ret (pv 2))) pss_nil) <|
      pss_cons (ps_asg (pe_op op_mod (pe_callTy call_int1 (by rfl) T.int (by decide +kernel) (pa_cons (pe_op op_add (pe_op op_mul (pe_ix ix_list (pv 0) pe_int (fun _ _ => rfl)) pe_int) pe_int) pa_nil)) pe_int) (pg_sub (pv 0) pe_int set_list)) <|
      pss_one (ps_ret (pe_op op_mod (pe_callTy call_int1 (by rfl) T.int (by decide +kernel) (pa_cons (pe_op op_fdiv (pe_ix ix_list (pv 0) pe_int (fun _ _ => rfl)) pe_int) pa_nil)) (pv 1))), ?_⟩
    have b0 : ∀ z : Int, 0 ≤ z % m := fun z => Int.emod_nonneg _ (by omega)
    have b1 : ∀ z : Int, z % m < m := fun z => Int.emod_lt_of_pos _ m0
    refine ⟨_, rfl, S, _, _, _, rfl, rfl, .inl (.inl hS), atI_nat (j := 0) rfl, _, _, rfl, rfl, _, rfl, ite2 (fun z => ?_) (fun z => ?_)⟩
    · refine ⟨_, rfl, S, _, _, _, rfl, rfl, .inl (.inl hS), atI_nat (j := 0) rfl, .inl ⟨_, rfl, _, rfl, _, _, rfl, rfl, m0, ?_⟩⟩
      refine ⟨_, rfl, S, _, _, _, rfl, rfl, .inl (.inl hS), atI_nat (j := 0) rfl, _, rfl, _, _, rfl, rfl, ⟨m0, by omega⟩, _, rfl, S, _, _, 0, rfl, rfl, hS, rfl, ?_⟩
      exact ⟨_, rfl, k _ _ _ (b0 _) (b1 _)⟩
    · refine ⟨_, rfl, S, _, _, _, rfl, rfl, .inl (.inl hS), atI_nat (j := 1) rfl, _, _, rfl, rfl, .inr ⟨by decide, by decide⟩, _, _, rfl, rfl, .inl ⟨_, rfl, _, _, rfl, rfl, (by show (0 : Int) < 2147483647; decide), ?_⟩⟩
      refine ⟨_, rfl, S, _, _, 1, rfl, rfl, hS, rfl, ?_⟩
      refine ⟨_, rfl, S, _, _, _, rfl, rfl, .inl (.inl upd_same), atI_nat (j := 1) rfl, _, _, rfl, rfl, ⟨by decide, by decide⟩, .inl ⟨_, rfl, _, rfl, _, _, rfl, rfl, m0, ?_⟩⟩
      exact k _ _ _ (b0 _) (b1 _)
/-! ### _law_gcd -/
abbrev sGcd : Stmt := topS 18
def spGcd : Sp := fun vs H Q _ => ∃ a b : Int, vs = [.int a, .int b] ∧ Q (.int ((Nat.gcd a.natAbs b.natAbs : Nat) : Int)) H
theorem scG : FnScope ["_law_a", "_law_b"] ["_law_a", "_law_b"] (defScope sGcd) := ⟨rfl, rfl, rfl, by decide +kernel, rfl, by decide +kernel, by decide +kernel⟩
theorem abs_nat (a : Int) : (if a < 0 then -a else a) = (a.natAbs : Int) := by split <;> omega
theorem ok_gcd {f C : Addr} {fd : FuncData} (F : Fun K "_law_gcd" "_law_gcd" sGcd f fd) (T : Txt K mg C) : FnOk P w K mg base CX0 1 f fd ["_law_a", "_law_b"] spGcd := by
  refine F.ok scG (fun vs H Q E h => ?_) (fun cdv A outer s H vs Q E hr h => ?_)
  · obtain ⟨a, b, rfl, _⟩ := h
    rfl
  · obtain ⟨a, b, rfl, k⟩ := h
    refine ⟨_,
      pss_cons (ps_set (i := 0) scG.nd rfl (Or.inl rfl) (pe_callB call_abs (by rfl) T.abs (by decide +kernel) (pa_cons (pv 0) pa_nil))) <|
      pss_cons (ps_set (i := 1) scG.nd rfl (Or.inl rfl) (pe_callB call_abs (by rfl) T.abs (by decide +kernel) (pa_cons (pv 1) pa_nil))) <|
      pss_cons (ps_while PassesOwn.never (pt_cmpR op_ne (pv 1) pe_int (nomark _)) <|
        pss_one (ps_par (i := 0) (j := 1) (by rfl) scG.nd rfl rfl (by decide) rfl rfl (pa_cons (pv 1) (pa_cons (pe_op op_modN (pe_callTy call_int1 (by rfl) T.int (by decide +kernel) (pa_cons (pv 0) pa_nil)) (pv 1)) pa_nil)) (by rfl))) <|
      pss_one (ps_ret (pv 0)), ?_⟩
    refine ⟨_, rfl, _, rfl, _, rfl, _, rfl, ?_⟩
    rw [abs_nat, abs_nat]
    refine ⟨fun μ σ H2 => H2 = H ∧ ∃ x y : Nat, μ = y ∧ Nat.gcd x y = Nat.gcd a.natAbs b.natAbs ∧ σ = [some (.int (x : Int)), some (.int (y : Int))], ⟨_, rfl, a.natAbs, b.natAbs, rfl, rfl, rfl⟩, ?_⟩
    rintro y σ H2 ⟨rfl, x, y', ey, hg, rfl⟩
    subst ey
    refine ⟨_, rfl, rfl, _, rfl, ?_⟩
    by_cases e : (y : Int) = 0
    · rw [decide_eq_true (congrArg V.int e)]
      refine iteF ?_
      have e' : y = 0 := by omega
      subst e'
      rw [Nat.gcd_zero_right] at hg
      subst hg
      exact ⟨_, rfl, k⟩
    · rw [decide_eq_false (fun z => e (V.int.inj z))]
      refine iteT ⟨fun σ' H' => H' = H2 ∧ ∃ x' y' : Nat, y' < y ∧ Nat.gcd x' y' = Nat.gcd a.natAbs b.natAbs ∧ σ' = [some (.int (x' : Int)), some (.int (y' : Int))], ?_, ?_⟩
      · rintro σ' H' ⟨rfl, x', y', hl, hg', rfl⟩
        exact ⟨y', hl, rfl, x', y', rfl, hg', rfl⟩
      · refine ⟨_, rfl, _, rfl, .inl ⟨_, rfl, _, rfl, _, _, rfl, rfl, e, ?_⟩⟩
        have yp : 0 < y := by omega
        refine ⟨_, _, rfl, rfl, y, x % y, Nat.mod_lt _ yp, ?_, ?_⟩
        · rw [← hg, Nat.gcd_comm x y, Nat.gcd_rec y x, Nat.gcd_comm]
        · have em : (x : Int).fmod (y : Int) = ((x % y : Nat) : Int) := by
            rw [Int.fmod_eq_emod_of_nonneg _ (by omega)]
            rfl
          rw [← em]
          rfl
/-! ### _law_frac -/
abbrev sFrac : Stmt := topS 19
def spFrac : Sp := fun vs H Q _ => ∃ n d : Int, vs = [.int n, .int d] ∧ d ≠ 0 ∧ Bd 9000 d ∧ ∀ (H' : Hp) (p : Addr), Same H H' → H p = none → PairAt H' p (Rat.divInt n d) → Q (.ref p) H'
theorem scFr : FnScope ["_law_n", "_law_d", "_law_g"] ["_law_n", "_law_d"] (defScope sFrac) := ⟨rfl, rfl, rfl, by decide +kernel, rfl, by decide +kernel, by decide +kernel⟩
theorem ok_frac {f C fG : Addr} {fd fdG : FuncData} (F : Fun K "_law_frac" "_law_frac" sFrac f fd) (T : Txt K mg C) (GG : FnOk P w K mg base CX0 1 fG fdG ["_law_a", "_law_b"] spGcd) (bG : Binds K fdG ["_law_a", "_law_b"] []) (kG : PySem.W.keepIn K (.ref fG) = true) (gG : mg "_law_gcd" = some (.ref fG)) :
    FnOk P w K mg base CX0 2 f fd ["_law_n", "_law_d"] spFrac := by
  refine F.ok scFr (fun vs H Q E h => ?_) (fun cdv A outer s H vs Q E hr h => ?_)
  · obtain ⟨n, d, rfl, _⟩ := h
    rfl
  · obtain ⟨n, d, rfl, h0, hb, k⟩ := h
    refine ⟨_,
      pss_cons (ps_if (pt_cmpR op_lt (pv 1) pe_int (nomark _)) (pss_one (ps_par (i := 0) (j := 1) (by rfl) scFr.nd rfl rfl (by decide) rfl rfl (pa_cons (pe_un un_neg (pv 0)) (pa_cons (pe_un un_neg (pv 1)) pa_nil)) (by rfl))) pss_nil) <|
      pss_cons (ps_set (i := 2) scFr.nd rfl (Or.inl rfl) (pe_call GG hr (by rfl) gG kG bG .nil pass0 (pa_cons (pv 0) (pa_cons (pv 1) pa_nil)))) <|
      pss_one (ps_ret (pe_tup (pa_cons (pe_op op_fdivW (pv 0) (pv 2)) (pa_cons (pe_op op_fdivW (pv 1) (pv 2)) pa_nil)))), ?_⟩
    refine ⟨_, rfl, _, _, rfl, rfl, _, rfl, ?_⟩
    obtain ⟨g0, g1⟩ := low_gcd (n := n) h0
    have gd : CDivW 0 ((Nat.gcd (sgnN n d).natAbs (sgnD d).natAbs : Nat) : Int) := ⟨g0, (Bd.cdiv (i := 0) g0 (Nat.lt_of_le_of_lt g1 hb) (by decide) (Nat.le_refl _)).2⟩
    have ln := low_num (n := n) h0
    have ld := low_den (n := n) h0
    by_cases hd : d < 0
    · rw [decide_eq_true hd]
      have e1 : sgnN n d = -n := if_pos hd
      have e2 : sgnD d = -d := if_pos hd
      rw [e1, e2] at gd ln
      rw [e1, e2] at ld
      refine iteT ⟨_, rfl, _, rfl, _, rfl, _, rfl, _, _, rfl, ?_⟩
      refine ⟨_, rfl, _, rfl, _, _, rfl, ?_⟩
      refine ⟨_, rfl, _, rfl, _, _, rfl, rfl, gd, _, rfl, _, rfl, _, _, rfl, rfl, gd, by show 2 ≤ sizeLine; decide, fun p hp => ?_⟩
      dsimp only
      rw [ln, ld]
      exact k _ p (same_new hp) hp upd_same
    · rw [decide_eq_false hd]
      have e1 : sgnN n d = n := if_neg hd
      have e2 : sgnD d = d := if_neg hd
      rw [e1, e2] at gd ln
      rw [e1, e2] at ld
      refine iteF ?_
      refine ⟨_, rfl, _, rfl, _, _, rfl, ?_⟩
      refine ⟨_, rfl, _, rfl, _, _, rfl, rfl, gd, _, rfl, _, rfl, _, _, rfl, rfl, gd, by show 2 ≤ sizeLine; decide, fun p hp => ?_⟩
      dsimp only
      rw [ln, ld]
      exact k _ p (same_new hp) hp upd_same
end
end K5W
set_option Elab.async false
set_option linter.all false
set_option maxRecDepth 100000
set_option maxHeartbeats 4000000
namespace K5W
open PySem PySem.Spec PyProof.Rows L2
/-! ### all but one object is as it was -/
def SameX (S : Addr) (H H' : Hp) : Prop := ∀ b o, b ≠ S → H b = some o → H' b = some o
theorem Same.x {S : Addr} {H H' : Hp} (s : Same H H') : SameX S H H' := fun b o _ e => s b o e
theorem SameX.trans {S : Addr} {H H1 H2 : Hp} (a : SameX S H H1) (b : SameX S H1 H2) : SameX S H H2 := fun c o n e => b c o n (a c o n e)
theorem SameX.own {S : Addr} {H H' : Hp} {o : HO} (a : SameX S H H') : SameX S H (upd H' S o) := fun c u n e => by
  rw [upd_ne n]
  exact a c u n e
theorem SameX.ownD {S D : Addr} {H H' : Hp} {o : HO} (a : SameX S H H') (h : H D = none) : SameX S H (upd H' D o) := fun c u n e => by
  rw [upd_ne (ne_of_none e h)]
  exact a c u n e
/-- a pair stands beside a list -/
theorem PairAt.ne {H : Hp} {p D : Addr} {q : Rat} {xs : List V} (h : PairAt H p q) (hD : H D = some (.lst xs)) : p ≠ D := ne_of h hD (by intro z; cases z)
theorem PairAt.same {H H' : Hp} {p : Addr} {q : Rat} (h : PairAt H p q) (s : Same H H') : PairAt H' p q := s _ _ h
theorem PairAt.sameX {S : Addr} {H H' : Hp} {p : Addr} {q : Rat} {xs : List V} (h : PairAt H p q) (hS : H S = some (.lst xs)) (s : SameX S H H') : PairAt H' p q := s _ _ (h.ne hS) h
theorem PairAt.own {H : Hp} {p D : Addr} {q : Rat} {xs : List V} {o : HO} (h : PairAt H p q) (hD : H D = some (.lst xs)) : PairAt (upd H D o) p q := by
  unfold PairAt
  rw [upd_ne (h.ne hD)]
  exact h
/-- a list of pairs -/
def PRow (H : Hp) (p : Addr) (m : Nat) (q : Nat → Rat) : Prop := ∃ a : Nat → Addr, H p = some (.lst (VL m fun i => .ref (a i))) ∧ ∀ i, i < m → PairAt H (a i) (q i)
theorem PRow.same {H H' : Hp} {p : Addr} {m : Nat} {q : Nat → Rat} (h : PRow H p m q) (s : Same H H') : PRow H' p m q := by
  obtain ⟨a, e, h⟩ := h
  exact ⟨a, s _ _ e, fun i hi => (h i hi).same s⟩
theorem PRow.sameX {S : Addr} {H H' : Hp} {p : Addr} {m : Nat} {q : Nat → Rat} {xs : List V} (h : PRow H p m q) (n : p ≠ S) (hS : H S = some (.lst xs)) (s : SameX S H H') : PRow H' p m q := by
  obtain ⟨a, e, h⟩ := h
  exact ⟨a, s _ _ n e, fun i hi => (h i hi).sameX hS s⟩
theorem PRow.congr {H : Hp} {p : Addr} {m : Nat} {q q' : Nat → Rat} (h : PRow H p m q) (e : ∀ i, i < m → q i = q' i) : PRow H p m q' := by
  obtain ⟨a, e1, h⟩ := h
  exact ⟨a, e1, fun i hi => e i hi ▸ h i hi⟩
/-- the drawn numbers: within 4, denominators up to 4 -/
def Sml (q : Rat) : Prop := q.num.natAbs ≤ 4 ∧ q.den ≤ 4
theorem Sml.sm {q : Rat} (h : Sml q) : Sm 3 q := ⟨by unfold Bd; have := h.1; omega, by unfold Bd; rw [Int.natAbs_natCast]; have := h.2; omega⟩
theorem Sml.neg {q : Rat} (h : Sml q) : Sml (-q) := ⟨by rw [Rat.neg_num, Int.natAbs_neg]; exact h.1, by rw [Rat.neg_den]; exact h.2⟩
section
variable {P : Program} {w : World} {K : PySem.W.Frag} {mg : Str → Option Value} {base : Heap}
/-! ### _law_plus, _law_times, _law_is_above -/
abbrev sPlus : Stmt := topS 20
def spPlus : Sp := fun vs H Q _ => ∃ (a b : Addr) (x y : Rat) (k l : Nat), vs = [.ref a, .ref b] ∧ PairAt H a x ∧ PairAt H b y ∧ Sm k x ∧ Sm l y ∧ 0 < k ∧ 0 < l ∧ k + l ≤ 9000 ∧ ∀ (H' : Hp) (p : Addr), Same H H' → H p = none → PairAt H' p (x + y) → Q (.ref p) H'
theorem scPl : FnScope ["_law_a", "_law_b"] ["_law_a", "_law_b"] (defScope sPlus) := ⟨rfl, rfl, rfl, by decide +kernel, rfl, by decide +kernel, by decide +kernel⟩
theorem ok_plus {f C fF : Addr} {fd fdF : FuncData} (F : Fun K "_law_plus" "_law_plus" sPlus f fd) (GF : FnOk P w K mg base CX0 2 fF fdF ["_law_n", "_law_d"] spFrac) (bF : Binds K fdF ["_law_n", "_law_d"] []) (kF : PySem.W.keepIn K (.ref fF) = true) (gF : mg "_law_frac" = some (.ref fF)) :
    FnOk P w K mg base CX0 3 f fd ["_law_a", "_law_b"] spPlus := by
  refine F.ok scPl (fun vs H Q E h => ?_) (fun cdv A outer s H vs Q E hr h => ?_)
  · obtain ⟨a, b, x, y, k, l, rfl, _⟩ := h
    rfl
  · obtain ⟨a, b, x, y, k, l, rfl, ha, hb, sx, sy, k0, l0, kl, q⟩ := h
    refine ⟨_, pss_one (ps_ret (pe_call GF hr (by rfl) gF kF bF .nil pass0 (pa_cons
      (pe_op op_add (pe_op op_mulW (pe_ix ix_tup (pv 0) pe_int (fun _ _ => rfl)) (pe_ix ix_tup (pv 1) pe_int (fun _ _ => rfl))) (pe_op op_mulW (pe_ix ix_tup (pv 1) pe_int (fun _ _ => rfl)) (pe_ix ix_tup (pv 0) pe_int (fun _ _ => rfl))))
      (pa_cons (pe_op op_mulW (pe_ix ix_tup (pv 0) pe_int (fun _ _ => rfl)) (pe_ix ix_tup (pv 1) pe_int (fun _ _ => rfl))) pa_nil)))), ?_⟩
    have ta : SqT K H a [.int x.num, .int (x.den : Int)] := .inl (.inl ha)
    have tb : SqT K H b [.int y.num, .int (y.den : Int)] := .inl (.inl hb)
    refine ⟨_, rfl, a, _, _, _, rfl, rfl, ta, atI_nat (j := 0) rfl, _, rfl, b, _, _, _, rfl, rfl, tb, atI_nat (j := 1) rfl, _, _, rfl, rfl, sx.n.cmul sy.d k0 l0 (by omega), ?_⟩
    refine ⟨_, rfl, b, _, _, _, rfl, rfl, tb, atI_nat (j := 0) rfl, _, rfl, a, _, _, _, rfl, rfl, ta, atI_nat (j := 1) rfl, _, _, rfl, rfl, sy.n.cmul sx.d l0 k0 (by omega), _, _, rfl, rfl, ?_⟩
    refine ⟨_, rfl, a, _, _, _, rfl, rfl, ta, atI_nat (j := 1) rfl, _, rfl, b, _, _, _, rfl, rfl, tb, atI_nat (j := 1) rfl, _, _, rfl, rfl, sx.d.cmul sy.d k0 l0 (by omega), ?_⟩
    refine ⟨_, _, rfl, mul_ne x y, (sx.d.mul sy.d).mono kl, fun H' p s hp e => q H' p s hp ?_⟩
    rw [add_raw] at e
    exact e
abbrev sTimes : Stmt := topS 21
def spTimes : Sp := fun vs H Q _ => ∃ (a b : Addr) (x y : Rat) (k l : Nat), vs = [.ref a, .ref b] ∧ PairAt H a x ∧ PairAt H b y ∧ Sm k x ∧ Sm l y ∧ 0 < k ∧ 0 < l ∧ k + l ≤ 9000 ∧ ∀ (H' : Hp) (p : Addr), Same H H' → H p = none → PairAt H' p (x * y) → Q (.ref p) H'
theorem scTi : FnScope ["_law_a", "_law_b"] ["_law_a", "_law_b"] (defScope sTimes) := ⟨rfl, rfl, rfl, by decide +kernel, rfl, by decide +kernel, by decide +kernel⟩
theorem ok_times {f C fF : Addr} {fd fdF : FuncData} (F : Fun K "_law_times" "_law_times" sTimes f fd) (GF : FnOk P w K mg base CX0 2 fF fdF ["_law_n", "_law_d"] spFrac) (bF : Binds K fdF ["_law_n", "_law_d"] []) (kF : PySem.W.keepIn K (.ref fF) = true) (gF : mg "_law_frac" = some (.ref fF)) :
    FnOk P w K mg base CX0 3 f fd ["_law_a", "_law_b"] spTimes := by
  refine F.ok scTi (fun vs H Q E h => ?_) (fun cdv A outer s H vs Q E hr h => ?_)
  · obtain ⟨a, b, x, y, k, l, rfl, _⟩ := h
    rfl
  · obtain ⟨a, b, x, y, k, l, rfl, ha, hb, sx, sy, k0, l0, kl, q⟩ := h
    refine ⟨_, pss_one (ps_ret (pe_call GF hr (by rfl) gF kF bF .nil pass0 (pa_cons
      (pe_op op_mulW (pe_ix ix_tup (pv 0) pe_int (fun _ _ => rfl)) (pe_ix ix_tup (pv 1) pe_int (fun _ _ => rfl)))
      (pa_cons (pe_op op_mulW (pe_ix ix_tup (pv 0) pe_int (fun _ _ => rfl)) (pe_ix ix_tup (pv 1) pe_int (fun _ _ => rfl))) pa_nil)))), ?_⟩
    have ta : SqT K H a [.int x.num, .int (x.den : Int)] := .inl (.inl ha)
    have tb : SqT K H b [.int y.num, .int (y.den : Int)] := .inl (.inl hb)
    refine ⟨_, rfl, a, _, _, _, rfl, rfl, ta, atI_nat (j := 0) rfl, _, rfl, b, _, _, _, rfl, rfl, tb, atI_nat (j := 0) rfl, _, _, rfl, rfl, sx.n.cmul sy.n k0 l0 (by omega), ?_⟩
    refine ⟨_, rfl, a, _, _, _, rfl, rfl, ta, atI_nat (j := 1) rfl, _, rfl, b, _, _, _, rfl, rfl, tb, atI_nat (j := 1) rfl, _, _, rfl, rfl, sx.d.cmul sy.d k0 l0 (by omega), ?_⟩
    refine ⟨_, _, rfl, mul_ne x y, (sx.d.mul sy.d).mono kl, fun H' p s hp e => q H' p s hp ?_⟩
    rw [mul_raw] at e
    exact e
abbrev sAbove : Stmt := topS 29
def spAbove : Sp := fun vs H Q _ => ∃ (a : Addr) (x : Rat), vs = [.ref a] ∧ PairAt H a x ∧ Q (.bl (decide (0 < x))) H
theorem scAb : FnScope ["_law_x"] ["_law_x"] (defScope sAbove) := ⟨rfl, rfl, rfl, by decide +kernel, rfl, by decide +kernel, by decide +kernel⟩
theorem num_pos {x : Rat} : 0 < x.num ↔ 0 < x := by
  have h1 := Rat.num_nonneg (q := x)
  have h2 := Rat.num_eq_zero (q := x)
  rw [Rat.lt_iff_le_and_ne]
  constructor
  · intro h
    exact ⟨h1.mp (by omega), fun z => by have := h2.mpr z.symm; omega⟩
  · rintro ⟨a, b⟩
    have := h1.mpr a
    have : x.num ≠ 0 := fun z => b (h2.mp z).symm
    omega
theorem num_neg {x : Rat} : x.num < 0 ↔ x < 0 := by
  have h1 := Rat.num_nonneg (q := x)
  rw [← Rat.not_le, ← h1]
  omega
theorem ok_above {f C : Addr} {fd : FuncData} (F : Fun K "_law_is_above" "_law_is_above" sAbove f fd) : FnOk P w K mg base CX0 1 f fd ["_law_x"] spAbove := by
  refine F.ok scAb (fun vs H Q E h => ?_) (fun cdv A outer s H vs Q E hr h => ?_)
  · obtain ⟨a, x, rfl, _⟩ := h
    rfl
  · obtain ⟨a, x, rfl, ha, q⟩ := h
    refine ⟨_, pss_one (ps_ret (pe_cmpR op_gt (pe_ix ix_tup (pv 0) pe_int (fun _ _ => rfl)) pe_int (nomark _))), ?_⟩
    refine ⟨_, rfl, a, _, _, _, rfl, rfl, .inl (.inl ha), atI_nat (j := 0) rfl, _, _, rfl, rfl, ?_⟩
    have e : decide (0 < x.num) = decide (0 < x) := decide_eq_decide.mpr num_pos
    dsimp only
    rw [e]
    exact q
/-! ### _law_small, _law_row -/
abbrev sSmall : Stmt := topS 25
def spSmall : Sp := fun vs H Q _ => ∃ (S : Addr) (x y : Int), vs = [.ref S] ∧ H S = some (.lst [.int x, .int y]) ∧ ∀ (H' : Hp) (p : Addr) (q : Rat) (x' y' : Int), SameX S H H' → H' S = some (.lst [.int x', .int y']) → H p = none → PairAt H' p q → Sml q → Q (.ref p) H'
theorem scSm : FnScope ["_law_state_here", "_law_n"] ["_law_state_here"] (defScope sSmall) := ⟨rfl, rfl, rfl, by decide +kernel, rfl, by decide +kernel, by decide +kernel⟩
theorem ok_small {f C fT fF : Addr} {fd fdT fdF : FuncData} (F : Fun K "_law_small" "_law_small" sSmall f fd) (GT : FnOk P w K mg base CX0 1 fT fdT ["_law_state_here", "_law_m"] spTake) (bT : Binds K fdT ["_law_state_here", "_law_m"] []) (kT : PySem.W.keepIn K (.ref fT) = true) (gT : mg "_law_take" = some (.ref fT))
    (GF : FnOk P w K mg base CX0 2 fF fdF ["_law_n", "_law_d"] spFrac) (bF : Binds K fdF ["_law_n", "_law_d"] []) (kF : PySem.W.keepIn K (.ref fF) = true) (gF : mg "_law_frac" = some (.ref fF)) : FnOk P w K mg base CX0 3 f fd ["_law_state_here"] spSmall := by
  refine F.ok scSm (fun vs H Q E h => ?_) (fun cdv A outer s H vs Q E hr h => ?_)
  · obtain ⟨S, x, y, rfl, _⟩ := h
    rfl
  · obtain ⟨S, x, y, rfl, hS, k⟩ := h
    have hr1 : Room 1 (A.deeper (envOfC "_law_small" (defScope sSmall) s.heap.objs.size f cdv)) := hr.mono (by decide)
    refine ⟨_,
      pss_cons (ps_set (i := 1) scSm.nd rfl (Or.inl rfl) (pe_op op_sub (pe_call GT hr1 (by rfl) gT kT bT .nil pass0 (pa_cons (pv 0) (pa_cons pe_int pa_nil))) pe_int)) <|
      pss_cons (ps_if (pt_cmpR op_eq (pe_call GT hr1 (by rfl) gT kT bT .nil pass0 (pa_cons (pv 0) (pa_cons pe_int pa_nil))) pe_int (nomark _))
        (pss_one (ps_ret (pe_call GF hr (by rfl) gF kF bF .nil pass0 (pa_cons (pv 1) (pa_cons (pe_op op_add pe_int (pe_call GT hr1 (by rfl) gT kT bT .nil pass0 (pa_cons (pv 0) (pa_cons pe_int pa_nil)))) pa_nil))))) pss_nil) <|
      pss_one (ps_ret (pe_tup (pa_cons (pv 1) (pa_cons pe_int pa_nil)))), ?_⟩
    refine ⟨_, rfl, S, x, y, 9, rfl, hS, by decide, by decide, fun v x1 y1 v0 v1 => ⟨_, _, rfl, rfl, ?_⟩⟩
    refine ⟨_, rfl, S, x1, y1, 3, rfl, upd_same, by decide, by decide, fun u x2 y2 u0 u1 => ⟨rfl, _, rfl, ite2 (fun z => ?_) (fun z => ?_)⟩⟩
    · refine ⟨_, rfl, _, rfl, S, x2, y2, 4, rfl, upd_same, by decide, by decide, fun t x3 y3 t0 t1 => ⟨_, _, rfl, rfl, ?_⟩⟩
      refine ⟨v - 4, 1 + t, rfl, by omega, ?_, fun H' p s' hp hq => ?_⟩
      · have : Bd 3 (1 + t) := by unfold Bd; omega
        exact this.mono (by decide)
      · have e : upd (upd (upd H S (.lst [.int x1, .int y1])) S (.lst [.int x2, .int y2])) S (.lst [.int x3, .int y3]) = upd H S (.lst [.int x3, .int y3]) := by rw [upd_upd, upd_upd]
        rw [e] at s' hp
        have nS : p ≠ S := fun z => by
          rw [z, upd_same] at hp
          cases hp
        rw [upd_ne nS] at hp
        refine k H' p _ x3 y3 (fun b o nb eb => s' b o (by rw [upd_ne nb]; exact eb)) (s' _ _ upd_same) hp hq ⟨?_, ?_⟩
        · have := divInt_num (n := v - 4) (d := 1 + t) (by omega)
          omega
        · have := divInt_den (n := v - 4) (d := 1 + t) (by omega)
          omega
    · refine ⟨_, rfl, by show 2 ≤ sizeLine; decide, fun p hp => ?_⟩
      have e : upd (upd H S (.lst [.int x1, .int y1])) S (.lst [.int x2, .int y2]) = upd H S (.lst [.int x2, .int y2]) := upd_upd
      rw [e] at hp ⊢
      have nS : p ≠ S := fun z => by
        rw [z, upd_same] at hp
        cases hp
      have hp0 : H p = none := by rw [upd_ne nS] at hp; exact hp
      refine k _ p ((v - 4 : Int) : Rat) x2 y2 (fun b o nb eb => ?_) (by rw [upd_ne nS.symm]; exact upd_same) hp0 upd_same ⟨?_, ?_⟩
      · rw [upd_ne (ne_of_none eb hp0), upd_ne nb]
        exact eb
      · show (v - 4 : Int).natAbs ≤ 4
        omega
      · show 1 ≤ 4
        decide
abbrev sRow : Stmt := topS 26
def spRow : Sp := fun vs H Q _ => ∃ (S : Addr) (x y : Int) (m : Nat), vs = [.ref S, .int (m : Int)] ∧ m ≤ 8 ∧ H S = some (.lst [.int x, .int y]) ∧ ∀ (H' : Hp) (p : Addr) (q : Nat → Rat) (x' y' : Int), SameX S H H' → H' S = some (.lst [.int x', .int y']) → H p = none → PRow H' p m q → (∀ i, i < m → Sml (q i)) → Q (.ref p) H'
theorem scRw : FnScope ["_law_state_here", "_law_width", "_law_k"] ["_law_state_here", "_law_width"] (defScope sRow) := ⟨rfl, rfl, rfl, by decide +kernel, rfl, by decide +kernel, by decide +kernel⟩
/-- a function of the place with one more value -/
def rset (f : Nat → Rat) (i : Nat) (v : Rat) : Nat → Rat := fun t => if t = i then v else f t
theorem rset_same {f : Nat → Rat} {i : Nat} {v : Rat} : rset f i v i = v := if_pos rfl
theorem rset_ne {f : Nat → Rat} {i t : Nat} {v : Rat} (h : t ≠ i) : rset f i v t = f t := if_neg h
theorem ok_row {f C fS : Addr} {fd fdS : FuncData} (F : Fun K "_law_row" "_law_row" sRow f fd) (T : Txt K mg C) (GS : FnOk P w K mg base CX0 3 fS fdS ["_law_state_here"] spSmall) (bS : Binds K fdS ["_law_state_here"] []) (kS : PySem.W.keepIn K (.ref fS) = true) (gS : mg "_law_small" = some (.ref fS)) :
    FnOk P w K mg base CX0 4 f fd ["_law_state_here", "_law_width"] spRow := by
  refine F.ok scRw (fun vs H Q E h => ?_) (fun cdv A outer s H vs Q E hr h => ?_)
  · obtain ⟨S, x, y, m, rfl, _⟩ := h
    rfl
  · obtain ⟨S, x, y, m, rfl, hm, hS, k⟩ := h
    refine ⟨_, pss_one (ps_ret (pe_lc (own := [("_law_k", 2)]) (g := gName 2) (tt := tYes) rfl scRw.nd (pi_range1 (by rfl) T.range (pa_cons (pv 1) pa_nil)) (blkOk_by (N := ["_law_state_here", "_law_width", "_law_k"]) (sc := defScope sRow) (by decide +kernel)) (fun _ _ _ _ _ => pg_name (i := 2) scRw.nd rfl (Or.inl rfl)) (fun _ _ _ _ _ => pts_nil)
      (fun _ _ _ _ _ => pe_call (E := E0) GS hr (by rfl) gS kS bS .nil pass0 (pa_cons (pv 0) pa_nil)))), ?_⟩
    refine ⟨_, rfl, _, rfl, by omega, by omega, fun D hD => ?_⟩
    have nDS : D ≠ S := fun z => by rw [z, hS] at hD; cases hD
    refine lc_range (lo := 0) (fun i H2 => SameX S H H2 ∧ (∃ x' y', H2 S = some (.lst [.int x', .int y'])) ∧ ∃ (a : Nat → Addr) (q : Nat → Rat), H2 D = some (.lst (VL i fun t => .ref (a t))) ∧ ∀ t, t < i → PairAt H2 (a t) (q t) ∧ Sml (q t))
      ⟨Same.x (same_new hD), ⟨x, y, by rw [upd_ne nDS.symm]; exact hS⟩, fun _ => 0, fun _ => 0, upd_same, fun t ht => by omega⟩ ?_ ?_
    · rintro i H2 hi ⟨s2, ⟨x2, y2, hS2⟩, a, q, hD2, ha⟩
      refine ⟨rfl, yesT ?_⟩
      refine ⟨_, rfl, S, x2, y2, rfl, hS2, fun H3 p q' x3 y3 s3 hS3 hp hq hs => ?_⟩
      have hD3 := s3 _ _ nDS hD2
      refine ⟨_, hD3, by rw [VL_len]; exact small1000 (by omega), (s2.trans s3).ownD hD, ⟨x3, y3, by rw [upd_ne nDS.symm]; exact hS3⟩, fset a i p, rset q i q', by rw [upd_same, VL_fset], fun t ht => ?_⟩
      by_cases e : t = i
      · subst e
        rw [fset_same, rset_same]
        exact ⟨hq.own hD3, hs⟩
      · rw [fset_ne e, rset_ne e]
        obtain ⟨h1, h2⟩ := ha t (by omega)
        exact ⟨(h1.sameX hS2 s3).own hD3, h2⟩
    · rintro H2 ⟨s2, ⟨x2, y2, hS2⟩, a, q, hD2, ha⟩
      have em : ((m : Nat) : Int).toNat = m := by omega
      rw [em] at hD2 ha
      exact k H2 D q x2 y2 s2 hS2 hD ⟨a, hD2, fun i hi => (ha i hi).1⟩ fun i hi => (ha i hi).2
end
end K5W
set_option Elab.async false
set_option linter.all false
set_option maxRecDepth 100000
set_option maxHeartbeats 4000000
namespace K5W
open PySem PySem.Spec PyProof.Rows L2
/-- isinstance of a Ratio -/
structure IsR (K : PySem.W.Frag) (C : Addr) : Prop where
  a : PySem.W.findIn K (.ref C) "__class__" = some (some (.builtin "object.__class__"))
  b : PySem.W.specialIn K (.builtin "object.__class__") "__get__" = some (some (.builtin "getset_descriptor.__get__"))
  c : PySem.W.takesIn K (.builtin "object.__class__") = some true
  d : PySem.W.mroIn K C (.type "object") = some true
theorem kit_self {K : PySem.W.Frag} {C : Addr} : PySem.W.kitOne K (.ref C) (.ref C) = some true := by
  unfold PySem.W.kitOne
  simp
theorem Sm0 : Sm 1 (0 : Rat) := ⟨by show (0 : Int).natAbs < 2 ^ 1; decide, by show (1 : Int).natAbs < 2 ^ 1; decide⟩
/-- a list of rows of pairs -/
def PCols (H : Hp) (c : Addr) (n m : Nat) (q : Nat → Nat → Rat) : Prop := ∃ p : Nat → Addr, H c = some (.lst (VL n fun j => .ref (p j))) ∧ ∀ j, j < n → PRow H (p j) m (q j)
theorem PCols.same {H H' : Hp} {c : Addr} {n m : Nat} {q : Nat → Nat → Rat} (h : PCols H c n m q) (s : Same H H') : PCols H' c n m q := by
  obtain ⟨p, e, h⟩ := h
  exact ⟨p, s _ _ e, fun j hj => (h j hj).same s⟩
section
variable {P : Program} {w : World} {K : PySem.W.Frag} {mg : Str → Option Value} {base : Heap}
/-! ### _law_ratio_row -/
abbrev sRr : Stmt := topS 22
def spRr (C : Addr) : Sp := fun vs H Q _ => ∃ (r : Addr) (m : Nat) (q : Nat → Rat), vs = [.ref r] ∧ PRow H r m q ∧ m ≤ 8 ∧ (∀ i, i < m → Bd 9000 ((q i).den : Int)) ∧
  ∀ (H' : Hp) (t : Addr) (b : Nat → Addr), Same H H' → H' t = some (.tup (VL m fun i => .ref (b i))) → (∀ i, i < m → RatAt C H' (b i) (q i)) → Q (.ref t) H'
theorem scRr : FnScope ["_law_row_here", "_law_a"] ["_law_row_here"] (defScope sRr) := ⟨rfl, rfl, rfl, by decide +kernel, rfl, by decide +kernel, by decide +kernel⟩
theorem ok_rr {f C fI : Addr} {fd fdI : FuncData} (F : Fun K "_law_ratio_row" "_law_ratio_row" sRr f fd) (T : Txt K mg C) (M : Mk K C fI) (GI : FnOk P w K mg base CX0 1 fI fdI ["self", "n", "d"] (spInit C)) (bI : Binds K fdI ["self", "n", "d"] []) :
    FnOk P w K mg base CX0 3 f fd ["_law_row_here"] (spRr C) := by
  refine F.ok scRr (fun vs H Q E h => ?_) (fun cdv A outer s H vs Q E hr h => ?_)
  · obtain ⟨r, m, q, rfl, _⟩ := h
    rfl
  · obtain ⟨r, m, q, rfl, ⟨a, hR, ha⟩, hm, hb, k⟩ := h
    refine ⟨_, pss_one (ps_ret (pe_callTy call_tuple_of (by rfl) T.tuple (by decide +kernel) (pa_cons
      (pe_lc (own := [("_law_a", 1)]) (g := gName 1) (tt := tYes) rfl scRr.nd (pi_list (pv 0)) (blkOk_by (N := ["_law_row_here", "_law_a"]) (sc := defScope sRr) (by decide +kernel)) (fun _ _ _ _ _ => pg_name (i := 1) scRr.nd rfl (Or.inl rfl)) (fun _ _ _ _ _ => pts_nil)
        (fun _ _ _ _ _ => pe_make (E := E0) M GI hr (by rfl) T.mgC bI .nil pass0 (pa_cons (pe_ix (r := rIxT K) ix_tup (pv 1) pe_int (fun _ _ => rfl)) (pa_cons (pe_ix (r := rIxT K) ix_tup (pv 1) pe_int (fun _ _ => rfl)) pa_nil)))) pa_nil))), ?_⟩
    refine ⟨_, rfl, r, rfl, ⟨_, .inl (.inl hR)⟩, fun D hD => ?_⟩
    refine lc_list (K := K) (a := r) (xs := VL m fun i => .ref (a i)) (fun i H2 => Same H H2 ∧ ∃ b : Nat → Addr, H2 D = some (.lst (VL i fun t => .ref (b t))) ∧ ∀ t, t < i → RatAt C H2 (b t) (q t)) ⟨same_new hD, fun _ => 0, upd_same, fun t ht => by omega⟩ (fun i H2 _ z => .inl (.inl (z.1 _ _ hR))) ?_ ?_
    · rintro i x H2 hx ⟨s2, b, hD2, hb2⟩
      obtain ⟨hi, rfl⟩ := VL_inv hx
      have h1 : SqT K H2 (a i) [.int (q i).num, .int ((q i).den : Int)] := .inl (.inl (s2 _ _ (ha i hi)))
      refine ⟨rfl, yesT ?_⟩
      refine ⟨_, rfl, a i, _, _, _, rfl, rfl, h1, atI_nat (j := 0) rfl, _, rfl, a i, _, _, _, rfl, rfl, h1, atI_nat (j := 1) rfl, fun x dx hx hdx ne => made hx hdx (den_ne (q i)) (hb i hi) fun H3 s3 r3 => ?_⟩
      rw [Rat.num_divInt_den] at r3
      have hD3 := s3 _ _ hD2
      refine ⟨_, hD3, by rw [VL_len]; exact small1000 (by omega), same_own (s2.trans s3) hD, fset b i x, by rw [upd_same, VL_fset], fun t ht => ?_⟩
      by_cases e : t = i
      · subst e
        rw [fset_same]
        exact r3.own hD3
      · rw [fset_ne e]
        exact ((hb2 t (by omega)).same s3).own hD3
    · rintro H2 ⟨s2, b, hD2, hb2⟩
      rw [VL_len] at hD2 hb2
      refine ⟨D, _, rfl, .inl ⟨.inl (.inl hD2), fun l hl => ?_⟩⟩
      exact k _ l b (s2.trans (same_new hl)) upd_same fun i hi => (hb2 i hi).same (same_new hl)
/-! ### _law_pairs_of -/
abbrev sPo : Stmt := topS 23
def spPo (C : Addr) (K : PySem.W.Frag) : Sp := fun vs H Q _ => ∃ (t : Addr) (m : Nat) (b : Nat → Addr) (q : Nat → Rat), vs = [.ref t] ∧ SqT K H t (VL m fun i => .ref (b i)) ∧ (∀ i, i < m → RatAt C H (b i) (q i)) ∧ m ≤ 8 ∧
  ∀ (H' : Hp) (p : Addr), Same H H' → H p = none → PRow H' p m q → Q (.ref p) H'
theorem scPo : FnScope ["_law_row_here", "_law_x"] ["_law_row_here"] (defScope sPo) := ⟨rfl, rfl, rfl, by decide +kernel, rfl, by decide +kernel, by decide +kernel⟩
theorem ok_po {f C : Addr} {fd : FuncData} (F : Fun K "_law_pairs_of" "_law_pairs_of" sPo f fd) (T : Txt K mg C) : FnOk P w K mg base CX0 1 f fd ["_law_row_here"] (spPo C K) := by
  refine F.ok scPo (fun vs H Q E h => ?_) (fun cdv A outer s H vs Q E hr h => ?_)
  · obtain ⟨t, m, b, q, rfl, _⟩ := h
    rfl
  · obtain ⟨t, m, b, q, rfl, hT, hb, hm, k⟩ := h
    refine ⟨_, pss_one (ps_ret (pe_lc (own := [("_law_x", 1)]) (g := gName 1) (tt := tYes) (te := tTup (tCons (tFld K (tVar 1) "n") (tCons (tFld K (tVar 1) "d") tNil))) rfl scPo.nd (pi_tup (pv 0)) (blkOk_by (N := ["_law_row_here", "_law_x"]) (sc := defScope sPo) (by decide +kernel)) (fun _ _ _ _ _ => pg_name (i := 1) scPo.nd rfl (Or.inl rfl)) (fun _ _ _ _ _ => pts_nil)
        (fun _ _ _ _ _ => pe_tup (pa_cons (pe_fld (pv 1) rfl) (pa_cons (pe_fld (pv 1) rfl) pa_nil))))), ?_⟩
    refine ⟨_, rfl, t, rfl, ⟨_, hT⟩, fun D hD => ?_⟩
    refine lc_tup (K := K) (a := t) (xs := VL m fun i => .ref (b i)) (fun i H2 => Same H H2 ∧ ∃ a : Nat → Addr, H2 D = some (.lst (VL i fun l => .ref (a l))) ∧ ∀ l, l < i → PairAt H2 (a l) (q l)) ⟨same_new hD, fun _ => 0, upd_same, fun l hl => by omega⟩ (fun i H2 _ z => same_seqT z.1 hT) ?_ ?_
    · rintro i x H2 hx ⟨s2, a, hD2, ha⟩
      obtain ⟨hi, rfl⟩ := VL_inv hx
      obtain ⟨dx, hp⟩ := (hb i hi).same s2
      refine ⟨rfl, yesT ?_⟩
      refine ⟨_, rfl, b i, C, dx, _, _, rfl, hp, T.cl, T.nN, ratF_n _, _, rfl, b i, C, dx, _, _, rfl, hp, T.cl, T.nD, ratF_d _, by show 2 ≤ sizeLine; decide, fun p hp2 => ?_⟩
      have hD3 := same_new (o := .tup [.int (q i).num, .int ((q i).den : Int)]) hp2 _ _ hD2
      refine ⟨_, hD3, by rw [VL_len]; exact small1000 (by omega), same_own (s2.trans (same_new hp2)) hD, fset a i p, by rw [upd_same, VL_fset], fun l hl => ?_⟩
      by_cases e : l = i
      · subst e
        rw [fset_same]
        exact PairAt.own (H := upd H2 p (.tup [.int (q l).num, .int ((q l).den : Int)])) upd_same hD3
      · rw [fset_ne e]
        exact ((ha l (by omega)).same (same_new hp2)).own hD3
    · rintro H2 ⟨s2, a, hD2, ha⟩
      rw [VL_len] at hD2 ha
      exact k H2 D s2 hD ⟨a, hD2, ha⟩
/-! ### _law_are_ratios -/
abbrev sAr : Stmt := topS 24
def spAr (C : Addr) : Sp := fun vs H Q _ => ∃ (t : Addr) (m : Nat) (b : Nat → Addr) (q : Nat → Rat), vs = [.ref t, .int (m : Int)] ∧ H t = some (.tup (VL m fun i => .ref (b i))) ∧ (∀ i, i < m → RatAt C H (b i) (q i)) ∧ m ≤ 8 ∧
  ∀ H' : Hp, Same H H' → Q (.bl true) H'
theorem scAr : FnScope ["_law_value", "_law_count", "_law_x"] ["_law_value", "_law_count"] (defScope sAr) := ⟨rfl, rfl, rfl, by decide +kernel, rfl, by decide +kernel, by decide +kernel⟩
theorem ok_ar {f C : Addr} {fd : FuncData} (F : Fun K "_law_are_ratios" "_law_are_ratios" sAr f fd) (T : Txt K mg C) (Is : IsR K C) : FnOk P w K mg base CX0 1 f fd ["_law_value", "_law_count"] (spAr C) := by
  refine F.ok scAr (fun vs H Q E h => ?_) (fun cdv A outer s H vs Q E hr h => ?_)
  · obtain ⟨t, m, b, q, rfl, _⟩ := h
    rfl
  · obtain ⟨t, m, b, q, rfl, hT, hb, hm, k⟩ := h
    refine ⟨_,
      pss_cons (ps_if (PW.pt (pw_or (pt_not (pt_val (pe_callB call_isi (by rfl) T.isi (by decide +kernel) (pa_cons (pv 0) (pa_cons (pe_bltn (v := .ty "tuple") (u := .type "tuple") (by rfl) T.tuple (by decide +kernel) rfl) pa_nil)))))
          (pw_or1 (pt_cmpR op_ne (pe_callB call_len_seq (by rfl) T.len PySem.boot_len (pa_cons (pv 0) pa_nil)) (pv 1) (nomark _))))) (pss_one (ps_ret pe_bl)) pss_nil) <|
      pss_one (ps_ret (pe_cmpR op_eq (pe_callB call_len_seq (by rfl) T.len PySem.boot_len (pa_cons
        (pe_lc (own := [("_law_x", 2)]) (g := gName 2) (tt := tNot (tB (tCB (rIsi K) (tCons (tVar 2) (tCons (tC (.ref C)) tNil))))) rfl scAr.nd (pi_tup (pv 0)) (blkOk_by (N := ["_law_value", "_law_count", "_law_x"]) (sc := defScope sAr) (by decide +kernel)) (fun _ _ _ _ _ => pg_name (i := 2) scAr.nd rfl (Or.inl rfl))
          (fun _ _ _ _ _ => pts_one (pt_not (pt_val (pe_callB call_isi (by rfl) T.isi (by decide +kernel) (pa_cons (pv 2) (pa_cons (pe_glob (by rfl) T.mgC rfl) pa_nil)))))) (fun _ _ _ _ _ => pv 2)) pa_nil)) pe_int (nomark _))), ?_⟩
    have sT : SqT K H t (VL m fun i => .ref (b i)) := .inl (.inl hT)
    refine ⟨_, rfl, _, _, _, _, true, rfl, .ty "tuple", .base (.tup hT), kit_ty (by decide +kernel), true, rfl, ?_⟩
    refine iteF ?_
    refine ⟨_, rfl, t, _, rfl, .inr sT, _, rfl, rfl, _, rfl, ?_⟩
    rw [VL_len]
    refine iteNS rfl ?_
    refine ⟨_, rfl, t, rfl, ⟨_, sT⟩, fun D hD => ?_⟩
    refine lc_tup (K := K) (a := t) (xs := VL m fun i => .ref (b i)) (fun i H2 => Same H H2 ∧ H2 D = some (.lst [])) ⟨same_new hD, upd_same⟩ (fun i H2 _ z => same_seqT z.1 sT) ?_ ?_
    · rintro i x H2 hx ⟨s2, hD2⟩
      obtain ⟨hi, rfl⟩ := VL_inv hx
      obtain ⟨dx, hp⟩ := (hb i hi).same s2
      refine ⟨rfl, _, rfl, _, _, _, _, true, rfl, .own C, .base (.ins hp T.cl Is.a Is.b Is.c Is.d), kit_self, true, rfl, ?_⟩
      exact iteF ⟨s2, hD2⟩
    · rintro H2 ⟨s2, hD2⟩
      refine ⟨D, _, rfl, .inl (.inl (.inl hD2)), rfl, ?_⟩
      exact k H2 s2
end
end K5W
set_option Elab.async false
set_option linter.all false
set_option maxRecDepth 100000
set_option maxHeartbeats 4000000
namespace K5W
open PySem PySem.Spec PyProof.Rows L2
/-- a growing sum's size -/
theorem Sm.next {k l i : Nat} {x y : Rat} (h : Sm (1 + i * (k + l + 1)) x) (h' : Sm (k + l) y) : Sm (1 + (i + 1) * (k + l + 1)) (x + y) :=
  (h.add h').mono (by rw [Nat.succ_mul]; omega)
theorem grow {m i c : Nat} (hi : i < m) : 1 + i * c + c ≤ 1 + m * c := by
  have h := Nat.mul_le_mul_right c (show i + 1 ≤ m from hi)
  rw [Nat.succ_mul] at h
  omega
section
variable {P : Program} {w : World} {K : PySem.W.Frag} {mg : Str → Option Value} {base : Heap}
/-! ### _law_dot -/
abbrev sDot : Stmt := topS 27
def spDot : Sp := fun vs H Q _ => ∃ (v u : Addr) (m k l : Nat) (x y : Nat → Rat), vs = [.ref v, .ref u] ∧ PRow H v m x ∧ PRow H u m y ∧ m ≤ 8 ∧ 0 < k ∧ 0 < l ∧ (∀ i, i < m → Sm k (x i)) ∧ (∀ i, i < m → Sm l (y i)) ∧ 1 + m * (k + l + 1) ≤ 9000 ∧
  ∀ (H' : Hp) (p : Addr), Same H H' → PairAt H' p (K5.SR m fun i => x i * y i) → Q (.ref p) H'
theorem scDt : FnScope ["_law_v", "_law_w", "_law_total", "_law_k"] ["_law_v", "_law_w"] (defScope sDot) := ⟨rfl, rfl, rfl, by decide +kernel, rfl, by decide +kernel, by decide +kernel⟩
theorem ok_dot {f C fP fT : Addr} {fd fdP fdT : FuncData} (F : Fun K "_law_dot" "_law_dot" sDot f fd) (T : Txt K mg C) (GP : FnOk P w K mg base CX0 3 fP fdP ["_law_a", "_law_b"] spPlus) (bP : Binds K fdP ["_law_a", "_law_b"] []) (kP : PySem.W.keepIn K (.ref fP) = true) (gP : mg "_law_plus" = some (.ref fP))
    (GT : FnOk P w K mg base CX0 3 fT fdT ["_law_a", "_law_b"] spTimes) (bT : Binds K fdT ["_law_a", "_law_b"] []) (kT : PySem.W.keepIn K (.ref fT) = true) (gT : mg "_law_times" = some (.ref fT)) : FnOk P w K mg base CX0 4 f fd ["_law_v", "_law_w"] spDot := by
  refine F.ok scDt (fun vs H Q E h => ?_) (fun cdv A outer s H vs Q E hr h => ?_)
  · obtain ⟨v, u, m, k, l, x, y, rfl, _⟩ := h
    rfl
  · obtain ⟨v, u, m, k, l, x, y, rfl, ⟨a, hV, ha⟩, ⟨b, hU, hb⟩, hm, k0, l0, sx, sy, hB, q⟩ := h
    refine ⟨_,
      pss_cons (ps_set (i := 2) scDt.nd rfl (Or.inl rfl) (pe_tup (pa_cons pe_int (pa_cons pe_int pa_nil)))) <|
      pss_cons (ps_for PassesOwn.never rfl (pi_range1 (by rfl) T.range (pa_cons (pe_callB call_len_seq (by rfl) T.len PySem.boot_len (pa_cons (pv 0) pa_nil)) pa_nil)) (pg_name (i := 3) scDt.nd rfl (Or.inl rfl)) <|
        pss_one (ps_set (i := 2) scDt.nd rfl (Or.inl rfl) (pe_call GP hr (by rfl) gP kP bP .nil pass0 (pa_cons (pv 2) (pa_cons
          (pe_call (E := E0) GT hr (by rfl) gT kT bT .nil pass0 (pa_cons (pe_ix ix_list (pv 0) (pv 3) (fun _ _ => rfl)) (pa_cons (pe_ix ix_list (pv 1) (pv 3) (fun _ _ => rfl)) pa_nil))) pa_nil))))) <|
      pss_one (ps_ret (pv 2)), ?_⟩
    refine ⟨by show 2 ≤ sizeLine; decide, fun p hp => ?_⟩
    have s1 := same_new (o := .tup [.int 0, .int 1]) hp
    refine ⟨_, rfl, v, _, rfl, .inl (.inl (.inl (s1 _ _ hV))), _, rfl, by rw [VL_len]; omega, by rw [VL_len]; omega, ?_⟩
    rw [VL_len]
    refine for_range (lo := 0) (fun i σ H2 => Same H H2 ∧ ∃ (p : Addr) (x3 : Option V), PairAt H2 p (K5.SR i fun i => x i * y i) ∧ Sm (1 + i * (k + l + 1)) (K5.SR i fun i => x i * y i) ∧ σ = [some (.ref v), some (.ref u), some (.ref p), x3])
      ⟨s1, p, none, upd_same, Sm0.mono (by omega), rfl⟩ ?_ ?_
    · rintro i σ H2 hi ⟨s2, p, x3, hp, hs, rfl⟩
      replace hi : i < m := by omega
      rw [show (0 : Int) + (i : Int) = (i : Int) by omega]
      have g := grow (c := k + l + 1) hi
      refine ⟨_, rfl, _, rfl, _, rfl, v, _, _, _, rfl, rfl, .inl (.inl (s2 _ _ hV)), VL_at hi, _, rfl, _, rfl, u, _, _, _, rfl, rfl, .inl (.inl (s2 _ _ hU)), VL_at hi, a i, b i, x i, y i, k, l, rfl, (ha i hi).same s2, (hb i hi).same s2, sx i hi, sy i hi, k0, l0, by omega, fun H3 t s3 ht e3 => ?_⟩
      refine ⟨p, t, _, _, 1 + i * (k + l + 1), k + l, rfl, hp.same s3, e3, hs, (sx i hi).mul (sy i hi), by omega, by omega, by omega, fun H4 t2 s4 ht2 e4 => ?_⟩
      exact ⟨(s2.trans s3).trans s4, t2, _, e4, hs.next ((sx i hi).mul (sy i hi)), rfl⟩
    · rintro σ H2 ⟨s2, p, x3, hp, hs, rfl⟩
      rw [show ((m : Nat) : Int).toNat = m by omega] at hp
      exact ⟨_, rfl, q H2 p s2 hp⟩
/-! ### _law_sum_of -/
abbrev sSum : Stmt := topS 28
abbrev NSum : List Str := ["_law_rows", "_law_weights", "_law_width", "_law_total", "_law_k", "_law_i"]
def spSum : Sp := fun vs H Q _ => ∃ (c wt : Addr) (m n k l : Nat) (ws : Nat → Rat) (cs : Nat → Nat → Rat), vs = [.ref c, .ref wt, .int (m : Int)] ∧ PCols H c n m cs ∧ PRow H wt n ws ∧ m ≤ 8 ∧ n ≤ 8 ∧ 0 < k ∧ 0 < l ∧ (∀ j, j < n → Sm k (ws j)) ∧ (∀ j, j < n → ∀ i, i < m → Sm l (cs j i)) ∧ 1 + n * (k + l + 1) ≤ 9000 ∧
  ∀ (H' : Hp) (p : Addr), Same H H' → H p = none → PRow H' p m (fun i => K5.SR n fun j => ws j * cs j i) → (∀ i, i < m → Sm (1 + n * (k + l + 1)) (K5.SR n fun j => ws j * cs j i)) → Q (.ref p) H'
theorem scSu : FnScope NSum ["_law_rows", "_law_weights", "_law_width"] (defScope sSum) := ⟨rfl, rfl, rfl, by decide +kernel, rfl, by decide +kernel, by decide +kernel⟩
theorem ok_sum {f C fP fT : Addr} {fd fdP fdT : FuncData} (F : Fun K "_law_sum_of" "_law_sum_of" sSum f fd) (T : Txt K mg C) (GP : FnOk P w K mg base CX0 3 fP fdP ["_law_a", "_law_b"] spPlus) (bP : Binds K fdP ["_law_a", "_law_b"] []) (kP : PySem.W.keepIn K (.ref fP) = true) (gP : mg "_law_plus" = some (.ref fP))
    (GT : FnOk P w K mg base CX0 3 fT fdT ["_law_a", "_law_b"] spTimes) (bT : Binds K fdT ["_law_a", "_law_b"] []) (kT : PySem.W.keepIn K (.ref fT) = true) (gT : mg "_law_times" = some (.ref fT)) : FnOk P w K mg base CX0 4 f fd ["_law_rows", "_law_weights", "_law_width"] spSum := by
  refine F.ok scSu (fun vs H Q E h => ?_) (fun cdv A outer s H vs Q E hr h => ?_)
  · obtain ⟨c, wt, m, n, k, l, ws, cs, rfl, _⟩ := h
    rfl
  · obtain ⟨c, wt, m, n, k, l, ws, cs, rfl, ⟨pc, hC, hc⟩, ⟨a, hW, ha⟩, hm, hn, k0, l0, sw, sc, hB, q⟩ := h
    refine ⟨_,
      pss_cons (ps_set (i := 3) scSu.nd rfl (Or.inr rfl) (pe_lc (own := [("_law_k", 4)]) (g := gName 4) (tt := tYes) rfl scSu.nd (pi_range1 (by rfl) T.range (pa_cons (pv 2) pa_nil)) (blkOk_by (N := NSum) (sc := defScope sSum) (by decide +kernel)) (fun _ _ _ _ _ => pg_name (i := 4) scSu.nd rfl (Or.inl rfl)) (fun _ _ _ _ _ => pts_nil)
          (fun _ _ _ _ _ => pe_tup (pa_cons pe_int (pa_cons pe_int pa_nil))))) <|
      pss_cons (ps_for PassesOwn.never rfl (pi_range1 (by rfl) T.range (pa_cons (pe_callB call_len_seq (by rfl) T.len PySem.boot_len (pa_cons (pv 0) pa_nil)) pa_nil)) (pg_name (i := 4) scSu.nd rfl (Or.inr rfl)) <|
        pss_one (ps_set (i := 3) scSu.nd rfl (Or.inr rfl) (pe_lc (own := [("_law_i", 5)]) (g := gName 5) (tt := tYes) rfl scSu.nd (pi_range1 (by rfl) T.range (pa_cons (pv 2) pa_nil)) (blkOk_by (N := NSum) (sc := defScope sSum) (by decide +kernel)) (fun _ _ _ _ _ => pg_name (i := 5) scSu.nd rfl (Or.inl rfl)) (fun _ _ _ _ _ => pts_nil)
          (fun _ _ _ _ _ => pe_call (E := E0) GP hr (by rfl) gP kP bP .nil pass0 (pa_cons (pe_ix (r := rIxL K) ix_list (pv 3) (pv 5) (fun _ _ => rfl)) (pa_cons
            (pe_call (E := E0) GT hr (by rfl) gT kT bT .nil pass0 (pa_cons (pe_ix (r := rIxL K) ix_list (pv 1) (pv 4) (fun _ _ => rfl)) (pa_cons (pe_ix (r := rIxL K) ix_list (pe_ix (r := rIxL K) ix_list (pv 0) (pv 4) (fun _ _ => rfl)) (pv 5) (fun _ _ => rfl)) pa_nil))) pa_nil)))))) <|
      pss_one (ps_ret (pv 3)), ?_⟩
    refine ⟨_, rfl, _, rfl, by omega, by omega, fun D hD => ?_⟩
    refine lc_range (lo := 0) (fun i H2 => Same H H2 ∧ ∃ b : Nat → Addr, H2 D = some (.lst (VL i fun t => .ref (b t))) ∧ ∀ t, t < i → PairAt H2 (b t) 0) ⟨same_new hD, fun _ => 0, upd_same, fun t ht => by omega⟩ ?_ ?_
    · rintro i H2 hi ⟨s2, b, hD2, hb⟩
      refine ⟨rfl, yesT ?_⟩
      refine ⟨by show 2 ≤ sizeLine; decide, fun p hp => ?_⟩
      have hD3 := same_new (o := .tup [.int 0, .int 1]) hp _ _ hD2
      refine ⟨_, hD3, by rw [VL_len]; exact small1000 (by omega), same_own (s2.trans (same_new hp)) hD, fset b i p, by rw [upd_same, VL_fset], fun t ht => ?_⟩
      by_cases e : t = i
      · subst e
        rw [fset_same]
        exact PairAt.own (H := upd H2 p (.tup [.int 0, .int 1])) (q := 0) upd_same hD3
      · rw [fset_ne e]
        exact ((hb t (by omega)).same (same_new hp)).own hD3
    · rintro H2 ⟨s2, b, hD2, hb⟩
      rw [show ((m : Nat) : Int).toNat = m by omega] at hD2 hb
      refine ⟨_, rfl, c, _, rfl, .inl (.inl (.inl (s2 _ _ hC))), _, rfl, by rw [VL_len]; omega, by rw [VL_len]; omega, ?_⟩
      rw [VL_len]
      refine for_range (lo := 0) (fun j σ H3 => Same H H3 ∧ ∃ (D : Addr) (x4 x5 : Option V), H D = none ∧ PRow H3 D m (fun i => K5.SR j fun j => ws j * cs j i) ∧ (∀ i, i < m → Sm (1 + j * (k + l + 1)) (K5.SR j fun j => ws j * cs j i)) ∧ σ = [some (.ref c), some (.ref wt), some (.int (m : Int)), some (.ref D), x4, x5])
        ⟨s2, D, _, _, hD, ⟨b, hD2, hb⟩, fun i hi => Sm0.mono (by omega), rfl⟩ ?_ ?_
      · rintro j σ H3 hj ⟨s3, D3, x4, x5, hDn, ⟨d, hD3, hd⟩, hs, rfl⟩
        replace hj : j < n := by omega
        rw [show (0 : Int) + (j : Int) = (j : Int) by omega]
        have g := grow (c := k + l + 1) hj
        obtain ⟨e, hE, he⟩ := hc j hj
        refine ⟨_, rfl, _, rfl, by omega, by omega, fun D4 hD4 => ?_⟩
        refine lc_range (lo := 0) (fun i H4 => Same H3 H4 ∧ ∃ b : Nat → Addr, H4 D4 = some (.lst (VL i fun t => .ref (b t))) ∧ ∀ t, t < i → PairAt H4 (b t) (K5.SR (j + 1) fun j => ws j * cs j t)) ⟨same_new hD4, fun _ => 0, upd_same, fun t ht => by omega⟩ ?_ ?_
        · rintro i H4 hi ⟨s4, b, hD4', hb⟩
          replace hi : i < m := by omega
          rw [show (0 : Int) + (i : Int) = (i : Int) by omega]
          have s34 := s3.trans s4
          refine ⟨rfl, yesT ?_⟩
          refine ⟨_, rfl, _, rfl, D3, _, _, _, rfl, rfl, .inl (.inl (s4 _ _ hD3)), VL_at hi, _, rfl, _, rfl, wt, _, _, _, rfl, rfl, .inl (.inl (s34 _ _ hW)), VL_at hj, _, rfl, _, rfl, c, _, _, _, rfl, rfl, .inl (.inl (s34 _ _ hC)), VL_at hj, _, rfl, pc j, _, _, _, rfl, rfl, .inl (.inl (s34 _ _ hE)), VL_at hi,
            a j, e i, ws j, cs j i, k, l, rfl, (ha j hj).same s34, (he i hi).same s34, sw j hj, sc j hj i hi, k0, l0, by omega, fun H5 t s5 ht e5 => ?_⟩
          refine ⟨d i, t, _, _, 1 + j * (k + l + 1), k + l, rfl, ((hd i hi).same s4).same s5, e5, hs i hi, (sw j hj).mul (sc j hj i hi), by omega, by omega, by omega, fun H6 t2 s6 ht2 e6 => ?_⟩
          have hD6 := s6 _ _ (s5 _ _ hD4')
          refine ⟨_, hD6, by rw [VL_len]; exact small1000 (by omega), same_own ((s4.trans s5).trans s6) hD4, fset b i t2, by rw [upd_same, VL_fset], fun t ht => ?_⟩
          by_cases z : t = i
          · subst z
            rw [fset_same]
            exact e6.own hD6
          · rw [fset_ne z]
            exact (((hb t (by omega)).same s5).same s6).own hD6
        · rintro H4 ⟨s4, b, hD4', hb⟩
          rw [show ((m : Nat) : Int).toNat = m by omega] at hD4' hb
          exact ⟨s3.trans s4, D4, _, _, s3.free hD4, ⟨b, hD4', hb⟩, fun i hi => (hs i hi).next ((sw j hj).mul (sc j hj i hi)), rfl⟩
      · rintro σ H3 ⟨s3, D3, x4, x5, hDn, hP, hs, rfl⟩
        rw [show ((n : Nat) : Int).toNat = n by omega] at hP hs
        exact ⟨_, rfl, q H3 D3 s3 hDn hP hs⟩
end
end K5W
set_option Elab.async false
set_option linter.all false
set_option maxRecDepth 100000
set_option maxHeartbeats 4000000
namespace K5W
open PySem PySem.Spec PyProof.Rows L2
/-! ### a row of pairs as data -/
def rowD : Nat → (Nat → Rat) → List PyData
  | 0, _ => []
  | m + 1, q => .tuple [.int (q 0).num, .int ((q 0).den : Int)] :: rowD m fun i => q (i + 1)
theorem rowD_all {K : PySem.W.Frag} {H : Hp} : ∀ {m : Nat} {a : Nat → Addr} {q : Nat → Rat}, (∀ i, i < m → PairAt H (a i) (q i)) → DpAll K H (VL m fun i => .ref (a i)) (rowD m q)
  | 0, _, _, _ => .nil
  | m + 1, a, q, h => by
    have e : (VL (m + 1) fun i => V.ref (a i)) = V.ref (a 0) :: VL m fun i => V.ref (a (i + 1)) := by
      unfold VL
      rw [List.range_succ_eq_map, List.map_cons, List.map_map]
      rfl
    rw [e]
    exact .cons (.tup (.inl (.inl (h 0 (by omega)))) (.cons (.int _) (.cons (.int _) .nil))) (rowD_all fun i hi => h (i + 1) (by omega))
theorem rowD_lay : ∀ {m : Nat} {q : Nat → Rat}, PyData.canLayAll0 (rowD m q) = true ∧ PyData.depthAll (rowD m q) ≤ 1
  | 0, _ => ⟨rfl, Nat.zero_le _⟩
  | m + 1, q => by
    obtain ⟨h1, h2⟩ := rowD_lay (m := m) (q := fun i => q (i + 1))
    refine ⟨?_, ?_⟩
    · show (PyData.canLay0 (.tuple [.int (q 0).num, .int ((q 0).den : Int)]) && PyData.canLayAll0 (rowD m fun i => q (i + 1))) = true
      rw [h1]
      rfl
    · show max (PyData.depth (.tuple [.int (q 0).num, .int ((q 0).den : Int)])) (PyData.depthAll (rowD m fun i => q (i + 1))) ≤ 1
      exact Nat.max_le.mpr ⟨Nat.le_refl 1, h2⟩
theorem rowD_shaped {m : Nat} {q : Nat → Rat} : SeqAt.shaped (.list (rowD m q)) = true := by
  obtain ⟨h1, h2⟩ := rowD_lay (m := m) (q := q)
  unfold SeqAt.shaped
  rw [Bool.and_eq_true]
  refine ⟨h1, decide_eq_true ?_⟩
  show PyData.depthAll (rowD m q) + 1 ≤ 64
  omega
theorem rowD_congr : ∀ {m : Nat} {q q' : Nat → Rat}, (∀ i, i < m → q i = q' i) → rowD m q = rowD m q'
  | 0, _, _, _ => rfl
  | m + 1, q, q', h => by
    show _ :: _ = _ :: _
    rw [h 0 (by omega), rowD_congr (m := m) fun i hi => h (i + 1) (by omega)]
section
variable {P : Program} {w : World} {K : PySem.W.Frag} {mg : Str → Option Value} {base : Heap}
/-! ### _law_weights_hold -/
abbrev sWh : Stmt := topS 30
abbrev NWh : List Str := ["_law_columns", "_law_right", "_law_told", "_law_found", "_law_x"]
def spWh (C : Addr) (K : PySem.W.Frag) : Sp := fun vs H Q _ => ∃ (c rt t : Addr) (m n k l : Nat) (cs : Nat → Nat → Rat) (r ws : Nat → Rat) (b : Nat → Addr), vs = [.ref c, .ref rt, .ref t] ∧ PCols H c n m cs ∧ PRow H rt m r ∧ H t = some (.tup (VL n fun j => .ref (b j))) ∧ (∀ j, j < n → RatAt C H (b j) (ws j)) ∧
  m ≤ 8 ∧ n ≤ 8 ∧ 0 < k ∧ 0 < l ∧ (∀ j, j < n → Sm k (ws j)) ∧ (∀ j, j < n → ∀ i, i < m → Sm l (cs j i)) ∧ 1 + n * (k + l + 1) ≤ 9000 ∧ K5.IsWgt m n cs r ws ∧ ∀ H' : Hp, Same H H' → Q (.bl true) H'
theorem scWh : FnScope NWh ["_law_columns", "_law_right", "_law_told"] (defScope sWh) := ⟨rfl, rfl, rfl, by decide +kernel, rfl, by decide +kernel, by decide +kernel⟩
theorem ok_wh {f C fA fPo fS : Addr} {fd fdA fdPo fdS : FuncData} (F : Fun K "_law_weights_hold" "_law_weights_hold" sWh f fd) (T : Txt K mg C)
    (GA : FnOk P w K mg base CX0 1 fA fdA ["_law_value", "_law_count"] (spAr C)) (bA : Binds K fdA ["_law_value", "_law_count"] []) (kA : PySem.W.keepIn K (.ref fA) = true) (gA : mg "_law_are_ratios" = some (.ref fA))
    (GPo : FnOk P w K mg base CX0 1 fPo fdPo ["_law_row_here"] (spPo C K)) (bPo : Binds K fdPo ["_law_row_here"] []) (kPo : PySem.W.keepIn K (.ref fPo) = true) (gPo : mg "_law_pairs_of" = some (.ref fPo))
    (GS : FnOk P w K mg base CX0 4 fS fdS ["_law_rows", "_law_weights", "_law_width"] spSum) (bS : Binds K fdS ["_law_rows", "_law_weights", "_law_width"] []) (kS : PySem.W.keepIn K (.ref fS) = true) (gS : mg "_law_sum_of" = some (.ref fS)) :
    FnOk P w K mg base CX0 5 f fd ["_law_columns", "_law_right", "_law_told"] (spWh C K) := by
  refine F.ok scWh (fun vs H Q E h => ?_) (fun cdv A outer s H vs Q E hr h => ?_)
  · obtain ⟨c, rt, t, m, n, k, l, cs, r, ws, b, rfl, _⟩ := h
    rfl
  · obtain ⟨c, rt, t, m, n, k, l, cs, r, ws, b, rfl, hC, hR, hT, hb, hm, hn, k0, l0, sw, sc, hB, W, q⟩ := h
    have hr1 : Room 1 (A.deeper (envOfC "_law_weights_hold" (defScope sWh) s.heap.objs.size f cdv)) := hr.mono (by decide)
    refine ⟨_,
      pss_cons (ps_if (pt_not (pt_val (pe_call GA hr1 (by rfl) gA kA bA .nil pass0 (pa_cons (pv 2) (pa_cons (pe_callB call_len_seq (by rfl) T.len PySem.boot_len (pa_cons (pv 0) pa_nil)) pa_nil))))) (pss_one (ps_ret pe_bl)) pss_nil) <|
      pss_cons (ps_set (i := 3) scWh.nd rfl (Or.inl rfl) (pe_call GPo hr1 (by rfl) gPo kPo bPo .nil pass0 (pa_cons (pv 2) pa_nil))) <|
      pss_one (ps_ret (pe_and (pe_cmpR op_eq (pe_callB call_len_seq (by rfl) T.len PySem.boot_len (pa_cons
          (pe_lc (own := [("_law_x", 4)]) (g := gName 4) (tt := tTest (tOp (rI0 fun i j => .bl (decide (i < j))) (tOp (rIxT K) (tVar 4) (tC (.int 0))) (tC (.int 0)))) rfl scWh.nd (pi_list (pv 3)) (blkOk_by (N := NWh) (sc := defScope sWh) (by decide +kernel)) (fun _ _ _ _ _ => pg_name (i := 4) scWh.nd rfl (Or.inl rfl))
            (fun _ _ _ _ _ => pts_one (pt_cmpR op_lt (pe_ix (r := rIxT K) ix_tup (pv 4) pe_int (fun _ _ => rfl)) pe_int (nomark _))) (fun _ _ _ _ _ => pv 4)) pa_nil)) pe_int (nomark _))
        (pe_one (pe_cmpR (op_eqD hr.units) (pe_call GS hr (by rfl) gS kS bS .nil pass0 (pa_cons (pv 0) (pa_cons (pv 3) (pa_cons (pe_callB call_len_seq (by rfl) T.len PySem.boot_len (pa_cons (pv 1) pa_nil)) pa_nil)))) (pv 1) (nomark _))))), ?_⟩
    obtain ⟨pc, hC1, hC2⟩ := id hC
    obtain ⟨a, hR1, hR2⟩ := id hR
    refine ⟨_, rfl, _, rfl, c, _, rfl, .inl (.inl (.inl hC1)), t, n, b, ws, by rw [VL_len]; rfl, hT, hb, hn, fun H1 s1 => ⟨true, rfl, iteF ?_⟩⟩
    refine ⟨_, rfl, t, n, b, ws, rfl, .inl (.inl (s1 _ _ hT)), fun j hj => (hb j hj).same s1, hn, fun H2 p s2 hp hP => ?_⟩
    obtain ⟨d, hP1, hP2⟩ := id hP
    refine ⟨_, rfl, p, rfl, ⟨_, .inl (.inl hP1)⟩, fun D hD => ?_⟩
    refine lc_list (K := K) (a := p) (xs := VL n fun i => .ref (d i)) (fun i H3 => Same H2 H3 ∧ H3 D = some (.lst [])) ⟨same_new hD, upd_same⟩ (fun i H3 _ z => .inl (.inl (z.1 _ _ hP1))) ?_ ?_
    · rintro j x H3 hx ⟨s3, hD3⟩
      obtain ⟨hj, rfl⟩ := VL_inv hx
      refine ⟨rfl, _, rfl, d j, _, _, _, rfl, rfl, .inl (.inl (s3 _ _ (hP2 j hj))), atI_nat (j := 0) rfl, _, _, rfl, rfl, _, rfl, ite2 (fun z => ?_) (fun _ => ⟨s3, hD3⟩)⟩
      have h1 : (ws j).num < 0 := of_decide_eq_true z
      exact absurd (W.nn j hj) (Rat.not_le.mpr (num_neg.mp h1))
    · rintro H3 ⟨s3, hD3⟩
      refine ⟨D, _, rfl, .inl (.inl (.inl hD3)), rfl, true, rfl, iteT ?_⟩
      have s13 := (s1.trans s2).trans s3
      refine ⟨_, rfl, _, rfl, _, rfl, rt, _, rfl, .inl (.inl (.inl (s13 _ _ hR1))), c, p, m, n, k, l, ws, cs, by rw [VL_len]; rfl, hC.same s13, hP.same s3, hm, hn, k0, l0, sw, sc, hB, fun H4 u s4 hu hU _ => ?_⟩
      have hU' : PRow H4 u m r := hU.congr W.eq
      obtain ⟨e, hU1, hU2⟩ := hU'
      have s14 := s13.trans s4
      refine ⟨_, rfl, .list (rowD m r), .list (rowD m r), .lst (.inl (.inl hU1)) (rowD_all hU2), .lst (.inl (.inl (s14 _ _ hR1))) (rowD_all fun i hi => (hR2 i hi).same s14), rowD_shaped, rowD_shaped, ?_⟩
      rw [SeqAt.eqv_refl _ (SeqAt.canLay_of_shaped rowD_shaped)]
      exact q H4 s14
/-! ### _law_functional_holds -/
abbrev sFh : Stmt := topS 31
abbrev NFh : List Str := ["_law_columns", "_law_right", "_law_told", "_law_found", "_law_c"]
def spFh (C : Addr) (K : PySem.W.Frag) : Sp := fun vs H Q _ => ∃ (c rt t : Addr) (m n k l : Nat) (cs : Nat → Nat → Rat) (r y : Nat → Rat) (b : Nat → Addr), vs = [.ref c, .ref rt, .ref t] ∧ PCols H c n m cs ∧ PRow H rt m r ∧ H t = some (.tup (VL m fun j => .ref (b j))) ∧ (∀ i, i < m → RatAt C H (b i) (y i)) ∧
  m ≤ 8 ∧ n ≤ 8 ∧ 0 < k ∧ 0 < l ∧ (∀ i, i < m → Sm k (y i)) ∧ (∀ j, j < n → ∀ i, i < m → Sm l (cs j i)) ∧ (∀ i, i < m → Sm l (r i)) ∧ 1 + m * (k + l + 1) ≤ 9000 ∧ K5.IsFun m n cs r y ∧ ∀ H' : Hp, Same H H' → Q (.bl true) H'
theorem scFh : FnScope NFh ["_law_columns", "_law_right", "_law_told"] (defScope sFh) := ⟨rfl, rfl, rfl, by decide +kernel, rfl, by decide +kernel, by decide +kernel⟩
theorem ok_fh {f C fA fPo fD fB : Addr} {fd fdA fdPo fdD fdB : FuncData} (F : Fun K "_law_functional_holds" "_law_functional_holds" sFh f fd) (T : Txt K mg C)
    (GA : FnOk P w K mg base CX0 1 fA fdA ["_law_value", "_law_count"] (spAr C)) (bA : Binds K fdA ["_law_value", "_law_count"] []) (kA : PySem.W.keepIn K (.ref fA) = true) (gA : mg "_law_are_ratios" = some (.ref fA))
    (GPo : FnOk P w K mg base CX0 1 fPo fdPo ["_law_row_here"] (spPo C K)) (bPo : Binds K fdPo ["_law_row_here"] []) (kPo : PySem.W.keepIn K (.ref fPo) = true) (gPo : mg "_law_pairs_of" = some (.ref fPo))
    (GD : FnOk P w K mg base CX0 4 fD fdD ["_law_v", "_law_w"] spDot) (bD : Binds K fdD ["_law_v", "_law_w"] []) (kD : PySem.W.keepIn K (.ref fD) = true) (gD : mg "_law_dot" = some (.ref fD))
    (GB : FnOk P w K mg base CX0 1 fB fdB ["_law_x"] spAbove) (bB : Binds K fdB ["_law_x"] []) (kB : PySem.W.keepIn K (.ref fB) = true) (gB : mg "_law_is_above" = some (.ref fB)) :
    FnOk P w K mg base CX0 5 f fd ["_law_columns", "_law_right", "_law_told"] (spFh C K) := by
  refine F.ok scFh (fun vs H Q E h => ?_) (fun cdv A outer s H vs Q E hr h => ?_)
  · obtain ⟨c, rt, t, m, n, k, l, cs, r, y, b, rfl, _⟩ := h
    rfl
  · obtain ⟨c, rt, t, m, n, k, l, cs, r, y, b, rfl, hC, hR, hT, hb, hm, hn, k0, l0, sy, sc, sr, hB, W, q⟩ := h
    have hr1 : Room 1 (A.deeper (envOfC "_law_functional_holds" (defScope sFh) s.heap.objs.size f cdv)) := hr.mono (by decide)
    refine ⟨_,
      pss_cons (ps_if (pt_not (pt_val (pe_call GA hr1 (by rfl) gA kA bA .nil pass0 (pa_cons (pv 2) (pa_cons (pe_callB call_len_seq (by rfl) T.len PySem.boot_len (pa_cons (pv 1) pa_nil)) pa_nil))))) (pss_one (ps_ret pe_bl)) pss_nil) <|
      pss_cons (ps_set (i := 3) scFh.nd rfl (Or.inr rfl) (pe_call GPo hr1 (by rfl) gPo kPo bPo .nil pass0 (pa_cons (pv 2) pa_nil))) <|
      pss_one (ps_ret (pe_and (pe_cmpR op_eq (pe_callB call_len_seq (by rfl) T.len PySem.boot_len (pa_cons
          (pe_lc (own := [("_law_c", 4)]) (g := gName 4) (tt := tB (tCall spAbove [] E0 (tCons (tCall spDot [] E0 (tCons (tVar 3) (tCons (tVar 4) tNil))) tNil))) rfl scFh.nd (pi_list (pv 0)) (blkOk_by (N := NFh) (sc := defScope sFh) (by decide +kernel)) (fun _ _ _ _ _ => pg_name (i := 4) scFh.nd rfl (Or.inl rfl))
            (fun _ _ _ _ _ => pts_one (pt_val (pe_call (E := E0) GB hr1 (by rfl) gB kB bB .nil pass0 (pa_cons (pe_call (E := E0) GD hr (by rfl) gD kD bD .nil pass0 (pa_cons (pv 3) (pa_cons (pv 4) pa_nil))) pa_nil)))) (fun _ _ _ _ _ => pv 4)) pa_nil)) pe_int (nomark _))
        (pe_one (pe_call GB hr1 (by rfl) gB kB bB .nil pass0 (pa_cons (pe_call (E := E0) GD hr (by rfl) gD kD bD .nil pass0 (pa_cons (pv 3) (pa_cons (pv 1) pa_nil))) pa_nil))))), ?_⟩
    obtain ⟨pc, hC1, hC2⟩ := id hC
    obtain ⟨a, hR1, hR2⟩ := id hR
    refine ⟨_, rfl, _, rfl, rt, _, rfl, .inl (.inl (.inl hR1)), t, m, b, y, by rw [VL_len]; rfl, hT, hb, hm, fun H1 s1 => ⟨true, rfl, iteF ?_⟩⟩
    refine ⟨_, rfl, t, m, b, y, rfl, .inl (.inl (s1 _ _ hT)), fun j hj => (hb j hj).same s1, hm, fun H2 p s2 hp hP => ?_⟩
    have s12 := s1.trans s2
    refine ⟨_, rfl, c, rfl, ⟨_, .inl (.inl (s12 _ _ hC1))⟩, fun D hD => ?_⟩
    refine lc_list (K := K) (a := c) (xs := VL n fun j => .ref (pc j)) (fun i H3 => Same H2 H3 ∧ H3 D = some (.lst [])) ⟨same_new hD, upd_same⟩ (fun i H3 _ z => .inl (.inl (z.1 _ _ (s12 _ _ hC1)))) ?_ ?_
    · rintro j x H3 hx ⟨s3, hD3⟩
      obtain ⟨hj, rfl⟩ := VL_inv hx
      have s13 := s12.trans s3
      refine ⟨rfl, _, rfl, _, rfl, p, pc j, m, k, l, y, cs j, rfl, hP.same s3, (hC2 j hj).same s13, hm, k0, l0, sy, sc j hj, hB, fun H4 u s4 e4 => ?_⟩
      refine ⟨u, _, rfl, e4, ?_⟩
      rw [decide_eq_false (Rat.not_lt.mpr (W.le j hj))]
      exact ⟨false, rfl, iteF ⟨s3.trans s4, s4 _ _ hD3⟩⟩
    · rintro H3 ⟨s3, hD3⟩
      refine ⟨D, _, rfl, .inl (.inl (.inl hD3)), rfl, true, rfl, iteT ?_⟩
      have s13 := s12.trans s3
      refine ⟨_, rfl, _, rfl, p, rt, m, k, l, y, r, rfl, hP.same s3, hR.same s13, hm, k0, l0, sy, sr, hB, fun H4 u s4 e4 => ?_⟩
      refine ⟨u, _, rfl, e4, ?_⟩
      rw [decide_eq_true W.gt]
      exact q H4 (s13.trans s4)
end
end K5W
set_option Elab.async false
set_option linter.all false
set_option maxRecDepth 100000
set_option maxHeartbeats 4000000
namespace K5W
open PySem PySem.Spec PyProof.Rows L2
theorem PRow.own {H : Hp} {p D : Addr} {m : Nat} {q : Nat → Rat} {xs : List V} {o : HO} (h : PRow H p m q) (n : p ≠ D) (hD : H D = some (.lst xs)) : PRow (upd H D o) p m q := by
  obtain ⟨a, e, h⟩ := h
  exact ⟨a, by rw [upd_ne n]; exact e, fun i hi => (h i hi).own hD⟩
def qset (f : Nat → Nat → Rat) (i : Nat) (v : Nat → Rat) : Nat → Nat → Rat := fun t => if t = i then v else f t
theorem qset_same {f : Nat → Nat → Rat} {i : Nat} {v : Nat → Rat} : qset f i v i = v := if_pos rfl
theorem qset_ne {f : Nat → Nat → Rat} {i t : Nat} {v : Nat → Rat} (h : t ≠ i) : qset f i v t = f t := if_neg h
def gset (f : Nat → Nat → Addr) (i : Nat) (v : Nat → Addr) : Nat → Nat → Addr := fun t => if t = i then v else f t
theorem gset_same {f : Nat → Nat → Addr} {i : Nat} {v : Nat → Addr} : gset f i v i = v := if_pos rfl
theorem gset_ne {f : Nat → Nat → Addr} {i t : Nat} {v : Nat → Addr} (h : t ≠ i) : gset f i v t = f t := if_neg h
/-- the state's list at S, the columns' at c -/
structure LS (S c : Addr) (m n : Nat) (cs : Nat → Nat → Rat) (H : Hp) : Prop where
  st : ∃ x y : Int, H S = some (.lst [.int x, .int y])
  cS : c ≠ S
  co : ∃ p : Nat → Addr, H c = some (.lst (VL n fun j => .ref (p j))) ∧ ∀ j, j < n → p j ≠ c ∧ p j ≠ S ∧ PRow H (p j) m (cs j)
theorem LS.sameX {S c : Addr} {m n : Nat} {cs : Nat → Nat → Rat} {H H' : Hp} (h : LS S c m n cs H) (s : SameX S H H') (hS : ∃ x y : Int, H' S = some (.lst [.int x, .int y])) : LS S c m n cs H' := by
  obtain ⟨x, y, e⟩ := h.st
  obtain ⟨p, e1, e2⟩ := h.co
  refine ⟨hS, h.cS, p, s _ _ h.cS e1, fun j hj => ?_⟩
  obtain ⟨a1, a2, a3⟩ := e2 j hj
  exact ⟨a1, a2, a3.sameX a2 e s⟩
theorem LS.cols {S c : Addr} {m n : Nat} {cs : Nat → Nat → Rat} {H : Hp} (h : LS S c m n cs H) : PCols H c n m cs := by
  obtain ⟨p, e1, e2⟩ := h.co
  exact ⟨p, e1, fun j hj => (e2 j hj).2.2⟩
/-- how the right side came about -/
def Came (κ : Int) (m n : Nat) (cs : Nat → Nat → Rat) (r : Nat → Rat) : Prop := (κ = 0 → ∃ ws, K5.IsWgt m n cs r ws) ∧ (κ = 1 → ∃ y, K5.IsFun m n cs r y)
theorem dens_fit {m n : Nat} {c : Nat → Nat → Rat} {r : Nat → Rat} (hm : m ≤ 4) (hn : n ≤ 5) (hc : ∀ j, j < n → ∀ i, i < m → Sml (c j i)) (hr : ∀ i, i < m → Sm 36 (r i)) : Fits m n c r := by
  have d4 : ∀ i, i < m → ∀ j, j < n → (K5.itm n c r i j).den ≤ 4 := fun i hi j hj => by
    rw [show K5.itm n c r i j = c j i from if_pos hj]
    exact (hc j hj i hi).2
  have dr : ∀ i, i < m → (K5.itm n c r i n).den < 2 ^ 36 := fun i hi => by
    rw [show K5.itm n c r i n = r i from if_neg (Nat.lt_irrefl n)]
    have := (hr i hi).d
    unfold Bd at this
    rwa [Int.natAbs_natCast] at this
  have p36 : (2 : Nat) ^ 36 = 68719476736 := by decide +kernel
  have p64 : (2 : Nat) ^ 64 = 18446744073709551616 := by decide +kernel
  have l4 : ∀ i, i < m → ∀ j, j ≤ n → K5.lcmN j (fun j => (K5.itm n c r i j).den) ≤ 1024 := fun i hi j hj => by
    refine Nat.le_trans (K5.lcmN_le (B := 4) fun t ht => d4 i hi t (by omega)) ?_
    exact Nat.le_trans (Nat.pow_le_pow_right (by decide) (show j ≤ 5 by omega)) (by decide)
  refine ⟨hm, by omega, fun i hi j hj => ?_, fun i hi j hj => ?_, fun i hi j hj => ?_⟩
  · by_cases e : j = n
    · subst e
      have := dr i hi
      omega
    · have := d4 i hi j (by omega)
      omega
  · by_cases e : j = n + 1
    · subst e
      have a := l4 i hi n (Nat.le_refl n)
      have b := dr i hi
      have e := K5.lcm_le (K5.lcmN n fun j => (K5.itm n c r i j).den) (K5.itm n c r i n).den
      have f := Nat.mul_le_mul a (Nat.le_of_lt b)
      show Nat.lcm (K5.lcmN n fun j => (K5.itm n c r i j).den) (K5.itm n c r i n).den < 2 ^ 64
      omega
    · have := l4 i hi j (by omega)
      omega
  · by_cases e : j = n
    · subst e
      rw [show K5.itm j c r i j = r i from if_neg (Nat.lt_irrefl j)]
      exact (hr i hi).n.mono (by decide)
    · rw [show K5.itm n c r i j = c j i from if_pos (by omega)]
      exact (hc j (by omega) i hi).sm.n.mono (by decide)

/-- [_law_ratio_row(c) for c in columns] -/
theorem rr_comp {K : PySem.W.Frag} {C c D : Addr} {m n : Nat} {cs : Nat → Nat → Rat} {H2 : Hp} {vs : List Nat} {σ : L2.St} {Qd : Hp → Prop} (hD : H2 D = none) (hm : m ≤ 8) (hn : n ≤ 8) {pc : Nat → Addr} (hC : H2 c = some (.lst (VL n fun j => .ref (pc j)))) (hp : ∀ j, j < n → PRow H2 (pc j) m (cs j)) (hs : ∀ j, j < n → ∀ i, i < m → Sml (cs j i))
    (hw : ∀ v : Option V, wipe ((wipe σ vs).set 11 v) vs = wipe σ vs) (h11 : ∀ v : Option V, ((wipe σ vs).set 11 v)[11]? = some v)
    (k : ∀ (H3 : Hp) (pt : Nat → Addr) (pe : Nat → Nat → Addr), Same H2 H3 → H3 D = some (.lst (VL n fun j => .ref (pt j))) → (∀ j, j < n → H3 (pt j) = some (.tup (VL m fun i => .ref (pe j i))) ∧ ∀ i, i < m → RatAt C H3 (pe j i) (cs j i)) → Qd H3) :
    ∃ W : Nat → Nat → Hp → Prop, (∃ m, W 0 m (upd H2 D (.lst []))) ∧ ∀ i m H, W i m H →
      ((Itl K c).stop i H ∧ Qd H) ∨ ((Itl K c).go i H ∧ ∃ Nx : Hp → Prop, (∀ H', Nx H' → ∃ m', m' < m ∧ W (i + 1) m' H') ∧ ∀ x H', (Itl K c).yld i H x H' → gName 11 x (wipe σ vs) H' fun σ2 H2 => wipe σ2 vs = wipe σ vs ∧ tYes σ2 H2 fun b H3 =>
        if b = true then tCall (spRr C) [] E0 (tCons (tVar 11) tNil) σ2 H3 fun y H4 => ∃ acc, H4 D = some (.lst acc) ∧ acc.length < sizeLine ∧ Nx (upd H4 D (.lst (acc ++ [y]))) else Nx H3) := by
  refine lc_list (K := K) (a := c) (xs := VL n fun j => .ref (pc j)) (fun i H3 => Same H2 H3 ∧ ∃ (pt : Nat → Addr) (pe : Nat → Nat → Addr), H3 D = some (.lst (VL i fun j => .ref (pt j))) ∧ ∀ j, j < i → H3 (pt j) = some (.tup (VL m fun i => .ref (pe j i))) ∧ ∀ i, i < m → RatAt C H3 (pe j i) (cs j i))
    ⟨same_new hD, fun _ => 0, fun _ _ => 0, upd_same, fun j hj => by omega⟩ (fun i H3 _ q => .inl (.inl (q.1 _ _ hC))) ?_ ?_
  · rintro i x H3 hx ⟨s3, pt, pe, hD3, hpt⟩
    obtain ⟨hi, rfl⟩ := VL_inv hx
    refine ⟨hw _, yesT ?_⟩
    refine ⟨_, h11 _, pc i, m, cs i, rfl, (hp i hi).same s3, hm, fun l hl => (hs i hi l hl).sm.d.mono (by decide), fun H4 t b s4 ht hb => ?_⟩
    have hD4 := s4 _ _ hD3
    refine ⟨_, hD4, by rw [VL_len]; exact small1000 (by omega), same_own (s3.trans s4) hD, fset pt i t, gset pe i b, by rw [upd_same, VL_fset], fun j hj => ?_⟩
    by_cases e : j = i
    · subst e
      rw [fset_same, gset_same]
      exact ⟨by rw [upd_ne (ne_of ht hD4 (by intro z; cases z))]; exact ht, fun l hl => (hb l hl).own hD4⟩
    · rw [fset_ne e, gset_ne e]
      obtain ⟨a1, a2⟩ := hpt j (by omega)
      have a1' := s4 _ _ a1
      exact ⟨by rw [upd_ne (ne_of a1' hD4 (by intro z; cases z))]; exact a1', fun l hl => ((a2 l hl).same s4).own hD4⟩
  · rintro H3 ⟨s3, pt, pe, hD3, hpt⟩
    rw [VL_len] at hD3 hpt
    exact k H3 pt pe s3 hD3 hpt
theorem SR_neg {m : Nat} {f g : Nat → Rat} : (K5.SR m fun i => f i * -g i) = - K5.SR m fun i => f i * g i := by
  have e : (K5.SR m fun i => f i * -g i) = K5.SR m fun i => (-1) * (f i * g i) := K5.SR_congr fun i _ => by rw [Rat.mul_neg]; grind
  rw [e, K5.SR_mul]
  grind
section
variable {P : Program} {w : World} {K : PySem.W.Frag} {mg : Str → Option Value} {base : Heap}
/-! ### the law -/
abbrev sLaw : Stmt := topS 32
abbrev NLaw : List Str := ["_law_script", "_law_state_here", "_law_size", "_law_k", "_law_columns", "_law_kind", "_law_right", "_law_weights", "_law_functional", "_law_told", "_law_again", "_law_c", "_law_x"]
def spLaw (K : PySem.W.Frag) : Sp := fun vs H Q _ => ∃ (a : Addr) (ns : List Int), vs = [.ref a] ∧ SqL K H a (ns.map V.int) ∧ ∀ H' : Hp, Q (.bl true) H'
theorem scLw : FnScope NLaw ["_law_script"] (defScope sLaw) := ⟨rfl, rfl, rfl, by decide +kernel, rfl, by decide +kernel, by decide +kernel⟩
/-- what the law calls -/
structure Calls (P : Program) (w : World) (K : PySem.W.Frag) (mg : Str → Option Value) (base : Heap) (C : Addr) : Prop where
  st : ∃ f fd, FnOk P w K mg base CX0 1 f fd ["_law_script"] (spState K) ∧ Binds K fd ["_law_script"] [] ∧ PySem.W.keepIn K (.ref f) = true ∧ mg "_law_state" = some (.ref f)
  tk : ∃ f fd, FnOk P w K mg base CX0 1 f fd ["_law_state_here", "_law_m"] spTake ∧ Binds K fd ["_law_state_here", "_law_m"] [] ∧ PySem.W.keepIn K (.ref f) = true ∧ mg "_law_take" = some (.ref f)
  fr : ∃ f fd, FnOk P w K mg base CX0 2 f fd ["_law_n", "_law_d"] spFrac ∧ Binds K fd ["_law_n", "_law_d"] [] ∧ PySem.W.keepIn K (.ref f) = true ∧ mg "_law_frac" = some (.ref f)
  rr : ∃ f fd, FnOk P w K mg base CX0 3 f fd ["_law_row_here"] (spRr C) ∧ Binds K fd ["_law_row_here"] [] ∧ PySem.W.keepIn K (.ref f) = true ∧ mg "_law_ratio_row" = some (.ref f)
  rw : ∃ f fd, FnOk P w K mg base CX0 4 f fd ["_law_state_here", "_law_width"] spRow ∧ Binds K fd ["_law_state_here", "_law_width"] [] ∧ PySem.W.keepIn K (.ref f) = true ∧ mg "_law_row" = some (.ref f)
  dt : ∃ f fd, FnOk P w K mg base CX0 4 f fd ["_law_v", "_law_w"] spDot ∧ Binds K fd ["_law_v", "_law_w"] [] ∧ PySem.W.keepIn K (.ref f) = true ∧ mg "_law_dot" = some (.ref f)
  sm : ∃ f fd, FnOk P w K mg base CX0 4 f fd ["_law_rows", "_law_weights", "_law_width"] spSum ∧ Binds K fd ["_law_rows", "_law_weights", "_law_width"] [] ∧ PySem.W.keepIn K (.ref f) = true ∧ mg "_law_sum_of" = some (.ref f)
  ab : ∃ f fd, FnOk P w K mg base CX0 1 f fd ["_law_x"] spAbove ∧ Binds K fd ["_law_x"] [] ∧ PySem.W.keepIn K (.ref f) = true ∧ mg "_law_is_above" = some (.ref f)
  wh : ∃ f fd, FnOk P w K mg base CX0 5 f fd ["_law_columns", "_law_right", "_law_told"] (spWh C K) ∧ Binds K fd ["_law_columns", "_law_right", "_law_told"] [] ∧ PySem.W.keepIn K (.ref f) = true ∧ mg "_law_weights_hold" = some (.ref f)
  fh : ∃ f fd, FnOk P w K mg base CX0 5 f fd ["_law_columns", "_law_right", "_law_told"] (spFh C K) ∧ Binds K fd ["_law_columns", "_law_right", "_law_told"] [] ∧ PySem.W.keepIn K (.ref f) = true ∧ mg "_law_functional_holds" = some (.ref f)
  fs : ∃ f fd, FnOk P w K mg base CX0 4 f fd ["columns", "right"] (spFeas C K) ∧ Binds K fd ["columns", "right"] [] ∧ PySem.W.keepIn K (.ref f) = true ∧ mg "feasible" = some (.ref f)
theorem ok_law {f C : Addr} {fd : FuncData} (F : Fun K "law" "law" sLaw f fd) (T : Txt K mg C) (L : Calls P w K mg base C) : FnOk P w K mg base CX0 6 f fd ["_law_script"] (spLaw K) := by
  obtain ⟨fSt, fdSt, GSt, bSt, kSt, gSt⟩ := L.st
  obtain ⟨fTk, fdTk, GTk, bTk, kTk, gTk⟩ := L.tk
  obtain ⟨fFr, fdFr, GFr, bFr, kFr, gFr⟩ := L.fr
  obtain ⟨fRr, fdRr, GRr, bRr, kRr, gRr⟩ := L.rr
  obtain ⟨fRw, fdRw, GRw, bRw, kRw, gRw⟩ := L.rw
  obtain ⟨fDt, fdDt, GDt, bDt, kDt, gDt⟩ := L.dt
  obtain ⟨fSm, fdSm, GSm, bSm, kSm, gSm⟩ := L.sm
  obtain ⟨fAb, fdAb, GAb, bAb, kAb, gAb⟩ := L.ab
  obtain ⟨fWh, fdWh, GWh, bWh, kWh, gWh⟩ := L.wh
  obtain ⟨fFh, fdFh, GFh, bFh, kFh, gFh⟩ := L.fh
  obtain ⟨fFs, fdFs, GFs, bFs, kFs, gFs⟩ := L.fs
  refine F.ok scLw (fun vs H Q E h => ?_) (fun cdv A outer s H vs Q E hr h => ?_)
  · obtain ⟨a, ns, rfl, _⟩ := h
    rfl
  · obtain ⟨a, ns, rfl, hS0, k⟩ := h
    have hr4 : Room 4 (A.deeper (envOfC "law" (defScope sLaw) s.heap.objs.size f cdv)) := hr.mono (by decide)
    have hr3 : Room 3 (A.deeper (envOfC "law" (defScope sLaw) s.heap.objs.size f cdv)) := hr.mono (by decide)
    have hr2 : Room 2 (A.deeper (envOfC "law" (defScope sLaw) s.heap.objs.size f cdv)) := hr.mono (by decide)
    have hr1 : Room 1 (A.deeper (envOfC "law" (defScope sLaw) s.heap.objs.size f cdv)) := hr.mono (by decide)
    refine ⟨_,
      pss_cons (ps_set (i := 1) scLw.nd rfl (Or.inr rfl) (pe_call GSt hr1 (by rfl) gSt kSt bSt .nil pass0 (pa_cons (pv 0) pa_nil))) <|
      pss_cons (ps_set (i := 2) scLw.nd rfl (Or.inr rfl) (pe_call GTk hr1 (by rfl) gTk kTk bTk .nil pass0 (pa_cons (pv 1) (pa_cons pe_int pa_nil)))) <|
      pss_cons (ps_setLc (i := 4) (own := [("_law_k", 3)]) (g := gName 3) (tt := tYes) rfl scLw.nd rfl rfl (sw_true rfl rfl rfl (by decide +kernel)) (pi_range1 (by rfl) T.range (pa_cons (pe_call (E := E0) GTk hr1 (by rfl) gTk kTk bTk .nil pass0 (pa_cons (pv 1) (pa_cons pe_int pa_nil))) pa_nil)) (blkOk_by (N := NLaw) (sc := defScope sLaw) (by decide +kernel)) (fun _ _ _ _ _ => pg_name (i := 3) scLw.nd rfl (Or.inl rfl)) (fun _ _ _ _ _ => pts_nil)
          (fun _ _ _ _ _ => pe_call (E := E0) GRw hr4 (by rfl) gRw kRw bRw .nil pass0 (pa_cons (pv 1) (pa_cons (pv 2) pa_nil)))) <|
      pss_cons (ps_set (i := 5) scLw.nd rfl (Or.inl rfl) (pe_call GTk hr1 (by rfl) gTk kTk bTk .nil pass0 (pa_cons (pv 1) (pa_cons pe_int pa_nil)))) <|
      pss_cons (ps_set (i := 6) scLw.nd rfl (Or.inl rfl) (pe_call GRw hr4 (by rfl) gRw kRw bRw .nil pass0 (pa_cons (pv 1) (pa_cons (pv 2) pa_nil)))) <|
      Evl.pss_cut (ps_if (pt_cmpR op_eq (pv 5) pe_int (nomark _))
        (pss_cons (ps_setLc (i := 7) (own := [("_law_c", 11)]) (g := gName 11) (tt := tYes) rfl scLw.nd rfl rfl (sw_true rfl rfl rfl (by decide +kernel)) (pi_list (pv 4)) (blkOk_by (N := NLaw) (sc := defScope sLaw) (by decide +kernel)) (fun _ _ _ _ _ => pg_name (i := 11) scLw.nd rfl (Or.inl rfl)) (fun _ _ _ _ _ => pts_nil)
            (fun _ _ _ _ _ => pe_call (E := E0) GFr hr2 (by rfl) gFr kFr bFr .nil pass0 (pa_cons (pe_call (E := E0) GTk hr1 (by rfl) gTk kTk bTk .nil pass0 (pa_cons (pv 1) (pa_cons pe_int pa_nil))) (pa_cons (pe_op op_add pe_int (pe_call (E := E0) GTk hr1 (by rfl) gTk kTk bTk .nil pass0 (pa_cons (pv 1) (pa_cons pe_int pa_nil)))) pa_nil)))) <|
         pss_one (ps_set (i := 6) scLw.nd rfl (Or.inl rfl) (pe_call GSm hr4 (by rfl) gSm kSm bSm .nil pass0 (pa_cons (pv 4) (pa_cons (pv 7) (pa_cons (pv 2) pa_nil)))))) pss_nil) <|
      pss_cons (ps_set (i := 8) scLw.nd rfl (Or.inl rfl) (pe_call GRw hr4 (by rfl) gRw kRw bRw .nil pass0 (pa_cons (pv 1) (pa_cons (pv 2) pa_nil)))) <|
      Evl.pss_cut (ps_if (PW.pt (pw_and (pt_cmpR op_eq (pv 5) pe_int (nomark _)) (pw_and1 (pt_val (pe_call GAb hr1 (by rfl) gAb kAb bAb .nil pass0 (pa_cons (pe_call (E := E0) GDt hr4 (by rfl) gDt kDt bDt .nil pass0 (pa_cons (pv 8) (pa_cons (pv 8) pa_nil))) pa_nil))))))
        (pss_cons (ps_set (i := 6) scLw.nd rfl (Or.inl rfl) (pv 8)) <|
         pss_one (ps_for PassesOwn.never rfl (pi_range1 (by rfl) T.range (pa_cons (pe_callB call_len_seq (by rfl) T.len PySem.boot_len (pa_cons (pv 4) pa_nil)) pa_nil)) (pg_name (i := 3) scLw.nd rfl (Or.inl rfl))
          (pss_one (ps_if (pt_val (pe_call GAb hr1 (by rfl) gAb kAb bAb .nil pass0 (pa_cons (pe_call (E := E0) GDt hr4 (by rfl) gDt kDt bDt .nil pass0 (pa_cons (pv 8) (pa_cons (pe_ix ix_list (pv 4) (pv 3) (fun _ _ => rfl)) pa_nil))) pa_nil)))
            (pss_one (ps_asg (pe_lc (own := [("_law_x", 12)]) (g := gName 12) (tt := tYes) rfl scLw.nd (pi_list (pe_ix ix_list (pv 4) (pv 3) (fun _ _ => rfl))) (blkOk_by (N := NLaw) (sc := defScope sLaw) (by decide +kernel)) (fun _ _ _ _ _ => pg_name (i := 12) scLw.nd rfl (Or.inl rfl)) (fun _ _ _ _ _ => pts_nil)
                (fun _ _ _ _ _ => pe_tup (pa_cons (pe_un un_neg (pe_ix (r := rIxT K) ix_tup (pv 12) pe_int (fun _ _ => rfl))) (pa_cons (pe_ix (r := rIxT K) ix_tup (pv 12) pe_int (fun _ _ => rfl)) pa_nil)))) (pg_sub (pv 4) (pv 3) set_list))) pss_nil))))
        (pss_one (ps_if (pt_cmpR op_eq (pv 5) pe_int (nomark _)) (pss_one (ps_set (i := 5) scLw.nd rfl (Or.inl rfl) pe_int)) pss_nil))) <|
      Evl.pss_cut (ps_set (i := 9) scLw.nd rfl (Or.inl rfl) (pe_call GFs hr4 (by rfl) gFs kFs bFs .nil pass0 (pa_cons
          (pe_lc (own := [("_law_c", 11)]) (g := gName 11) (tt := tYes) rfl scLw.nd (pi_list (pv 4)) (blkOk_by (N := NLaw) (sc := defScope sLaw) (by decide +kernel)) (fun _ _ _ _ _ => pg_name (i := 11) scLw.nd rfl (Or.inl rfl)) (fun _ _ _ _ _ => pts_nil)
            (fun _ _ _ _ _ => pe_call (E := E0) GRr hr3 (by rfl) gRr kRr bRr .nil pass0 (pa_cons (pv 11) pa_nil)))
          (pa_cons (pe_call (E := E0) GRr hr3 (by rfl) gRr kRr bRr .nil pass0 (pa_cons (pv 6) pa_nil)) pa_nil)))) <|
      pss_cons (ps_if (PW.pt (pw_or (pt_not (pt_val (pe_callB call_isi (by rfl) T.isi (by decide +kernel) (pa_cons (pv 9) (pa_cons (pe_bltn (v := .ty "tuple") (u := .type "tuple") (by rfl) T.tuple (by decide +kernel) rfl) pa_nil)))))
          (pw_or1 (pt_cmpR op_ne (pe_callB call_len_seq (by rfl) T.len PySem.boot_len (pa_cons (pv 9) pa_nil)) pe_int (nomark _))))) (pss_one (ps_ret pe_bl)) pss_nil) <|
      Evl.pss_cut (ps_if (pt_cmpR op_eq (pe_ix ix_tup (pv 9) pe_int (fun _ _ => rfl)) pe_str (nomark _))
        (pss_one (ps_if (PW.pt (pw_or (pt_not (pt_val (pe_call GWh hr (by rfl) gWh kWh bWh .nil pass0 (pa_cons (pv 4) (pa_cons (pv 6) (pa_cons (pe_ix ix_tup (pv 9) pe_int (fun _ _ => rfl)) pa_nil))))))
          (pw_or1 (pt_cmpR op_eq (pv 5) pe_int (nomark _))))) (pss_one (ps_ret pe_bl)) pss_nil))
        (pss_one (ps_if (PW.pt (pw_or (pt_cmpR op_ne (pe_ix ix_tup (pv 9) pe_int (fun _ _ => rfl)) pe_str (nomark _)) (pw_or (pt_not (pt_val (pe_call GFh hr (by rfl) gFh kFh bFh .nil pass0 (pa_cons (pv 4) (pa_cons (pv 6) (pa_cons (pe_ix ix_tup (pv 9) pe_int (fun _ _ => rfl)) pa_nil))))))
          (pw_or1 (pt_cmpR op_eq (pv 5) pe_int (nomark _)))))) (pss_one (ps_ret pe_bl)) pss_nil))) <|
      pss_cons (ps_set (i := 10) scLw.nd rfl (Or.inl rfl) (pe_call GFs hr4 (by rfl) gFs kFs bFs .nil pass0 (pa_cons (pe_callTy call_tuple_of (by rfl) T.tuple (by decide +kernel) (pa_cons
          (pe_lc (own := [("_law_c", 11)]) (g := gName 11) (tt := tYes) rfl scLw.nd (pi_list (pv 4)) (blkOk_by (N := NLaw) (sc := defScope sLaw) (by decide +kernel)) (fun _ _ _ _ _ => pg_name (i := 11) scLw.nd rfl (Or.inl rfl)) (fun _ _ _ _ _ => pts_nil)
            (fun _ _ _ _ _ => pe_call (E := E0) GRr hr3 (by rfl) gRr kRr bRr .nil pass0 (pa_cons (pv 11) pa_nil))) pa_nil))
          (pa_cons (pe_call (E := E0) GRr hr3 (by rfl) gRr kRr bRr .nil pass0 (pa_cons (pv 6) pa_nil)) pa_nil)))) <|
      pss_one (ps_ret (pe_and (pe_callB call_isi (by rfl) T.isi (by decide +kernel) (pa_cons (pv 10) (pa_cons (pe_bltn (v := .ty "tuple") (u := .type "tuple") (by rfl) T.tuple (by decide +kernel) rfl) pa_nil)))
        (pe_and (pe_cmpR op_eq (pe_callB call_len_seq (by rfl) T.len PySem.boot_len (pa_cons (pv 10) pa_nil)) pe_int (nomark _))
          (pe_one (pe_cmpR op_eq (pe_ix ix_tup (pv 10) pe_int (fun _ _ => rfl)) (pe_ix ix_tup (pv 9) pe_int (fun _ _ => rfl)) (nomark _)))))), ?_⟩
    -- the state, the size
    refine ⟨_, rfl, a, ns, rfl, hS0, fun H1 S x y s1 hSn hS1 => ?_⟩
    refine ⟨_, rfl, S, x, y, 5, rfl, hS1, by decide, by decide, fun v x1 y1 v0 v1 => ?_⟩
    obtain ⟨m, rfl⟩ : ∃ m : Nat, v = (m : Int) := ⟨v.toNat, by omega⟩
    have hm : m ≤ 4 := by omega
    -- the columns
    refine ⟨_, rfl, S, x1, y1, 6, rfl, upd_same, by decide, by decide, fun v x2 y2 v0' v1' => ?_⟩
    obtain ⟨n, rfl⟩ : ∃ n : Nat, v = (n : Int) := ⟨v.toNat, by omega⟩
    have hn : n ≤ 5 := by omega
    refine ⟨_, rfl, by omega, by omega, fun c hc => ?_⟩
    have hS3 : (upd (upd H1 S (.lst [.int x1, .int y1])) S (.lst [.int x2, .int y2])) S = some (.lst [.int x2, .int y2]) := upd_same
    revert hc hS3
    generalize upd (upd H1 S (.lst [.int x1, .int y1])) S (.lst [.int x2, .int y2]) = H3
    intro hc hS3
    have ncS : c ≠ S := fun z => by rw [z, hS3] at hc; cases hc
    refine lc_range (lo := 0) (fun i H4 => (∃ x y : Int, H4 S = some (.lst [.int x, .int y])) ∧ ∃ (p : Nat → Addr) (q : Nat → Nat → Rat), H4 c = some (.lst (VL i fun t => .ref (p t))) ∧ ∀ j, j < i → p j ≠ c ∧ p j ≠ S ∧ PRow H4 (p j) m (q j) ∧ ∀ i, i < m → Sml (q j i))
      ⟨⟨x2, y2, by rw [upd_ne ncS.symm]; exact hS3⟩, fun _ => 0, fun _ _ => 0, upd_same, fun j hj => by omega⟩ ?_ ?_
    · rintro i H4 hi ⟨⟨x3, y3, hS4⟩, p, q, hc4, hp⟩
      refine ⟨rfl, yesT ?_⟩
      refine ⟨_, rfl, _, rfl, S, x3, y3, m, rfl, by omega, hS4, fun H5 r q' x4 y4 s5 hS5 hr5 hP5 hs5 => ?_⟩
      have hc5 := s5 _ _ ncS hc4
      have nrc : r ≠ c := fun z => by rw [z, hc4] at hr5; cases hr5
      have nrS : r ≠ S := fun z => by rw [z, hS4] at hr5; cases hr5
      refine ⟨_, hc5, by rw [VL_len]; exact small1000 (by omega), ⟨x4, y4, by rw [upd_ne ncS.symm]; exact hS5⟩, fset p i r, qset q i q', by rw [upd_same, VL_fset], fun j hj => ?_⟩
      by_cases e : j = i
      · subst e
        rw [fset_same, qset_same]
        exact ⟨nrc, nrS, hP5.own nrc hc5, hs5⟩
      · rw [fset_ne e, qset_ne e]
        obtain ⟨a1, a2, a3, a4⟩ := hp j (by omega)
        exact ⟨a1, a2, (a3.sameX a2 hS4 s5).own a1 hc5, a4⟩
    · rintro H4 ⟨⟨x3, y3, hS4⟩, p, cs, hc4, hp⟩
      rw [show ((n : Nat) : Int).toNat = n by omega] at hc4 hp
      have hcs : ∀ j, j < n → ∀ i, i < m → Sml (cs j i) := fun j hj => (hp j hj).2.2.2
      have L4 : LS S c m n cs H4 := ⟨⟨x3, y3, hS4⟩, ncS, p, hc4, fun j hj => ⟨(hp j hj).1, (hp j hj).2.1, (hp j hj).2.2.1⟩⟩
      -- the kind, the right side
      refine ⟨_, rfl, S, x3, y3, 3, rfl, hS4, by decide, by decide, fun κ x4 y4 κ0 κ1 => ?_⟩
      have L5 : LS S c m n cs (upd H4 S (.lst [.int x4, .int y4])) := L4.sameX ((Same.x (Same.refl H4)).own) ⟨x4, y4, upd_same⟩
      have hS5 : (upd H4 S (.lst [.int x4, .int y4])) S = some (.lst [.int x4, .int y4]) := upd_same
      revert L5 hS5
      generalize upd H4 S (.lst [.int x4, .int y4]) = H5
      intro L5 hS5
      refine ⟨_, rfl, _, rfl, S, x4, y4, m, rfl, by omega, hS5, fun H6 R r x5 y5 s6 hS6 hR hPR hsr => ?_⟩
      have L6 := L5.sameX s6 ⟨x5, y5, hS6⟩
      have nRS : R ≠ S := fun z => by rw [z, hS5] at hR; cases hR
      -- kind 0: the sum of multiples
      refine ⟨fun σ H7 => LS S c m n cs H7 ∧ ∃ (R : Addr) (r : Nat → Rat) (z0 z3 z7 z8 z9 z10 z11 z12 : Option V), R ≠ S ∧ PRow H7 R m r ∧ (∀ i, i < m → Sm 36 (r i)) ∧ (κ = 0 → ∃ ws, K5.IsWgt m n cs r ws) ∧
          σ = [z0, some (.ref S), some (.int (m : Int)), z3, some (.ref c), some (.int κ), some (.ref R), z7, z8, z9, z10, z11, z12], ?_, ?_⟩
      · refine ⟨_, rfl, rfl, _, rfl, ite2 (fun z => ?_) (fun z => ?_)⟩
        · obtain ⟨pc, hC6, hpc⟩ := L6.co
          refine ⟨_, rfl, c, rfl, ⟨_, .inl (.inl hC6)⟩, fun D hD => ?_⟩
          have nDS : D ≠ S := fun z => by rw [z, hS6] at hD; cases hD
          refine lc_list (K := K) (a := c) (xs := VL n fun j => .ref (pc j)) (fun i H7 => SameX S H6 H7 ∧ (∃ x y : Int, H7 S = some (.lst [.int x, .int y])) ∧ ∃ (b : Nat → Addr) (ws : Nat → Rat), H7 D = some (.lst (VL i fun t => .ref (b t))) ∧ ∀ j, j < i → PairAt H7 (b j) (ws j) ∧ Sm 3 (ws j) ∧ 0 ≤ ws j)
            ⟨Same.x (same_new hD), ⟨x5, y5, by rw [upd_ne nDS.symm]; exact hS6⟩, fun _ => 0, fun _ => 0, upd_same, fun j hj => by omega⟩ (fun i H7 _ q => .inl (.inl (q.1 _ _ ncS hC6))) ?_ ?_
          · rintro i x H7 hx ⟨s7, ⟨x6, y6, hS7⟩, b, ws, hD7, hb⟩
            obtain ⟨hi, rfl⟩ := VL_inv hx
            refine ⟨rfl, yesT ?_⟩
            refine ⟨_, rfl, S, x6, y6, 5, rfl, hS7, by decide, by decide, fun u x7 y7 u0 u1 => ?_⟩
            refine ⟨_, rfl, S, x7, y7, 3, rfl, upd_same, by decide, by decide, fun t x8 y8 t0 t1 => ⟨_, _, rfl, rfl, ?_⟩⟩
            have hS8 : (upd (upd H7 S (.lst [.int x7, .int y7])) S (.lst [.int x8, .int y8])) S = some (.lst [.int x8, .int y8]) := upd_same
            have s8 : SameX S H7 (upd (upd H7 S (.lst [.int x7, .int y7])) S (.lst [.int x8, .int y8])) := ((Same.x (Same.refl H7)).own).own
            revert hS8 s8
            generalize upd (upd H7 S (.lst [.int x7, .int y7])) S (.lst [.int x8, .int y8]) = H8
            intro hS8 s8
            refine ⟨u, 1 + t, rfl, by omega, ?_, fun H9 e s9 he hPe => ?_⟩
            · have : Bd 3 (1 + t) := by unfold Bd; omega
              exact this.mono (by decide)
            · have hD9 := s9 _ _ (s8 _ _ nDS hD7)
              refine ⟨_, hD9, by rw [VL_len]; exact small1000 (by omega), ((s7.trans s8).trans (Same.x s9)).ownD hD, ⟨x8, y8, by rw [upd_ne nDS.symm]; exact s9 _ _ hS8⟩, fset b i e, rset ws i (Rat.divInt u (1 + t)), by rw [upd_same, VL_fset], fun j hj => ?_⟩
              by_cases ej : j = i
              · subst ej
                rw [fset_same, rset_same]
                refine ⟨hPe.own hD9, Sm.of (by omega) (by unfold Bd; omega) (by unfold Bd; omega), Rat.divInt_nonneg u0 (by omega)⟩
              · rw [fset_ne ej, rset_ne ej]
                obtain ⟨b1, b2, b3⟩ := hb j (by omega)
                exact ⟨((b1.sameX hS7 s8).same s9).own hD9, b2, b3⟩
          · rintro H7 ⟨s7, ⟨x6, y6, hS7⟩, b, ws, hD7, hb⟩
            rw [VL_len] at hD7 hb
            have L7 := L6.sameX s7 ⟨x6, y6, hS7⟩
            refine ⟨_, rfl, _, rfl, _, rfl, c, D, m, n, 3, 3, ws, cs, rfl, L7.cols, ⟨b, hD7, fun j hj => (hb j hj).1⟩, by omega, by omega, by decide, by decide, fun j hj => (hb j hj).2.1, fun j hj i hi => (hcs j hj i hi).sm, by omega, fun H8 R' s8 hR' hP' hs' => ?_⟩
            refine ⟨L7.sameX (Same.x s8) ⟨x6, y6, s8 _ _ hS7⟩, R', fun i => K5.SR n fun j => ws j * cs j i, _, _, _, _, _, _, _, _, (fun z => by rw [z, hS7] at hR'; cases hR'), hP', fun i hi => (hs' i hi).mono (by omega), fun _ => ⟨ws, fun j hj => (hb j hj).2.2, fun i hi => rfl⟩, rfl⟩
        · exact ⟨L6, R, r, _, _, _, _, _, _, _, _, nRS, hPR, fun i hi => (hsr i hi).sm.mono (by decide), fun e => absurd (decide_eq_true (congrArg V.int e)) z, rfl⟩
      · rintro σ H7 ⟨L7, R, r, z0, z3, z7, z8, z9, z10, z11, z12, nRS, hPR, hsr, hk0, rfl⟩
        clear hS6 hR s6 L6 L5 hS5 L4 hS4 hp hc4
        -- the drawn functional
        obtain ⟨x6, y6, hS7⟩ := L7.st
        refine ⟨_, rfl, _, rfl, S, x6, y6, m, rfl, by omega, hS7, fun H8 fu φ x7 y7 s8 hS8 hfu hPf hsf => ?_⟩
        have L8 := L7.sameX s8 ⟨x7, y7, hS8⟩
        have hPR8 := hPR.sameX nRS hS7 s8
        have nfS : fu ≠ S := fun z => by rw [z, hS7] at hfu; cases hfu
        obtain ⟨pc7, hC7, hpc7⟩ := L7.co
        have nfc : fu ≠ c := fun z => by rw [z, hC7] at hfu; cases hfu
        have hsf3 : ∀ i, i < m → Sm 3 (φ i) := fun i hi => (hsf i hi).sm
        -- kind 1: kept apart
        refine ⟨fun σ H9 => ∃ (R : Addr) (r : Nat → Rat) (cs' : Nat → Nat → Rat) (κ' : Int) (z0 z1 z2 z3 z7 z8 z9 z10 z11 z12 : Option V), PCols H9 c n m cs' ∧ (∀ j, j < n → ∀ i, i < m → Sml (cs' j i)) ∧ PRow H9 R m r ∧ (∀ i, i < m → Sm 36 (r i)) ∧ Came κ' m n cs' r ∧
            σ = [z0, z1, z2, z3, some (.ref c), some (.int κ'), some (.ref R), z7, z8, z9, z10, z11, z12], ?_, ?_⟩
        · refine ⟨_, rfl, rfl, _, rfl, ite2 (fun z => ?_) (fun z => ?_)⟩
          · have e1 : κ = 1 := V.int.inj (of_decide_eq_true z)
            refine ⟨_, rfl, _, rfl, fu, fu, m, 3, 3, φ, φ, rfl, hPf, hPf, by omega, by decide, by decide, hsf3, hsf3, by omega, fun H9 u s9 e9 => ⟨u, _, rfl, e9, ?_⟩⟩
            refine ⟨_, rfl, ite2 (fun zp => ?_) (fun zp => ?_)⟩
            · have hpos : 0 < K5.SR m fun i => φ i * φ i := of_decide_eq_true zp
              obtain ⟨pc8, hC8, hpc8⟩ := L8.co
              refine ⟨_, rfl, ?_⟩
              refine ⟨_, rfl, c, _, rfl, .inl (.inl (.inl (s9 _ _ hC8))), _, rfl, by rw [VL_len]; omega, by rw [VL_len]; omega, ?_⟩
              rw [VL_len]
              refine for_range (lo := 0) (fun i σ H10 => (∃ (p : Nat → Addr) (cs' : Nat → Nat → Rat), H10 c = some (.lst (VL n fun j => .ref (p j))) ∧ (∀ j, j < n → p j ≠ c ∧ PRow H10 (p j) m (cs' j) ∧ ∀ i, i < m → Sml (cs' j i)) ∧ ∀ j, j < i → (K5.SR m fun i => φ i * cs' j i) ≤ 0) ∧ PRow H10 fu m φ ∧
                  ∃ z0 z1 z2 z3 z7 z9 z10 z11 z12 : Option V, σ = [z0, z1, z2, z3, some (.ref c), some (.int κ), some (.ref fu), z7, some (.ref fu), z9, z10, z11, z12])
                ⟨⟨pc8, cs, s9 _ _ hC8, fun j hj => ⟨(hpc8 j hj).1, (hpc8 j hj).2.2.same s9, hcs j hj⟩, fun j hj => by omega⟩, hPf.same s9, _, _, _, _, _, _, _, _, _, rfl⟩ ?_ ?_
              · rintro i σ H10 hi ⟨⟨p, cs', hC10, hp10, hle⟩, hPf10, w0, w1, w2, w3, w7, w9, w10, w11, w12, rfl⟩
                replace hi : i < n := by omega
                rw [show (0 : Int) + (i : Int) = (i : Int) by omega]
                obtain ⟨npc, hPi, hsi⟩ := hp10 i hi
                refine ⟨_, rfl, _, rfl, _, rfl, c, _, _, _, rfl, rfl, .inl (.inl hC10), VL_at hi, fu, p i, m, 3, 3, φ, cs' i, rfl, hPf10, hPi, by omega, by decide, by decide, hsf3, fun l hl => (hsi l hl).sm, by omega, fun H11 u2 s11 e11 => ⟨u2, _, rfl, e11, _, rfl, ite2 (fun y => ?_) (fun y => ?_)⟩⟩
                · have hgt : 0 < K5.SR m fun l => φ l * cs' i l := of_decide_eq_true y
                  have hC11 := s11 _ _ hC10
                  obtain ⟨ai, hA1, hA2⟩ := hPi.same s11
                  refine ⟨_, rfl, _, rfl, c, _, _, _, rfl, rfl, .inl (.inl hC11), VL_at hi, p i, rfl, ⟨_, .inl (.inl hA1)⟩, fun D hD => ?_⟩
                  have nDc : D ≠ c := fun z => by rw [z, hC11] at hD; cases hD
                  refine lc_list (K := K) (a := p i) (xs := VL m fun l => .ref (ai l)) (fun t H12 => Same H11 H12 ∧ ∃ b : Nat → Addr, H12 D = some (.lst (VL t fun l => .ref (b l))) ∧ ∀ l, l < t → PairAt H12 (b l) (-(cs' i l))) ⟨same_new hD, fun _ => 0, upd_same, fun l hl => by omega⟩ (fun t H12 _ q => .inl (.inl (q.1 _ _ hA1))) ?_ ?_
                  · rintro t x H12 hx ⟨s12, b, hD12, hb⟩
                    obtain ⟨ht, rfl⟩ := VL_inv hx
                    have h1 : SqT K H12 (ai t) [.int (cs' i t).num, .int ((cs' i t).den : Int)] := .inl (.inl (s12 _ _ (hA2 t ht)))
                    refine ⟨rfl, yesT ?_⟩
                    refine ⟨_, rfl, ai t, _, _, _, rfl, rfl, h1, atI_nat (j := 0) rfl, _, rfl, _, rfl, ai t, _, _, _, rfl, rfl, h1, atI_nat (j := 1) rfl, by show 2 ≤ sizeLine; decide, fun e he => ?_⟩
                    have hD13 := same_new (o := .tup [.int (-(cs' i t).num), .int ((cs' i t).den : Int)]) he _ _ hD12
                    refine ⟨_, hD13, by rw [VL_len]; exact small1000 (by omega), same_own (s12.trans (same_new he)) hD, fset b t e, by rw [upd_same, VL_fset], fun l hl => ?_⟩
                    by_cases el : l = t
                    · subst el
                      rw [fset_same]
                      exact PairAt.own (H := upd H12 e (.tup [.int (-(cs' i l).num), .int ((cs' i l).den : Int)])) (q := -(cs' i l)) upd_same hD13
                    · rw [fset_ne el]
                      exact ((hb l (by omega)).same (same_new he)).own hD13
                  · rintro H12 ⟨s12, b, hD12, hb⟩
                    rw [VL_len] at hD12 hb
                    have hC12 := s12 _ _ hC11
                    refine ⟨_, rfl, _, rfl, c, _, _, i, rfl, rfl, hC12, by rw [VL_len]; exact Evl.ixN_nat hi, ⟨fset p i D, qset cs' i (fun l => -(cs' i l)), ?_, fun j hj => ?_, fun j hj => ?_⟩, ((hPf10.same s11).same s12).own nfc hC12, _, _, _, _, _, _, _, _, _, rfl⟩
                    · rw [upd_same, VL_set]
                      refine congrArg (fun l => some (HO.lst l)) (VL_congr fun j _ => ?_)
                      show (if j = i then V.ref D else V.ref (p j)) = V.ref (if j = i then D else p j)
                      split <;> rfl
                    · by_cases ej : j = i
                      · subst ej
                        rw [fset_same, qset_same]
                        exact ⟨nDc, PRow.own ⟨b, hD12, hb⟩ nDc hC12, fun l hl => (hsi l hl).neg⟩
                      · rw [fset_ne ej, qset_ne ej]
                        obtain ⟨a1, a2, a3⟩ := hp10 j hj
                        exact ⟨a1, ((a2.same s11).same s12).own a1 hC12, a3⟩
                    · by_cases ej : j = i
                      · subst ej
                        rw [qset_same, SR_neg]
                        have := Rat.le_of_lt hgt
                        grind
                      · rw [qset_ne ej]
                        exact hle j (by omega)
                · have hng : (K5.SR m fun l => φ l * cs' i l) ≤ 0 := Rat.not_lt.mp fun z => y (decide_eq_true z)
                  refine ⟨⟨p, cs', s11 _ _ hC10, fun j hj => ?_, fun j hj => ?_⟩, hPf10.same s11, _, _, _, _, _, _, _, _, _, rfl⟩
                  · obtain ⟨a1, a2, a3⟩ := hp10 j hj
                    exact ⟨a1, a2.same s11, a3⟩
                  · by_cases ej : j = i
                    · subst ej; exact hng
                    · exact hle j (by omega)
              · rintro σ H10 ⟨⟨p, cs', hC10, hp10, hle⟩, hPf10, w0, w1, w2, w3, w7, w9, w10, w11, w12, rfl⟩
                rw [show ((n : Nat) : Int).toNat = n by omega] at hle
                exact ⟨fu, φ, cs', κ, _, _, _, _, _, _, _, _, _, _, ⟨p, hC10, fun j hj => (hp10 j hj).2.1⟩, fun j hj => (hp10 j hj).2.2, hPf10, fun i hi => (hsf3 i hi).mono (by decide), ⟨fun e => by omega, fun _ => ⟨φ, hle, hpos⟩⟩, rfl⟩
            · refine ⟨_, rfl, rfl, _, rfl, ite2 (fun _ => ?_) (fun y => absurd z y)⟩
              exact ⟨R, r, cs, 2, _, _, _, _, _, _, _, _, _, _, L8.cols.same s9, hcs, hPR8.same s9, hsr, ⟨fun e => absurd e (by decide), fun e => absurd e (by decide)⟩, rfl⟩
          · refine ⟨_, rfl, rfl, _, rfl, ite2 (fun y => absurd y z) (fun y => ?_)⟩
            exact ⟨R, r, cs, κ, _, _, _, _, _, _, _, _, _, _, L8.cols, hcs, hPR8, hsr, ⟨hk0, fun e => absurd (decide_eq_true (congrArg V.int e)) z⟩, rfl⟩
        · rintro σ H9 ⟨R', r', cs', κ', w0, w1, w2, w3, w7, w8, w9, w10, w11, w12, hC9, hcs9, hR9, hsr9, came, rfl⟩
          clear hk0 hsf3 hsf hPf hfu hPR8 L8 s8 hS8 hS7 L7 hPR hsr nRS hpc7 hC7
          have fits := dens_fit hm hn hcs9 hsr9
          obtain ⟨pc9, hC9a, hC9b⟩ := id hC9
          have rb : ∀ i, i < m → Bd 9000 ((r' i).den : Int) := fun i hi => (hsr9 i hi).d.mono (by decide)
          -- told
          refine ⟨fun σ H10 => ∃ (t p : Addr) (zs : Str) (z0 z1 z2 z3 z7 z8 z10 z11 z12 : Option V), Same H9 H10 ∧ H10 t = some (.tup [.str zs, .ref p]) ∧
              ((zs = "functional" ∧ ∃ (b : Nat → Addr) (y : Nat → Rat), H10 p = some (.tup (VL m fun i => .ref (b i))) ∧ (∀ i, i < m → RatAt C H10 (b i) (y i) ∧ Sm 775 (y i)) ∧ K5.IsFun m n cs' r' y) ∨
               (zs = "weights" ∧ ∃ (b : Nat → Addr) (y : Nat → Rat), H10 p = some (.tup (VL n fun i => .ref (b i))) ∧ (∀ i, i < n → RatAt C H10 (b i) (y i) ∧ Sm 775 (y i)) ∧ K5.IsWgt m n cs' r' y)) ∧
              σ = [z0, z1, z2, z3, some (.ref c), some (.int κ'), some (.ref R'), z7, z8, some (.ref t), z10, z11, z12], ?_, ?_⟩
          · refine ⟨_, rfl, c, rfl, ⟨_, .inl (.inl hC9a)⟩, fun D hD => rr_comp (C := C) (m := m) hD (by omega) (by omega) hC9a hC9b hcs9 (fun _ => rfl) (fun _ => rfl) fun H10 pt pe s10 hD10 hpt => ?_⟩
            refine ⟨_, rfl, R', m, r', rfl, hR9.same s10, by omega, rb, fun H11 rt pr s11 hrt hpr => ?_⟩
            have s911 := s10.trans s11
            refine ⟨D, rt, m, n, cs', r', pt, pe, pr, rfl, ⟨.inl (.inl (.inl (s11 _ _ hD10))), fun j hj => .inl (.inl (s11 _ _ (hpt j hj).1)), fun j hj i hi => ((hpt j hj).2 i hi).same s11, .inl (.inl hrt), hpr⟩, fits, fun H12 t p b y s12 ht hp hb hF => ?_, fun H12 t p b y s12 ht hp hb hW => ?_⟩
            · exact ⟨t, p, "functional", _, _, _, _, _, _, _, _, _, s911.trans s12, ht, .inl ⟨rfl, b, y, hp, hb, hF⟩, rfl⟩
            · exact ⟨t, p, "weights", _, _, _, _, _, _, _, _, _, s911.trans s12, ht, .inr ⟨rfl, b, y, hp, hb, hW⟩, rfl⟩
          · rintro σ H10 ⟨t, p, zs, v0, v1, v2, v3, v7, v8, v10, v11, v12, s10, ht, hz, rfl⟩
            have sT : SqT K H10 t [.str zs, .ref p] := .inl (.inl ht)
            refine ⟨_, rfl, _, _, _, _, true, rfl, .ty "tuple", .base (.tup ht), kit_ty (by decide +kernel), true, rfl, iteF ?_⟩
            refine ⟨_, rfl, t, _, rfl, .inr sT, rfl, _, rfl, iteNS rfl ?_⟩
            have fw : decide (V.str ("functional" : Str) = V.str "weights") = false := decide_eq_false fun z => absurd (V.str.inj z) (by decide +kernel)
            have wf : decide (V.str ("weights" : Str) = V.str "functional") = false := decide_eq_false fun z => absurd (V.str.inj z) (by decide +kernel)
            -- the answer holds
            refine ⟨fun σ H11 => ∃ z0 z1 z2 z3 z7 z8 z10 z11 z12 : Option V, Same H10 H11 ∧ σ = [z0, z1, z2, z3, some (.ref c), some (.int κ'), some (.ref R'), z7, z8, some (.ref t), z10, z11, z12], ?_, ?_⟩
            · rcases hz with ⟨rfl, b, y, hp, hb, hF⟩ | ⟨rfl, b, y, hp, hb, hW⟩
              · refine ⟨_, rfl, t, _, _, _, rfl, rfl, sT, atI_nat (j := 0) rfl, rfl, _, rfl, ?_⟩
                rw [fw]
                refine iteF ?_
                refine ⟨_, rfl, t, _, _, _, rfl, rfl, sT, atI_nat (j := 0) rfl, rfl, _, rfl, iteNS rfl ?_⟩
                refine ⟨_, rfl, _, rfl, _, rfl, t, _, _, _, rfl, rfl, sT, atI_nat (j := 1) rfl, c, R', p, m, n, 775, 36, cs', r', y, b, rfl, hC9.same s10, hR9.same s10, hp, fun i hi => (hb i hi).1, by omega, by omega, by decide, by decide, fun i hi => (hb i hi).2, fun j hj i hi => (hcs9 j hj i hi).sm.mono (by decide), hsr9, by omega, hF, fun H11 s11 => ⟨true, rfl, iteF ?_⟩⟩
                refine ⟨_, rfl, rfl, _, rfl, ite2 (fun e => ?_) (fun _ => ?_)⟩
                · obtain ⟨ws, hW⟩ := came.1 (V.int.inj (of_decide_eq_true e))
                  exact (K5.not_both hF hW).elim
                · exact ⟨_, _, _, _, _, _, _, _, _, s11, rfl⟩
              · refine ⟨_, rfl, t, _, _, _, rfl, rfl, sT, atI_nat (j := 0) rfl, rfl, _, rfl, ?_⟩
                rw [decide_eq_true rfl]
                refine iteT ?_
                refine ⟨_, rfl, _, rfl, _, rfl, t, _, _, _, rfl, rfl, sT, atI_nat (j := 1) rfl, c, R', p, m, n, 775, 3, cs', r', y, b, rfl, hC9.same s10, hR9.same s10, hp, fun i hi => (hb i hi).1, by omega, by omega, by decide, by decide, fun i hi => (hb i hi).2, fun j hj i hi => (hcs9 j hj i hi).sm, by omega, hW, fun H11 s11 => ⟨true, rfl, iteF ?_⟩⟩
                refine ⟨_, rfl, rfl, _, rfl, ite2 (fun e => ?_) (fun _ => ?_)⟩
                · obtain ⟨ys, hF⟩ := came.2 (V.int.inj (of_decide_eq_true e))
                  exact (K5.not_both hF hW).elim
                · exact ⟨_, _, _, _, _, _, _, _, _, s11, rfl⟩
            · rintro σ H11 ⟨u0, u1, u2, u3, u7, u8, u10, u11, u12, s11, rfl⟩
              have s911 := s10.trans s11
              have ht11 := s11 _ _ ht
              -- asked again
              refine ⟨_, rfl, c, rfl, ⟨_, .inl (.inl (s911 _ _ hC9a))⟩, fun D hD => rr_comp (C := C) (m := m) hD (by omega) (by omega) (s911 _ _ hC9a) (fun j hj => (hC9b j hj).same s911) hcs9 (fun _ => rfl) (fun _ => rfl) fun H12 pt pe s12 hD12 hpt => ?_⟩
              refine ⟨D, _, rfl, .inl ⟨.inl (.inl hD12), fun l hl => ?_⟩⟩
              have s13 := same_new (o := .tup (VL n fun j => V.ref (pt j))) hl
              refine ⟨_, rfl, R', m, r', rfl, ((hR9.same s911).same s12).same s13, by omega, rb, fun H14 rt pr s14 hrt hpr => ?_⟩
              have s1214 := s13.trans s14
              have s1114 := s12.trans s1214
              have fin : ∀ (H15 : Hp) (t2 p2 : Addr), Same H14 H15 → H15 t2 = some (.tup [.str zs, .ref p2]) → (tRet (tAndV (tCB (rIsi K) (tCons (tVar 10) (tCons (tC (.ty "tuple")) tNil))) (tAndV (tOp rEq (tCB (fun xs H Q => ∃ p ys, xs = [.ref p] ∧ (SqL K H p ys ∨ SqT K H p ys) ∧ Q (.int ys.length) H) (tCons (tVar 10) tNil)) (tC (.int 2))) (tOp rEq (tOp (rIxT K) (tVar 10) (tC (.int 0))) (tOp (rIxT K) (tVar 9) (tC (.int 0))))))) { nx := fun _ H' => Q .non H', rt := Q }
                  [u0, u1, u2, u3, some (.ref c), some (.int κ'), some (.ref R'), u7, u8, some (.ref t), some (.ref t2), u11, u12] H15 := fun H15 t2 p2 s15 ht2 => by
                have sT2 : SqT K H15 t2 [.str zs, .ref p2] := .inl (.inl ht2)
                have sT1 : SqT K H15 t [.str zs, .ref p] := .inl (.inl (s15 _ _ (s1114 _ _ ht11)))
                refine ⟨_, rfl, _, _, _, _, true, rfl, .ty "tuple", .base (.tup ht2), kit_ty (by decide +kernel), true, rfl, iteT ?_⟩
                refine ⟨_, rfl, t2, _, rfl, .inr sT2, rfl, true, rfl, iteT ?_⟩
                refine ⟨_, rfl, t2, _, _, _, rfl, rfl, sT2, atI_nat (j := 0) rfl, _, rfl, t, _, _, _, rfl, rfl, sT1, atI_nat (j := 0) rfl, rfl, ?_⟩
                rw [decide_eq_true rfl]
                exact k H15
              refine ⟨l, rt, m, n, cs', r', pt, pe, pr, rfl, ⟨.inr (.inl (.inl (s14 _ _ upd_same))), fun j hj => .inl (.inl (s1214 _ _ (hpt j hj).1)), fun j hj i hi => ((hpt j hj).2 i hi).same s1214, .inl (.inl hrt), hpr⟩, fits, fun H15 t2 p2 b y s15 ht2 hp2 hb hF2 => ?_, fun H15 t2 p2 b y s15 ht2 hp2 hb hW2 => ?_⟩
              · rcases hz with ⟨rfl, _⟩ | ⟨rfl, b', y', _, _, hW⟩
                · exact fin H15 t2 p2 s15 ht2
                · exact (K5.not_both hF2 hW).elim
              · rcases hz with ⟨rfl, b', y', _, _, hF⟩ | ⟨rfl, _⟩
                · exact (K5.not_both hF hW2).elim
                · exact fin H15 t2 p2 s15 ht2
end
end K5W
set_option Elab.async false
set_option linter.all false
set_option maxRecDepth 100000
set_option maxHeartbeats 4000000
namespace K5W
open PySem PySem.Spec PyProof.Rows L2
/-! ### what the top has written -/
theorem all_mk {l : PySem.W.OpenLaw} {w : World} {K : PySem.W.Frag} {h : Heap} {mg : Str → Option Value} {fa C T0 f_ze f_fa f_sr f_co f_le f_su f_fe f_st f_tk f_gc f_fr f_pl f_ti f_rr f_po f_ar f_sm f_rw f_dt f_so f_ab f_wh f_fh f_lw f_in f_sg : Addr} {od_ze od_fa od_sr od_co od_le od_su od_fe od_st od_tk od_gc od_fr od_pl od_ti od_rr od_po od_ar od_sm od_rw od_dt od_so od_ab od_wh od_fh od_lw od_in od_sg : Option Addr} {an_ze an_fa an_sr an_co an_le an_su an_fe an_st an_tk an_gc an_fr an_pl an_ti an_rr an_po an_ar an_sm an_rw an_dt an_so an_ab an_wh an_fh an_lw an_in an_sg : Option Addr} {sl_ze sl_fa sl_sr sl_co sl_le sl_su sl_fe sl_st sl_tk sl_gc sl_fr sl_pl sl_ti sl_rr sl_po sl_ar sl_sm sl_rw sl_dt sl_so sl_ab sl_wh sl_fh sl_lw sl_in sl_sg : Array (Option Value)} {oc_ze kV_ze dc_ze pm_ze cd_ze ct_ze oc_fa kV_fa dc_fa pm_fa cd_fa ct_fa oc_sr kV_sr dc_sr pm_sr cd_sr ct_sr oc_co kV_co dc_co pm_co cd_co ct_co oc_le kV_le dc_le pm_le cd_le ct_le oc_su kV_su dc_su pm_su cd_su ct_su oc_fe kV_fe dc_fe pm_fe cd_fe ct_fe oc_st kV_st dc_st pm_st cd_st ct_st oc_tk kV_tk dc_tk pm_tk cd_tk ct_tk oc_gc kV_gc dc_gc pm_gc cd_gc ct_gc oc_fr kV_fr dc_fr pm_fr cd_fr ct_fr oc_pl kV_pl dc_pl pm_pl cd_pl ct_pl oc_ti kV_ti dc_ti pm_ti cd_ti ct_ti oc_rr kV_rr dc_rr pm_rr cd_rr ct_rr oc_po kV_po dc_po pm_po cd_po ct_po oc_ar kV_ar dc_ar pm_ar cd_ar ct_ar oc_sm kV_sm dc_sm pm_sm cd_sm ct_sm oc_rw kV_rw dc_rw pm_rw cd_rw ct_rw oc_dt kV_dt dc_dt pm_dt cd_dt ct_dt oc_so kV_so dc_so pm_so cd_so ct_so oc_ab kV_ab dc_ab pm_ab cd_ab ct_ab oc_wh kV_wh dc_wh pm_wh cd_wh ct_wh oc_fh kV_fh dc_fh pm_fh cd_fh ct_fh oc_lw kV_lw dc_lw pm_lw cd_lw ct_lw oc_in kV_in dc_in pm_in cd_in ct_in oc_sg kV_sg dc_sg pm_sg cd_sg ct_sg : Value} {odT : Option Addr} {slT : Array (Option Value)} {nT : Nat} {u1 : Tok}
    (X : K.In h) (G : h.Ns mainGlobals mg) (hfa : mg "law" = some (.ref fa))
    (a_C : PySem.W.nsIn K mainGlobals "Ratio" = some (some (.ref C)))
    (a_ze : PySem.W.nsIn K mainGlobals "zero" = some (some (.ref f_ze)))
    (l_ze : K.lookup f_ze = some ⟨oc_ze, od_ze, .func (PySem.W.fnOf "zero" "zero" (defArgs sZero) (defBody sZero) (defScope sZero) .none kV_ze dc_ze pm_ze an_ze cd_ze ct_ze), sl_ze⟩)
    (c_ze : PySem.W.codeIn K cd_ze "zero" = true)
    (k_ze : PySem.W.keepIn K (.ref f_ze) = true)
    (a_fa : PySem.W.nsIn K mainGlobals "row_factor" = some (some (.ref f_fa)))
    (l_fa : K.lookup f_fa = some ⟨oc_fa, od_fa, .func (PySem.W.fnOf "row_factor" "row_factor" (defArgs sFac) (defBody sFac) (defScope sFac) .none kV_fa dc_fa pm_fa an_fa cd_fa ct_fa), sl_fa⟩)
    (c_fa : PySem.W.codeIn K cd_fa "row_factor" = true)
    (k_fa : PySem.W.keepIn K (.ref f_fa) = true)
    (a_sr : PySem.W.nsIn K mainGlobals "starting" = some (some (.ref f_sr)))
    (l_sr : K.lookup f_sr = some ⟨oc_sr, od_sr, .func (PySem.W.fnOf "starting" "starting" (defArgs sStart) (defBody sStart) (defScope sStart) .none kV_sr dc_sr pm_sr an_sr cd_sr ct_sr), sl_sr⟩)
    (c_sr : PySem.W.codeIn K cd_sr "starting" = true)
    (k_sr : PySem.W.keepIn K (.ref f_sr) = true)
    (a_co : PySem.W.nsIn K mainGlobals "costs" = some (some (.ref f_co)))
    (l_co : K.lookup f_co = some ⟨oc_co, od_co, .func (PySem.W.fnOf "costs" "costs" (defArgs sCost) (defBody sCost) (defScope sCost) .none kV_co dc_co pm_co an_co cd_co ct_co), sl_co⟩)
    (c_co : PySem.W.codeIn K cd_co "costs" = true)
    (k_co : PySem.W.keepIn K (.ref f_co) = true)
    (a_le : PySem.W.nsIn K mainGlobals "leaving" = some (some (.ref f_le)))
    (l_le : K.lookup f_le = some ⟨oc_le, od_le, .func (PySem.W.fnOf "leaving" "leaving" (defArgs sLeave) (defBody sLeave) (defScope sLeave) .none kV_le dc_le pm_le an_le cd_le ct_le), sl_le⟩)
    (c_le : PySem.W.codeIn K cd_le "leaving" = true)
    (k_le : PySem.W.keepIn K (.ref f_le) = true)
    (a_su : PySem.W.nsIn K mainGlobals "subtracted" = some (some (.ref f_su)))
    (l_su : K.lookup f_su = some ⟨oc_su, od_su, .func (PySem.W.fnOf "subtracted" "subtracted" (defArgs sSub) (defBody sSub) (defScope sSub) .none kV_su dc_su pm_su an_su cd_su ct_su), sl_su⟩)
    (c_su : PySem.W.codeIn K cd_su "subtracted" = true)
    (k_su : PySem.W.keepIn K (.ref f_su) = true)
    (a_fe : PySem.W.nsIn K mainGlobals "feasible" = some (some (.ref f_fe)))
    (l_fe : K.lookup f_fe = some ⟨oc_fe, od_fe, .func (PySem.W.fnOf "feasible" "feasible" (defArgs sFeas) (defBody sFeas) (defScope sFeas) .none kV_fe dc_fe pm_fe an_fe cd_fe ct_fe), sl_fe⟩)
    (c_fe : PySem.W.codeIn K cd_fe "feasible" = true)
    (k_fe : PySem.W.keepIn K (.ref f_fe) = true)
    (a_st : PySem.W.nsIn K mainGlobals "_law_state" = some (some (.ref f_st)))
    (l_st : K.lookup f_st = some ⟨oc_st, od_st, .func (PySem.W.fnOf "_law_state" "_law_state" (defArgs sState) (defBody sState) (defScope sState) .none kV_st dc_st pm_st an_st cd_st ct_st), sl_st⟩)
    (c_st : PySem.W.codeIn K cd_st "_law_state" = true)
    (k_st : PySem.W.keepIn K (.ref f_st) = true)
    (a_tk : PySem.W.nsIn K mainGlobals "_law_take" = some (some (.ref f_tk)))
    (l_tk : K.lookup f_tk = some ⟨oc_tk, od_tk, .func (PySem.W.fnOf "_law_take" "_law_take" (defArgs sTake) (defBody sTake) (defScope sTake) .none kV_tk dc_tk pm_tk an_tk cd_tk ct_tk), sl_tk⟩)
    (c_tk : PySem.W.codeIn K cd_tk "_law_take" = true)
    (k_tk : PySem.W.keepIn K (.ref f_tk) = true)
    (a_gc : PySem.W.nsIn K mainGlobals "_law_gcd" = some (some (.ref f_gc)))
    (l_gc : K.lookup f_gc = some ⟨oc_gc, od_gc, .func (PySem.W.fnOf "_law_gcd" "_law_gcd" (defArgs sGcd) (defBody sGcd) (defScope sGcd) .none kV_gc dc_gc pm_gc an_gc cd_gc ct_gc), sl_gc⟩)
    (c_gc : PySem.W.codeIn K cd_gc "_law_gcd" = true)
    (k_gc : PySem.W.keepIn K (.ref f_gc) = true)
    (a_fr : PySem.W.nsIn K mainGlobals "_law_frac" = some (some (.ref f_fr)))
    (l_fr : K.lookup f_fr = some ⟨oc_fr, od_fr, .func (PySem.W.fnOf "_law_frac" "_law_frac" (defArgs sFrac) (defBody sFrac) (defScope sFrac) .none kV_fr dc_fr pm_fr an_fr cd_fr ct_fr), sl_fr⟩)
    (c_fr : PySem.W.codeIn K cd_fr "_law_frac" = true)
    (k_fr : PySem.W.keepIn K (.ref f_fr) = true)
    (a_pl : PySem.W.nsIn K mainGlobals "_law_plus" = some (some (.ref f_pl)))
    (l_pl : K.lookup f_pl = some ⟨oc_pl, od_pl, .func (PySem.W.fnOf "_law_plus" "_law_plus" (defArgs sPlus) (defBody sPlus) (defScope sPlus) .none kV_pl dc_pl pm_pl an_pl cd_pl ct_pl), sl_pl⟩)
    (c_pl : PySem.W.codeIn K cd_pl "_law_plus" = true)
    (k_pl : PySem.W.keepIn K (.ref f_pl) = true)
    (a_ti : PySem.W.nsIn K mainGlobals "_law_times" = some (some (.ref f_ti)))
    (l_ti : K.lookup f_ti = some ⟨oc_ti, od_ti, .func (PySem.W.fnOf "_law_times" "_law_times" (defArgs sTimes) (defBody sTimes) (defScope sTimes) .none kV_ti dc_ti pm_ti an_ti cd_ti ct_ti), sl_ti⟩)
    (c_ti : PySem.W.codeIn K cd_ti "_law_times" = true)
    (k_ti : PySem.W.keepIn K (.ref f_ti) = true)
    (a_rr : PySem.W.nsIn K mainGlobals "_law_ratio_row" = some (some (.ref f_rr)))
    (l_rr : K.lookup f_rr = some ⟨oc_rr, od_rr, .func (PySem.W.fnOf "_law_ratio_row" "_law_ratio_row" (defArgs sRr) (defBody sRr) (defScope sRr) .none kV_rr dc_rr pm_rr an_rr cd_rr ct_rr), sl_rr⟩)
    (c_rr : PySem.W.codeIn K cd_rr "_law_ratio_row" = true)
    (k_rr : PySem.W.keepIn K (.ref f_rr) = true)
    (a_po : PySem.W.nsIn K mainGlobals "_law_pairs_of" = some (some (.ref f_po)))
    (l_po : K.lookup f_po = some ⟨oc_po, od_po, .func (PySem.W.fnOf "_law_pairs_of" "_law_pairs_of" (defArgs sPo) (defBody sPo) (defScope sPo) .none kV_po dc_po pm_po an_po cd_po ct_po), sl_po⟩)
    (c_po : PySem.W.codeIn K cd_po "_law_pairs_of" = true)
    (k_po : PySem.W.keepIn K (.ref f_po) = true)
    (a_ar : PySem.W.nsIn K mainGlobals "_law_are_ratios" = some (some (.ref f_ar)))
    (l_ar : K.lookup f_ar = some ⟨oc_ar, od_ar, .func (PySem.W.fnOf "_law_are_ratios" "_law_are_ratios" (defArgs sAr) (defBody sAr) (defScope sAr) .none kV_ar dc_ar pm_ar an_ar cd_ar ct_ar), sl_ar⟩)
    (c_ar : PySem.W.codeIn K cd_ar "_law_are_ratios" = true)
    (k_ar : PySem.W.keepIn K (.ref f_ar) = true)
    (a_sm : PySem.W.nsIn K mainGlobals "_law_small" = some (some (.ref f_sm)))
    (l_sm : K.lookup f_sm = some ⟨oc_sm, od_sm, .func (PySem.W.fnOf "_law_small" "_law_small" (defArgs sSmall) (defBody sSmall) (defScope sSmall) .none kV_sm dc_sm pm_sm an_sm cd_sm ct_sm), sl_sm⟩)
    (c_sm : PySem.W.codeIn K cd_sm "_law_small" = true)
    (k_sm : PySem.W.keepIn K (.ref f_sm) = true)
    (a_rw : PySem.W.nsIn K mainGlobals "_law_row" = some (some (.ref f_rw)))
    (l_rw : K.lookup f_rw = some ⟨oc_rw, od_rw, .func (PySem.W.fnOf "_law_row" "_law_row" (defArgs sRow) (defBody sRow) (defScope sRow) .none kV_rw dc_rw pm_rw an_rw cd_rw ct_rw), sl_rw⟩)
    (c_rw : PySem.W.codeIn K cd_rw "_law_row" = true)
    (k_rw : PySem.W.keepIn K (.ref f_rw) = true)
    (a_dt : PySem.W.nsIn K mainGlobals "_law_dot" = some (some (.ref f_dt)))
    (l_dt : K.lookup f_dt = some ⟨oc_dt, od_dt, .func (PySem.W.fnOf "_law_dot" "_law_dot" (defArgs sDot) (defBody sDot) (defScope sDot) .none kV_dt dc_dt pm_dt an_dt cd_dt ct_dt), sl_dt⟩)
    (c_dt : PySem.W.codeIn K cd_dt "_law_dot" = true)
    (k_dt : PySem.W.keepIn K (.ref f_dt) = true)
    (a_so : PySem.W.nsIn K mainGlobals "_law_sum_of" = some (some (.ref f_so)))
    (l_so : K.lookup f_so = some ⟨oc_so, od_so, .func (PySem.W.fnOf "_law_sum_of" "_law_sum_of" (defArgs sSum) (defBody sSum) (defScope sSum) .none kV_so dc_so pm_so an_so cd_so ct_so), sl_so⟩)
    (c_so : PySem.W.codeIn K cd_so "_law_sum_of" = true)
    (k_so : PySem.W.keepIn K (.ref f_so) = true)
    (a_ab : PySem.W.nsIn K mainGlobals "_law_is_above" = some (some (.ref f_ab)))
    (l_ab : K.lookup f_ab = some ⟨oc_ab, od_ab, .func (PySem.W.fnOf "_law_is_above" "_law_is_above" (defArgs sAbove) (defBody sAbove) (defScope sAbove) .none kV_ab dc_ab pm_ab an_ab cd_ab ct_ab), sl_ab⟩)
    (c_ab : PySem.W.codeIn K cd_ab "_law_is_above" = true)
    (k_ab : PySem.W.keepIn K (.ref f_ab) = true)
    (a_wh : PySem.W.nsIn K mainGlobals "_law_weights_hold" = some (some (.ref f_wh)))
    (l_wh : K.lookup f_wh = some ⟨oc_wh, od_wh, .func (PySem.W.fnOf "_law_weights_hold" "_law_weights_hold" (defArgs sWh) (defBody sWh) (defScope sWh) .none kV_wh dc_wh pm_wh an_wh cd_wh ct_wh), sl_wh⟩)
    (c_wh : PySem.W.codeIn K cd_wh "_law_weights_hold" = true)
    (k_wh : PySem.W.keepIn K (.ref f_wh) = true)
    (a_fh : PySem.W.nsIn K mainGlobals "_law_functional_holds" = some (some (.ref f_fh)))
    (l_fh : K.lookup f_fh = some ⟨oc_fh, od_fh, .func (PySem.W.fnOf "_law_functional_holds" "_law_functional_holds" (defArgs sFh) (defBody sFh) (defScope sFh) .none kV_fh dc_fh pm_fh an_fh cd_fh ct_fh), sl_fh⟩)
    (c_fh : PySem.W.codeIn K cd_fh "_law_functional_holds" = true)
    (k_fh : PySem.W.keepIn K (.ref f_fh) = true)
    (a_lw : PySem.W.nsIn K mainGlobals "law" = some (some (.ref f_lw)))
    (l_lw : K.lookup f_lw = some ⟨oc_lw, od_lw, .func (PySem.W.fnOf "law" "law" (defArgs sLaw) (defBody sLaw) (defScope sLaw) .none kV_lw dc_lw pm_lw an_lw cd_lw ct_lw), sl_lw⟩)
    (c_lw : PySem.W.codeIn K cd_lw "law" = true)
    (k_lw : PySem.W.keepIn K (.ref f_lw) = true)
    (a_in : PySem.W.findIn K (.ref C) "__init__" = some (some (.ref f_in)))
    (i_in : PySem.W.isFn K (.ref f_in) = true)
    (l_in : K.lookup f_in = some ⟨oc_in, od_in, .func (PySem.W.fnOf "__init__" "Ratio.__init__" (defArgs sInit) (defBody sInit) (defScope sInit) (.ref T0) kV_in dc_in pm_in an_in cd_in ct_in), sl_in⟩)
    (c_in : PySem.W.codeIn K cd_in "Ratio.__init__" = true)
    (k_in : PySem.W.keepIn K (.ref f_in) = true)
    (a_sg : PySem.W.findIn K (.ref C) "sign" = some (some (.ref f_sg)))
    (i_sg : PySem.W.isFn K (.ref f_sg) = true)
    (l_sg : K.lookup f_sg = some ⟨oc_sg, od_sg, .func (PySem.W.fnOf "sign" "Ratio.sign" (defArgs sSign) (defBody sSign) (defScope sSign) .none kV_sg dc_sg pm_sg an_sg cd_sg ct_sg), sl_sg⟩)
    (c_sg : PySem.W.codeIn K cd_sg "Ratio.sign" = true)
    (k_sg : PySem.W.keepIn K (.ref f_sg) = true)
    (t_l : K.lookup T0 = some ⟨.type "tuple", odT, .seq #[.int 1 u1] nT, slT⟩)
    (x_pg : PySem.W.plainGet K C Str.empty = true)
    (x_hd : PySem.W.hasDictIn K C = true)
    (x_po : PySem.W.plainOver K C = true)
    (x_sa : PySem.W.findIn K (.ref C) "__setattr__" = some (some (.builtin "object.__setattr__")))
    (x_mk : PySem.W.makesIn K C = true)
    (x_kc : PySem.W.keepIn K (.ref C) = true)
    (x_nn : PySem.W.findIn K (.ref C) "n" = some none)
    (x_nd : PySem.W.findIn K (.ref C) "d" = some none)
    (x_ia : PySem.W.findIn K (.ref C) "__class__" = some (some (.builtin "object.__class__")))
    (x_ib : PySem.W.specialIn K (.builtin "object.__class__") "__get__" = some (some (.builtin "getset_descriptor.__get__")))
    (x_ic : PySem.W.takesIn K (.builtin "object.__class__") = some true)
    (x_id : PySem.W.mroIn K C (.type "object") = some true)
    (x_bg : PySem.W.nsIn K mainGlobals "gcd" = some (some (.builtin "math.gcd")))
    (x_bl : PySem.W.nsIn K mainGlobals "lcm" = some (some (.builtin "math.lcm")))
    (z_len : PySem.W.nsIn K mainGlobals "len" = some none)
    (z_int : PySem.W.nsIn K mainGlobals "int" = some none)
    (z_sum : PySem.W.nsIn K mainGlobals "sum" = some none)
    (z_range : PySem.W.nsIn K mainGlobals "range" = some none)
    (z_zip : PySem.W.nsIn K mainGlobals "zip" = some none)
    (z_tuple : PySem.W.nsIn K mainGlobals "tuple" = some none)
    (z_isinstance : PySem.W.nsIn K mainGlobals "isinstance" = some none)
    (z_abs : PySem.W.nsIn K mainGlobals "abs" = some none) :
    ∃ fd : FuncData, (∀ (s : Shared) (v : Value), BindsTo s fd ⟨[v], []⟩ [("_law_script", v)]) ∧ ∀ base : Heap, K.In base → base.Ns mainGlobals mg → FnOk l.prog w K mg base CX0 6 fa fd ["_law_script"] (spLaw K) := by
  have e := hfa.symm.trans (PySem.W.mg_of X G a_lw)
  cases e
  have T : Txt K mg C := ⟨⟨x_pg, x_hd, x_po, x_sa⟩, x_nn, x_nd, PySem.W.mg_of X G a_C, PySem.W.mg_of X G x_bg, PySem.W.mg_of X G x_bl, PySem.W.mg_none_of X G z_len, PySem.W.mg_none_of X G z_int, PySem.W.mg_none_of X G z_sum, PySem.W.mg_none_of X G z_range, PySem.W.mg_none_of X G z_zip, PySem.W.mg_none_of X G z_tuple, PySem.W.mg_none_of X G z_isinstance, PySem.W.mg_none_of X G z_abs⟩
  have Is : IsR K C := ⟨x_ia, x_ib, x_ic, x_id⟩
  have F_ze := fun_mk (st := sZero) l_ze c_ze k_ze
  have b_ze := F_ze.binds (ps := []) fun _ _ _ _ _ _ us hl => match us, hl with | [], _ => rfl
  have g_ze := PySem.W.mg_of X G a_ze
  have F_fa := fun_mk (st := sFac) l_fa c_fa k_fa
  have b_fa := F_fa.binds (ps := ["items"]) fun _ _ _ _ _ _ us hl => match us, hl with | [_], _ => rfl
  have g_fa := PySem.W.mg_of X G a_fa
  have F_sr := fun_mk (st := sStart) l_sr c_sr k_sr
  have b_sr := F_sr.binds (ps := ["columns", "right"]) fun _ _ _ _ _ _ us hl => match us, hl with | [_, _], _ => rfl
  have g_sr := PySem.W.mg_of X G a_sr
  have F_co := fun_mk (st := sCost) l_co c_co k_co
  have b_co := F_co.binds (ps := ["rows", "count"]) fun _ _ _ _ _ _ us hl => match us, hl with | [_, _], _ => rfl
  have g_co := PySem.W.mg_of X G a_co
  have F_le := fun_mk (st := sLeave) l_le c_le k_le
  have b_le := F_le.binds (ps := ["rows", "basis", "at"]) fun _ _ _ _ _ _ us hl => match us, hl with | [_, _, _], _ => rfl
  have g_le := PySem.W.mg_of X G a_le
  have F_su := fun_mk (st := sSub) l_su c_su k_su
  have b_su := F_su.binds (ps := ["row", "head", "at", "scale"]) fun _ _ _ _ _ _ us hl => match us, hl with | [_, _, _, _], _ => rfl
  have g_su := PySem.W.mg_of X G a_su
  have F_fe := fun_mk (st := sFeas) l_fe c_fe k_fe
  have b_fe := F_fe.binds (ps := ["columns", "right"]) fun _ _ _ _ _ _ us hl => match us, hl with | [_, _], _ => rfl
  have g_fe := PySem.W.mg_of X G a_fe
  have F_st := fun_mk (st := sState) l_st c_st k_st
  have b_st := F_st.binds (ps := ["_law_script"]) fun _ _ _ _ _ _ us hl => match us, hl with | [_], _ => rfl
  have g_st := PySem.W.mg_of X G a_st
  have F_tk := fun_mk (st := sTake) l_tk c_tk k_tk
  have b_tk := F_tk.binds (ps := ["_law_state_here", "_law_m"]) fun _ _ _ _ _ _ us hl => match us, hl with | [_, _], _ => rfl
  have g_tk := PySem.W.mg_of X G a_tk
  have F_gc := fun_mk (st := sGcd) l_gc c_gc k_gc
  have b_gc := F_gc.binds (ps := ["_law_a", "_law_b"]) fun _ _ _ _ _ _ us hl => match us, hl with | [_, _], _ => rfl
  have g_gc := PySem.W.mg_of X G a_gc
  have F_fr := fun_mk (st := sFrac) l_fr c_fr k_fr
  have b_fr := F_fr.binds (ps := ["_law_n", "_law_d"]) fun _ _ _ _ _ _ us hl => match us, hl with | [_, _], _ => rfl
  have g_fr := PySem.W.mg_of X G a_fr
  have F_pl := fun_mk (st := sPlus) l_pl c_pl k_pl
  have b_pl := F_pl.binds (ps := ["_law_a", "_law_b"]) fun _ _ _ _ _ _ us hl => match us, hl with | [_, _], _ => rfl
  have g_pl := PySem.W.mg_of X G a_pl
  have F_ti := fun_mk (st := sTimes) l_ti c_ti k_ti
  have b_ti := F_ti.binds (ps := ["_law_a", "_law_b"]) fun _ _ _ _ _ _ us hl => match us, hl with | [_, _], _ => rfl
  have g_ti := PySem.W.mg_of X G a_ti
  have F_rr := fun_mk (st := sRr) l_rr c_rr k_rr
  have b_rr := F_rr.binds (ps := ["_law_row_here"]) fun _ _ _ _ _ _ us hl => match us, hl with | [_], _ => rfl
  have g_rr := PySem.W.mg_of X G a_rr
  have F_po := fun_mk (st := sPo) l_po c_po k_po
  have b_po := F_po.binds (ps := ["_law_row_here"]) fun _ _ _ _ _ _ us hl => match us, hl with | [_], _ => rfl
  have g_po := PySem.W.mg_of X G a_po
  have F_ar := fun_mk (st := sAr) l_ar c_ar k_ar
  have b_ar := F_ar.binds (ps := ["_law_value", "_law_count"]) fun _ _ _ _ _ _ us hl => match us, hl with | [_, _], _ => rfl
  have g_ar := PySem.W.mg_of X G a_ar
  have F_sm := fun_mk (st := sSmall) l_sm c_sm k_sm
  have b_sm := F_sm.binds (ps := ["_law_state_here"]) fun _ _ _ _ _ _ us hl => match us, hl with | [_], _ => rfl
  have g_sm := PySem.W.mg_of X G a_sm
  have F_rw := fun_mk (st := sRow) l_rw c_rw k_rw
  have b_rw := F_rw.binds (ps := ["_law_state_here", "_law_width"]) fun _ _ _ _ _ _ us hl => match us, hl with | [_, _], _ => rfl
  have g_rw := PySem.W.mg_of X G a_rw
  have F_dt := fun_mk (st := sDot) l_dt c_dt k_dt
  have b_dt := F_dt.binds (ps := ["_law_v", "_law_w"]) fun _ _ _ _ _ _ us hl => match us, hl with | [_, _], _ => rfl
  have g_dt := PySem.W.mg_of X G a_dt
  have F_so := fun_mk (st := sSum) l_so c_so k_so
  have b_so := F_so.binds (ps := ["_law_rows", "_law_weights", "_law_width"]) fun _ _ _ _ _ _ us hl => match us, hl with | [_, _, _], _ => rfl
  have g_so := PySem.W.mg_of X G a_so
  have F_ab := fun_mk (st := sAbove) l_ab c_ab k_ab
  have b_ab := F_ab.binds (ps := ["_law_x"]) fun _ _ _ _ _ _ us hl => match us, hl with | [_], _ => rfl
  have g_ab := PySem.W.mg_of X G a_ab
  have F_wh := fun_mk (st := sWh) l_wh c_wh k_wh
  have b_wh := F_wh.binds (ps := ["_law_columns", "_law_right", "_law_told"]) fun _ _ _ _ _ _ us hl => match us, hl with | [_, _, _], _ => rfl
  have g_wh := PySem.W.mg_of X G a_wh
  have F_fh := fun_mk (st := sFh) l_fh c_fh k_fh
  have b_fh := F_fh.binds (ps := ["_law_columns", "_law_right", "_law_told"]) fun _ _ _ _ _ _ us hl => match us, hl with | [_, _, _], _ => rfl
  have g_fh := PySem.W.mg_of X G a_fh
  have F_lw := fun_mk (st := sLaw) l_lw c_lw k_lw
  have b_lw := F_lw.binds (ps := ["_law_script"]) fun _ _ _ _ _ _ us hl => match us, hl with | [_], _ => rfl
  have g_lw := PySem.W.mg_of X G a_lw
  have F_sg := fun_mk (st := sSign) l_sg c_sg k_sg
  have b_sg := F_sg.binds (ps := ["self"]) fun _ _ _ _ _ _ us hl => match us, hl with | [_], _ => rfl
  have F_in : FunD K "__init__" "Ratio.__init__" (defArgs sInit) (defBody sInit) (defScope sInit) [.int 1] [] f_in _ :=
    ⟨⟨_, _, _, _, _, _, _, _, _, _, rfl, l_in, c_in, .inr ⟨fun z => (nomatch z), T0, _, [.int 1 u1], nT, rfl, t_l, rfl, .cons ⟨u1, rfl⟩ .nil⟩, .inl rfl⟩, k_in⟩
  obtain ⟨ds3, v3, b_in3⟩ := F_in.binds1 (ps := ["self", "n", "d"]) 3 1 (fun z => (nomatch z)) rfl fun T kV doc pm an cdv ct us its hu hi => match us, hu, its, hi with | [_, _, _], _, [_], _ => ⟨_, rfl, rfl⟩
  obtain ⟨ds2, v2, b_in2⟩ := F_in.binds1 (ps := ["self", "n", "d"]) 2 0 (fun z => (nomatch z)) rfl fun T kV doc pm an cdv ct us its hu hi => match us, hu, its, hi with | [_, _], _, [_], _ => ⟨_, rfl, rfl⟩
  have e3 : ds3 = [] := List.eq_nil_of_length_eq_zero v3.length.symm
  subst e3
  have M : Mk K C f_in := ⟨x_mk, a_in, i_in, x_kc⟩
  refine ⟨PySem.W.fnOf "law" "law" (defArgs sLaw) (defBody sLaw) (defScope sLaw) .none kV_lw dc_lw pm_lw an_lw cd_lw ct_lw, fun s v => .of_eq rfl, fun base _ _ => ?_⟩
  have Gin : FnOk l.prog w K mg base CX0 1 f_in _ ["self", "n", "d"] (spInit C) := ok_init F_in T
  have Gsg : FnOk l.prog w K mg base CX0 1 f_sg _ ["self"] (spSign C) := ok_sign F_sg T
  have Gze : FnOk l.prog w K mg base CX0 3 f_ze _ [] (spZero C) := ok_zero F_ze T M Gin b_in2 v2
  have Gfa : FnOk l.prog w K mg base CX0 2 f_fa _ ["items"] (spFac C K) := ok_fac F_fa T Gsg b_sg ⟨a_sg, i_sg, k_sg⟩
  have Gsr : FnOk l.prog w K mg base CX0 3 f_sr _ ["columns", "right"] (spStart C K) := ok_start F_sr T Gfa b_fa k_fa g_fa
  have Gco : FnOk l.prog w K mg base CX0 1 f_co _ ["rows", "count"] (spCost K) := ok_cost F_co T
  have Gle : FnOk l.prog w K mg base CX0 1 f_le _ ["rows", "basis", "at"] (spLeave K) := ok_leave F_le T
  have Gsu : FnOk l.prog w K mg base CX0 1 f_su _ ["row", "head", "at", "scale"] (spSub K) := ok_sub F_su T
  have Gfe : FnOk l.prog w K mg base CX0 4 f_fe _ ["columns", "right"] (spFeas C K) := ok_feas F_fe T Gsr b_sr k_sr g_sr Gco b_co k_co g_co Gle b_le k_le g_le Gsu b_su k_su g_su Gze b_ze k_ze g_ze M Gin b_in3
  have Gst : FnOk l.prog w K mg base CX0 1 f_st _ ["_law_script"] (spState K) := ok_state F_st T
  have Gtk : FnOk l.prog w K mg base CX0 1 f_tk _ ["_law_state_here", "_law_m"] spTake := ok_take F_tk T
  have Ggc : FnOk l.prog w K mg base CX0 1 f_gc _ ["_law_a", "_law_b"] spGcd := ok_gcd F_gc T
  have Gfr : FnOk l.prog w K mg base CX0 2 f_fr _ ["_law_n", "_law_d"] spFrac := ok_frac F_fr T Ggc b_gc k_gc g_gc
  have Gpl : FnOk l.prog w K mg base CX0 3 f_pl _ ["_law_a", "_law_b"] spPlus := ok_plus (C := C) F_pl Gfr b_fr k_fr g_fr
  have Gti : FnOk l.prog w K mg base CX0 3 f_ti _ ["_law_a", "_law_b"] spTimes := ok_times (C := C) F_ti Gfr b_fr k_fr g_fr
  have Grr : FnOk l.prog w K mg base CX0 3 f_rr _ ["_law_row_here"] (spRr C) := ok_rr F_rr T M Gin b_in3
  have Gpo : FnOk l.prog w K mg base CX0 1 f_po _ ["_law_row_here"] (spPo C K) := ok_po F_po T
  have Gar : FnOk l.prog w K mg base CX0 1 f_ar _ ["_law_value", "_law_count"] (spAr C) := ok_ar F_ar T Is
  have Gsm : FnOk l.prog w K mg base CX0 3 f_sm _ ["_law_state_here"] spSmall := ok_small (C := C) F_sm Gtk b_tk k_tk g_tk Gfr b_fr k_fr g_fr
  have Grw : FnOk l.prog w K mg base CX0 4 f_rw _ ["_law_state_here", "_law_width"] spRow := ok_row F_rw T Gsm b_sm k_sm g_sm
  have Gdt : FnOk l.prog w K mg base CX0 4 f_dt _ ["_law_v", "_law_w"] spDot := ok_dot F_dt T Gpl b_pl k_pl g_pl Gti b_ti k_ti g_ti
  have Gso : FnOk l.prog w K mg base CX0 4 f_so _ ["_law_rows", "_law_weights", "_law_width"] spSum := ok_sum F_so T Gpl b_pl k_pl g_pl Gti b_ti k_ti g_ti
  have Gab : FnOk l.prog w K mg base CX0 1 f_ab _ ["_law_x"] spAbove := ok_above (C := C) F_ab
  have Gwh : FnOk l.prog w K mg base CX0 5 f_wh _ ["_law_columns", "_law_right", "_law_told"] (spWh C K) := ok_wh F_wh T Gar b_ar k_ar g_ar Gpo b_po k_po g_po Gso b_so k_so g_so
  have Gfh : FnOk l.prog w K mg base CX0 5 f_fh _ ["_law_columns", "_law_right", "_law_told"] (spFh C K) := ok_fh F_fh T Gar b_ar k_ar g_ar Gpo b_po k_po g_po Gdt b_dt k_dt g_dt Gab b_ab k_ab g_ab
  exact ok_law F_lw T ⟨⟨_, _, Gst, b_st, k_st, g_st⟩, ⟨_, _, Gtk, b_tk, k_tk, g_tk⟩, ⟨_, _, Gfr, b_fr, k_fr, g_fr⟩, ⟨_, _, Grr, b_rr, k_rr, g_rr⟩, ⟨_, _, Grw, b_rw, k_rw, g_rw⟩, ⟨_, _, Gdt, b_dt, k_dt, g_dt⟩, ⟨_, _, Gso, b_so, k_so, g_so⟩, ⟨_, _, Gab, b_ab, k_ab, g_ab⟩, ⟨_, _, Gwh, b_wh, k_wh, g_wh⟩, ⟨_, _, Gfh, b_fh, k_fh, g_fh⟩, ⟨_, _, Gfe, b_fe, k_fe, g_fe⟩⟩
end K5W
set_option Elab.async false
set_option maxRecDepth 100000
open PySem PySem.W PyProof.Rows
set_option maxRecDepth 100000 in
set_option maxHeartbeats 0 in
theorem PySem.Challenge.cw_metricparts_k05_whole_weights_or_functio_holds : PySem.Challenge.rw_metricparts_k05_whole_weights_or_functio.Holds := by
  w_on; o_law; k_head; (case hw => w_witness2)
  k_fill
  refine L2.walk_of (l := PySem.Challenge.rw_metricparts_k05_whole_weights_or_functio) (n := 63) (k := 6) (x := "_law_script") (CX := fun _ => L2.CX0) (sp := fun w => K5W.spLaw _) rfl (by decide) rfl ⟨rfl, by decide, by decide⟩ (fun w h Y => PySem.W.kIn_of Y) ?F (fun _ _ a ns hl _ hS => ⟨a, ns, rfl, hS, fun _ => rfl⟩) (fun _ _ _ _ _ h => h)
  case F =>
    intro w mg fa h KX G hmg
    refine' K5W.all_mk KX G hmg ?a_C ?a_ze ?l_ze ?c_ze ?k_ze ?a_fa ?l_fa ?c_fa ?k_fa ?a_sr ?l_sr ?c_sr ?k_sr ?a_co ?l_co ?c_co ?k_co ?a_le ?l_le ?c_le ?k_le ?a_su ?l_su ?c_su ?k_su ?a_fe ?l_fe ?c_fe ?k_fe ?a_st ?l_st ?c_st ?k_st ?a_tk ?l_tk ?c_tk ?k_tk ?a_gc ?l_gc ?c_gc ?k_gc ?a_fr ?l_fr ?c_fr ?k_fr ?a_pl ?l_pl ?c_pl ?k_pl ?a_ti ?l_ti ?c_ti ?k_ti ?a_rr ?l_rr ?c_rr ?k_rr ?a_po ?l_po ?c_po ?k_po ?a_ar ?l_ar ?c_ar ?k_ar ?a_sm ?l_sm ?c_sm ?k_sm ?a_rw ?l_rw ?c_rw ?k_rw ?a_dt ?l_dt ?c_dt ?k_dt ?a_so ?l_so ?c_so ?k_so ?a_ab ?l_ab ?c_ab ?k_ab ?a_wh ?l_wh ?c_wh ?k_wh ?a_fh ?l_fh ?c_fh ?k_fh ?a_lw ?l_lw ?c_lw ?k_lw ?a_in ?i_in ?l_in ?c_in ?k_in ?a_sg ?i_sg ?l_sg ?c_sg ?k_sg ?t_l ?x_pg ?x_hd ?x_po ?x_sa ?x_mk ?x_kc ?x_nn ?x_nd ?x_ia ?x_ib ?x_ic ?x_id ?x_bg ?x_bl ?z_len ?z_int ?z_sum ?z_range ?z_zip ?z_tuple ?z_isinstance ?z_abs
    (case a_C => k_is)
    (case a_ze => k_is)
    (case l_ze => k_is)
    (case c_ze => k_is)
    (case k_ze => k_is)
    (case a_fa => k_is)
    (case l_fa => k_is)
    (case c_fa => k_is)
    (case k_fa => k_is)
    (case a_sr => k_is)
    (case l_sr => k_is)
    (case c_sr => k_is)
    (case k_sr => k_is)
    (case a_co => k_is)
    (case l_co => k_is)
    (case c_co => k_is)
    (case k_co => k_is)
    (case a_le => k_is)
    (case l_le => k_is)
    (case c_le => k_is)
    (case k_le => k_is)
    (case a_su => k_is)
    (case l_su => k_is)
    (case c_su => k_is)
    (case k_su => k_is)
    (case a_fe => k_is)
    (case l_fe => k_is)
    (case c_fe => k_is)
    (case k_fe => k_is)
    (case a_st => k_is)
    (case l_st => k_is)
    (case c_st => k_is)
    (case k_st => k_is)
    (case a_tk => k_is)
    (case l_tk => k_is)
    (case c_tk => k_is)
    (case k_tk => k_is)
    (case a_gc => k_is)
    (case l_gc => k_is)
    (case c_gc => k_is)
    (case k_gc => k_is)
    (case a_fr => k_is)
    (case l_fr => k_is)
    (case c_fr => k_is)
    (case k_fr => k_is)
    (case a_pl => k_is)
    (case l_pl => k_is)
    (case c_pl => k_is)
    (case k_pl => k_is)
    (case a_ti => k_is)
    (case l_ti => k_is)
    (case c_ti => k_is)
    (case k_ti => k_is)
    (case a_rr => k_is)
    (case l_rr => k_is)
    (case c_rr => k_is)
    (case k_rr => k_is)
    (case a_po => k_is)
    (case l_po => k_is)
    (case c_po => k_is)
    (case k_po => k_is)
    (case a_ar => k_is)
    (case l_ar => k_is)
    (case c_ar => k_is)
    (case k_ar => k_is)
    (case a_sm => k_is)
    (case l_sm => k_is)
    (case c_sm => k_is)
    (case k_sm => k_is)
    (case a_rw => k_is)
    (case l_rw => k_is)
    (case c_rw => k_is)
    (case k_rw => k_is)
    (case a_dt => k_is)
    (case l_dt => k_is)
    (case c_dt => k_is)
    (case k_dt => k_is)
    (case a_so => k_is)
    (case l_so => k_is)
    (case c_so => k_is)
    (case k_so => k_is)
    (case a_ab => k_is)
    (case l_ab => k_is)
    (case c_ab => k_is)
    (case k_ab => k_is)
    (case a_wh => k_is)
    (case l_wh => k_is)
    (case c_wh => k_is)
    (case k_wh => k_is)
    (case a_fh => k_is)
    (case l_fh => k_is)
    (case c_fh => k_is)
    (case k_fh => k_is)
    (case a_lw => k_is)
    (case l_lw => k_is)
    (case c_lw => k_is)
    (case k_lw => k_is)
    (case a_in => k_is)
    (case i_in => k_is)
    (case l_in => k_is)
    (case c_in => k_is)
    (case k_in => k_is)
    (case a_sg => k_is)
    (case i_sg => k_is)
    (case l_sg => k_is)
    (case c_sg => k_is)
    (case k_sg => k_is)
    (case t_l => k_is)
    (case x_pg => k_is)
    (case x_hd => k_is)
    (case x_po => k_is)
    (case x_sa => k_is)
    (case x_mk => k_is)
    (case x_kc => k_is)
    (case x_nn => k_is)
    (case x_nd => k_is)
    (case x_ia => k_is)
    (case x_ib => k_is)
    (case x_ic => k_is)
    (case x_id => k_is)
    (case x_bg => k_is)
    (case x_bl => k_is)
    (case z_len => k_is)
    (case z_int => k_is)
    (case z_sum => k_is)
    (case z_range => k_is)
    (case z_zip => k_is)
    (case z_tuple => k_is)
    (case z_isinstance => k_is)
    (case z_abs => k_is)
