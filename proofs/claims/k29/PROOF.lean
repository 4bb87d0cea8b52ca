import PyProof.Rows.All
import Wide.All
import OpenK.AllK
import Wide.FinOn
import KE.KTupSum
import KE.GoesEnum
import HandS.ForMost
import HandS.Walk
import PyProof.TupleOfSeq
import KE.SortKeyHeap
import HandS.Conv
import HandS.SortInts
import HandS.SortRule
import HandS.SortKw
import KE.SortUse
import HandS.Lambda
import HandS.Nested
import HandS.TupSets
import HandS.IsInst
import PySem.Challenge.RW_sumsalone_k29_whole_one_of_two_papers
import HandS.Zip
import HandS.TupAny
import HandS.Style
import HandS.Star
import HandS.ClsMeth
import HandS.Property
import KE.KExcSuper
import KE.KExcMake
import KE.KExcInit
import PyProof.ExcBaseAll.OverflowError
import HandS.Exc
import HandS.ExcOwn
import HandS.ExcSuper
import HandS.ExcField
import HandS.FStr
import HandS.WordsExc
import HandS.TupMul
import HandS.EndTab
namespace KM
def b2 (b : Bool) : Int := if b = true then 1 else 0
theorem b2_true : b2 true = 1 := rfl
theorem b2_false : b2 false = 0 := rfl
theorem b2_nn (b : Bool) : 0 ≤ b2 b := by cases b <;> decide
theorem b2_le1 (b : Bool) : b2 b ≤ 1 := by cases b <;> decide
def S : Nat → (Nat → Int) → Int
  | 0, _ => 0
  | n + 1, f => S n f + f n
theorem S_congr {n : Nat} {f g : Nat → Int} (h : ∀ i, i < n → f i = g i) : S n f = S n g := by
  induction n with
  | zero => rfl
  | succ n ih =>
    show S n f + f n = S n g + g n
    rw [ih fun i hi => h i (by omega), h n (by omega)]
theorem S_add (n : Nat) (f g : Nat → Int) : S n (fun i => f i + g i) = S n f + S n g := by
  induction n with
  | zero => rfl
  | succ n ih =>
    show S n (fun i => f i + g i) + (f n + g n) = S n f + f n + (S n g + g n)
    rw [ih]; omega
theorem S_sub (n : Nat) (f g : Nat → Int) : S n (fun i => f i - g i) = S n f - S n g := by
  induction n with
  | zero => rfl
  | succ n ih =>
    show S n (fun i => f i - g i) + (f n - g n) = S n f + f n - (S n g + g n)
    rw [ih]; omega
theorem S_le {n : Nat} {f g : Nat → Int} (h : ∀ i, i < n → f i ≤ g i) : S n f ≤ S n g := by
  induction n with
  | zero => exact Int.le_refl _
  | succ n ih =>
    show S n f + f n ≤ S n g + g n
    have h1 := ih fun i hi => h i (by omega)
    have h2 := h n (by omega)
    omega
theorem S_zero {n : Nat} {f : Nat → Int} (h : ∀ i, i < n → f i = 0) : S n f = 0 := by
  induction n with
  | zero => rfl
  | succ n ih =>
    show S n f + f n = 0
    rw [ih fun i hi => h i (by omega), h n (by omega)]; rfl
theorem S_one (n : Nat) : S n (fun _ => 1) = (n : Int) := by
  induction n with
  | zero => rfl
  | succ n ih =>
    show S n (fun _ => 1) + 1 = _
    rw [ih]; omega
theorem S_pt (n y : Nat) (c : Int) : S n (fun j => if j = y then c else 0) = if y < n then c else 0 := by
  induction n with
  | zero => simp [S]
  | succ n ih =>
    show S n (fun j => if j = y then c else 0) + (if n = y then c else 0) = _
    rw [ih]
    by_cases h1 : n = y
    · subst h1; simp
    · by_cases h2 : y < n
      · rw [if_pos h2, if_neg h1, if_pos (by omega)]; omega
      · rw [if_neg h2, if_neg h1, if_neg (by omega)]; omega
theorem S_swap (m : Nat) (f : Nat → Nat → Int) : ∀ n, S n (fun i => S m (fun j => f i j)) = S m (fun j => S n (fun i => f i j))
  | 0 => by
    show (0 : Int) = S m (fun _ => 0)
    rw [S_zero fun _ _ => rfl]
  | n + 1 => by
    show S n (fun i => S m (fun j => f i j)) + S m (fun j => f n j) = S m (fun j => S n (fun i => f i j) + f n j)
    rw [S_swap m f n, S_add]
theorem S_lt_ex {n : Nat} {f g : Nat → Int} (h : S n g < S n f) : ∃ j, j < n ∧ g j < f j := by
  rcases Classical.em (∃ j, j < n ∧ g j < f j) with c | c
  · exact c
  · have z := S_le (n := n) (f := f) (g := g) fun i hi => by
      rcases Int.lt_or_le (g i) (f i) with q | q
      · exact absurd ⟨i, hi, q⟩ c
      · exact q
    omega
theorem S_le_at {n : Nat} {f g : Nat → Int} (h : ∀ i, i < n → f i ≤ g i) {j : Nat} (hj : j < n) (hl : f j < g j) : S n f < S n g := by
  rcases Int.lt_or_le (S n f) (S n g) with c | c
  · exact c
  · exfalso
    have z := S_le (n := n) (f := fun i => f i + if i = j then 1 else 0) (g := g) fun i hi => by
      have h1 := h i hi
      by_cases e : i = j
      · subst e; simp only [if_true]; omega
      · rw [if_neg e]; omega
    rw [S_add, S_pt, if_pos hj] at z
    omega
/-! ### graphs -/
abbrev G := Nat → Nat → Bool
structure Simple (A : G) : Prop where
  sym : ∀ i j, A i j = A j i
  irr : ∀ i, A i i = false
def deg (n : Nat) (A : G) (i : Nat) : Int := S n fun j => b2 (A i j)
theorem deg_nn (n : Nat) (A : G) (i : Nat) : 0 ≤ deg n A i := by
  have z := S_le (n := n) (f := fun _ => 0) (g := fun j => b2 (A i j)) fun j _ => b2_nn _
  rw [S_zero fun _ _ => rfl] at z
  exact z
/-- one tie turned -/
def tog (A : G) (x y : Nat) : G := fun i j => if (i = x ∧ j = y) ∨ (i = y ∧ j = x) then !A i j else A i j
theorem tog_simple {A : G} (h : Simple A) {x y : Nat} (hxy : x ≠ y) : Simple (tog A x y) where
  sym := fun i j => by
    unfold tog
    by_cases c : (i = x ∧ j = y) ∨ (i = y ∧ j = x)
    · rw [if_pos c, if_pos (by omega), h.sym i j]
    · rw [if_neg c, if_neg (by omega), h.sym i j]
  irr := fun i => by
    unfold tog
    rw [if_neg (by omega), h.irr i]
theorem tog_ne {A : G} {x y i j : Nat} (c : ¬ ((i = x ∧ j = y) ∨ (i = y ∧ j = x))) : tog A x y i j = A i j := if_neg c
theorem tog_at {A : G} {x y : Nat} : tog A x y x y = !A x y := if_pos (.inl ⟨rfl, rfl⟩)
theorem tog_at' {A : G} {x y : Nat} : tog A x y y x = !A y x := if_pos (.inr ⟨rfl, rfl⟩)
theorem b2_not (b : Bool) : b2 (!b) = b2 b + (if b = true then -1 else 1) := by cases b <;> decide
theorem deg_tog {n : Nat} {A : G} (h : Simple A) {x y : Nat} (hxy : x ≠ y) (hx : x < n) (hy : y < n) (z : Nat) :
    deg n (tog A x y) z = deg n A z + (if z = x ∨ z = y then (if A x y = true then -1 else 1) else 0) := by
  unfold deg
  by_cases c : z = x ∨ z = y
  · rw [if_pos c]
    rcases c with c | c
    · subst c
      have e : S n (fun j => b2 (tog A z y z j)) = S n (fun j => b2 (A z j) + (if j = y then (if A z y = true then -1 else 1) else 0)) := S_congr fun j _ => by
        by_cases q : j = y
        · subst q
          rw [tog_at, b2_not, if_pos rfl]
        · rw [tog_ne (by omega), if_neg q]; omega
      rw [e, S_add, S_pt, if_pos hy]
    · subst c
      have e : S n (fun j => b2 (tog A x z z j)) = S n (fun j => b2 (A z j) + (if j = x then (if A x z = true then -1 else 1) else 0)) := S_congr fun j _ => by
        by_cases q : j = x
        · subst q
          rw [tog_at', b2_not, if_pos rfl, h.sym z j]
        · rw [tog_ne (by omega), if_neg q]; omega
      rw [e, S_add, S_pt, if_pos hx]
  · rw [if_neg c, Int.add_zero]
    exact S_congr fun j _ => by rw [tog_ne (by omega)]
/-- hands shaken -/
theorem even_sum {A : G} (h : Simple A) : ∀ n, S n (fun i => S n fun j => b2 (A i j)) % 2 = 0
  | 0 => rfl
  | n + 1 => by
    have ih := even_sum h n
    show (S n (fun i => S n (fun j => b2 (A i j)) + b2 (A i n)) + (S n (fun j => b2 (A n j)) + b2 (A n n))) % 2 = 0
    have e : S n (fun i => b2 (A i n)) = S n (fun j => b2 (A n j)) := S_congr fun i _ => by rw [h.sym i n]
    rw [S_add, h.irr n, e, b2_false]
    omega
theorem even_deg {A : G} (h : Simple A) (n : Nat) : S n (deg n A) % 2 = 0 := even_sum h n
/-- one with more ties than r, that is not tied to r or is: it has a neighbour that r lacks -/
theorem nbr {n : Nat} {A : G} (h : Simple A) {i r : Nat} (hi : i < n) (hr : r < n) (hne : i ≠ r) (hd : deg n A r < deg n A i) : ∃ u, u < n ∧ A i u = true ∧ A r u = false ∧ u ≠ r ∧ u ≠ i := by
  have e1 : S n (fun j => b2 (A i j && !decide (j = r))) = deg n A i - b2 (A i r) := by
    have q : S n (fun j => b2 (A i j && !decide (j = r))) = S n (fun j => b2 (A i j) - (if j = r then b2 (A i r) else 0)) := S_congr fun j _ => by
      by_cases c : j = r
      · subst c; simp [b2]
      · simp [c]
    rw [q, S_sub, S_pt, if_pos hr]; rfl
  have e2 : S n (fun j => b2 (A r j && !decide (j = i))) = deg n A r - b2 (A i r) := by
    have q : S n (fun j => b2 (A r j && !decide (j = i))) = S n (fun j => b2 (A r j) - (if j = i then b2 (A i r) else 0)) := S_congr fun j _ => by
      by_cases c : j = i
      · subst c; rw [h.sym r j]; simp [b2]
      · simp [c]
    rw [q, S_sub, S_pt, if_pos hi]; rfl
  obtain ⟨u, hu, hl⟩ := S_lt_ex (n := n) (f := fun j => b2 (A i j && !decide (j = r))) (g := fun j => b2 (A r j && !decide (j = i))) (by omega)
  have hl' : b2 (A r u && !decide (u = i)) < b2 (A i u && !decide (u = r)) := hl
  have k1 : (A i u && !decide (u = r)) = true := by
    cases q : (A i u && !decide (u = r)) with
    | true => rfl
    | false =>
      rw [q] at hl'
      have := b2_nn (A r u && !decide (u = i))
      rw [b2_false] at hl'
      omega
  have k2 : (A r u && !decide (u = i)) = false := by
    cases q : (A r u && !decide (u = i)) with
    | false => rfl
    | true =>
      rw [q] at hl'
      have := b2_le1 (A i u && !decide (u = r))
      rw [b2_true] at hl'
      omega
  simp only [Bool.and_eq_true, Bool.not_eq_true', decide_eq_false_iff_not] at k1
  have hui : u ≠ i := fun e => by
    have z := k1.1
    rw [e, h.irr] at z
    cases z
  refine ⟨u, hu, k1.1, ?_, k1.2, hui⟩
  have : decide (u = i) = false := by simpa using hui
  rw [this] at k2
  simpa using k2
end KM
namespace KM
/-! ### Erdos and Gallai: a row is built up vertex by vertex -/
structure Sub (n : Nat) (d : Nat → Int) (r : Nat) (A : G) : Prop where
  simple : Simple A
  le : ∀ i, i < n → deg n A i ≤ d i
  eq : ∀ i, i < r → i < n → deg n A i = d i
  ind : ∀ i j, r < i → r < j → A i j = false
theorem bf_of {b : Bool} (h : ¬ b = true) : b = false := by cases b <;> simp_all
theorem bt_of {b : Bool} (h : ¬ b = false) : b = true := by cases b <;> simp_all
/-- the neighbours of k > r lie at 0 .. r -/
theorem deg_low {n : Nat} {d : Nat → Int} {r : Nat} {A : G} (h : Sub n d r A) (hr : r < n) {k : Nat} (hk : r < k) : deg n A k = S (r + 1) fun j => b2 (A k j) := by
  have gen : ∀ m, S (r + 1 + m) (fun j => b2 (A k j)) = S (r + 1) fun j => b2 (A k j) := by
    intro m
    induction m with
    | zero => rfl
    | succ m ih =>
      show S (r + 1 + m) (fun j => b2 (A k j)) + b2 (A k (r + 1 + m)) = _
      rw [ih, h.ind k (r + 1 + m) hk (by omega), b2_false]; omega
  have e : n = r + 1 + (n - (r + 1)) := by omega
  unfold deg
  rw [e, gen]
theorem S_split (n m : Nat) (f : Nat → Int) : S (n + m) f = S n f + S m (fun i => f (n + i)) := by
  induction m with
  | zero => show S n f = S n f + 0; omega
  | succ m ih =>
    show S (n + m) f + f (n + m) = S n f + (S m (fun i => f (n + i)) + f (n + m))
    rw [ih]; omega
/-- where vertex r lacks ties, one more can be had -/
theorem Sub.more {n : Nat} {d : Nat → Int} {r : Nat} {A : G} (h : Sub n d r A) (hr : r < n) (hs : ∀ i j, i ≤ j → j < n → d j ≤ d i) (hev : S n d % 2 = 0)
    (heg : S (r + 1) d ≤ ((r : Int) + 1) * r + S (n - (r + 1)) (fun k => min ((r : Int) + 1) (d (r + 1 + k)))) (hlt : deg n A r < d r) :
    ∃ A', Sub n d r A' ∧ deg n A r < deg n A' r := by
  have si := h.simple
  have hgt : ∀ i, i < r → deg n A r < deg n A i := fun i hi => by
    have z1 := h.eq i hi (by omega)
    have z2 := hs i r (by omega) hr
    omega
  rcases Classical.em (∃ i, r < i ∧ i < n ∧ A r i = false ∧ deg n A i < d i) with ⟨i, i1, i2, i3, i4⟩ | c0
  · have dg := deg_tog si (show r ≠ i by omega) hr i2
    rw [i3] at dg
    refine ⟨tog A r i, ⟨tog_simple si (by omega), fun z hz => ?_, fun z hz hzn => ?_, fun a b ha hb => ?_⟩, ?_⟩
    · have z1 := h.le z hz
      rw [dg z]
      by_cases c : z = r
      · subst c; simp; omega
      · by_cases c2 : z = i
        · subst c2; simp; omega
        · simp [c, c2]; exact z1
    · rw [dg z, if_neg (by omega)]
      have z1 := h.eq z hz hzn
      omega
    · rw [tog_ne (by omega)]; exact h.ind a b ha hb
    · rw [dg r]; simp; omega
  have h0 : ∀ i, r < i → i < n → deg n A i < d i → A r i = true := fun i i1 i2 i4 => bt_of fun q => c0 ⟨i, i1, i2, q, i4⟩
  rcases Classical.em (∃ i, i < r ∧ A r i = false) with ⟨i, i1, i2⟩ | c1
  · obtain ⟨u, u1, u2, u3, u4, u5⟩ := nbr si (show i < n by omega) hr (by omega) (hgt i i1)
    have air : A i r = false := by rw [si.sym]; exact i2
    have aui : A u i = true := by rw [si.sym]; exact u2
    have aur : A u r = false := by rw [si.sym]; exact u3
    rcases Classical.em (deg n A r + 2 ≤ d r) with c2 | c2
    · -- u i goes, u r and i r come
      have s1 := tog_simple si (show u ≠ i by omega)
      have s2 := tog_simple s1 (show u ≠ r by omega)
      have s3 := tog_simple s2 (show i ≠ r by omega)
      have d1 := deg_tog si (show u ≠ i by omega) u1 (by omega)
      have d2 := deg_tog s1 (show u ≠ r by omega) u1 hr
      have d3 := deg_tog s2 (show i ≠ r by omega) (by omega) hr
      have v2 : tog A u i u r = false := by rw [tog_ne (by omega)]; exact aur
      have v3 : tog (tog A u i) u r i r = false := by rw [tog_ne (by omega), tog_ne (by omega)]; exact air
      rw [aui] at d1
      rw [v2] at d2
      rw [v3] at d3
      simp only [reduceIte, Bool.false_eq_true] at d3 d2 d1
      have tot : ∀ z, deg n (tog (tog (tog A u i) u r) i r) z = deg n A z + (if z = r then 2 else 0) := fun z => by
        rw [d3 z, d2 z, d1 z]
        repeat' split
        all_goals omega
      refine ⟨_, ⟨s3, fun z hz => ?_, fun z hz hzn => ?_, fun a b ha hb => ?_⟩, by rw [tot r, if_pos rfl]; omega⟩
      · rw [tot z]
        have z1 := h.le z hz
        by_cases e1 : z = r
        · subst e1; rw [if_pos rfl]; omega
        · rw [if_neg e1]; omega
      · rw [tot z, if_neg (by omega)]
        have z1 := h.eq z hz hzn
        omega
      · rw [tog_ne (by omega), tog_ne (by omega), tog_ne (by omega)]; exact h.ind a b ha hb
    · -- another one lacks too
      obtain ⟨k, k1, k2, k3⟩ : ∃ k, r < k ∧ k < n ∧ deg n A k < d k := by
        rcases Classical.em (∃ k, r < k ∧ k < n ∧ deg n A k < d k) with q | q
        · exact q
        · exfalso
          have e : S n (fun j => d j - deg n A j) = S n (fun j => if j = r then 1 else 0) := S_congr fun j hj => by
            by_cases e1 : j = r
            · subst e1; rw [if_pos rfl]; omega
            · rw [if_neg e1]
              rcases Nat.lt_or_ge j r with z | z
              · have := h.eq j z hj; omega
              · have z1 := h.le j hj
                have z2 : ¬ deg n A j < d j := fun y => q ⟨j, by omega, hj, y⟩
                omega
          rw [S_sub, S_pt, if_pos hr] at e
          have := even_deg si n
          have e' : S n (fun j => deg n A j) = S n (deg n A) := rfl
          have e'' : S n (fun j => d j) = S n d := rfl
          rw [e', e''] at e
          omega
      have ark : A r k = true := h0 k k1 k2 k3
      have uk : u ≠ k := fun e => by rw [e, ark] at u3; cases u3
      -- r k and u i go, u r and i r come
      have s0 := tog_simple si (show r ≠ k by omega)
      have s1 := tog_simple s0 (show u ≠ i by omega)
      have s2 := tog_simple s1 (show u ≠ r by omega)
      have s3 := tog_simple s2 (show i ≠ r by omega)
      have d0 := deg_tog si (show r ≠ k by omega) hr k2
      have d1 := deg_tog s0 (show u ≠ i by omega) u1 (by omega)
      have d2 := deg_tog s1 (show u ≠ r by omega) u1 hr
      have d3 := deg_tog s2 (show i ≠ r by omega) (by omega) hr
      have v1 : tog A r k u i = true := by rw [tog_ne (by omega)]; exact aui
      have v2 : tog (tog A r k) u i u r = false := by rw [tog_ne (by omega), tog_ne (by omega)]; exact aur
      have v3 : tog (tog (tog A r k) u i) u r i r = false := by rw [tog_ne (by omega), tog_ne (by omega), tog_ne (by omega)]; exact air
      rw [ark] at d0
      rw [v1] at d1
      rw [v2] at d2
      rw [v3] at d3
      simp only [reduceIte, Bool.false_eq_true] at d3 d2 d1 d0
      have tot : ∀ z, deg n (tog (tog (tog (tog A r k) u i) u r) i r) z = deg n A z + (if z = r then 1 else 0) - (if z = k then 1 else 0) := fun z => by
        rw [d3 z, d2 z, d1 z, d0 z]
        repeat' split
        all_goals omega
      refine ⟨_, ⟨s3, fun z hz => ?_, fun z hz hzn => ?_, fun a b ha hb => ?_⟩, ?_⟩
      · rw [tot z]
        have z1 := h.le z hz
        by_cases e1 : z = r
        · subst e1
          rw [if_pos rfl, if_neg (by omega)]; omega
        · rw [if_neg e1]
          split <;> omega
      · rw [tot z, if_neg (by omega), if_neg (by omega)]
        have z1 := h.eq z hz hzn
        omega
      · rw [tog_ne (by omega), tog_ne (by omega), tog_ne (by omega), tog_ne (by omega)]; exact h.ind a b ha hb
      · rw [tot r, if_pos rfl, if_neg (by omega)]; omega
  have h1 : ∀ i, i < r → A r i = true := fun i hi => bt_of fun q => c1 ⟨i, hi, q⟩
  have degk : ∀ k, r < k → k < n → deg n A k ≤ (r : Int) + 1 := fun k k1 k2 => by
    rw [deg_low h hr k1]
    have z := S_le (n := r + 1) (f := fun j => b2 (A k j)) (g := fun _ => 1) fun j _ => b2_le1 _
    rw [S_one] at z
    omega
  rcases Classical.em (∃ k, r < k ∧ k < n ∧ deg n A k < (r : Int) + 1 ∧ deg n A k < d k) with ⟨k, k1, k2, k3, k4⟩ | c2
  · have ark := h0 k k1 k2 k4
    obtain ⟨i, i1, i2⟩ : ∃ i, i < r ∧ A k i = false := by
      rw [deg_low h hr k1] at k3
      obtain ⟨j, j1, j2⟩ := S_lt_ex (n := r + 1) (f := fun _ => 1) (g := fun j => b2 (A k j)) (by rw [S_one]; omega)
      have j3 : A k j = false := by
        cases q : A k j with
        | false => rfl
        | true => 
          have : b2 (A k j) < 1 := j2
          rw [q, b2_true] at this; omega
      have : j ≠ r := fun e => by rw [e, si.sym, ark] at j3; cases j3
      exact ⟨j, by omega, j3⟩
    obtain ⟨u, u1, u2, u3, u4, u5⟩ := nbr si (show i < n by omega) hr (by omega) (hgt i i1)
    have aui : A u i = true := by rw [si.sym]; exact u2
    have aur : A u r = false := by rw [si.sym]; exact u3
    have aik : A i k = false := by rw [si.sym]; exact i2
    have uk : u ≠ k := fun e => by rw [e, ark] at u3; cases u3
    have s1 := tog_simple si (show u ≠ i by omega)
    have s2 := tog_simple s1 (show u ≠ r by omega)
    have s3 := tog_simple s2 (show i ≠ k by omega)
    have d1 := deg_tog si (show u ≠ i by omega) u1 (by omega)
    have d2 := deg_tog s1 (show u ≠ r by omega) u1 hr
    have d3 := deg_tog s2 (show i ≠ k by omega) (by omega) k2
    have v2 : tog A u i u r = false := by rw [tog_ne (by omega)]; exact aur
    have v3 : tog (tog A u i) u r i k = false := by rw [tog_ne (by omega), tog_ne (by omega)]; exact aik
    rw [aui] at d1
    rw [v2] at d2
    rw [v3] at d3
    simp only [reduceIte, Bool.false_eq_true] at d3 d2 d1
    have tot : ∀ z, deg n (tog (tog (tog A u i) u r) i k) z = deg n A z + (if z = r then 1 else 0) + (if z = k then 1 else 0) := fun z => by
      rw [d3 z, d2 z, d1 z]
      repeat' split
      all_goals omega
    refine ⟨_, ⟨s3, fun z hz => ?_, fun z hz hzn => ?_, fun a b ha hb => ?_⟩, ?_⟩
    · rw [tot z]
      have z1 := h.le z hz
      by_cases e1 : z = r
      · subst e1
        rw [if_pos rfl, if_neg (by omega)]; omega
      · rw [if_neg e1]
        by_cases e2 : z = k
        · subst e2; rw [if_pos rfl]; omega
        · rw [if_neg e2]; omega
    · rw [tot z, if_neg (by omega), if_neg (by omega)]
      have z1 := h.eq z hz hzn
      omega
    · rw [tog_ne (by omega), tog_ne (by omega), tog_ne (by omega)]; exact h.ind a b ha hb
    · rw [tot r, if_pos rfl, if_neg (by omega)]; omega
  rcases Classical.em (∃ i j, i < j ∧ j < r ∧ A i j = false) with ⟨i, j, i1, i2, i3⟩ | c3
  · obtain ⟨u, u1, u2, u3, u4, u5⟩ := nbr si (show i < n by omega) hr (by omega) (hgt i (by omega))
    obtain ⟨v, v1, v2, v3, v4, v5⟩ := nbr si (show j < n by omega) hr (by omega) (hgt j (by omega))
    have ur : r < u := by
      rcases Nat.lt_or_ge u r with z | z
      · rw [h1 u z] at u3; cases u3
      · omega
    have vr : r < v := by
      rcases Nat.lt_or_ge v r with z | z
      · rw [h1 v z] at v3; cases v3
      · omega
    have aui : A u i = true := by rw [si.sym]; exact u2
    have aur : A u r = false := by rw [si.sym]; exact u3
    have avj : A v j = true := by rw [si.sym]; exact v2
    -- u i and v j go, i j and u r come
    have s0 := tog_simple si (show u ≠ i by omega)
    have s1 := tog_simple s0 (show v ≠ j by omega)
    have s2 := tog_simple s1 (show i ≠ j by omega)
    have s3 := tog_simple s2 (show u ≠ r by omega)
    have d0 := deg_tog si (show u ≠ i by omega) u1 (by omega)
    have d1 := deg_tog s0 (show v ≠ j by omega) v1 (by omega)
    have d2 := deg_tog (n := n) s1 (show i ≠ j by omega) (by omega) (by omega)
    have d3 := deg_tog s2 (show u ≠ r by omega) u1 hr
    have w1 : tog A u i v j = true := by rw [tog_ne (by omega)]; exact avj
    have w2 : tog (tog A u i) v j i j = false := by rw [tog_ne (by omega), tog_ne (by omega)]; exact i3
    have w3 : tog (tog (tog A u i) v j) i j u r = false := by rw [tog_ne (by omega), tog_ne (by omega), tog_ne (by omega)]; exact aur
    rw [aui] at d0
    rw [w1] at d1
    rw [w2] at d2
    rw [w3] at d3
    simp only [reduceIte, Bool.false_eq_true] at d3 d2 d1 d0
    have tot : ∀ z, deg n (tog (tog (tog (tog A u i) v j) i j) u r) z = deg n A z + (if z = r then 1 else 0) - (if z = v then 1 else 0) := fun z => by
      rw [d3 z, d2 z, d1 z, d0 z]
      repeat' split
      all_goals omega
    refine ⟨_, ⟨s3, fun z hz => ?_, fun z hz hzn => ?_, fun a b ha hb => ?_⟩, ?_⟩
    · rw [tot z]
      have z1 := h.le z hz
      by_cases e1 : z = r
      · subst e1
        rw [if_pos rfl]
        split <;> omega
      · rw [if_neg e1]
        split <;> omega
    · rw [tot z, if_neg (by omega), if_neg (by omega)]
      have z1 := h.eq z hz hzn
      omega
    · rw [tog_ne (by omega), tog_ne (by omega), tog_ne (by omega), tog_ne (by omega)]; exact h.ind a b ha hb
    · rw [tot r, if_pos rfl, if_neg (by omega)]; omega
  · -- all the first are tied with one another, and all the others are full: then vertex r lacks nothing
    exfalso
    have full : ∀ i j, i ≤ r → j ≤ r → i ≠ j → A i j = true := fun i j hi hj hne => by
      rcases Nat.lt_or_ge i r with z | z
      · rcases Nat.lt_or_ge j r with y | y
        · rcases Nat.lt_or_ge i j with x | x
          · exact bt_of fun q => c3 ⟨i, j, x, y, q⟩
          · rw [si.sym]; exact bt_of fun q => c3 ⟨j, i, by omega, z, q⟩
        · have e : j = r := by omega
          rw [e, si.sym]; exact h1 i z
      · have e : i = r := by omega
        rw [e]; exact h1 j (by omega)
    have hk : ∀ k, r < k → k < n → deg n A k = min ((r : Int) + 1) (d k) := fun k k1 k2 => by
      have z1 := degk k k1 k2
      have z2 := h.le k k2
      have z3 : ¬ (deg n A k < (r : Int) + 1 ∧ deg n A k < d k) := fun q => c2 ⟨k, k1, k2, q.1, q.2⟩
      omega
    have sum1 : S (r + 1) (deg n A) = ((r : Int) + 1) * r + S (n - (r + 1)) (fun k => min ((r : Int) + 1) (d (r + 1 + k))) := by
      have e : n = (r + 1) + (n - (r + 1)) := by omega
      have e1 : S (r + 1) (deg n A) = S (r + 1) (fun i => S (r + 1) (fun j => b2 (A i j))) + S (r + 1) (fun i => S (n - (r + 1)) fun k => b2 (A i (r + 1 + k))) := by
        rw [← S_add]
        refine S_congr fun i _ => ?_
        show S n _ = _
        have q := S_split (r + 1) (n - (r + 1)) (fun j => b2 (A i j))
        rw [← e] at q
        exact q
      have e2 : S (r + 1) (fun i => S (r + 1) (fun j => b2 (A i j))) = ((r : Int) + 1) * r := by
        have q : ∀ i, i < r + 1 → S (r + 1) (fun j => b2 (A i j)) = (r : Int) := fun i hi => by
          have y : S (r + 1) (fun j => b2 (A i j)) = S (r + 1) (fun j => 1 - (if j = i then 1 else 0)) := S_congr fun j hj => by
            by_cases c : j = i
            · subst c; rw [si.irr, if_pos rfl]; rfl
            · rw [full i j (by omega) (by omega) (Ne.symm c), if_neg c]; rfl
          rw [y, S_sub, S_one, S_pt, if_pos hi]; omega
        rw [S_congr q]
        have gen : ∀ m : Nat, S m (fun _ => (r : Int)) = (m : Int) * r := by
          intro m
          induction m with
          | zero => simp [S]
          | succ m ih =>
            show S m (fun _ => (r : Int)) + r = _
            rw [ih, Int.natCast_add, Int.add_mul]; simp
        rw [gen (r + 1)]; simp
      have e3 : S (r + 1) (fun i => S (n - (r + 1)) fun k => b2 (A i (r + 1 + k))) = S (n - (r + 1)) (fun k => min ((r : Int) + 1) (d (r + 1 + k))) := by
        rw [S_swap]
        refine S_congr fun k hk' => ?_
        rw [← hk (r + 1 + k) (by omega) (by omega), deg_low h hr (show r < r + 1 + k by omega)]
        exact S_congr fun i _ => by rw [si.sym]
      rw [e1, e2, e3]
    have sum2 : S (r + 1) (deg n A) < S (r + 1) d := by
      refine S_le_at (fun i hi => h.le i (by omega)) (show r < r + 1 by omega) hlt
    omega
end KM
namespace KM
def Graphical (n : Nat) (d : Nat → Int) : Prop := ∃ A, Simple A ∧ ∀ i, i < n → deg n A i = d i
theorem Sub.fill {n : Nat} {d : Nat → Int} {r : Nat} (hr : r < n) (hs : ∀ i j, i ≤ j → j < n → d j ≤ d i) (hev : S n d % 2 = 0)
    (heg : S (r + 1) d ≤ ((r : Int) + 1) * r + S (n - (r + 1)) (fun k => min ((r : Int) + 1) (d (r + 1 + k)))) :
    ∀ (m : Nat) (A : G), Sub n d r A → d r - deg n A r ≤ m → ∃ A', Sub n d (r + 1) A'
  | m, A, h, hm => by
    rcases Int.lt_or_le (deg n A r) (d r) with c | c
    · obtain ⟨A', h', hl⟩ := h.more hr hs hev heg c
      cases m with
      | zero => omega
      | succ m => exact Sub.fill hr hs hev heg m A' h' (by omega)
    · refine ⟨A, h.simple, h.le, fun i hi hin => ?_, fun i j hi hj => h.ind i j (by omega) (by omega)⟩
      rcases Nat.lt_or_ge i r with z | z
      · exact h.eq i z hin
      · have e : i = r := by omega
        subst e
        have := h.le i hin
        omega
/-- a falling row without a lack above 0, with an even total, has a graph -/
theorem eg {n : Nat} {d : Nat → Int} (h0 : ∀ i, i < n → 0 ≤ d i) (hs : ∀ i j, i ≤ j → j < n → d j ≤ d i) (hev : S n d % 2 = 0)
    (heg : ∀ r, r < n → S (r + 1) d ≤ ((r : Int) + 1) * r + S (n - (r + 1)) (fun k => min ((r : Int) + 1) (d (r + 1 + k)))) : Graphical n d := by
  have step : ∀ r, r ≤ n → ∃ A, Sub n d r A := by
    intro r
    induction r with
    | zero =>
      intro _
      refine ⟨fun _ _ => false, ⟨fun _ _ => rfl, fun _ => rfl⟩, fun i hi => ?_, fun i hi => by omega, fun _ _ _ _ => rfl⟩
      have e : deg n (fun _ _ => false) i = 0 := S_zero fun _ _ => rfl
      rw [e]
      exact h0 i hi
    | succ r ih =>
      intro hr
      obtain ⟨A, h⟩ := ih (by omega)
      exact Sub.fill (by omega) hs hev (heg r (by omega)) (d r - deg n A r).toNat A h (by omega)
  obtain ⟨A, h⟩ := step n (Nat.le_refl _)
  exact ⟨A, h.simple, fun i hi => h.eq i hi hi⟩
/-! ### a place tied to the greatest others -/
theorem swap_one {n : Nat} {d : Nat → Int} {A : G} (si : Simple A) (hd : ∀ i, i < n → deg n A i = d i) {p x y : Nat} (hp : p < n) (hx : x < n) (hy : y < n) (apx : A p x = false) (apy : A p y = true) (xp : x ≠ p) (hxy : d y ≤ d x) :
    ∃ A', Simple A' ∧ (∀ i, i < n → deg n A' i = d i) ∧ A' p x = true ∧ ∀ w, w ≠ x → w ≠ y → A' p w = A p w := by
  have yp : y ≠ p := fun e => by rw [e, si.irr] at apy; cases apy
  have xy : x ≠ y := fun e => by rw [e, apy] at apx; cases apx
  have ayp : A y p = true := by rw [si.sym]; exact apy
  have axp : A x p = false := by rw [si.sym]; exact apx
  obtain ⟨z, hz, axz, ayz, zx, zy, zp⟩ : ∃ z, z < n ∧ A x z = true ∧ A y z = false ∧ z ≠ x ∧ z ≠ y ∧ z ≠ p := by
    have e1 : S n (fun j => b2 (A x j && !decide (j = y))) = deg n A x - b2 (A x y) := by
      have q : S n (fun j => b2 (A x j && !decide (j = y))) = S n (fun j => b2 (A x j) - (if j = y then b2 (A x y) else 0)) := S_congr fun j _ => by
        by_cases c : j = y
        · subst c; simp [b2]
        · simp [c]
      rw [q, S_sub, S_pt, if_pos hy]; rfl
    have e2 : S n (fun j => b2 (A y j && !decide (j = x) && !decide (j = p))) = deg n A y - b2 (A x y) - 1 := by
      have q : S n (fun j => b2 (A y j && !decide (j = x) && !decide (j = p))) = S n (fun j => b2 (A y j) - (if j = x then b2 (A x y) else 0) - (if j = p then 1 else 0)) := S_congr fun j _ => by
        by_cases c : j = x
        · subst c; rw [si.sym y j]; simp [b2, xp]
        · by_cases c2 : j = p
          · subst c2; rw [ayp]; simp [b2, c]
          · simp [c, c2]
      rw [q, S_sub, S_sub, S_pt, S_pt, if_pos hx, if_pos hp]; rfl
    have := hd x hx
    have := hd y hy
    obtain ⟨z, hz, hl⟩ := S_lt_ex (n := n) (f := fun j => b2 (A x j && !decide (j = y))) (g := fun j => b2 (A y j && !decide (j = x) && !decide (j = p))) (by omega)
    have hl' : b2 (A y z && !decide (z = x) && !decide (z = p)) < b2 (A x z && !decide (z = y)) := hl
    have k1 : (A x z && !decide (z = y)) = true := by
      cases q : (A x z && !decide (z = y)) with
      | true => rfl
      | false =>
        rw [q] at hl'
        have := b2_nn (A y z && !decide (z = x) && !decide (z = p))
        rw [b2_false] at hl'
        omega
    have k2 : (A y z && !decide (z = x) && !decide (z = p)) = false := by
      cases q : (A y z && !decide (z = x) && !decide (z = p)) with
      | false => rfl
      | true =>
        rw [q] at hl'
        have := b2_le1 (A x z && !decide (z = y))
        rw [b2_true] at hl'
        omega
    simp only [Bool.and_eq_true, Bool.not_eq_true', decide_eq_false_iff_not] at k1
    have zx : z ≠ x := fun e => by
      have t := k1.1
      rw [e, si.irr] at t
      cases t
    have zp : z ≠ p := fun e => by
      have t := k1.1
      rw [e, axp] at t
      cases t
    refine ⟨z, hz, k1.1, ?_, zx, k1.2, zp⟩
    have h1 : decide (z = x) = false := by simpa using zx
    have h2 : decide (z = p) = false := by simpa using zp
    rw [h1, h2] at k2
    simpa using k2
  -- x z and p y go, p x and y z come
  have s0 := tog_simple si (show x ≠ z by omega)
  have s1 := tog_simple s0 (show p ≠ y by omega)
  have s2 := tog_simple s1 (show p ≠ x by omega)
  have s3 := tog_simple s2 (show y ≠ z by omega)
  have d0 := deg_tog (n := n) si (show x ≠ z by omega) hx hz
  have d1 := deg_tog (n := n) s0 (show p ≠ y by omega) hp hy
  have d2 := deg_tog (n := n) s1 (show p ≠ x by omega) hp hx
  have d3 := deg_tog (n := n) s2 (show y ≠ z by omega) hy hz
  have v1 : tog A x z p y = true := by rw [tog_ne (by omega)]; exact apy
  have v2 : tog (tog A x z) p y p x = false := by rw [tog_ne (by omega), tog_ne (by omega)]; exact apx
  have v3 : tog (tog (tog A x z) p y) p x y z = false := by rw [tog_ne (by omega), tog_ne (by omega), tog_ne (by omega)]; exact ayz
  rw [axz] at d0
  rw [v1] at d1
  rw [v2] at d2
  rw [v3] at d3
  simp only [reduceIte, Bool.false_eq_true] at d0 d1 d2 d3
  refine ⟨_, s3, fun i hi => ?_, ?_, fun w wx wy => ?_⟩
  · rw [← hd i hi, d3 i, d2 i, d1 i, d0 i]
    repeat' split
    all_goals omega
  · rw [tog_ne (by omega), tog_at, v2]; rfl
  · rw [tog_ne (by omega), tog_ne (by omega), tog_ne (by omega), tog_ne (by omega)]
theorem tied {n : Nat} {d : Nat → Int} {p : Nat} {T : Nat → Bool} (hp : p < n) (tp : T p = false) (hT : S n (fun j => b2 (T j)) = d p) (hg : ∀ x y, x < n → y < n → T x = true → T y = false → y ≠ p → d y ≤ d x) :
    ∀ (m : Nat) (A : G), Simple A → (∀ i, i < n → deg n A i = d i) → S n (fun j => b2 (T j && !A p j)) ≤ m → ∃ A', Simple A' ∧ (∀ i, i < n → deg n A' i = d i) ∧ ∀ x, x < n → A' p x = T x
  | m, A, si, hd, hm => by
    have hs : S n (fun j => b2 (A p j)) = S n (fun j => b2 (T j)) := by rw [hT]; exact hd p hp
    rcases Classical.em (∃ x, x < n ∧ T x = true ∧ A p x = false) with ⟨x, hx, tx, ax⟩ | c
    · obtain ⟨y, hy, ay, ty⟩ : ∃ y, y < n ∧ A p y = true ∧ T y = false := by
        rcases Classical.em (∃ y, y < n ∧ A p y = true ∧ T y = false) with q | q
        · exact q
        · exfalso
          have := S_le_at (n := n) (f := fun j => b2 (A p j)) (g := fun j => b2 (T j)) (fun j hj => by
            cases a : A p j with
            | false => exact b2_nn _
            | true =>
              have : T j = true := bt_of fun z => q ⟨j, hj, a, z⟩
              show b2 true ≤ b2 (T j)
              rw [this]; exact Int.le_refl _) hx (by
              show b2 (A p x) < b2 (T x)
              rw [ax, tx]; decide)
          omega
      have xp : x ≠ p := fun e => by rw [e, tp] at tx; cases tx
      have yp : y ≠ p := fun e => by rw [e, si.irr] at ay; cases ay
      obtain ⟨A', si', hd', a1, a2⟩ := swap_one si hd hp hx hy ax ay xp (hg x y hx hy tx ty yp)
      have less : S n (fun j => b2 (T j && !A' p j)) < S n (fun j => b2 (T j && !A p j)) := by
        refine S_le_at (fun j hj => ?_) hx ?_
        · by_cases e : j = x
          · subst e
            rw [a1]; simp; exact b2_nn _
          · by_cases e2 : j = y
            · subst e2; rw [ty]; simp
            · rw [a2 j e e2]; exact Int.le_refl _
        · show b2 (T x && !A' p x) < b2 (T x && !A p x)
          rw [a1, ax, tx]; decide
      cases m with
      | zero =>
        exfalso
        have z := S_le (n := n) (f := fun _ => 0) (g := fun j => b2 (T j && !A' p j)) fun j _ => b2_nn _
        rw [S_zero fun _ _ => rfl] at z
        omega
      | succ m => exact tied hp tp hT hg m A' si' hd' (by omega)
    · refine ⟨A, si, hd, fun x hx => ?_⟩
      cases t : T x with
      | true => exact bt_of fun q => c ⟨x, hx, t, q⟩
      | false =>
        cases a : A p x with
        | false => rfl
        | true =>
          exfalso
          have := S_le_at (n := n) (f := fun j => b2 (T j)) (g := fun j => b2 (A p j)) (fun j hj => by
            cases tj : T j with
            | false => exact b2_nn _
            | true =>
              have : A p j = true := bt_of fun z => c ⟨j, hj, tj, z⟩
              show b2 true ≤ b2 (A p j)
              rw [this]; exact Int.le_refl _) hx (by
              show b2 (T x) < b2 (A p x)
              rw [a, t]; decide)
          omega
/-- what is left is possible again -/
theorem laid_off {n : Nat} {d : Nat → Int} {p : Nat} {T : Nat → Bool} (h : Graphical n d) (hp : p < n) (tp : T p = false) (hT : S n (fun j => b2 (T j)) = d p) (hg : ∀ x y, x < n → y < n → T x = true → T y = false → y ≠ p → d y ≤ d x) :
    Graphical n (fun q => if q = p then 0 else d q - b2 (T q)) ∧ ∀ q, q < n → T q = true → 1 ≤ d q := by
  obtain ⟨A0, s0, h0⟩ := h
  obtain ⟨A, si, hd, ha⟩ := tied hp tp hT hg (S n (fun j => b2 (T j && !A0 p j))).toNat A0 s0 h0 (by omega)
  refine ⟨⟨fun i j => A i j && !decide (i = p) && !decide (j = p), ⟨fun i j => ?_, fun i => ?_⟩, fun i hi => ?_⟩, fun q hq tq => ?_⟩
  · show (A i j && !decide (i = p) && !decide (j = p)) = (A j i && !decide (j = p) && !decide (i = p))
    rw [si.sym i j, Bool.and_assoc, Bool.and_assoc, Bool.and_comm (!decide (i = p))]
  · show (A i i && !decide (i = p) && !decide (i = p)) = false
    rw [si.irr]; rfl
  · show _ = if i = p then 0 else d i - b2 (T i)
    by_cases e : i = p
    · subst e
      rw [if_pos rfl]
      exact S_zero fun j _ => by simp [b2]
    · rw [if_neg e]
      show S n (fun j => b2 (A i j && !decide (i = p) && !decide (j = p))) = _
      have q : S n (fun j => b2 (A i j && !decide (i = p) && !decide (j = p))) = S n (fun j => b2 (A i j) - (if j = p then b2 (T i) else 0)) := S_congr fun j hj => by
        by_cases c : j = p
        · subst c; rw [si.sym i j, ha i hi]; simp [b2]
        · simp [c, e]
      rw [q, S_sub, S_pt, if_pos hp, ← hd i hi]; rfl
  · rw [← hd q hq]
    have z := S_le (n := n) (f := fun j => if j = p then 1 else 0) (g := fun j => b2 (A q j)) fun j hj => by
      by_cases c : j = p
      · subst c; rw [if_pos rfl, si.sym, ha q hq, tq]; decide
      · rw [if_neg c]; exact b2_nn _
    rw [S_pt, if_pos hp] at z
    exact z
theorem Graphical.le {n : Nat} {d : Nat → Int} (h : Graphical n d) {p : Nat} (hp : p < n) : 0 ≤ d p ∧ d p < n := by
  obtain ⟨A, si, hd⟩ := h
  rw [← hd p hp]
  refine ⟨deg_nn _ _ _, ?_⟩
  have z := S_le_at (n := n) (f := fun j => b2 (A p j)) (g := fun _ => 1) (fun j _ => b2_le1 _) hp (by show b2 (A p p) < 1; rw [si.irr]; decide)
  rw [S_one] at z
  exact z
end KM
namespace KM
/-! ### rows as lists -/
abbrev ent (d : List Int) (i : Nat) : Int := d.getD i 0
def mn (k e : Int) : Int := if e < k then e else k
theorem mn_eq (k e : Int) : mn k e = min k e := by unfold mn; split <;> omega
/-- the lack of the k first entries -/
def gap (es : List Int) (k : Nat) : Int := (es.take k).sum - (k : Int) * ((k : Int) - 1) - ((es.drop k).map (mn k)).sum
structure Falls (es d : List Int) : Prop where
  perm : es.Perm d
  ord : es.Pairwise (· ≥ ·)
theorem S_front (n : Nat) (f : Nat → Int) : S (n + 1) f = f 0 + S n (fun i => f (i + 1)) := by
  induction n with
  | zero => show 0 + f 0 = f 0 + 0; omega
  | succ n ih =>
    show S (n + 1) f + f (n + 1) = f 0 + (S n (fun i => f (i + 1)) + f (n + 1))
    rw [ih]; omega
theorem sum_S (g : Int → Int) : ∀ (l : List Int), (l.map g).sum = S l.length (fun j => g (ent l j))
  | [] => rfl
  | x :: l => by
    rw [List.map_cons, List.sum_cons, sum_S g l, List.length_cons, S_front]
    rfl
theorem sum_S0 (l : List Int) : l.sum = S l.length (ent l) := by
  have z := sum_S id l
  rw [List.map_id] at z
  exact z
theorem S_range (g : Nat → Int) : ∀ n, ((List.range n).map g).sum = S n g
  | 0 => rfl
  | n + 1 => by
    rw [List.range_succ, List.map_append, List.sum_append, S_range g n]
    simp [S]
theorem take_S (l : List Int) (k : Nat) (hk : k ≤ l.length) : (l.take k).sum = S k (ent l) := by
  rw [sum_S0, List.length_take, Nat.min_eq_left hk]
  refine S_congr fun i hi => ?_
  show (l.take k).getD i 0 = l.getD i 0
  rw [List.getD_eq_getElem?_getD, List.getD_eq_getElem?_getD, List.getElem?_take_of_lt hi]
theorem drop_S (g : Int → Int) (l : List Int) (k : Nat) : ((l.drop k).map g).sum = S (l.length - k) (fun j => g (ent l (k + j))) := by
  rw [sum_S, List.length_drop]
  refine S_congr fun i hi => ?_
  show g ((l.drop k).getD i 0) = g (l.getD (k + i) 0)
  rw [List.getD_eq_getElem?_getD, List.getD_eq_getElem?_getD, List.getElem?_drop]
theorem ent_ge {es : List Int} (h : es.Pairwise (· ≥ ·)) {i j : Nat} (hij : i ≤ j) (hj : j < es.length) : ent es j ≤ ent es i := by
  have e1 : ent es j = es[j] := by
    show es.getD j 0 = _
    rw [List.getD_eq_getElem?_getD, List.getElem?_eq_getElem hj]; rfl
  have e2 : ent es i = es[i]'(by omega) := by
    show es.getD i 0 = _
    rw [List.getD_eq_getElem?_getD, List.getElem?_eq_getElem (by omega)]; rfl
  rw [e1, e2]
  rcases Nat.lt_or_ge i j with c | c
  · exact List.pairwise_iff_getElem.mp h i j (by omega) hj c
  · have e : i = j := by omega
    subst e
    exact Int.le_refl _
theorem ent_mem {d : List Int} {i : Nat} (h : i < d.length) : ent d i ∈ d := by
  show d.getD i 0 ∈ d
  rw [List.getD_eq_getElem?_getD, List.getElem?_eq_getElem h]
  exact List.getElem_mem h
/-- one falling list alone -/
theorem falls_one : ∀ {a b : List Int}, a.Perm b → a.Pairwise (· ≥ ·) → b.Pairwise (· ≥ ·) → a = b
  | [], b, p, _, _ => by rw [List.nil_perm.mp p]
  | x :: a, [], p, _, _ => by have := p.length_eq; simp at this
  | x :: a, y :: b, p, ha, hb => by
    obtain ⟨a1, a2⟩ := List.pairwise_cons.mp ha
    obtain ⟨b1, b2⟩ := List.pairwise_cons.mp hb
    have hx : x ∈ y :: b := p.mem_iff.mp List.mem_cons_self
    have hy : y ∈ x :: a := p.mem_iff.mpr List.mem_cons_self
    have e : x = y := by
      rcases List.mem_cons.mp hx with q | q
      · exact q
      · rcases List.mem_cons.mp hy with r | r
        · exact r.symm
        · have := a1 y r
          have := b1 x q
          omega
    subst e
    rw [falls_one (List.Perm.cons_inv p) a2 b2]
theorem Falls.one {a b d : List Int} (ha : Falls a d) (hb : Falls b d) : a = b := falls_one (ha.perm.trans hb.perm.symm) ha.ord hb.ord
/-! ### the greatest lack -/
structure Heavy (es : List Int) (m : Int) (s : Nat) : Prop where
  nn : 0 ≤ m
  top : ∀ k, 1 ≤ k → k ≤ es.length → gap es k ≤ m
  at_ : (m = 0 ∧ s = 0) ∨ (1 ≤ s ∧ s ≤ es.length ∧ m = gap es s ∧ 0 < m)
/-- behind k turns -/
structure HeavyTo (es : List Int) (i : Nat) (m : Int) (s : Nat) : Prop where
  nn : 0 ≤ m
  top : ∀ k, 1 ≤ k → k ≤ i → gap es k ≤ m
  at_ : (m = 0 ∧ s = 0) ∨ (1 ≤ s ∧ s ≤ i ∧ m = gap es s ∧ 0 < m)
theorem HeavyTo.zero (es : List Int) : HeavyTo es 0 0 0 := ⟨Int.le_refl _, fun k h1 h2 => by omega, .inl ⟨rfl, rfl⟩⟩
theorem HeavyTo.up {es : List Int} {i : Nat} {m : Int} {s : Nat} (h : HeavyTo es i m s) (hg : m < gap es (i + 1)) : HeavyTo es (i + 1) (gap es (i + 1)) (i + 1) :=
  ⟨by have := h.nn; omega, fun k h1 h2 => by
    rcases Nat.lt_or_ge k (i + 1) with c | c
    · have := h.top k h1 (by omega); omega
    · have e : k = i + 1 := by omega
      subst e; exact Int.le_refl _, .inr ⟨by omega, Nat.le_refl _, rfl, by have := h.nn; omega⟩⟩
theorem HeavyTo.stay {es : List Int} {i : Nat} {m : Int} {s : Nat} (h : HeavyTo es i m s) (hg : ¬ m < gap es (i + 1)) : HeavyTo es (i + 1) m s :=
  ⟨h.nn, fun k h1 h2 => by
    rcases Nat.lt_or_ge k (i + 1) with c | c
    · exact h.top k h1 (by omega)
    · have e : k = i + 1 := by omega
      subst e; omega, h.at_.imp id fun ⟨a, b, c, d⟩ => ⟨a, by omega, c, d⟩⟩
theorem HeavyTo.all {es : List Int} {m : Int} {s : Nat} (h : HeavyTo es es.length m s) : Heavy es m s := ⟨h.nn, h.top, h.at_⟩
/-- the law's own: the greatest of 0 and the gaps -/
def found (es : List Int) (n : Nat) : List Int := 0 :: (List.range n).map fun i => gap es (i + 1)
theorem found_succ (es : List Int) (n : Nat) : found es (n + 1) = found es n ++ [gap es (n + 1)] := by
  unfold found
  rw [List.range_succ, List.map_append, List.cons_append]; rfl
theorem Heavy.is_max {es : List Int} {m : Int} {s : Nat} (h : Heavy es m s) {x : Int} (hx : x ∈ found es es.length) (ht : ∀ y, y ∈ found es es.length → y ≤ x) : x = m := by
  have mem : ∀ k, 1 ≤ k → k ≤ es.length → gap es k ∈ found es es.length := fun k h1 h2 => List.mem_cons_of_mem _ (List.mem_map.mpr ⟨k - 1, List.mem_range.mpr (by omega), by rw [show k - 1 + 1 = k by omega]⟩)
  have le1 : x ≤ m := by
    rcases List.mem_cons.mp hx with q | q
    · rw [q]; exact h.nn
    · obtain ⟨i, hi, e⟩ := List.mem_map.mp q
      rw [← e]
      exact h.top (i + 1) (by omega) (by have := List.mem_range.mp hi; omega)
  have le2 : m ≤ x := by
    rcases h.at_ with ⟨q, _⟩ | ⟨a, b, c, _⟩
    · rw [q]; exact ht 0 List.mem_cons_self
    · rw [c]; exact ht _ (mem s a b)
  omega
theorem Heavy.one {es : List Int} {m m' : Int} {s s' : Nat} (h : Heavy es m s) (h' : Heavy es m' s') : m = m' := by
  have a : m ≤ m' := by
    rcases h.at_ with ⟨q, _⟩ | ⟨a, b, c, _⟩
    · rw [q]; exact h'.nn
    · rw [c]; exact h'.top s a b
  have b : m' ≤ m := by
    rcases h'.at_ with ⟨q, _⟩ | ⟨a, b, c, _⟩
    · rw [q]; exact h.nn
    · rw [c]; exact h.top s' a b
  omega
/-! ### the order of the places -/
structure Ord (d : List Int) (os : List Nat) : Prop where
  perm : os.Perm (List.range d.length)
  ord : os.Pairwise fun a b => ent d b ≤ ent d a
theorem Ord.nodup {d : List Int} {os : List Nat} (h : Ord d os) : os.Nodup := h.perm.nodup_iff.mpr List.nodup_range
theorem Ord.len {d : List Int} {os : List Nat} (h : Ord d os) : os.length = d.length := by rw [h.perm.length_eq, List.length_range]
theorem Ord.mem {d : List Int} {os : List Nat} (h : Ord d os) {x : Nat} : x ∈ os ↔ x < d.length := by rw [h.perm.mem_iff, List.mem_range]
theorem range_ent (d : List Int) : (List.range d.length).map (ent d) = d := by
  apply List.ext_getElem?
  intro i
  rw [List.getElem?_map]
  rcases Nat.lt_or_ge i d.length with c | c
  · rw [List.getElem?_range c, List.getElem?_eq_getElem c]
    show some (d.getD i 0) = _
    rw [List.getD_eq_getElem?_getD, List.getElem?_eq_getElem c]; rfl
  · rw [List.getElem?_eq_none (by rw [List.length_range]; exact c), List.getElem?_eq_none c]; rfl
theorem Ord.falls {d : List Int} {os : List Nat} (h : Ord d os) : Falls (os.map (ent d)) d := by
  refine ⟨?_, ?_⟩
  · have z := h.perm.map (ent d)
    rw [range_ent] at z
    exact z
  · rw [List.pairwise_map]
    exact h.ord.imp fun q => q
/-! ### lacks of sets -/
/-- the lack of a set of places, as both tell it -/
def lackL (d : List Int) (ps : List Nat) : Int :=
  (ps.map (ent d)).sum - (ps.length : Int) * ((ps.length : Int) - 1) - S d.length (fun i => if i ∈ ps then 0 else mn ps.length (ent d i))
theorem sum_perm {a b : List Int} (h : a.Perm b) : a.sum = b.sum := by
  induction h with
  | nil => rfl
  | cons x _ ih => rw [List.sum_cons, List.sum_cons, ih]
  | swap x y l => rw [List.sum_cons, List.sum_cons, List.sum_cons, List.sum_cons]; omega
  | trans _ _ h1 h2 => rw [h1, h2]
theorem lackL_perm {d : List Int} {ps qs : List Nat} (h : ps.Perm qs) : lackL d ps = lackL d qs := by
  unfold lackL
  have e : S d.length (fun i => if i ∈ ps then 0 else mn ps.length (ent d i)) = S d.length (fun i => if i ∈ qs then 0 else mn qs.length (ent d i)) := S_congr fun i _ => by
    by_cases c : i ∈ ps
    · rw [if_pos c, if_pos (h.mem_iff.mp c)]
    · rw [if_neg c, if_neg fun q => c (h.mem_iff.mpr q), h.length_eq]
  rw [sum_perm (h.map (ent d)), e, h.length_eq]
theorem S_mem {n : Nat} (f : Nat → Int) {ps : List Nat} (hn : ps.Nodup) (hl : ∀ x, x ∈ ps → x < n) : S n (fun i => if i ∈ ps then f i else 0) = (ps.map f).sum := by
  induction ps with
  | nil => exact S_zero fun i _ => by simp
  | cons x ps ih =>
    obtain ⟨h1, h2⟩ := List.nodup_cons.mp hn
    rw [List.map_cons, List.sum_cons, ← ih h2 fun y hy => hl y (List.mem_cons_of_mem _ hy)]
    have e : S n (fun i => if i ∈ x :: ps then f i else 0) = S n (fun i => (if i = x then f x else 0) + (if i ∈ ps then f i else 0)) := S_congr fun i _ => by
      by_cases c : i = x
      · subst c
        rw [if_pos List.mem_cons_self, if_pos rfl, if_neg h1]; omega
      · rw [if_neg c]
        by_cases c2 : i ∈ ps
        · rw [if_pos (List.mem_cons_of_mem _ c2), if_pos c2]; omega
        · rw [if_neg (fun q => (List.mem_cons.mp q).elim c c2), if_neg c2]; rfl
    rw [e, S_add, S_pt, if_pos (hl x List.mem_cons_self)]
/-- the law's count of what is inside -/
theorem S_inside {d : List Int} {ps : List Nat} (hn : ps.Nodup) (hl : ∀ x, x ∈ ps → x < d.length) : S d.length (fun i => if i ∈ ps then ent d i else 0) = (ps.map (ent d)).sum := S_mem (ent d) hn hl
theorem Ord.lack {d : List Int} {os : List Nat} (h : Ord d os) {s : Nat} (hs : s ≤ d.length) : lackL d (os.take s) = gap (os.map (ent d)) s := by
  have hl : (os.take s).length = s := by rw [List.length_take, h.len]; omega
  have nd := h.nodup
  have split : os = os.take s ++ os.drop s := (List.take_append_drop s os).symm
  have nd' : (os.take s ++ os.drop s).Nodup := by rw [← split]; exact nd
  obtain ⟨n1, n2, n3⟩ := List.nodup_append.mp nd'
  have e : S d.length (fun i => if i ∈ os.take s then 0 else mn ((s : Nat) : Int) (ent d i)) = ((os.drop s).map fun i => mn ((s : Nat) : Int) (ent d i)).sum := by
    rw [← S_mem (n := d.length) (fun i => mn ((s : Nat) : Int) (ent d i)) n2 fun x hx => h.mem.mp (List.mem_of_mem_drop hx)]
    refine S_congr fun i hi => ?_
    have hm : i ∈ os := h.mem.mpr hi
    rw [split] at hm
    rcases List.mem_append.mp hm with q | q
    · rw [if_pos q, if_neg fun r => n3 i q i r rfl]
    · rw [if_pos q, if_neg fun r => n3 i r i q rfl]
  unfold lackL gap
  rw [hl, e, List.map_take, List.map_drop, ← List.map_drop, ← List.map_drop, List.map_map]
  rfl
/-! ### what is possible -/
theorem S_perm {n : Nat} (g : Nat → Int) {os : List Nat} (h : os.Perm (List.range n)) : (os.map g).sum = S n g := by
  rw [← S_range]
  exact sum_perm (h.map g)
theorem Ord.relabel {d : List Int} {os : List Nat} (h : Ord d os) (hg : Graphical d.length (ent (os.map (ent d)))) : Graphical d.length (ent d) := by
  obtain ⟨A, si, hd⟩ := hg
  have nd := h.nodup
  have ix : ∀ i (hi : i < os.length), os.idxOf os[i] = i := fun i hi => List.Nodup.idxOf_getElem nd i hi
  have pos : os.map (fun x => os.idxOf x) = List.range os.length := by
    apply List.ext_getElem?
    intro i
    rw [List.getElem?_map]
    rcases Nat.lt_or_ge i os.length with c | c
    · rw [List.getElem?_eq_getElem c, List.getElem?_range c]
      show some (os.idxOf os[i]) = some i
      rw [ix i c]
    · rw [List.getElem?_eq_none c, List.getElem?_eq_none (by rw [List.length_range]; exact c)]; rfl
  refine ⟨fun x y => A (os.idxOf x) (os.idxOf y), ⟨fun i j => si.sym _ _, fun i => si.irr _⟩, fun x hx => ?_⟩
  have hm : x ∈ os := h.mem.mpr hx
  have hlt : os.idxOf x < os.length := List.idxOf_lt_length_of_mem hm
  have e1 : deg d.length (fun x y => A (os.idxOf x) (os.idxOf y)) x = deg d.length A (os.idxOf x) := by
    show S d.length (fun j => b2 (A (os.idxOf x) (os.idxOf j))) = S d.length (fun j => b2 (A (os.idxOf x) j))
    rw [← S_perm (fun j => b2 (A (os.idxOf x) (os.idxOf j))) h.perm]
    have q : os.map (fun j => b2 (A (os.idxOf x) (os.idxOf j))) = (os.map (fun j => os.idxOf j)).map (fun j => b2 (A (os.idxOf x) j)) := by rw [List.map_map]; rfl
    rw [q, pos, S_range, h.len]
  rw [e1, hd _ (by rw [← h.len]; exact hlt)]
  show (os.map (ent d)).getD (os.idxOf x) 0 = ent d x
  rw [List.getD_eq_getElem?_getD, List.getElem?_map, List.getElem?_eq_getElem hlt]
  show ent d os[os.idxOf x] = ent d x
  rw [List.getElem_idxOf hlt]
theorem possible {d es : List Int} {os : List Nat} {s : Nat} (h0 : ∀ x, x ∈ d → 0 ≤ x) (h : Ord d os) (hf : Falls es d) (hv : Heavy es 0 s) (hev : d.sum % 2 = 0) : Graphical d.length (ent d) := by
  refine h.relabel ?_
  have he : os.map (ent d) = es := h.falls.one hf
  rw [he]
  have hl : es.length = d.length := hf.perm.length_eq
  rw [← hl]
  refine eg (fun i hi => h0 _ (hf.perm.mem_iff.mp (ent_mem hi))) (fun i j hij hj => ent_ge hf.ord hij hj) ?_ fun r hr => ?_
  · rw [← sum_S0, sum_perm hf.perm]; exact hev
  · have z := hv.top (r + 1) (by omega) (by omega)
    unfold gap at z
    rw [take_S _ _ (by omega), drop_S] at z
    have e1 : S (es.length - (r + 1)) (fun j => mn ((r + 1 : Nat) : Int) (ent es (r + 1 + j))) = S (es.length - (r + 1)) (fun k => min ((r : Int) + 1) (ent es (r + 1 + k))) := S_congr fun j _ => by
      rw [mn_eq]; rfl
    rw [e1] at z
    have e2 : (((r + 1 : Nat) : Int) * (((r + 1 : Nat) : Int) - 1)) = ((r : Int) + 1) * r := by
      rw [show ((r + 1 : Nat) : Int) = (r : Int) + 1 by omega, show (r : Int) + 1 - 1 = r by omega]
    rw [e2] at z
    omega
end KM
set_option Elab.async false
set_option maxRecDepth 100000
set_option maxHeartbeats 4000000
/-! sum of a tuple, enumerate of a tuple -/
namespace K9
open PySem PySem.Spec PyProof.Rows L2
/-- sum(t), t a tuple of ints -/
def rSumT (K : PySem.W.Frag) : List V → Hp → VK → Prop := fun vs H Q =>
  ∃ (a : Addr) (ns : List Int), vs = [V.ref a] ∧ SqT K H a (ns.map V.int) ∧ Q (.int ns.sum) H
section
variable {X : Cx}
theorem cr_sumT (hc : X.calm = true) : CallR X (.builtin "sum") (rSumT X.K) := by
  intro pins s σ H vs us Q I r h
  obtain ⟨a, ns, rfl, ht, q⟩ := h
  obtain ⟨its, rv, pt, _⟩ := I.tuple ht
  rw [Vals.ref1 r]
  have hi := rv.ints
  obtain ⟨xs, e⟩ := hi.allInts.items
  have hn : numsOf (intItems xs).toList = ns := by
    rw [← e]
    exact hi.numsOf
  rw [nums_intItems] at hn
  have pt' : s.heap.IsTuple a (intItems xs) := by
    rw [← e]
    exact pt
  refine PySem.W.ktm_sumG (I.ok.hd hc) pt' fun h' tk t' hk => ?_
  rw [preSum_eq, List.take_of_length_le (by simp), hn]
  exact ⟨.int _, H, I.kept hk, ⟨_, rfl⟩, q⟩
end
theorem new_enumB {v : Value} {o : Obj} {H : Heap → Prop} (B : Begins v o H) :
    Meets (Builtin.«enumerate.__new__» ⟨[.type "enumerate", v], []⟩) (fun _ R s => H s.heap ∧
      R (.ok (.ret (.ref (s.heap.push o).objs.size)))
        { s with heap := (s.heap.push o).push { cls := .type "enumerate", data := .fields #[.none, .bool false, .ref s.heap.objs.size, rawInt 0, .none, .none] } }) :=
  .of_wp fun prog w A R s h => by
    obtain ⟨hp, g, d, tk, os⟩ := s
    obtain ⟨h1, h⟩ := h
    have hsub := sub_enumerate
    have q1 : ∀ {A' : Around} {E : Value → Shared → Prop} {Q : Value → Shared → Prop},
        Q (.ref hp.objs.size) ⟨hp.push o, g, d, tk, os⟩ → wpAny (model prog w) A' (pyIter v) Q E ⟨hp, g, d, tk, os⟩ :=
      fun q => B.iter prog w _ _ ⟨hp, g, d, tk, os⟩ _ h1 q
    wp_walk using q1
    refine wpAny_stack_any fun st => wpAny_pure ?_
    split
    · rename_i c _ _ _ _ _
      cases (c == Value.type "enumerate")
      all_goals
        wp_walk using q1
        exact ⟨_, rfl, h⟩
    · wp_walk using q1
      exact ⟨_, rfl, h⟩
section
variable {prog : Program} {w : World} {A : Around} {E : Value → Shared → Prop} {s : Shared}
theorem enum_call {v : Value} {o : Obj} {H : Heap → Prop} {Q : Value → Shared → Prop} (B : Begins v o H) (h1 : H s.heap)
    (h : ∀ h', IsEnum h' (s.heap.objs.size + 1) s.heap.objs.size 0 .none → h'.get? s.heap.objs.size = some o →
      (∀ b o, s.heap.get? b = some o → h'.get? b = some o) → Q (.ref (s.heap.objs.size + 1)) { s with heap := h' }) :
    wpAny (model prog w) A (call (.type "enumerate") [v]) Q E s := by
  refine callType_new F.called_enumerate (by decide) (F.typeCall_enumerate_1 _) (F.newCall_enumerate_1 _)
    (fun obj => F.args_object_init_2 obj _) F.entry_enumerate_new (new_enumB B) ⟨h1, ?_⟩
  have hz : (s.heap.push o).objs.size = s.heap.objs.size + 1 := Heap.size_push ..
  show _ ∧ _
  rw [hz]
  have he : IsEnum ((s.heap.push o).push { cls := .type "enumerate", data := .fields #[.none, .bool false, .ref s.heap.objs.size, rawInt 0, .none, .none] })
      (s.heap.objs.size + 1) s.heap.objs.size 0 .none := by
    have z := Heap.get?_push_size (s.heap.push o)
      (o := { cls := .type "enumerate", data := .fields #[.none, .bool false, .ref s.heap.objs.size, rawInt 0, .none, .none] }) rfl
    rw [hz] at z
    exact z
  refine ⟨⟨_, he, rfl⟩, h _ he (Heap.get?_push_of_some _ (Heap.get?_push_size _ B.free)) fun b o x => ?_⟩
  exact Heap.get?_push_of_some _ (Heap.get?_push_of_some _ x)
end
/-- the tuple at a at each turn, each item in a new pair -/
def IteT (K : PySem.W.Frag) (a : Addr) : It where
  go := fun i H => ∃ (xs : List V) (x : V), SqT K H a xs ∧ xs[i]? = some x
  yld := fun i H v H' => ∃ T x, v = .ref T ∧ H T = none ∧ H' = upd H T (.tup [.int (i : Nat), x]) ∧ ∀ xs, SqT K H a xs → xs[i]? = some x
  stop := fun i H => ∃ xs : List V, SqT K H a xs ∧ xs.length = i
theorem turn_enumT {P : Program} {w : World} {K : PySem.W.Frag} {elts : List Expr} {kk : Nat} {tpos : Pos} (a e it : Addr) (hne : e ≠ it) (hai : a ≠ it) (hae : a ≠ e) :
    Turn P w K (.Tuple elts kk tpos) (IteT K a) [e, it] e (fun i h => (∃ old, IsEnum h e it ((i : Nat) : Int) old) ∧ h.IsTupleIter it a i) where
  mem := by simp
  obj := fun i h st b hb => by
    obtain ⟨⟨old, he⟩, ⟨o, ho, _, hd⟩⟩ := st
    rcases List.mem_cons.mp hb with z | z
    · rw [z]
      exact ⟨_, he, fun v q => nomatch q⟩
    · rw [List.mem_singleton.mp z]
      refine ⟨o, ho, fun v q => ?_⟩
      rw [hd] at q
      cases q
  keep := fun i h h' st k => by
    obtain ⟨⟨old, he⟩, hi⟩ := st
    exact ⟨⟨old, k e (by simp) _ he⟩, hi.at fun o q => k it (by simp) o q⟩
  item := by
    intro X hP hw hK hc i pins s σ H E I hf st hg
    subst hP hw hK
    obtain ⟨⟨old, he⟩, hit⟩ := st
    obtain ⟨xs, x, hq, hx⟩ := hg
    obtain ⟨its, rv, pt, _⟩ := I.tuple hq
    obtain ⟨u, hu, ru⟩ := rv.get hx
    have hel : e < s.heap.objs.size := Heap.lt_size he
    have hil : it < s.heap.objs.size := by
      obtain ⟨_, q, _⟩ := hit
      exact Heap.lt_size q
    have hlt : i < its.toArray.size := by
      have z := (List.getElem?_eq_some_iff.mp hu).1
      simpa using z
    have D := Draws.tuple (prog := X.prog) (w := X.w) (A := X.A.in1) (I.ok.hd hc) it a hai its.toArray
    have pt' : s.heap.IsTuple a its.toArray := pt
    refine wpAny_pyNext_enum_itemC D he ⟨hit, pt'⟩ hlt hne (by simp [hne, Ne.symm hae]) fun y h' tk hy ho st' hT hsz hk => ?_
    have ey : y = u := by
      have y1 : its[i]? = some y := by simpa using hy
      rw [hu] at y1
      exact (Option.some.inj y1).symm
    subst ey
    refine ⟨_, rfl, wpAny_letOwnedTupleGo_enum (s := { s with heap := h', toks := tk + 1 }) ho fun h'' he' sb => ?_⟩
    have hT2 := (sb.2 _ (Nat.ne_of_gt hel)).trans hT
    have new : ObjOk X.prog X.w (upd H s.heap.objs.size (.tup [.int (i : Nat), x])) h'' s.heap.objs.size (.tup [.int (i : Nat), x]) :=
      ⟨by show 2 ≤ sizeLine; decide, [.int i tk, y], .cons ⟨_, rfl⟩ (.cons ru .nil), ⟨_, hT2, rfl, _, rfl⟩⟩
    have I1 : Inv X pins σ (upd H s.heap.objs.size (.tup [.int (i : Nat), x])) { s with heap := h'', toks := tk + 1 } := by
      refine I.turnedNew (ch := [e, it]) (fun b ob hb q => ?_) hf (Nat.le_refl _) new
      refine (sb.2 b fun z => hb (by simp [z])).trans (hk b ob (fun z => hb (by simp [z])) (fun z => hb (by simp [z])) q)
    refine ⟨.ref s.heap.objs.size, _, I1, rfl, ⟨_, x, rfl, I.hok.fresh (Nat.le_refl _), rfl, fun ys hy => ?_⟩, ⟨⟨y, ?_⟩, ?_⟩, fun b hb => ?_⟩
    · rw [I.tuple_inj hy hq]
      exact hx
    · have e1 : ((i + 1 : Nat) : Int) = (i : Int) + 1 := by omega
      rw [e1]
      exact he'
    · exact st'.1.at fun o q => (sb.2 it (Ne.symm hne)).trans q
    · have hb' : b < s.heap.objs.size := by
        rcases List.mem_cons.mp hb with z | z
        · rw [z]; exact hel
        · rw [List.mem_singleton.mp z]; exact hil
      rw [upd_ne (Nat.ne_of_lt hb')]
      exact (hf b hb).1
  done := by
    intro X hP hw hK hc i pins s σ H E I hf st hg
    subst hP hw hK
    obtain ⟨⟨old, he⟩, hit⟩ := st
    obtain ⟨xs, hq, hx⟩ := hg
    obtain ⟨its, rv, pt, _⟩ := I.tuple hq
    obtain ⟨f0, f1, f2, f3, f4, f5⟩ := hf it (by simp)
    have hl := rv.length
    have D := Draws.tuple (prog := X.prog) (w := X.w) (A := X.A.in1) (I.ok.hd hc) it a hai its.toArray
    have en : its.toArray.size = i := by rw [List.size_toArray]; omega
    have pt' : s.heap.IsTuple a its.toArray := pt
    refine wpAny_pyNext_enum_endD D he ⟨by rw [en]; exact hit, pt'⟩ fun h' eb => ⟨rfl, ?_⟩
    exact I.turned (t' := s.toks) (fun b o hb q => eb b o hb q) f0 f1 f3 f4 f5
  self := fun A i s Q E st h => by
    obtain ⟨⟨_, he⟩, _⟩ := st
    exact wpAny_pyIter_enum he h
def iEnumT (K : PySem.W.Frag) (ta : TA) : TI := fun σ H R => ta σ H fun vs H1 => ∃ a xs, vs = [.ref a] ∧ SqT K H1 a xs ∧ R (IteT K a) H1
theorem pi_enumT {X : Cx} {e : Expr} {ta : TA} {p pos tpos : Pos} {elts : List Expr} {kk : Nat} (hg : Gl X "enumerate") (hm : X.mg "enumerate" = none) (ha : PA X [e] ta)
    (hs : starEach [e] X.env = [(false, eval e X.env)] := by rfl) : PI X (.Tuple elts kk tpos) (.Call (.Name "enumerate" p) [e] [] pos) (iEnumT X.K ta) := by
  refine ⟨fun pins s σ H R I h => ?_⟩
  refine Call_ (ld_blt I hg hm boot_enumerate (PyProof.Rows.callWith_type1 (thn (ha.run pos pins s σ H _ I h) fun us s1 ⟨vs, H1, I1, r1, q1⟩ => ?_) hs rfl))
  obtain ⟨a, xs, ex, hq, q⟩ := q1
  subst ex
  obtain rfl := Vals.ref1 r1
  obtain ⟨its, rv, pt, _⟩ := I1.tuple hq
  have pt' : s1.heap.IsTuple a its.toArray := pt
  have hlt : a < s1.heap.objs.size := by
    obtain ⟨o, ho, _⟩ := pt'
    exact Heap.lt_size ho
  refine enum_call (begins_tuple a its.toArray) pt' fun h' he hit hk => wpAny_pyIter_enum he ?_
  have I2 : Inv X pins σ H1 { s1 with heap := h' } := I1.kept (t' := s1.toks) hk
  refine ⟨s1.heap.objs.size + 1, [s1.heap.objs.size + 1, s1.heap.objs.size], _, _, H1, rfl, I2,
    turn_enumT a (s1.heap.objs.size + 1) s1.heap.objs.size (Nat.succ_ne_self _) (Nat.ne_of_lt hlt) (Nat.ne_of_lt (Nat.lt_succ_of_lt hlt)), ⟨⟨.none, he⟩, ⟨_, hit, rfl, rfl⟩⟩, fun b hb => ?_, q⟩
  have hle : s1.heap.objs.size ≤ b := by
    rcases List.mem_cons.mp hb with z | z
    · rw [z]; exact Nat.le_add_right _ _
    · rw [List.mem_singleton.mp z]; exact Nat.le_refl _
  exact I1.fpOk hle (I1.hok.fresh hle)
theorem walk_enumT {K : PySem.W.Frag} {a : Addr} {xs : List V} : Walk (IteT K a) xs.length (fun H => SqT K H a xs) (YPair (fun i => some (.int (i : Nat))) (fun i => xs[i]?)) where
  goes := fun i H hi g => ⟨xs, xs[i], g, List.getElem?_eq_getElem hi⟩
  stops := fun H g => ⟨xs, g, rfl⟩
  yields := fun i H v H' hi g y => by
    obtain ⟨T, x, rfl, n, e, f⟩ := y
    exact ⟨T, _, x, rfl, n, e, rfl, f xs g⟩
end K9
set_option Elab.async false
set_option maxRecDepth 100000
set_option maxHeartbeats 4000000
/-! sorted of what is no list -/
namespace K9
open PySem PySem.Spec PyProof.Rows L2
abbrev KeepsAll (h h' : Heap) : Prop := ∀ b o, h.get? b = some o → h'.get? b = some o
abbrev ext0 (h : Heap) : Heap := h.push { cls := .type "list", data := .seq ([] : List Value).toArray }
section
variable {prog : Program} {w : World} {A : Around} {E : Value → Shared → Prop} {s : Shared}
theorem collect_gen {v : Value} {P : Array Value → Prop} {Q : List Value → Shared → Prop}
    (hx : ∀ R : Result → Shared → Prop, (∀ h' tk xs c, P xs → (∀ b o, b ≠ s.heap.objs.size → (ext0 s.heap).get? b = some o → h'.get? b = some o) →
        h'.get? s.heap.objs.size = some { cls := .type "list", dict := none, data := .seq xs c, slots := #[] } → R (.ok (.ret (.ref s.heap.objs.size))) { s with heap := h', toks := tk }) →
      wpAny (model prog w) A.in1 (Builtin.List.listExtendWith (.ref s.heap.objs.size) v (.ref s.heap.objs.size))
        (fun fin s' => match fin with | .done f => R (.ok f) s' | .again c' => c'.quiet = true ∧ codeAny (model prog w) A c' R s') (fun e s' => R (.error e) s') { s with heap := ext0 s.heap })
    (hQ : ∀ h' tk xs, P xs → KeepsAll s.heap h' → s.heap.objs.size < h'.objs.size → Q xs.toList { s with heap := h', toks := tk }) :
    wpAny (model prog w) A (collect v) Q E s := by
  unfold collect
  refine wpAny_bind (wpAny_runValue (codeAny_builtin F.entry_proto_collect ?_))
  rw [Around.under_plainId F.plain_proto_collect _]
  show wpAny _ A.in1 (newList [] >>= fun l => again (.builtin "list.__iadd__" ⟨[l, v], []⟩)) _ _ s
  refine wpAny_bind (wpAny_newObj_type (wpAny_pure ⟨plainId_quiet F.plain_list_iadd _, codeAny_builtin F.entry_list_iadd ?_⟩))
  rw [Around.under_plainId F.plain_list_iadd _]
  show wpAny _ A.in1 (Builtin.List.listExtendWith (.ref s.heap.objs.size) v (.ref s.heap.objs.size)) _ _ { s with heap := ext0 s.heap }
  have fin : ∀ h' tk xs c, P xs → (∀ b o, b ≠ s.heap.objs.size → (ext0 s.heap).get? b = some o → h'.get? b = some o) →
      h'.get? s.heap.objs.size = some { cls := .type "list", dict := none, data := .seq xs c, slots := #[] } →
      wpAny (model prog w) A (load s.heap.objs.size >>= fun o => match o.data with
        | .seq xs _ => pure xs.toList
        | _ => unsupported "internal:collect") Q E { s with heap := h', toks := tk } := fun h' tk xs c hp hk hn => by
    refine wpAny_bind (wpAny_load hn (wpAny_pure (hQ h' tk xs hp (fun b o e => ?_) (Heap.lt_size hn))))
    exact hk b o (Nat.ne_of_lt (Heap.lt_size e)) (Heap.get?_push_of_some _ e)
  have z := hx (fun r s' => r = .ok (.ret (.ref s.heap.objs.size)) ∧ ∃ h' tk xs c, s' = { s with heap := h', toks := tk } ∧ P xs ∧ (∀ b o, b ≠ s.heap.objs.size → (ext0 s.heap).get? b = some o → h'.get? b = some o) ∧
    h'.get? s.heap.objs.size = some { cls := .type "list", dict := none, data := .seq xs c, slots := #[] }) fun h' tk xs c hp hk hn => ⟨rfl, h', tk, xs, c, rfl, hp, hk, hn⟩
  refine wpAny_mono z (fun f s' h => ?_) fun e s' h => absurd h.1 (by simp)
  cases f with
  | done f =>
    obtain ⟨e, h', tk, xs, c, rfl, hp, hk, hn⟩ := h
    cases e
    exact fin h' tk xs c hp hk hn
  | again c' =>
    refine ⟨h.1, codeAny_mono h.2 fun r s'' hr => ?_⟩
    obtain ⟨rfl, h', tk, xs, c, rfl, hp, hk, hn⟩ := hr
    exact fin h' tk xs c hp hk hn
theorem collect_seqS {it : Addr} {T : String} {o : Obj} {items : Array Value} {n : Nat} {Q : List Value → Shared → Prop} (hT : T = "list" ∨ T = "tuple")
    (ho : s.heap.get? it = some o) (hc : o.cls = .type T) (hd : o.data = .seq items n) (hz : items.size ≤ sizeLine)
    (hQ : ∀ h' tk, KeepsAll s.heap h' → s.heap.objs.size < h'.objs.size → Q items.toList { s with heap := h', toks := tk }) : wpAny (model prog w) A (collect (.ref it)) Q E s := by
  refine collect_gen (P := fun xs => xs = items) (fun R hR => ?_) fun h' tk xs hp hk hl => by
    rw [hp]
    exact hQ h' tk hk hl
  have hS : (ext0 s.heap).get? s.heap.objs.size = some { cls := .type "list", data := .seq #[] 0 } := Heap.get?_push_size _ rfl
  refine wpAny_extend_seq (s := { s with heap := ext0 s.heap }) (hsz := hz) _ it _ 0 hT hS (Heap.get?_push_of_some _ ho) hc hd ?_
  obtain ⟨c, hc2⟩ : ∃ c, ((ext0 s.heap).update s.heap.objs.size (Obj.mapSeq (· ++ items))).get? s.heap.objs.size = some (seqObj "list" (#[] ++ items) c) := ⟨_, get?_update_seq hS (· ++ items)⟩
  refine hR _ s.toks items c rfl (fun b o hb e => ?_) ?_
  · exact (Heap.get?_update_ne _ _ _ _ hb).trans e
  · rw [hc2]
    simp [seqObj]
theorem collect_rangeS {r : Addr} {a : Int} {t u v : Tok} {n : Nat} {Q : List Value → Shared → Prop} (hh : A.handled = none) (hr : IsRange s.heap r a (a + n) 1 t u v)
    (hsmall : Builtin.Range.small a (a + n) 1 = true) (hn : Builtin.Range.rangeSize a (a + n) 1 = n) (hlen : n ≤ 2 ^ 24)
    (hQ : ∀ h' tk (acc : Array Value), ItemsOf (fun i v => ∃ t, v = .int (a + i * 1) t) acc n → KeepsAll s.heap h' → s.heap.objs.size < h'.objs.size → Q acc.toList { s with heap := h', toks := tk }) :
    wpAny (model prog w) A (collect (.ref r)) Q E s := by
  refine collect_gen (P := fun acc => ItemsOf (fun i v => ∃ t, v = .int (a + i * 1) t) acc n) (fun R hR => ?_) fun h' tk xs hp hk hl => hQ h' tk xs hp hk hl
  have hS : (ext0 s.heap).get? s.heap.objs.size = some { cls := .type "list", data := .seq #[] 0 } := Heap.get?_push_size _ rfl
  exact wpAny_extend_range (s := { s with heap := ext0 s.heap }) hh (Heap.get?_push_of_some _ hr) hsmall hn hlen _ _ 0 hS fun h' tk acc c' hk e hi => hR h' tk acc c' hi hk e
/-- sorted(v, ..): v is collected, a new list of its items is sorted -/
theorem sorted_gen {v : Value} {Pv : List Value → Prop} {kw : List (Str × Value)} {Q : Value → Shared → Prop} (ha1 : argsOk "sorted" ⟨[v], kw⟩) (ha2 : ∀ a, argsOk "list.sort" ⟨[a], kw⟩)
    (hcol : ∀ (Q' : List Value → Shared → Prop) (E' : Value → Shared → Prop), (∀ h' tk vs, Pv vs → KeepsAll s.heap h' → s.heap.objs.size < h'.objs.size → Q' vs { s with heap := h', toks := tk }) →
      wpAny (model prog w) A.in1 (collect v) Q' E' s)
    (hz : ∀ vs : List Value, Pv vs → vs.length ≤ sizeLine)
    (body : ∀ (vs : List Value) (h1 : Heap) (tk : Nat) (a : Addr) (E' : Value → Shared → Prop), Pv vs → s.heap.objs.size < a → KeepsAll s.heap h1 → h1.get? a = some (seqObj "list" vs.toArray 0) →
      wpAny (model prog w) A.in1.in1 (Builtin.«list.sort» ⟨[.ref a], kw⟩) (fun f s' => f = .done (.ret .none) ∧ Q (.ref a) s') E' { s with heap := h1, toks := tk }) :
    wpAny (model prog w) A (call (.builtin "sorted") [v] kw) Q E s := by
  refine call_function_entry_kw kind_sorted plain_sorted entry_sorted ha1 ?_
  unfold Builtin.«sorted»
  refine wpAny_bind (m := checkCount "sorted" 1 1 _) (wpAny_pure ?_)
  refine wpAny_bind (hcol _ _ fun h' tk vs hp hk hl => wpAny_bind (wpAny_newList ?_ (hz vs hp)))
  have hL : (h'.push (seqObj "list" vs.toArray 0)).get? h'.objs.size = some (seqObj "list" vs.toArray 0) := Heap.get?_push_size _ rfl
  refine wpAny_bind (wpAny_holding (wpAny_call_entry_kw slot_list_sort ⟨_, hL, rfl⟩ entry_list_sort ?_ (ha2 _)))
  refine wpAny_mono (body vs _ tk h'.objs.size _ hp hl (fun b o e => Heap.get?_push_of_some _ (hk b o e)) hL) (fun f s' hf => ?_) fun _ _ e => e
  obtain ⟨rfl, hq⟩ := hf
  exact ⟨_, rfl, wpAny_pure ⟨_, rfl, hq⟩⟩
end
/-- sorted(t, reverse=True), t a tuple or a list of ints -/
def rSortedDown (K : PySem.W.Frag) : List V → List V → Hp → VK → Prop := fun vs zs H Q => ∃ (a : Addr) (ns : List Int), vs = [V.ref a] ∧ zs = [.bl true] ∧
  (SqL K H a (ns.map V.int) ∨ SqT K H a (ns.map V.int)) ∧
  ∀ (ns' : List Int) (p : Addr), ns'.Perm ns → ns'.Pairwise (· ≥ ·) → H p = none → Q (.ref p) (upd H p (.lst (ns'.map V.int)))
/-- sorted(t), t a tuple of pairs of ints: the same pairs -/
def rSortedPT (K : PySem.W.Frag) : List V → Hp → VK → Prop := fun vs H Q => ∃ (a : Addr) (xs : List V) (k : V → Int × Int), vs = [V.ref a] ∧ SqT K H a xs ∧
  (∀ x ∈ xs, ∃ t, x = V.ref t ∧ H t = some (.tup [.int (k x).1, .int (k x).2])) ∧ ∀ ys p, ys.Perm xs → H p = none → Q (.ref p) (upd H p (.lst ys))
section
variable {X : Cx}
/-- a list or a tuple, its items -/
theorem seq_at {pins : List (Addr × Obj)} {σ : L2.St} {H : Hp} {s : Shared} {a : Addr} {xs : List V} (I : Inv X pins σ H s) (h : SqL X.K H a xs ∨ SqT X.K H a xs) :
    ∃ (its : List Value) (T : String) (o : Obj) (n : Nat), Vals xs its ∧ (T = "list" ∨ T = "tuple") ∧ s.heap.get? a = some o ∧ o.cls = .type T ∧ o.data = .seq its.toArray n ∧ its.length ≤ sizeLine := by
  rcases h with h | h
  · obtain ⟨its, rv, hl, hz⟩ := I.list h
    obtain ⟨o, ho, hc, n, hd⟩ := hl.isList
    exact ⟨its, "list", o, n, rv, .inl rfl, ho, hc, hd, by rw [← rv.length]; exact hz⟩
  · obtain ⟨its, rv, pt, hz⟩ := I.tuple h
    have pt' : s.heap.IsTuple a its.toArray := pt
    obtain ⟨o, ho, hc, n, hd⟩ := pt'
    exact ⟨its, "tuple", o, n, rv, .inr rfl, ho, hc, hd, by rw [← rv.length]; exact hz⟩
theorem cr_sortedDown : CallRK X (.builtin "sorted") [Str.ofString "reverse"] (rSortedDown X.K) := by
  intro pins s σ H vs zs us ws Q I r rz h
  obtain ⟨a, ns, rfl, rfl, hs, q⟩ := h
  obtain rfl := Vals.ref1 r
  obtain ⟨w1, rfl, e1⟩ := vals1 rz
  obtain rfl : w1 = Value.bool true := e1
  obtain ⟨its, T, o, n, rv, hT, ho, hc, hd, hz⟩ := seq_at I hs
  have hi := rv.ints
  refine sorted_gen (Pv := fun vs => vs = its) (PyProof.Rows.args_sorted_rev _ _) (fun _ => PyProof.Rows.args_list_sort_rev _ _)
    (fun Q' E' hq => collect_seqS hT ho hc hd (by simpa using hz) fun h' tk hk hl => hq h' tk _ (by simp) hk hl) (fun vs e => by rw [e]; exact hz) fun vs h1 tk b E' e hb hk hL => ?_
  subst e
  refine SrtR.list_sort_ordR (s := { s with heap := h1, toks := tk }) (b := true) SrtO.swo_int hL hz (fun h2 => SrtO.ints_sortable hi h2) fun out k1 k2 => ⟨rfl, ?_⟩
  obtain ⟨ns', j1, j2, j3⟩ := SrtR.ints_outR (b := true) hi k1 k2
  obtain ⟨ep, he⟩ := PyProof.Rows.sortedHeap_at (vs := vs) (out := (if true = true then out.toArray.reverse else out.toArray)) hL
  have hlen : (ns'.map V.int).length ≤ sizeLine := by
    have z := rv.length
    rw [List.length_map] at z ⊢
    rw [j2.length_eq]
    omega
  have e0 : ((if true = true then out.toArray.reverse else out.toArray).toList).toArray = (if true = true then out.toArray.reverse else out.toArray) := by rw [Array.toArray_toList]
  refine ⟨.ref b, upd H b (.lst (ns'.map V.int)), I.laid (t' := tk) (fun c u e => ?_) (Nat.le_of_lt hb) ⟨hlen, _, ep, vals_of_ints j1, by rw [e0]; exact he⟩, rfl, q _ _ j2 j3 (I.hok.fresh (Nat.le_of_lt hb))⟩
  have hcb : c ≠ b := Nat.ne_of_lt (Nat.lt_trans (Heap.lt_size e) hb)
  rw [PyProof.Rows.sortedHeap_old hcb (Heap.lt_size (hk _ _ e))]
  exact hk _ _ e
theorem cr_sortedPT : CallR X (.builtin "sorted") (rSortedPT X.K) := by
  intro pins s σ H vs us Q I r h
  obtain ⟨a, xs, k, rfl, hs, hx, q⟩ := h
  obtain rfl := Vals.ref1 r
  obtain ⟨its, T, o, n, rv, hT, ho, hc, hd, hz⟩ := seq_at I (.inr hs)
  obtain ⟨e1, e2⟩ := refs_back rv fun x m => by
    obtain ⟨t, e, _⟩ := hx x m
    exact ⟨t, e⟩
  have hp : ∀ v ∈ its, Srt.IsPair s.heap v (k (backV v)).1 (k (backV v)).2 := fun v hv => by
    obtain ⟨t, rfl⟩ := e2 v hv
    have hm : V.ref t ∈ xs := by
      rw [e1]
      exact List.mem_map.mpr ⟨_, hv, rfl⟩
    obtain ⟨t', e, ht⟩ := hx _ hm
    cases e
    obtain ⟨_, its2, r2, o2, ho2, hc2, n2, hd2⟩ := I.hok _ _ ht
    obtain ⟨u1, u2, rfl, ⟨t1, rfl⟩, ⟨t2, rfl⟩⟩ := vals2 r2
    exact ⟨t, o2, t1, t2, n2, rfl, ho2, hc2, hd2⟩
  refine sorted_gen (Pv := fun vs => vs = its) (kw := []) (PyProof.Rows.args_sorted1 _) (fun _ => PyProof.Rows.args_list_sort _)
    (fun Q' E' hq => collect_seqS hT ho hc hd (by simpa using hz) fun h' tk hk hl => hq h' tk _ (by simp) hk hl) (fun vs e => by rw [e]; exact hz) fun vs h1 tk b E' e hb hk hL => ?_
  subst e
  have hp1 : ∀ v ∈ vs, Srt.IsPair h1 v (k (backV v)).1 (k (backV v)).2 := fun v hv => (hp v hv).keeps fun c u e _ => hk c u e
  refine SrtO.list_sort_ord (s := { s with heap := h1, toks := tk }) (SrtO.swo_lex fun u => k (backV u)) hL hz (fun h2 => SrtO.pairs_sortableO (by omega) hp1 fun u e => ?_) fun out k1 k2 => ⟨rfl, ?_⟩
  · rw [hL] at e
    cases e
    intro z
    injection z with z3
    exact absurd z3 (by decide)
  obtain ⟨ep, he⟩ := PyProof.Rows.sortedHeap_at (vs := vs) (out := out.toArray) hL
  have h3 : ∀ u ∈ out, ∃ a, u = Value.ref a := fun u hu => e2 u (k2.perm.mem_iff.mp hu)
  have hb2 : (out.map backV).Perm xs := by
    rw [e1]
    exact k2.perm.map backV
  have hlen : (out.map backV).length ≤ sizeLine := by
    rw [List.length_map, k2.perm.length_eq]
    exact hz
  refine ⟨.ref b, upd H b (.lst (out.map backV)), I.laid (t' := tk) (fun c u e => ?_) (Nat.le_of_lt hb) ⟨hlen, out, ep, vals_back h3, he⟩, rfl, q _ _ hb2 (I.hok.fresh (Nat.le_of_lt hb))⟩
  have hcb : c ≠ b := Nat.ne_of_lt (Nat.lt_trans (Heap.lt_size e) hb)
  rw [PyProof.Rows.sortedHeap_old hcb (Heap.lt_size (hk _ _ e))]
  exact hk _ _ e
end
/-- pow of any base -/
def CPowB (i j : Int) : Prop := 0 ≤ j ∧ (Builtin.Int.intBits i : Int) * j ≤ 2 ^ 27
theorem op_powB {X : Cx} : OpR X (binaryOp .Pow) (rI CPowB fun i j => .int (i ^ j.toNat)) := opI fun _ _ _ _ _ _ _ hc q => pow_int hc.1 hc.2 q
end K9
set_option Elab.async false
set_option maxRecDepth 100000
set_option maxHeartbeats 400000
/-! sorted(range(len(degrees)), key=lambda place: (-degrees[place], place)) -/
namespace K9
open PySem PySem.Spec PyProof.Rows L2 LamX
abbrev keyPar (p : Pos) : Arguments := { posonlyargs := [], args := [{ arg := "place", annotation := none, pos := p }], vararg := none, kwonlyargs := [], kw_defaults := [], kwarg := none, defaults := [] }
abbrev keyBody (p1 p2 p3 p4 p5 p6 : Pos) (k : Nat) : Expr :=
  .Tuple [.UnaryOp .USub (.Subscript (.Name "degrees" p1) (.Name "place" p2) p3) p4, .Name "place" p5] k p6
abbrev keyScope : Scope := { kind := .function, names := [(PySem.Str.ofString "place", .local), (PySem.Str.ofString "degrees", .free)], isGenerator := false, isCoroutine := false, more := [] }
section
variable {prog : Program} {w : World} {A : Around} {s : Shared} {E : Value → Shared → Prop}
/-- the call of the key -/
theorem key_call {f c' cc d : Addr} {qual : Str} {cl : List (Str × Addr)} {pm ctv : Value} {p p1 p2 p3 p4 p5 p6 : Pos} {k : Nat} {i x : Int} {t u : Tok} {j : Nat} {its : Array Value}
    (hf : s.heap.get? f = some (PySem.W.kla_obj "<lambda>" qual (keyPar p) (keyBody p1 p2 p3 p4 p5 p6 k) keyScope cl pm c' ctv)) (hcd : s.heap.CodeRec (.ref c') qual) (hroom : A.depth < recursionLimit) (hlim : s.heap.NoLimit)
    (hcl : cl.lookup ("degrees" : Str) = some cc) (hcell : s.heap.IsCell cc (some (.ref d))) (hd : s.heap.IsTuple d its) (hi : i = (j : Int)) (hj : its[j]? = some (.int x u)) (hsz : its.size ≤ sizeLine) :
    wpAny (model prog w) A (call (.ref f) [.int i t]) (PySem.W.KeyPure (.tuple [.int (-x), .int i]) s) E s := by
  subst hi
  refine wpAny_call (PySem.W.kla_callFunE hroom hf rfl rfl rfl rfl hcd ?_)
  have hb : bindArgs (PySem.W.kla_fn "<lambda>" qual (keyPar p) (keyBody p1 p2 p3 p4 p5 p6 k) keyScope cl pm (.ref c') ctv) ⟨[.int j t], []⟩ = pure [(("place" : Str), Value.int j t)] := by
    first
      | rfl
      | with_unfolding_all rfl
  rw [hb]
  refine wpAny_pure (wpAny_newFunctionEnv (fun y hy => ?_) (fun y hy => ?_) (fun h₁ hns hsb => ⟨hlim.fresh _ hsb, ?_⟩) rfl)
  · rcases List.mem_cons.mp hy with z | z
    · rw [z]; decide
    · rw [List.mem_singleton.mp z]; decide
  · rw [List.mem_singleton.mp hy]
    rfl
  have hk₁ : KeepsAll s.heap h₁ := fun b o e => hsb.extBut b o (Nat.ne_of_lt (Heap.lt_size e)) (Heap.get?_push_of_some _ e)
  show codeAny _ _ (.expr (keyBody p1 p2 p3 p4 p5 p6 k) (PySem.W.envX qual keyScope s.heap.objs.size f (.ref c') cl)) _ _
  refine PySem.W.kla_codeExpr ?_
  have hloc : (fun y => ([(PySem.Str.ofString "place", Value.int j t)] : List (Str × Value)).reverse.lookup y) ("place" : Str) = some (.int j t) := rfl
  have hdeg : h₁.IsCell cc (some (.ref d)) := by
    obtain ⟨o, e, r⟩ := hcell
    exact ⟨o, hk₁ _ _ e, r⟩
  have hd₁ : h₁.IsTuple d its := by
    obtain ⟨o, e, r⟩ := hd
    exact ⟨o, hk₁ _ _ e, r⟩
  have hjs : j < its.size := by
    rcases Nat.lt_or_ge j its.size with z | z
    · exact z
    · rw [Array.getElem?_eq_none z] at hj
      cases hj
  have hn := line63
  refine wpAny_Tuple_spliced ?_
  refine Calls.spliced_cons ?_
  refine UnaryOp_ (Subscript_ ?_)
  refine wpAny_Name (wpAny_loadName_free rfl rfl hcl hdeg ?_)
  refine wpAny_Name (wpAny_loadName_local rfl rfl hns hloc ?_)
  have ht : IsTup h₁ d its := hd₁
  refine subscriptTail_builtinR (x := .int x u) ht.typeIs slot_tuple_getitem.lookup ?_
  refine getItem_tuple (k := (j : Int)) (j := j) (x := .int x u) ht (by omega) (by omega) (seqIndex_of (by omega) (by omega)) hj ⟨rfl, ?_⟩
  refine neg_int ?_
  refine Calls.spliced_cons ?_
  refine wpAny_Name (wpAny_loadName_local rfl rfl hns hloc ?_)
  refine Calls.spliced_nil ⟨by show 2 ≤ sizeLine; decide, ?_⟩
  refine ⟨_, _, rfl, fun b o e => Heap.get?_push_of_some _ (hk₁ b o e), ?_⟩
  exact .tuple (Heap.get?_push_size _ rfl) rfl rfl (.cons (.int _ _) (.cons (.int _ _) .nil))
end
/-- range(n) as a value -/
theorem cr_range1 {X : Cx} : CallR X (.type "range") (fun vs H Q => ∃ j, vs = [V.int j] ∧ ∀ p, H p = none → Q (.ref p) (upd H p (.rng 0 j))) := by
  intro pins s σ H vs us Q I r h
  obtain ⟨j, rfl, q⟩ := h
  obtain ⟨u1, rfl, t, rfl⟩ := vals1 r
  refine call_range_1 ⟨.ref s.heap.objs.size, upd H s.heap.objs.size (.rng 0 j), I.laid (fun b o e => Heap.get?_push_of_some _ e) (Nat.le_refl _) ?_, rfl, q _ (I.hok.fresh (Nat.le_refl _))⟩
  exact ⟨_, t, _, Heap.get?_push_size _ rfl⟩
/-- the places in the order of their keys -/
def ordOf (ds : List Int) (n : Nat) : List Nat := (List.range n).mergeSort fun p q => decide (-(KM.ent ds p) < -(KM.ent ds q) ∨ (-(KM.ent ds p) = -(KM.ent ds q) ∧ (p : Int) ≤ (q : Int)))
theorem ordOf_ord (ds : List Int) : KM.Ord ds (ordOf ds ds.length) := by
  refine ⟨List.mergeSort_perm _ _, ?_⟩
  have z := List.pairwise_mergeSort (le := fun p q => decide (-(KM.ent ds p) < -(KM.ent ds q) ∨ (-(KM.ent ds p) = -(KM.ent ds q) ∧ (p : Int) ≤ (q : Int))))
    (fun a b c h1 h2 => by
      simp only [decide_eq_true_eq] at h1 h2 ⊢
      omega) (fun a b => by
      simp only [Bool.or_eq_true, decide_eq_true_eq]
      omega) (List.range ds.length)
  refine z.imp fun {a b} h => ?_
  simp only [decide_eq_true_eq] at h
  omega
theorem small_range (n : Nat) (hn : n ≤ 64) : Builtin.Range.small 0 (0 + (n : Int)) 1 = true ∧ Builtin.Range.rangeSize 0 (0 + (n : Int)) 1 = n := by
  have all : ∀ n : Fin 65, Builtin.Range.small 0 (0 + ((n : Nat) : Int)) 1 = true ∧ Builtin.Range.rangeSize 0 (0 + ((n : Nat) : Int)) 1 = ((n : Nat) : Int) := by decide +kernel
  exact all ⟨n, by omega⟩
theorem each_range : ∀ (vs : List Value) (k : Nat), (∀ (j : Nat) (v : Value), vs[j]? = some v → ∃ t, v = .int (0 + ((k + j : Nat) : Int) * 1) t) →
    PySem.W.EachIs (fun (v : Value) (b : Nat) => ∃ t, v = Value.int (b : Int) t) vs (List.range' k vs.length)
  | [], _, _ => .nil
  | v :: vs, k, h => by
    refine .cons ?_ (each_range vs (k + 1) fun j u e => ?_)
    · obtain ⟨t, e⟩ := h 0 v rfl
      exact ⟨t, by rw [e]; simp⟩
    · obtain ⟨t, e'⟩ := h (j + 1) u (by simpa using e)
      exact ⟨t, by rw [e', show k + 1 + j = k + (j + 1) by omega]⟩
abbrev nv (b : Nat) : V := V.int (b : Int)
theorem vals_each : ∀ {vs : List Value} {bs : List Nat}, PySem.W.EachIs (fun (v : Value) (b : Nat) => ∃ t, v = Value.int (b : Int) t) vs bs → Vals (bs.map nv) vs
  | _, _, .nil => .nil
  | _, _, .cons h r => .cons (show RelV (nv _) _ from h) (vals_each r)
/-- the reading: the places, the greatest entries first -/
def tSortKey (K : PySem.W.Frag) (T : List (Addr × Str)) (i : Nat) (te : TE) : TE := fun σ H Q => te σ H fun x H1 => ∃ (r d : Addr) (ds : List Int), x = .ref r ∧ H1 r = some (.rng 0 (ds.length : Int)) ∧
  σ[i]? = some (some (.ref d)) ∧ SqT K H1 d (ds.map V.int) ∧ ds.length ≤ 64 ∧ Tabs T H1 ∧
  ∀ H2 p, ExtN H1 H2 → Tabs T H2 → H2 p = none → Q (.ref p) (upd H2 p (.lst ((ordOf ds ds.length).map nv)))
theorem pe_sortKey {X : Cx} {T : List (Addr × Str)} {c P : Addr} {e : Expr} {te : TE} {i k n : Nat} {q0 q p1 p2 p3 p4 p5 p6 lpos kpos pos : Pos} (hc : X.calm = true) (hg : Gl X "sorted") (hm : X.mg "sorted" = none) (he : PE X e te)
    (TB : TabB X.base X.mg c P) (hcode : X.env.code = .ref c) (hmT : (P, X.env.qual ++ "<lambda>") ∈ T) (hu : ∀ p ∈ T, p.1 = P → p.2 = X.env.qual ++ "<lambda>") (hr : Room n X.A)
    (hN : X.N[i]? = some ("degrees" : Str)) (hv : X.env.scope.names.lookup ("degrees" : Str) = some .cell)
    (hst : backTo pos (starEach [e] X.env) = (false, eval e X.env) :: backTo pos (starEach [] X.env) := by rfl) (hpl : (backTo pos (starEach [e] X.env)).any (·.1) = false := by rfl) :
    PE X (.Call (.Name "sorted" q0) [e] [⟨some "key", .Lambda (keyPar q) (keyBody p1 p2 p3 p4 p5 p6 k) keyScope lpos, kpos⟩] pos) (tSortKey X.K T i te) := by
  refine ⟨fun pins s σ H Q I h => ?_⟩
  refine wpAny_Call_Name_kw (ld_blt (u := .builtin "sorted") I hg hm (by decide +kernel) ?_)
  refine PyProof.Rows.callWith_kw ?_ hst hpl rfl rfl
  rw [hst]
  refine Calls.spliced_cons (thn (he.run pins s σ H _ I h) fun u0 s1 hh => Calls.spliced_nil ?_)
  obtain ⟨x, H1, I1, rx, r, d, ds, rfl, hrg, hsl, hdt, h64, hT, hq⟩ := hh
  obtain rfl : u0 = Value.ref r := rx
  show wpAny _ _ (evalAll [(do let v ← eval (.Lambda (keyPar q) (keyBody p1 p2 p3 p4 p5 p6 k) keyScope lpos) X.env; standAt pos; pure v)]) _ _ s1
  have hfree : ∀ y ∈ keyScope.names, y.2 = .free → ∃ c, X.env.cells.lookup y.1 = some c := fun y hy e => by
    rcases List.mem_cons.mp hy with z | z
    · rw [z] at e; cases e
    · rw [List.mem_singleton.mp z]
      exact I1.ok.has _ (.inl hv)
  refine wpAny_evalAll_cons (wpAny_bind (lam_make2 I1 TB hcode hmT hu hT (by rfl) hfree fun f c' pm ctv H2 s2 I2 eN T2 hf hfn hfr hco => wpAny_bind (wpAny_standAt (wpAny_pure (wpAny_evalAll_nil ?_)))))
  show wpAny _ _ (call (.builtin "sorted") [.ref r] [(Str.ofString "key", .ref f)]) _ _ s2
  -- what the key's call needs
  obtain ⟨t1, t2, t3, hr2⟩ := I2.hok r _ (eN r _ hrg fun ps z => nomatch z)
  have hdt2 : SqT X.K H2 d (ds.map V.int) := by
    rcases hdt with (z | ⟨o, z⟩) | z
    · exact .inl (.inl (eN _ _ z fun ps z => nomatch z))
    · exact .inl (.inr ⟨o, eN _ _ z fun ps z => nomatch z⟩)
    · exact .inr z
  obtain ⟨its, rv, pt, hz⟩ := I2.tuple hdt2
  obtain ⟨m, hn, hl⟩ := I2.loc
  obtain ⟨u, ru, l⟩ := hl i _ _ hN hsl (.inr (.inl hv))
  obtain rfl : u = Value.ref d := ru
  obtain ⟨cc, hcc, hcell⟩ : ∃ cc, X.env.cells.lookup ("degrees" : Str) = some cc ∧ s2.heap.IsCell cc (some (.ref d)) := by
    rcases l with ⟨hk, _⟩ | ⟨_, cc, h1, h2⟩
    · have hk' : X.env.scope.names.lookup ("degrees" : Str) = some .local := hk
      rw [hv] at hk'
      cases hk'
    · exact ⟨cc, h1, h2⟩
  have hclo : (cloFrom X.env.cells keyScope.names []).lookup ("degrees" : Str) = some cc := NdefX.clo_has hfree (by decide) hcc
  have hrec := NdefX.codeO_at I2.hok hco
  have hlen : its.length = ds.length := by
    rw [← rv.length, List.length_map]
  obtain ⟨sm1, sm2⟩ := small_range ds.length h64
  have h64' : ds.length ≤ sizeLine := Nat.le_trans h64 (by decide)
  have rr := hr.un
  have rd := hr.dp
  have hr2' : PySem.IsRange s2.heap r 0 (0 + (ds.length : Int)) 1 t1 t2 t3 := by
    rw [Int.zero_add]
    exact hr2
  refine sorted_gen (Pv := fun vs => ∃ acc : Array Value, vs = acc.toList ∧ ItemsOf (fun i v => ∃ t, v = Value.int (0 + i * 1) t) acc ds.length) (ksk_s1 _ _) (fun _ => ksk_l1 _ _)
    (fun Q' E' hq' => collect_rangeS (n := ds.length) (I2.ok.hd hc) hr2' sm1 sm2 (Nat.le_trans h64 (by decide)) fun h' tk acc hi hk hlt => hq' h' tk _ ⟨acc, rfl, hi⟩ hk hlt) (fun vs ⟨acc, e1, e2⟩ => by
      rw [e1, Array.length_toList, e2.1]
      exact h64') fun vs h1 tk b E' ⟨acc, e1, e2⟩ hb hk hL => ?_
  have hvl : vs.length = ds.length := by
    rw [e1, Array.length_toList, e2.1]
  have each : PySem.W.EachIs (fun (v : Value) (b : Nat) => ∃ t, v = Value.int (b : Int) t) vs (List.range ds.length) := by
    have z := each_range vs 0 fun j v e => by
      rw [Nat.zero_add]
      refine e2.2 j v ?_
      rw [e1, Array.getElem?_toList] at e
      exact e
    rw [hvl, ← List.range_eq_range'] at z
    exact z
  have up : ∀ {h : Heap}, PySem.W.KeepsBut b h1 h → KeepsAll s2.heap h := fun {h} kp a o e => kp a o (Nat.ne_of_lt (Nat.lt_trans (Heap.lt_size e) hb)) (hk a o e)
  have turn : ∀ (v : Value) (x : Nat), (∃ t, v = Value.int (x : Int) t) → x ∈ List.range ds.length → ∀ (h : Heap) (tk' : Nat), PySem.W.KeepsBut b h1 h →
      wpAny (model X.prog X.w) X.A.in1.in1 (call (.ref f) [v]) (PySem.W.KeyPure (.tuple [.int (-(KM.ent ds x)), .int (x : Int)]) { { s2 with heap := h1, toks := tk } with heap := h, toks := tk' }) (fun _ _ => False) { { s2 with heap := h1, toks := tk } with heap := h, toks := tk' } := by
    rintro v x ⟨t, rfl⟩ hx h tk' kp
    have ku := up kp
    have hx' : x < ds.length := List.mem_range.mp hx
    have hget : (ds.map V.int)[x]? = some (V.int (KM.ent ds x)) := by
      rw [List.getElem?_map, List.getElem?_eq_getElem hx']
      show some (V.int ds[x]) = some (V.int (ds.getD x 0))
      rw [List.getD_eq_getElem?_getD, List.getElem?_eq_getElem hx']
      rfl
    obtain ⟨u, hu1, t', hu2⟩ := rv.get hget
    subst hu2
    obtain ⟨o, ho, r1, n1, r2⟩ := pt
    obtain ⟨oc, hoc, rc⟩ := hcell
    obtain ⟨c1, oc1, vs1, t1', k1, k2, k3, k4⟩ := hrec
    refine key_call (s := { s2 with heap := h, toks := tk' }) (A := X.A.in1.in1) (j := x) (its := its.toArray) (ku _ _ hf) ⟨c1, oc1, vs1, t1', k1, ku _ _ k2, k3, k4⟩ ?_ (I2.nolimit.keeps ku) hclo ⟨oc, ku _ _ hoc, rc⟩ ⟨o, ku _ _ ho, r1, n1, r2⟩ rfl (by simpa using hu1) (by rw [List.size_toArray, hlen]; exact h64')
    show X.A.depth < recursionLimit
    omega
  rw [ksk_t1]
  refine PySem.W.keyH_tree (s := { s2 with heap := h1, toks := tk }) (kz := (List.range ds.length).map fun x => PyData.tuple [.int (-(KM.ent ds x)), .int (x : Int)]) hL (by rw [List.length_map, List.length_range, hvl]) (by rw [hvl]; exact h64')
    (PySem.W.AllAlike.of fun _ _ => by simp [PySem.W.alike, PySem.W.alikeAll]) (PySem.W.Sortable.tuples fun _ => ⟨_, _, rfl⟩) (fun d' hd' => ?_) (PySem.W.keyH_turns each turn) fun h' tk' out c2 kp hD ko => ⟨rfl, ?_⟩
  · obtain ⟨x, _, rfl⟩ := List.mem_map.mp hd'
    have hd1 : (PyData.tuple [.int (-(KM.ent ds x)), .int (x : Int)]).depth = 1 := by simp [PyData.depth, PyData.depthAll]
    rw [hd1]
    show X.A.units + 1 + 1 + 1 < cLine
    omega
  have eo := PySem.W.keyedOut_each (R := fun (v : Value) (b : Nat) => ∃ t, v = Value.int (b : Int) t) (fun x : Nat => PyData.tuple [.int (-(KM.ent ds x)), .int (x : Int)]) ko each
  rw [PySem.W.dataLe_ii (β := Nat) (fun x => -(KM.ent ds x)) fun x => (x : Int)] at eo
  have ev : Vals ((ordOf ds ds.length).map nv) out := vals_each eo
  have ku := up kp
  have hol : ((ordOf ds ds.length).map nv).length ≤ sizeLine := by
    rw [List.length_map, (ordOf_ord ds).len]
    exact h64'
  have J : Inv X pins σ (upd H2 b (.lst ((ordOf ds ds.length).map nv))) { s2 with heap := h', toks := tk' } := I2.laid (fun a o e => ku a o e) (Nat.le_of_lt hb) ⟨hol, out, c2, ev, hD⟩
  exact ⟨.ref b, _, J, rfl, hq H2 b eN T2 (I2.hok.fresh (Nat.le_of_lt hb))⟩
end K9
set_option Elab.async false
set_option maxRecDepth 100000
set_option maxHeartbeats 4000000
/-! sets of more than 63 tuples, the keys of different hashes: the table up to the mask 511 -/
namespace K9
open PySem PySem.Spec PyProof.Rows L2
def GoodM (m : Nat) : Prop := m = 7 ∨ m = 31 ∨ m = 127 ∨ m = 511
theorem GoodM.odd {m : Nat} (h : GoodM m) : m % 2 = 1 := by
  rcases h with e | e | e | e <;> rw [e]
def orbit : Nat → Nat → List Nat
  | 0, _ => []
  | n + 1, x => x :: orbit n ((x * 5 + 1) % 512)
def gather (l : List Nat) (a : Nat) : Nat := l.foldl (fun a x => a ||| (1 <<< x)) a
theorem gather_mem : ∀ (l : List Nat) (a j : Nat), (gather l a).testBit j = true → a.testBit j = true ∨ j ∈ l
  | [], _, _, h => .inl h
  | x :: l, a, j, h => by
    rcases gather_mem l (a ||| (1 <<< x)) j h with q | q
    · rw [Nat.testBit_or, Bool.or_eq_true] at q
      rcases q with q | q
      · exact .inl q
      · refine .inr ?_
        rw [Nat.one_shiftLeft, Nat.testBit_two_pow, decide_eq_true_eq] at q
        rw [q]
        exact List.mem_cons_self
    · exact .inr (List.mem_cons_of_mem _ q)
theorem orbit_all : gather (orbit 512 0) 0 = 2 ^ 512 - 1 := by decide +kernel
theorem lcg_shift (m i : Nat) : ∀ k, lcgI m ((i * 5 + 1) % (m + 1)) k = lcgI m i (k + 1)
  | 0 => rfl
  | k + 1 => by
    show (lcgI m ((i * 5 + 1) % (m + 1)) k * 5 + 1) % (m + 1) = (lcgI m i (k + 1) * 5 + 1) % (m + 1)
    rw [lcg_shift m i k]
theorem orbit_at : ∀ (n x j : Nat), j ∈ orbit n x → ∃ k, k < n ∧ lcgI 511 x k = j
  | 0, _, _, h => by cases h
  | n + 1, x, j, h => by
    rcases List.mem_cons.mp h with q | q
    · exact ⟨0, Nat.succ_pos _, q.symm⟩
    · obtain ⟨k, hk, e⟩ := orbit_at n _ j q
      exact ⟨k + 1, Nat.succ_lt_succ hk, by rw [← lcg_shift]; exact e⟩
theorem from0 {j : Nat} (hj : j ≤ 511) : ∃ k, k ≤ 511 ∧ lcgI 511 0 k = j := by
  have h : (gather (orbit 512 0) 0).testBit j = true := by
    rw [orbit_all, Nat.testBit_two_pow_sub_one]
    exact decide_eq_true (by omega)
  rcases gather_mem _ _ _ h with q | q
  · simp at q
  · obtain ⟨k, hk, e⟩ := orbit_at 512 0 j q
    exact ⟨k, by omega, e⟩
theorem lcgI_add (m i a : Nat) : ∀ k, lcgI m (lcgI m i a) k = lcgI m i (a + k)
  | 0 => rfl
  | k + 1 => by
    show (lcgI m (lcgI m i a) k * 5 + 1) % (m + 1) = (lcgI m i (a + k) * 5 + 1) % (m + 1)
    rw [lcgI_add m i a k]
theorem round0 : lcgI 511 0 512 = 0 := by decide +kernel
theorem any511 {i j : Nat} (hi : i ≤ 511) (hj : j ≤ 511) : ∃ k, k ≤ 511 ∧ lcgI 511 i k = j := by
  obtain ⟨a, ha, ea⟩ := from0 hi
  obtain ⟨b, hb, eb⟩ := from0 hj
  rw [← ea]
  by_cases c : a ≤ b
  · exact ⟨b - a, by omega, by rw [lcgI_add, show a + (b - a) = b by omega]; exact eb⟩
  · refine ⟨512 + b - a, by omega, ?_⟩
    rw [lcgI_add, show a + (512 + b - a) = 512 + b by omega, ← lcgI_add, round0]
    exact eb
theorem meets_run {m : Nat} (hm : GoodM m) (h : Int) {j : Nat} (hj : j ≤ m) : ∃ n, n ≤ m + 12 ∧ runI m (SetTable.bits h) n = j := by
  rcases hm with e | e | e | e
  · exact run_meets (.inl e) h hj
  · exact run_meets (.inr (.inl e)) h hj
  · exact run_meets (.inr (.inr e)) h hj
  · subst e
    obtain ⟨k, hk, e⟩ := any511 (runI_le 511 (SetTable.bits h) 12) hj
    exact ⟨12 + k, by omega, by rw [runI_tail (bits_lt h)]; exact e⟩
theorem meets_way {m : Nat} (hm : GoodM m) (h : Int) {j : Nat} (hj : j ≤ m) : ∃ k, k < 10 * SetTable.turns m ∧ way m h k = j := by
  obtain ⟨n, hn, e⟩ := meets_run hm h hj
  obtain ⟨k, hk, e2⟩ := run_nth m (SetTable.bits h) n
  refine ⟨k, by unfold SetTable.turns; omega, ?_⟩
  show (nth m (runAt m (SetTable.bits h % (m + 1)) (SetTable.bits h)) k).j = j
  rw [e2]
  exact e
theorem way_in {m : Nat} (h : Int) (k : Nat) : way m h k ≤ m := by
  have h0 : SetTable.bits h % (m + 1) ≤ m := Nat.le_of_lt_succ (Nat.mod_lt _ (Nat.succ_pos _))
  have hr := runEnd_bd h0
  have z := nth_in (m := m) k (runAt m (SetTable.bits h % (m + 1)) (SetTable.bits h)) (by
    show SetTable.bits h % (m + 1) + (SetTable.runEnd m (SetTable.bits h % (m + 1)) - SetTable.bits h % (m + 1)) ≤ m
    omega)
  exact Nat.le_trans (Nat.le_add_right _ _) z
/-- the first empty slot -/
theorem first_free {m : Nat} (hm : GoodM m) {pl : List Nat} (hl : pl.length ≤ m) (h : Int) : ∃ K, K < 10 * SetTable.turns m ∧ way m h K ∉ pl ∧ ∀ k, k < K → way m h k ∈ pl := by
  obtain ⟨j, hj, hn⟩ := st_missing pl (m + 1) (by omega)
  obtain ⟨k, hk, e⟩ := meets_way hm h (Nat.le_of_lt_succ hj)
  obtain ⟨K, h1, h2, h3⟩ := st_least (p := fun k => way m h k ∉ pl) k (by
    show way m h k ∉ pl
    rw [e]
    exact hn)
  refine ⟨K, Nat.lt_of_le_of_lt h1 hk, h2, fun k' hk' => ?_⟩
  exact Classical.byContradiction fun c => h3 k' hk' c
theorem free_slot {m : Nat} (hm : GoodM m) (owner : Array (Option Nat)) (h : Int) {j : Nat} (hj : j ≤ m) (hf : oAt owner j = none) :
    ∃ K, SetTable.layClean.free m owner (SetTable.turns m) (SetTable.bits h % (m + 1)) (SetTable.bits h) = some (way m h K) ∧ oAt owner (way m h K) = none := by
  obtain ⟨n, hn, e⟩ := meets_run hm h hj
  have hw : way m h (off m (SetTable.bits h % (m + 1)) (SetTable.bits h) n) = j := by
    show (nth m _ (off m (SetTable.bits h % (m + 1)) (SetTable.bits h) n)).j = j
    rw [nth_off, itL_run]
    exact e
  obtain ⟨K, k1, k2, k3⟩ := st_least (p := fun k => oAt owner (way m h k) = none) (off m (SetTable.bits h % (m + 1)) (SetTable.bits h) n) (by
    show oAt owner (way m h _) = none
    rw [hw]
    exact hf)
  refine ⟨K, free_spec m owner (SetTable.turns m) n _ _ K (by unfold SetTable.turns; omega) k1 (fun k hk => ?_) ?_, k2⟩
  · have q := k3 k hk
    show (oAt owner (way m h k)).isNone = false
    cases z : oAt owner (way m h k) with
    | none => exact absurd z q
    | some _ => rfl
  · show (oAt owner (way m h K)).isNone = true
    rw [show oAt owner (way m h K) = none from k2]
    rfl
/-- c are seated -/
structure Seats (m c : Nat) (owner : Array (Option Nat)) : Prop where
  sz : owner.size = m + 1
  all : ∀ k, k < c → ∃ j, j ≤ m ∧ oAt owner j = some k
  ps : ∃ ps : List Nat, ps.length = c ∧ ∀ j, j ≤ m → oAt owner j ≠ none → j ∈ ps
theorem Seats.none (m : Nat) : Seats m 0 (Array.replicate (m + 1) Option.none) :=
  ⟨by simp, fun k hk => absurd hk (Nat.not_lt_zero _), [], rfl, fun j hj e => absurd (oAt_init hj) e⟩
theorem Seats.more {m c : Nat} {owner : Array (Option Nat)} (hm : GoodM m) (W : Seats m c owner) (hl : c ≤ m) (h : Int) :
    ∃ j, SetTable.layClean.free m owner (SetTable.turns m) (SetTable.bits h % (m + 1)) (SetTable.bits h) = some j ∧ Seats m (c + 1) (owner.setIfInBounds j (some c)) := by
  obtain ⟨ps, hps, hin⟩ := W.ps
  obtain ⟨j0, h0, hn0⟩ := st_missing ps (m + 1) (by omega)
  have hj0 : oAt owner j0 = Option.none := Classical.byContradiction fun z => hn0 (hin j0 (Nat.le_of_lt_succ h0) z)
  obtain ⟨K, e1, e2⟩ := free_slot hm owner h (Nat.le_of_lt_succ h0) hj0
  have hjm : way m h K ≤ m := way_in h K
  have hjs : way m h K < owner.size := by
    rw [W.sz]
    exact Nat.lt_succ_of_le hjm
  refine ⟨way m h K, e1, by rw [Array.size_setIfInBounds]; exact W.sz, fun k hk => ?_, way m h K :: ps, by rw [List.length_cons, hps], fun j hj e => ?_⟩
  · by_cases c2 : k < c
    · obtain ⟨j, hj, e⟩ := W.all k c2
      refine ⟨j, hj, ?_⟩
      rw [oAt_set_ne _ fun z => by rw [z, e2] at e; cases e]
      exact e
    · rw [show k = c by omega]
      exact ⟨way m h K, hjm, oAt_set_self _ hjs⟩
  · by_cases c2 : j = way m h K
    · rw [c2]
      exact List.mem_cons_self
    · rw [oAt_set_ne _ c2] at e
      exact List.mem_cons_of_mem _ (hin j hj e)
theorem seats_fold {m : Nat} (hm : GoodM m) : ∀ (rest : List Int) (c : Nat) (owner : Array (Option Nat)), Seats m c owner → c + rest.length ≤ m →
    ∃ owner', rest.foldl (stepF m) (some (owner, c)) = some (owner', c + rest.length) ∧ Seats m (c + rest.length) owner'
  | [], c, owner, W, _ => ⟨owner, rfl, W⟩
  | h :: rest, c, owner, W, hl => by
    rw [List.length_cons] at hl
    obtain ⟨j, e, W'⟩ := W.more hm (by omega) h
    obtain ⟨owner', f, W2⟩ := seats_fold hm rest (c + 1) _ W' (by omega)
    have ea : c + 1 + rest.length = c + (h :: rest).length := by
      rw [List.length_cons]
      omega
    rw [ea] at f W2
    refine ⟨owner', ?_, W2⟩
    rw [List.foldl_cons, stepF_some e]
    exact f
/-- the table laid anew -/
theorem relaid_good (t : SetTable) {hs : Array Int} {wanted M : Nat} (hw : SetTable.sizeAbove wanted - 1 = M) (hM : GoodM M) (hn : hs.size ≤ M) :
    ∃ t' order, t.relaid hs wanted = some (t', order) ∧ order.toList.Perm (List.range hs.size) ∧ Ris t'.place.toList ∧ t'.place.size = hs.size ∧ t'.mask = M ∧ t'.led = t.led ∧ t'.plain = t.plain ∧ t'.dummies = #[] := by
  obtain ⟨owner, f, W⟩ := seats_fold hM hs.toList 0 _ (Seats.none M) (by rw [Array.length_toList]; omega)
  rw [Nat.zero_add, Array.length_toList] at f W
  have hr : t.relaid hs wanted = some (tabOf t M owner, ((liveOf M owner).map (·.2)).toArray) := by
    rw [relaid_eq, hw, layClean_eq, f]
    rfl
  have ris := ris_live (fun j => owner.getD j none) (List.range (M + 1)) List.pairwise_lt_range
  have r1 : Ris ((liveOf M owner).map (·.1)) := ris.1
  have nd : ((liveOf M owner).map (·.1)).Nodup := r1.imp fun h => Nat.ne_of_lt h
  have every : ∀ k, k < hs.size → k ∈ (liveOf M owner).map (·.2) := fun k hk => by
    obtain ⟨j, b1, b2⟩ := W.all k hk
    exact List.mem_map.mpr ⟨(j, k), (mem_live W.sz).2 ⟨b1, b2⟩, rfl⟩
  have hlen : (liveOf M owner).length = hs.size := by
    obtain ⟨ps, p1, p2⟩ := W.ps
    have a := nat_nodup_len ((liveOf M owner).map (·.1)) ps nd fun x hx => by
      obtain ⟨⟨y, k⟩, hq, ey⟩ := List.mem_map.mp hx
      have ey' : y = x := ey
      rw [← ey']
      obtain ⟨b1, b2⟩ := (mem_live W.sz).1 hq
      exact p2 y b1 (by rw [b2]; exact fun z => nomatch z)
    have b := nat_nodup_len (List.range hs.size) ((liveOf M owner).map (·.2)) List.nodup_range fun k hk => every k (List.mem_range.mp hk)
    rw [List.length_map, p1] at a
    rw [List.length_map, List.length_range] at b
    omega
  refine ⟨tabOf t M owner, _, hr, ?_, r1, ?_, rfl, rfl, rfl, rfl⟩
  · refine perm_range hs.size _ ?_ every
    show ((liveOf M owner).map (·.2)).length = hs.size
    rw [List.length_map]
    exact hlen
  · show ((liveOf M owner).map (·.1)).toArray.size = hs.size
    rw [List.size_toArray, List.length_map]
    exact hlen
theorem above_5 : SetTable.sizeAbove (SetTable.grown 5) = 32 := by decide +kernel
theorem above_19 : SetTable.sizeAbove (SetTable.grown 19) = 128 := by decide +kernel
theorem above_77 : SetTable.sizeAbove (SetTable.grown 77) = 512 := by decide +kernel
/-- the hash of a pair, in closed form -/
def pairHash (k : List Int) : Int := reduceHash (Builtin.Tuple.tupleHashOf (k.map hashInt))
theorem pairHash_eq (P : Program) (w : World) (k : List Int) : thash P w k = pairHash k := rfl
def pairsTo16 : List (List Int) := (List.range 16).flatMap fun (i : Nat) => (List.range 16).map fun (j : Nat) => [Int.ofNat i, Int.ofNat j]
theorem pairs_apart : (pairsTo16.map pairHash).Nodup := by decide +kernel
end K9
set_option Elab.async false
set_option maxRecDepth 100000
set_option maxHeartbeats 400000
/-! set(t), t a tuple of up to 300 tuples whose hashes all differ; its len -/
namespace K9
open PySem PySem.Spec PyProof.Rows L2
abbrev Rows := List (Addr × List Int)
abbrev hashes (L : Rows) : List Int := L.map fun p => pairHash p.2
structure SetN (P : Program) (w : World) (h : Heap) (a : Addr) (L : Rows) (es : Array (Int × Value)) (ep : Nat) (t : SetTable) : Prop where
  ob : ∃ o, h.get? a = some o ∧ o.ExactSet ∧ o.data = .set es ep t
  rows : es.toList = rowsOf P w L
  ris : Ris t.place.toList
  dm : t.dummies = #[]
  sz : t.place.size = L.length
  good : GoodM t.mask
  plain : t.plain = true
  room : L.length * 5 < t.mask * 3
section
variable {P : Program} {w : World} {A : Around} {E : Value → Shared → Prop} {s : Shared} {a : Addr} {L : Rows} {es : Array (Int × Value)} {ep : Nat} {t : SetTable}
theorem rows_size (hr : es.toList = rowsOf P w L) : es.size = L.length := by
  have h := congrArg List.length hr
  unfold rowsOf at h
  rw [Array.length_toList, List.length_map] at h
  exact h
theorem fits_of (hsz : t.place.size = es.size) (hdm : t.dummies = #[]) (hl : es.size ≤ t.mask) : t.fits es.size = true := by
  unfold SetTable.fits SetTable.fill
  rw [hdm, Bool.and_eq_true, beq_iff_eq, decide_eq_true_eq, hsz]
  exact ⟨rfl, hl⟩
theorem SetN.fits (R : SetN P w s.heap a L es ep t) : t.fits es.size = true := by
  have h1 := rows_size R.rows
  have h2 := R.sz
  have h3 := R.room
  exact fits_of (by omega) R.dm (by omega)
/-- a search for what is of another hash than all that are there -/
theorem search_new (R : SetN P w s.heap a L es ep t) {x : Addr} {h : Int} (hnew : h ∉ hashes L) {Q : SetFound → Shared → Prop}
    (hq : ∀ K, way t.mask h K ∉ t.place.toList → Q (.free (way t.mask h K) false) s) : wpAny (model P w) A (setSearch a (.ref x) h true) Q E s := by
  obtain ⟨o, ho, hex, hd⟩ := R.ob
  have h3 := R.room
  have hsz := R.sz
  obtain ⟨K, k1, k2, k3⟩ := first_free R.good (pl := t.place.toList) (by rw [Array.length_toList]; omega) h
  unfold setSearch
  rw [show (100000 : Nat) = 99999 + 1 from rfl, setSearchFrom_succ]
  refine wpAny_bind (wpAny_setState_of ho hd R.fits ?_)
  have hgw : ¬ t.gaveWay = true := by
    unfold SetTable.gaveWay
    rw [R.good.odd]
    decide
  dsimp only
  refine wp_if_neg hgw ?_
  try refine wpAny_bind (wpAny_pure ?_)
  have spec := go_spec t R.ris R.dm (fun i => (es[i]?.map (·.1)).getD 0) h (10 * SetTable.turns t.mask) K (t.probeStart h) rfl k1 k3 k2
  have hash : ∀ (i j : Nat), t.place.toList[i]? = some j → (es[i]?.map (fun (q : Int × Value) => q.1)).getD 0 ≠ h := fun i j hj e => by
    have hi : i < L.length := by
      have z := (List.getElem?_eq_some_iff.mp hj).1
      rw [Array.length_toList] at z
      omega
    have e1 : es[i]? = some (pairHash (L[i]).2, Value.ref (L[i]).1) := by
      rw [← Array.getElem?_toList, R.rows]
      unfold rowsOf
      rw [List.getElem?_map, List.getElem?_eq_getElem hi]
      rfl
    have e2 : (es[i]?.map (fun (q : Int × Value) => q.1)).getD 0 = h := e
    rw [e1] at e2
    refine hnew ?_
    rw [← show pairHash (L[i]).2 = h from e2]
    exact List.mem_map.mpr ⟨L[i], List.getElem_mem hi, rfl⟩
  rcases spec with ⟨k, i, a1, a2, a3, _⟩ | ⟨_, hpr⟩
  · exact absurd a3 (hash i _ a2)
  · have e : t.probe (fun i => (es[i]?.map (·.1)).getD 0) h ((none : Option SetTable.Probe).getD (t.probeStart h)) = some (.empty (way t.mask h K) none) := hpr
    rw [e]
    exact wpAny_pure (hq K k2)
theorem relay_new {o : Obj} (ho : s.heap.get? a = some o) (hex : o.ExactSet) (hd : o.data = .set es ep t) (hrows : es.toList = rowsOf P w L) (hsz : t.place.size = es.size) (hdm : t.dummies = #[]) (hfl : es.size ≤ t.mask)
    (pl : t.plain = true) {wanted M : Nat} (hw : SetTable.sizeAbove wanted - 1 = M) (hM : GoodM M) (hw2 : SetTable.sizeAbove wanted ≤ 512) (hn : L.length * 5 < M * 3) {Q : Unit → Shared → Prop}
    (hQ : ∀ h' L' es' ep' t', Heap.SameBut a s.heap h' → SetN P w h' a L' es' ep' t' → L'.Perm L → Q () { s with heap := h' }) : wpAny (model P w) A (setRelay a wanted) Q E s := by
  have hsl := rows_size hrows
  obtain ⟨t', order, e, hp, q1, q2, q3, q4, q5, q6⟩ := relaid_good t (hs := es.map (·.1)) hw hM (by rw [Array.size_map]; omega)
  rw [Array.size_map] at hp q2
  rw [hsl] at hp
  obtain ⟨L2, r1, r2, _⟩ := order_rows L es order hrows hp
  have hs2 : (order.filterMap (es[·]?)).size = es.size := by
    rw [rows_size r1, r2.length_eq, hsl]
  rw [setRelay_eq]
  refine wpAny_bind (wpAny_setState_of ho hd (fits_of hsz hdm hfl) ?_)
  dsimp only
  refine wp_if_neg (by rw [sizeLine_eq]; omega) ?_
  try refine wpAny_bind (wpAny_pure ?_)
  rw [e]
  dsimp only
  refine wpAny_bind (wp_if_neg (by rw [hs2]; simp) ?_)
  try refine wpAny_bind (wpAny_pure ?_)
  refine wpAny_pure ?_
  have hM512 : M ≤ 511 := by rcases hM with z | z | z | z <;> omega
  have hL : L.length ≤ 1000 := by omega
  refine wpAny_storeSet_of ho hd ?_ (by rw [hs2, hsl, sizeLine_eq]; omega)
  refine hQ _ L2 _ (ep + 1) t' (Heap.SameBut.update ..) ⟨⟨_, store_at ho hd, ⟨hex.1, hex.2.1, hex.2.2⟩, rfl⟩, r1, q1, q6, ?_, by rw [q3]; exact hM, by rw [q5]; exact pl, ?_⟩ r2
  · rw [q2, hsl, r2.length_eq]
  · rw [r2.length_eq, q3]
    exact hn
/-- one more is put in -/
theorem add_new (R : SetN P w s.heap a L es ep t) {x : Addr} {k : List Int} (hx : IsT P w s.heap k x) (hnew : pairHash k ∉ hashes L) (hfew : L.length < 300) {Q : Bool → Shared → Prop}
    (hQ : ∀ h' L' es' ep' t', Heap.SameBut a s.heap h' → SetN P w h' a L' es' ep' t' → L'.Perm ((x, k) :: L) → Q true { s with heap := h' }) :
    wpAny (model P w) A (setAddHashed a (.ref x) (pairHash k)) Q E s := by
  obtain ⟨o, ho, hex, hd⟩ := R.ob
  have hsl := rows_size R.rows
  have hroom := R.room
  have hpsz := R.sz
  unfold setAddHashed
  refine wpAny_holding ?_
  rw [show (100000 : Nat) = 99999 + 1 from rfl, setAddHashedIn_succ]
  refine wpAny_bind (wpAny_setState_of ho hd R.fits ?_)
  dsimp only
  refine wp_if_neg (by simp [byScan, Value.scannable]) ?_
  try refine wpAny_bind (wpAny_pure ?_)
  refine wpAny_bind (search_new R hnew fun K hK => ?_)
  dsimp only
  refine wpAny_bind (wpAny_setState_of ho hd R.fits ?_)
  dsimp only
  have hnp : t.place[SetTable.below t.place (way t.mask (pairHash k) K)]? ≠ some (way t.mask (pairHash k) K) := fun e => hK (List.mem_of_getElem? (by rw [Array.getElem?_toList]; exact e))
  have hpp := put_place t (way t.mask (pairHash k) K)
  have hris : Ris (t.put (way t.mask (pairHash k) K)).1.place.toList := ris_insert R.ris hnp
  have hdm := put_dm R.dm (way t.mask (pairHash k) K)
  obtain ⟨c1, _, _⟩ := below_cut R.ris (way t.mask (pairHash k) K)
  have hsize : (t.put (way t.mask (pairHash k) K)).1.place.size = L.length + 1 := by
    rw [← Array.length_toList, hpp, len_ins _ (by rw [Array.length_toList]; exact c1), Array.length_toList, hpsz]
  have em : (t.put (way t.mask (pairHash k) K)).1.mask = t.mask := rfl
  have epl : (t.put (way t.mask (pairHash k) K)).1.plain = true := R.plain
  have e2 : (t.put (way t.mask (pairHash k) K)).2 = SetTable.below t.place (way t.mask (pairHash k) K) := rfl
  generalize hpt : t.put (way t.mask (pairHash k) K) = pt at hris hdm hsize em epl e2 ⊢
  obtain ⟨t1, p⟩ := pt
  dsimp only at hris hdm hsize em epl e2 ⊢
  first
    | (refine wpAny_bind ?_; refine wp_if_pos epl ?_; refine hashBy_tup hx ?_)
    | refine wp_if_pos epl (wpAny_bind (hashBy_tup hx ?_))
  simp only [if_true]
  have hin : (SetTable.insertAt es p (pairHash k, Value.ref x)).toList = rowsOf P w (L.take p ++ (x, k) :: L.drop p) := by
    rw [SetTable.toList_insertAt, rows_put, R.rows, pairHash_eq]
  have pm := put_perm L p (x, k)
  have hlen : (L.take p ++ (x, k) :: L.drop p).length = L.length + 1 := pm.length_eq
  have hes : (SetTable.insertAt es p (pairHash k, Value.ref x)).size = L.length + 1 := by rw [rows_size hin, hlen]
  generalize SetTable.insertAt es p (pairHash k, Value.ref x) = es1 at hin hes ⊢
  generalize L.take p ++ (x, k) :: L.drop p = L1 at pm hlen hin
  refine wpAny_bind (wpAny_storeSet_of ho hd ?_ (by rw [hes, sizeLine_eq]; omega))
  have sb : Heap.SameBut a s.heap (s.heap.update a (Obj.putSet es1 t1)) := Heap.SameBut.update ..
  have ho1 := store_at (es' := es1) (t' := t1) ho hd
  generalize s.heap.update a (Obj.putSet es1 t1) = h1 at sb ho1 ⊢
  have hfill : t1.fill = L.length + 1 := by
    unfold SetTable.fill
    rw [hdm, hsize]
    rfl
  by_cases hf : t1.tooFull = true
  · have hfull : (L.length + 1) * 5 ≥ t1.mask * 3 := by
      have z := hf
      unfold SetTable.tooFull at z
      rw [decide_eq_true_eq, hfill] at z
      exact z
    rw [hsl]
    have go : ∀ M, SetTable.sizeAbove (SetTable.grown (L.length + 1)) - 1 = M → GoodM M → SetTable.sizeAbove (SetTable.grown (L.length + 1)) ≤ 512 → (L.length + 1) * 5 < M * 3 →
        wpAny (model P w) A (setRelay a (SetTable.grown (L.length + 1))) (fun _ s' => wpAny (model P w) A (pure true) Q E s') E { s with heap := h1 } := fun M y1 y2 y3 y4 => by
      refine relay_new (s := { s with heap := h1 }) ho1 ⟨hex.1, hex.2.1, hex.2.2⟩ rfl hin (by rw [hsize, hes]) hdm (by rw [hes, em]; omega) epl y1 y2 y3 (by rw [hlen]; exact y4) fun h2 L2 es2 ep2 t2 sb2 R2 pm2 => ?_
      exact wpAny_pure (hQ h2 L2 es2 ep2 t2 (sb.trans sb2) R2 (pm2.trans pm))
    have done : wpAny (model P w) A (setRelay a (SetTable.grown (L.length + 1))) (fun _ s' => wpAny (model P w) A (pure true) Q E s') E { s with heap := h1 } := by
      rw [em] at hfull
      rcases R.good with e | e | e | e
      · have el : L.length = 4 := by omega
        exact go 31 (by rw [el, above_5]) (.inr (.inl rfl)) (by rw [el, above_5]; decide) (by omega)
      · have el : L.length = 18 := by omega
        exact go 127 (by rw [el, above_19]) (.inr (.inr (.inl rfl))) (by rw [el, above_19]; decide) (by omega)
      · have el : L.length = 76 := by omega
        exact go 511 (by rw [el, above_77]) (.inr (.inr (.inr rfl))) (by rw [el, above_77]; decide) (by omega)
      · exact absurd hfull (by omega)
    first
      | (refine wpAny_bind ?_; refine wp_if_pos (by simp [hf]) ?_; exact done)
      | (refine wp_if_pos (by simp [hf]) ?_; refine wpAny_bind ?_; exact done)
  · have hfull : (L.length + 1) * 5 < t1.mask * 3 := by
      have z := hf
      unfold SetTable.tooFull at z
      rw [decide_eq_true_eq, hfill] at z
      omega
    have fin : wpAny (model P w) A (pure true) Q E { s with heap := h1 } :=
      wpAny_pure (hQ h1 L1 es1 (ep + 1) t1 sb ⟨⟨_, ho1, ⟨hex.1, hex.2.1, hex.2.2⟩, rfl⟩, hin, hris, hdm, by rw [hsize, hlen], by rw [em]; exact R.good, epl, by rw [hlen]; exact hfull⟩ pm)
    first
      | (refine wp_if_neg (by simp [hf]) ?_; exact fin)
      | (refine wpAny_bind ?_; refine wp_if_neg (by simp [hf]) ?_; refine wpAny_pure ?_; exact fin)
theorem SetN.keep {h h' : Heap} (R : SetN P w h a L es ep t) (ha : ∀ o, h.get? a = some o → h'.get? a = some o) : SetN P w h' a L es ep t := by
  obtain ⟨o, ho, r⟩ := R.ob
  exact ⟨⟨o, ha o ho, r⟩, R.rows, R.ris, R.dm, R.sz, R.good, R.plain, R.room⟩
abbrev newSetObj (led : Bool) : Obj := { cls := .type "set", dict := none, data := .set #[] 0 (.fresh 0 0 led) }
theorem setN_new {h : Heap} {led : Bool} (ho : h.get? a = some (newSetObj led)) : SetN P w h a [] #[] 0 (.fresh 0 0 led) where
  ob := ⟨_, ho, ⟨rfl, rfl, rfl⟩, rfl⟩
  rows := rfl
  ris := List.Pairwise.nil
  dm := rfl
  sz := rfl
  good := .inl rfl
  plain := rfl
  room := by
    show 0 * 5 < 7 * 3
    decide
theorem fresh_next {α : Type} (f : α → Int) {ks L : List α} {i : Nat} {p : α} (hp : ks[i]? = some p) (nd : (ks.map f).Nodup) (pm : L.Perm (ks.take i)) : f p ∉ L.map f := fun hm => by
  have h1 : f p ∈ (ks.take i).map f := (pm.map f).mem_iff.mp hm
  have h2 := nd.sublist ((List.take_sublist (i + 1) ks).map f)
  rw [List.take_add_one, hp, List.map_append] at h2
  exact (List.nodup_append.mp h2).2.2 _ h1 _ (List.mem_map_of_mem (by simp)) rfl
/-- what is put in turn by turn -/
theorem fill_set {I : Addr} {fp wr : List Addr} {G : Array GenState → Array GenState → Prop} {n : Nat} {Pv : Nat → Value → Prop} {St : Nat → Shared → Prop} {R : Result → Shared → Prop}
    (W : WalksS P w A.in1 I fp wr G n Pv St) (S : Addr) (hSf : S ∉ fp) (ks : Rows) (hn : n = ks.length) (hfew : ks.length < 300) (hval : ∀ i v, Pv i v → ∃ p, ks[i]? = some p ∧ v = .ref p.1) (nd : (hashes ks).Nodup)
    (h0 : Heap) (hk : ∀ p ∈ ks, IsT P w h0 p.2 p.1) (hS0 : h0.get? S = none) (hw0 : ∀ b ∈ wr, h0.get? b = none) (hu : A.in1.units < cLine) :
    ∀ (k i : Nat) (s : Shared), n - i = k → i ≤ n → St i s → (∀ b o, h0.get? b = some o → s.heap.get? b = some o) → (∃ L es ep t, SetN P w s.heap S L es ep t ∧ L.Perm (ks.take i)) →
      (∀ s' L es ep t, Moved (S :: wr) G s s' → SetN P w s'.heap S L es ep t → L.Perm ks → (∀ b o, h0.get? b = some o → s'.heap.get? b = some o) → R (.ok (.ret .none)) s') →
      codeAny (model P w) A (.builtin "set.update.loop" ⟨[.ref S, .ref I], []⟩) R s := by
  have hSw : S ∉ wr := fun h => hSf (W.sub _ h)
  have hsub : ∀ b ∈ wr, b ∈ S :: wr := fun b hb => List.mem_cons_of_mem _ hb
  have keepM : ∀ {s s' : Shared}, Moved wr G s s' → (∀ b o, h0.get? b = some o → s.heap.get? b = some o) → ∀ b o, h0.get? b = some o → s'.heap.get? b = some o := fun hm hkp b o e => by
    refine hm.heap b o (fun hb => ?_) (hkp b o e)
    rw [hw0 b hb] at e
    cases e
  intro k
  induction k with
  | zero =>
    intro i s hk' hi hst hkp ⟨L, es, ep, t, hS, pm⟩ hR
    obtain rfl : i = n := by omega
    refine codeAny_builtin F.entry_set_update_loop ?_
    rw [Around.under_plainId F.plain_set_update_loop _]
    show wpAny _ A.in1 (pyNext (.ref I) >>= _) _ _ s
    refine wpAny_bind (W.done s _ _ hst fun s' hm => wpAny_pure (hR s' L es ep t (hm.mono hsub) (hS.keep fun o e => hm.heap S o hSw e) ?_ (keepM hm hkp)))
    rw [hn, List.take_length] at pm
    exact pm
  | succ k ih =>
    intro i s hk' hi hst hkp ⟨L, es, ep, t, hS, pm⟩ hR
    have hlt : i < n := by omega
    refine codeAny_builtin F.entry_set_update_loop ?_
    rw [Around.under_plainId F.plain_set_update_loop _]
    show wpAny _ A.in1 (pyNext (.ref I) >>= _) _ _ s
    refine wpAny_bind (W.item i s _ _ hlt hst fun v s' hP hst' hm => ?_)
    obtain ⟨p, hp, rfl⟩ := hval i v hP
    have hkp' := keepM hm hkp
    have hS' : SetN P w s'.heap S L es ep t := hS.keep fun o e => hm.heap S o hSw e
    have hx : IsT P w s'.heap p.2 p.1 := isT_keep (hk p (List.mem_of_getElem? hp)) hkp'
    have hil : i < ks.length := by omega
    have tk : ks.take (i + 1) = ks.take i ++ [p] := by
      rw [List.take_add_one, hp]
      rfl
    have hnew : pairHash p.2 ∉ hashes L := fresh_next (fun q : Addr × List Int => pairHash q.2) hp nd pm
    have hLl : L.length = i := by
      rw [pm.length_eq, List.length_take]
      omega
    show wpAny _ A.in1 (holding [Value.ref p.1] (setAdd S (.ref p.1)) >>= _) _ _ s'
    refine wpAny_bind (wpAny_holding ?_)
    unfold setAdd
    refine wpAny_holding (wpAny_bind (wpAny_pyHash_tuple hu hx ?_))
    refine add_new (s := { s' with toks := s'.toks + (p.2.length + 1) }) hS' hx hnew (by omega) fun h' L' es' ep' t' hsb hS2 pm2 => ?_
    have hkp2 : ∀ b o, h0.get? b = some o → h'.get? b = some o := fun b o e => (hsb.2 b fun z => by rw [z, hS0] at e; cases e).trans (hkp' b o e)
    have pm3 : L'.Perm (ks.take (i + 1)) := by
      rw [tk]
      exact pm2.trans ((pm.cons p).trans (List.perm_append_singleton p _).symm)
    refine wpAny_pure ⟨plainId_quiet F.plain_set_update_loop _, ih (i + 1) _ (by omega) hlt (W.frame _ s' _ _ hst' (Nat.le_add_right _ _) fun b hb o e => ?_) hkp2 ⟨L', es', ep', t', hS2, pm3⟩ fun s'' L2 es2 ep2 t2 hm'' hS'' pm4 hkp'' => ?_⟩
    · exact (hsb.2 b fun z => hSf (z ▸ hb)).trans e
    · refine hR s'' L2 es2 ep2 t2 (Moved.trans W.gtrans ((hm.mono hsub).then_heap (Nat.le_add_right _ _) fun b o hb e => ?_) hm'') hS'' pm4 hkp''
      exact (hsb.2 b fun z => hb (by rw [z]; exact List.mem_cons_self)).trans e
end
end K9
set_option Elab.async false
set_option maxRecDepth 100000
set_option maxHeartbeats 3000000
/-! set(t), t a tuple of tuples, and its len -/
namespace K9
open PySem PySem.Spec PyProof.Rows L2
section
variable {P : Program} {w : World} {A : Around} {E : Value → Shared → Prop} {s : Shared}
abbrev ledOf (w : World) : Bool := !w.params.followText "set-order"
theorem set_ofT {l : Addr} {items : Array Value} (ks : Rows) {Q : Value → Shared → Prop} (hh : A.handled = none) (hl : s.heap.IsTuple l items) (hit : items.toList = ks.map fun p => Value.ref p.1)
    (hk : ∀ p ∈ ks, IsT P w s.heap p.2 p.1) (hfew : ks.length < 300) (nd : (hashes ks).Nodup) (hu : A.units + 3 < cLine)
    (h : ∀ (h' : Heap) (tk : Nat) L es ep t, SetN P w h' s.heap.objs.size L es ep t → L.Perm ks → (∀ b o, s.heap.get? b = some o → h'.get? b = some o) → Q (.ref s.heap.objs.size) { s with heap := h', toks := tk }) :
    wpAny (model P w) A (call (.type "set") [.ref l]) Q E s := by
  have hisz : items.size = ks.length := by
    rw [← Array.length_toList, hit, List.length_map]
  have none_of : ∀ b, s.heap.objs.size ≤ b → s.heap.get? b = none := fun b hb => by
    cases q : s.heap.get? b with
    | none => rfl
    | some o => exact absurd (Nat.lt_of_lt_of_le (Heap.lt_size q) hb) (Nat.lt_irrefl _)
  obtain ⟨c, tl, hmro⟩ := F.called_set.mro
  have m1 := F.called_set.made
  have m2 := F.called_set.sub
  refine wpAny_call (codeAny_of_tree ?_)
  show wpAny _ _ (callAny (.type "set") _) _ _ _
  refine wpAny_pure ⟨Code.quiet_builtin _ (by decide +kernel), codeAny_builtin F.entry_type_call ?_⟩
  rw [Around.under_plain (weight_type_call_type "set" [.ref l] []) rfl]
  have m3 := F.called_set.notType
  have m4 := F.called_set.canCreate
  have m5 := F.typeCall_set_1 (.ref l)
  repeat (any_goals (first | assumption | wp_step))
  refine codeAny_mono (code_set_led1 (.ref l) (E := E) (Q₁ := fun v s1 => v = .ref s.heap.objs.size ∧ s1 = { s with heap := s.heap.push (newSetObj (ledOf w)) }) ⟨rfl, rfl⟩) fun r s1 hr => ?_
  rcases r with e | fl
  · exact hr
  rcases fl with v | v | v | v <;> try exact hr.elim
  obtain ⟨rfl, rfl⟩ := hr
  have hS : (s.heap.push (newSetObj (ledOf w))).get? s.heap.objs.size = some (newSetObj (ledOf w)) := Heap.get?_push_size _ rfl
  have hT : Shared.TypeIs { s with heap := s.heap.push (newSetObj (ledOf w)) } (.ref s.heap.objs.size) "set" := ⟨_, hS, rfl⟩
  have m6 := F.called_set.init.lookup
  have m7 := F.called_set.init.bind (.ref s.heap.objs.size)
  repeat (any_goals (first | assumption | wp_step))
  refine codeAny_mono (codeAny_call_builtin (R := wants (fun r s2 => r = .none ∧ ∃ h' tk L es ep t, s2 = { s with heap := h', toks := tk } ∧ SetN P w h' s.heap.objs.size L es ep t ∧ L.Perm ks ∧ (∀ b o, s.heap.get? b = some o → h'.get? b = some o)) E)
    F.called_set.init.plain F.entry_set_init (check_set_init_1 hT ?_)) fun r2 s2 hr2 => ?_
  · obtain ⟨⟨ocls, odict, odata, oslots⟩, hol, hcl, nl, hdl⟩ := hl
    dsimp only at hcl hdl
    subst hcl hdl
    have hol' := Heap.get?_push_of_some (newSetObj (ledOf w)) hol
    have m8 := F.sub_tuple_set
    have m9 := F.sub_tuple_frozenset
    have m10 : (Value.type "tuple" == Value.type "dict") = false := by decide
    have hl1 : (s.heap.push (newSetObj (ledOf w))).IsTuple l items := ⟨_, hol', rfl, nl, rfl⟩
    unfold Builtin.«set.__init__» noKeywords Builtin.Frozenset.updateFrom
    generalize hPI : pyIter = PI
    wp_walk
    subst hPI
    refine wpAny_pyIter_tuple hl1 ?_
    refine wpAny_bind (wpAny_runValue ?_)
    have hlS : l < s.heap.objs.size := Heap.lt_size hol
    have hz := Heap.size_push s.heap (newSetObj (ledOf w))
    have hzl : l ≠ (s.heap.push (newSetObj (ledOf w))).objs.size := by
      rw [hz]
      exact Nat.ne_of_lt (Nat.lt_succ_of_lt hlS)
    have hzS : s.heap.objs.size ∉ [(s.heap.push (newSetObj (ledOf w))).objs.size, l] := fun z => by
      rcases List.mem_cons.mp z with z | z
      · rw [hz] at z
        exact Nat.ne_of_lt (Nat.lt_succ_self _) z
      · exact Nat.ne_of_gt hlS (List.mem_singleton.mp z)
    refine fill_set ((Walks.tuple (by simp [hh]) _ l hzl items).toS) s.heap.objs.size hzS ks hisz hfew (fun i v hv => ?_) nd s.heap hk (none_of _ (Nat.le_refl _))
      (fun b hb => none_of b (by rw [List.mem_singleton.mp hb, hz]; exact Nat.le_succ _)) hu (items.size - 0) 0 _ (by omega) (Nat.zero_le _) ⟨⟨_, Heap.get?_push_size _ rfl, rfl, rfl⟩, hl1.push _⟩
      (fun b o e => Heap.get?_push_of_some _ (Heap.get?_push_of_some _ e)) ?_ ?_
    · have q : items.toList[i]? = some v := (Array.getElem?_toList ..).trans hv
      rw [hit, List.getElem?_map] at q
      cases hq : ks[i]? with
      | none => rw [hq] at q; cases q
      | some p =>
        rw [hq] at q
        exact ⟨p, rfl, (Option.some.inj q).symm⟩
    · exact ⟨[], #[], 0, _, setN_new (led := ledOf w) (Heap.get?_push_of_some _ hS), by simp⟩
    · intro s' L es ep t hm hS' g' hkp
      obtain ⟨h', g2, d', tk', os'⟩ := s'
      obtain rfl : g2 = s.gens := hm.gens
      obtain rfl : d' = s.drawn := hm.drawn
      obtain rfl : os' = s.os := hm.os
      show wpAny _ _ _ _ _ _
      refine wpAny_pure ?_
      show wpAny _ _ (ret Value.none) _ _ _
      exact wpAny_pure ⟨rfl, h', tk', L, es, ep, t, rfl, hS', g', hkp⟩
  · rcases r2 with e | fl
    · exact hr2
    rcases fl with v | v | v | v <;> try exact hr2.elim
    obtain ⟨rfl, h', tk, L, es, ep, t, rfl, hS', g', hk'⟩ := hr2
    repeat (any_goals (first | assumption | wp_step))
    exact h _ _ _ _ _ _ hS' g' hk'
end
end K9
set_option Elab.async false
set_option maxRecDepth 100000
set_option maxHeartbeats 3000000
/-! len(set(t)) -/
namespace K9
open PySem PySem.Spec PyProof.Rows L2
theorem nodup_on {α β : Type} {f : α → β} : ∀ {l : List α}, (∀ a ∈ l, ∀ b ∈ l, f a = f b → a = b) → l.Nodup → (l.map f).Nodup
  | [], _, _ => List.Pairwise.nil
  | a :: l, hi, h => by
    have h2 := List.nodup_cons.mp h
    rw [List.map_cons, List.nodup_cons]
    refine ⟨fun hm => ?_, nodup_on (fun x hx y hy => hi x (List.mem_cons_of_mem _ hx) y (List.mem_cons_of_mem _ hy)) h2.2⟩
    obtain ⟨b, hb, e⟩ := List.mem_map.mp hm
    refine h2.1 ?_
    rw [hi a List.mem_cons_self b (List.mem_cons_of_mem _ hb) e.symm]
    exact hb
theorem map_inj {α β : Type} (f : α → β) : ∀ {l : List α}, (l.map f).Nodup → ∀ {a b : α}, a ∈ l → b ∈ l → f a = f b → a = b
  | [], _, a, b, ha, _, _ => absurd ha (by simp)
  | c :: l, h, a, b, ha, hb, e => by
    rw [List.map_cons, List.nodup_cons] at h
    rcases List.mem_cons.mp ha with e1 | e1 <;> rcases List.mem_cons.mp hb with e2 | e2
    · rw [e1, e2]
    · exact absurd (List.mem_map.mpr ⟨b, e2, by rw [← e, e1]⟩) h.1
    · exact absurd (List.mem_map.mpr ⟨a, e1, by rw [e, e2]⟩) h.1
    · exact map_inj f h.2 e1 e2 e
theorem nodup_few {α : Type} [DecidableEq α] : ∀ (l m : List α), l.Nodup → (∀ x ∈ l, x ∈ m) → l.length ≤ m.length
  | [], _, _, _ => Nat.zero_le _
  | a :: l, m, h, hs => by
    have h2 := List.nodup_cons.mp h
    have r := nodup_few l (m.erase a) h2.2 fun x hx => (List.mem_erase_of_ne fun e => by rw [e] at hx; exact h2.1 hx).mpr (hs x (List.mem_cons_of_mem _ hx))
    rw [List.length_erase_of_mem (hs a List.mem_cons_self)] at r
    have hp := List.length_pos_of_mem (hs a List.mem_cons_self)
    rw [List.length_cons]
    omega
section
variable {X : Cx}
/-- len(set(e)), e a tuple of different pairs of small numbers -/
def tLenSetP (K : PySem.W.Frag) (ta : TE) : TE := fun σ H Q => ta σ H fun x H1 => ∃ (a : Addr) (xs : List V) (ks : List (List Int)), x = .ref a ∧ SqT K H1 a xs ∧ xs.length = ks.length ∧ (∀ (i : Nat) (h : i < xs.length) (h2 : i < ks.length), TupI K H1 xs[i] ks[i]) ∧
  (∀ k ∈ ks, k ∈ pairsTo16) ∧ ks.Nodup ∧ Q (.int (ks.length : Nat)) H1
theorem pairs_few {ks : List (List Int)} (h : ∀ k ∈ ks, k ∈ pairsTo16) (nd : ks.Nodup) : ks.length ≤ 256 := nodup_few _ _ nd h
theorem hashes_apart {ks : List (List Int)} (h : ∀ k ∈ ks, k ∈ pairsTo16) (nd : ks.Nodup) : (ks.map pairHash).Nodup :=
  nodup_on (fun a ha b hb e => map_inj pairHash pairs_apart (h a ha) (h b hb) e) nd
theorem keys_of {P : Program} {w : World} {vs : List Value} {k : List Int} (h : IntsAre vs k) : ItemsAre (PySem.intKind P w) k vs := by
  induction h with
  | nil => exact .nil
  | cons n t _ ih => exact .cons (by show Value.isInt n (.int n t) = true; simp [Value.isInt]) ih
theorem isT_of {pins : List (Addr × Obj)} {σ : L2.St} {H : Hp} {s : Shared} (I : Inv X pins σ H s) {v : V} {ns : List Int} (h : TupI X.K H v ns) {u : Value} (r : RelV v u) : ∃ t, u = Value.ref t ∧ IsT X.prog X.w s.heap ns t := by
  obtain ⟨t, rfl, h⟩ := h
  cases r
  obtain ⟨its, rv, ⟨o, ho, hc, n, hd⟩, _⟩ := I.tuple h
  exact ⟨t, rfl, o, its.toArray, n, ho, hc, hd, keys_of (by simpa using rv.ints)⟩
theorem rows_of {pins : List (Addr × Obj)} {σ : L2.St} {H : Hp} {s : Shared} (I : Inv X pins σ H s) : ∀ {xs : List V} {its : List Value} (ks : List (List Int)), Vals xs its → xs.length = ks.length →
    (∀ (i : Nat) (h : i < xs.length) (h2 : i < ks.length), TupI X.K H xs[i] ks[i]) → ∃ L : Rows, its = L.map (fun p => Value.ref p.1) ∧ L.map (fun p => p.2) = ks ∧ ∀ p ∈ L, IsT X.prog X.w s.heap p.2 p.1
  | _, _, [], .nil, _, _ => ⟨[], rfl, rfl, fun p hp => absurd hp (by simp)⟩
  | _, _, k :: ks, .cons r t, hl, hx => by
    obtain ⟨a, rfl, h1⟩ := isT_of I (hx 0 (Nat.succ_pos _) (Nat.succ_pos _)) r
    obtain ⟨L, rfl, e2, h2⟩ := rows_of I ks t (by simpa using hl) fun i h h' => hx (i + 1) (Nat.succ_lt_succ h) (Nat.succ_lt_succ h')
    exact ⟨(a, k) :: L, rfl, by rw [List.map_cons, e2], fun p hp => by
      rcases List.mem_cons.mp hp with e | e
      · rw [e]; exact h1
      · exact h2 p e⟩
theorem pe_lenSetP {a : Expr} {ta : TE} {p p2 q pos : Pos} (hc : X.calm = true) (hu : X.A.units + 3 < cLine) (hg : Gl X "len") (hm : X.mg "len" = none) (hg2 : Gl X "set") (hm2 : X.mg "set" = none) (ha : PE X a ta)
    (na : starEach [a] X.env = (false, eval a X.env) :: starEach [] X.env := by rfl) : PE X (.Call (.Name "len" p) [.Call (.Name "set" p2) [a] [] q] [] pos) (tLenSetP X.K ta) := by
  refine ⟨fun pins s σ H Q I h => ?_⟩
  refine Call_ (ld_blt I hg hm PySem.boot_len (PyProof.Rows.callWith_builtin1 (PyProof.Rows.args_cons ?_ rfl) rfl rfl))
  refine Call_ (ld_blt I hg2 hm2 PyProof.Rows.boot_set (PyProof.Rows.callWith_type1 (PyProof.Rows.args_cons (thn (ha.run pins s σ H _ I h) fun v s1 ⟨x, H1, I1, r1, q1⟩ => PyProof.Rows.args_nil ?_) na) na rfl))
  obtain ⟨t, xs, ks, rfl, hq, hl, hx, hp, hnd, q1⟩ := q1
  cases r1
  obtain ⟨its, r, pl, hz⟩ := I1.tuple hq
  obtain ⟨L, e1, e2, hL⟩ := rows_of I1 ks r hl hx
  have eh : hashes L = ks.map pairHash := by
    rw [← e2, List.map_map]
    rfl
  have el : L.length = ks.length := by rw [← e2, List.length_map]
  have few := pairs_few hp hnd
  refine set_ofT L (I1.ok.hd hc) pl (by simpa using e1) hL (by omega) (by rw [eh]; exact hashes_apart hp hnd) hu fun h' tk L' es ep t' hS pm hk => PyProof.Rows.args_nil ?_
  have fit := SetN.fits (s := { s1 with heap := h', toks := tk }) hS
  obtain ⟨o, ho, hex, hd⟩ := hS.ob
  have hn : es.size = ks.length := by rw [rows_size hS.rows, pm.length_eq, el]
  have I2 : Inv X pins σ H1 { s1 with heap := h', toks := tk } := I1.kept fun b o e => hk b o e
  exact call_len_set ho hex hd fit (by omega) ⟨.int ks.length, H1, I2.tok _, ⟨_, by rw [hn]⟩, q1⟩
end
end K9
set_option Elab.async false
set_option maxRecDepth 100000
set_option maxHeartbeats 400000
/-! the defs by their places; what the top has written of them -/
namespace K9
open PySem L2
def top (i : Nat) : Stmt := PySem.Challenge.pw_sumsalone_k29_whole_one_of_two_papers.main.body.getD i (.Pass ⟨0, 0, 0, 0⟩)
/-- a def of the module, where it stands -/
structure Def (K : PySem.W.Frag) (mg : Str → Option Value) (x : Str) (st : Stmt) (ps : List Str) : Type where
  f : Addr
  fd : FuncData
  F : Fun K x x st f fd
  g : mg x = some (.ref f)
  b : Binds K fd ps []
abbrev s_is_integer : Stmt := top 2
abbrev s_is_from : Stmt := top 3
abbrev s_is_ascending : Stmt := top 4
abbrev s_are_indices : Stmt := top 5
abbrev s_is_tie : Stmt := top 16
abbrev s_others_at : Stmt := top 17
abbrev s_is_amount : Stmt := top 22
abbrev s_is_row : Stmt := top 23
abbrev s_require_row : Stmt := top 24
abbrev s_falling : Stmt := top 25
abbrev s_lack_of : Stmt := top 30
abbrev s_heaviest_order : Stmt := top 31
abbrev s_heaviest : Stmt := top 32
abbrev s_is_web_row : Stmt := top 33
abbrev s_lack : Stmt := top 34
abbrev s_greatest_lack : Stmt := top 35
abbrev s_has_web : Stmt := top 36
abbrev s_partners_in : Stmt := top 37
abbrev s_row_without : Stmt := top 38
abbrev s_made_web : Stmt := top 39
abbrev s_require_web_row : Stmt := top 40
abbrev s_require_short : Stmt := top 41
abbrev s_web_of : Stmt := top 42
abbrev s_web_paper : Stmt := top 43
abbrev s_law_vat : Stmt := top 45
abbrev s_law_dip : Stmt := top 46
abbrev s_law_pick : Stmt := top 47
abbrev s_law_web : Stmt := top 48
abbrev s_law_degrees : Stmt := top 49
abbrev s_law_lack : Stmt := top 50
abbrev s_law_greatest : Stmt := top 51
abbrev s_law_is_possible : Stmt := top 52
abbrev s_law_long : Stmt := top 53
abbrev s_law_moved : Stmt := top 54
abbrev s_law_paper : Stmt := top 55
abbrev s_law_right : Stmt := top 56
abbrev s_law : Stmt := top 57
abbrev s_init : Stmt := inClass (top 18) 0
abbrev s_of : Stmt := inClass (top 18) 1
abbrev s_places : Stmt := inClass (top 18) 2
abbrev s_degrees : Stmt := inClass (top 18) 4
theorem c_is_integer : FnScope ["value"] ["value"] (defScope s_is_integer) := ⟨rfl, rfl, rfl, by decide +kernel, rfl, by decide +kernel, by decide +kernel⟩
theorem c_is_from : FnScope ["value", "first", "last"] ["value", "first", "last"] (defScope s_is_from) := ⟨rfl, rfl, rfl, by decide +kernel, rfl, by decide +kernel, by decide +kernel⟩
theorem c_is_ascending : FnScope ["items", "one", "other"] ["items"] (defScope s_is_ascending) := ⟨rfl, rfl, rfl, by decide +kernel, rfl, by decide +kernel, by decide +kernel⟩
theorem c_are_indices : FnScope ["value", "size", "one"] ["value", "size"] (defScope s_are_indices) := ⟨rfl, rfl, rfl, by decide +kernel, rfl, by decide +kernel, by decide +kernel⟩
theorem c_is_tie : FnScope ["places", "value"] ["places", "value"] (defScope s_is_tie) := ⟨rfl, rfl, rfl, by decide +kernel, rfl, by decide +kernel, by decide +kernel⟩
theorem c_others_at : FnScope ["ties", "place", "one", "other"] ["ties", "place"] (defScope s_others_at) := ⟨rfl, rfl, rfl, by decide +kernel, rfl, by decide +kernel, by decide +kernel⟩
theorem c_is_amount : FnScope ["value"] ["value"] (defScope s_is_amount) := ⟨rfl, rfl, rfl, by decide +kernel, rfl, by decide +kernel, by decide +kernel⟩
theorem c_is_row : FnScope ["value", "entry"] ["value"] (defScope s_is_row) := ⟨rfl, rfl, rfl, by decide +kernel, rfl, by decide +kernel, by decide +kernel⟩
theorem c_require_row : FnScope ["value"] ["value"] (defScope s_require_row) := ⟨rfl, rfl, rfl, by decide +kernel, rfl, by decide +kernel, by decide +kernel⟩
theorem c_falling : FnScope ["row"] ["row"] (defScope s_falling) := ⟨rfl, rfl, rfl, by decide +kernel, rfl, by decide +kernel, by decide +kernel⟩
theorem c_lack_of : FnScope ["degrees", "places", "many", "rest", "place", "number"] ["degrees", "places"] (defScope s_lack_of) := ⟨rfl, rfl, rfl, by decide +kernel, rfl, by decide +kernel, by decide +kernel⟩
theorem c_heaviest_order : FnScope ["degrees"] ["degrees"] (defScope s_heaviest_order) := ⟨rfl, rfl, rfl, by decide +kernel, rfl, by decide +kernel, by decide +kernel⟩
theorem c_heaviest : FnScope ["degrees", "entries", "best", "total", "many", "entry", "size", "found", "one"] ["degrees"] (defScope s_heaviest) := ⟨rfl, rfl, rfl, by decide +kernel, rfl, by decide +kernel, by decide +kernel⟩
theorem c_is_web_row : FnScope ["degrees"] ["degrees"] (defScope s_is_web_row) := ⟨rfl, rfl, rfl, by decide +kernel, rfl, by decide +kernel, by decide +kernel⟩
theorem c_lack : FnScope ["degrees", "places"] ["degrees", "places"] (defScope s_lack) := ⟨rfl, rfl, rfl, by decide +kernel, rfl, by decide +kernel, by decide +kernel⟩
theorem c_greatest_lack : FnScope ["degrees"] ["degrees"] (defScope s_greatest_lack) := ⟨rfl, rfl, rfl, by decide +kernel, rfl, by decide +kernel, by decide +kernel⟩
theorem c_has_web : FnScope ["degrees"] ["degrees"] (defScope s_has_web) := ⟨rfl, rfl, rfl, by decide +kernel, rfl, by decide +kernel, by decide +kernel⟩
theorem c_partners_in : FnScope ["degrees", "place", "others", "one"] ["degrees", "place"] (defScope s_partners_in) := ⟨rfl, rfl, rfl, by decide +kernel, rfl, by decide +kernel, by decide +kernel⟩
theorem c_row_without : FnScope ["degrees", "place", "some", "one", "number"] ["degrees", "place"] (defScope s_row_without) := ⟨rfl, rfl, rfl, by decide +kernel, rfl, by decide +kernel, by decide +kernel⟩
theorem c_made_web : FnScope ["degrees", "left", "ties", "place", "one"] ["degrees"] (defScope s_made_web) := ⟨rfl, rfl, rfl, by decide +kernel, rfl, by decide +kernel, by decide +kernel⟩
theorem c_require_web_row : FnScope ["degrees"] ["degrees"] (defScope s_require_web_row) := ⟨rfl, rfl, rfl, by decide +kernel, rfl, by decide +kernel, by decide +kernel⟩
theorem c_require_short : FnScope ["degrees"] ["degrees"] (defScope s_require_short) := ⟨rfl, rfl, rfl, by decide +kernel, rfl, by decide +kernel, by decide +kernel⟩
theorem c_web_of : FnScope ["degrees"] ["degrees"] (defScope s_web_of) := ⟨rfl, rfl, rfl, by decide +kernel, rfl, by decide +kernel, by decide +kernel⟩
theorem c_web_paper : FnScope ["degrees", "most", "size"] ["degrees"] (defScope s_web_paper) := ⟨rfl, rfl, rfl, by decide +kernel, rfl, by decide +kernel, by decide +kernel⟩
theorem c_law_vat : FnScope ["_law_script", "_law_spot", "_law_cell", "_law_great", "_law_seed"] ["_law_script", "_law_spot"] (defScope s_law_vat) := ⟨rfl, rfl, rfl, by decide +kernel, rfl, by decide +kernel, by decide +kernel⟩
theorem c_law_dip : FnScope ["_law_vat_here", "_law_size", "_law_found", "_law_one", "_law_two"] ["_law_vat_here", "_law_size"] (defScope s_law_dip) := ⟨rfl, rfl, rfl, by decide +kernel, rfl, by decide +kernel, by decide +kernel⟩
theorem c_law_pick : FnScope ["_law_vat_here", "_law_items"] ["_law_vat_here", "_law_items"] (defScope s_law_pick) := ⟨rfl, rfl, rfl, by decide +kernel, rfl, by decide +kernel, by decide +kernel⟩
theorem c_law_web : FnScope ["_law_vat_here", "_law_places", "_law_often", "_law_ties", "_law_other", "_law_one"] ["_law_vat_here", "_law_places"] (defScope s_law_web) := ⟨rfl, rfl, rfl, by decide +kernel, rfl, by decide +kernel, by decide +kernel⟩
theorem c_law_degrees : FnScope ["_law_vat_here", "_law_most"] ["_law_vat_here", "_law_most"] (defScope s_law_degrees) := ⟨rfl, rfl, rfl, by decide +kernel, rfl, by decide +kernel, by decide +kernel⟩
theorem c_law_lack : FnScope ["_law_degrees_here", "_law_some", "_law_many", "_law_inside", "_law_others", "_law_place", "_law_entry"] ["_law_degrees_here", "_law_some"] (defScope s_law_lack) := ⟨rfl, rfl, rfl, by decide +kernel, rfl, by decide +kernel, by decide +kernel⟩
theorem c_law_greatest : FnScope ["_law_degrees_here", "_law_falling", "_law_found", "_law_size", "_law_others", "_law_entry"] ["_law_degrees_here"] (defScope s_law_greatest) := ⟨rfl, rfl, rfl, by decide +kernel, rfl, by decide +kernel, by decide +kernel⟩
theorem c_law_is_possible : FnScope ["_law_degrees_here"] ["_law_degrees_here"] (defScope s_law_is_possible) := ⟨rfl, rfl, rfl, by decide +kernel, rfl, by decide +kernel, by decide +kernel⟩
theorem c_law_long : FnScope ["_law_vat_here", "_law_size", "_law_row", "_law_place"] ["_law_vat_here"] (defScope s_law_long) := ⟨rfl, rfl, rfl, by decide +kernel, rfl, by decide +kernel, by decide +kernel⟩
theorem c_law_moved : FnScope ["_law_vat_here", "_law_row", "_law_turn", "_law_at"] ["_law_vat_here"] (defScope s_law_moved) := ⟨rfl, rfl, rfl, by decide +kernel, rfl, by decide +kernel, by decide +kernel⟩
theorem c_law_paper : FnScope ["_law_row", "error"] ["_law_row"] (defScope s_law_paper) := ⟨rfl, rfl, rfl, by decide +kernel, rfl, by decide +kernel, by decide +kernel⟩
theorem c_law_right : FnScope ["_law_vat_here", "_law_row", "_law_most", "_law_is_possible_here", "_law_word", "_law_thing"] ["_law_vat_here"] (defScope s_law_right) := ⟨rfl, rfl, rfl, by decide +kernel, rfl, by decide +kernel, by decide +kernel⟩
theorem c_law : FnScope ["_law_script", "_law_spot", "_law_vat_here", "_law_told"] ["_law_script"] (defScope s_law) := ⟨rfl, rfl, rfl, by decide +kernel, rfl, by decide +kernel, by decide +kernel⟩
theorem c_init : FnScope ["self", "places", "ties", "tie", "place"] ["self", "places", "ties"] (defScope s_init) := ⟨rfl, rfl, rfl, by decide +kernel, rfl, by decide +kernel, by decide +kernel⟩
theorem c_of : FnScope ["cls", "places", "ties"] ["cls", "places", "ties"] (defScope s_of) := ⟨rfl, rfl, rfl, by decide +kernel, rfl, by decide +kernel, by decide +kernel⟩
theorem c_places : FnScope ["self"] ["self"] (defScope s_places) := ⟨rfl, rfl, rfl, by decide +kernel, rfl, by decide +kernel, by decide +kernel⟩
theorem c_degrees : FnScope ["self", "others"] ["self"] (defScope s_degrees) := ⟨rfl, rfl, rfl, by decide +kernel, rfl, by decide +kernel, by decide +kernel⟩
structure Txt (K : PySem.W.Frag) (mg : Str → Option Value) : Type where
  d_is_integer : Def K mg "is_integer" s_is_integer ["value"]
  d_is_from : Def K mg "is_from" s_is_from ["value", "first", "last"]
  d_is_ascending : Def K mg "is_ascending" s_is_ascending ["items"]
  d_are_indices : Def K mg "are_indices" s_are_indices ["value", "size"]
  d_is_tie : Def K mg "is_tie" s_is_tie ["places", "value"]
  d_others_at : Def K mg "others_at" s_others_at ["ties", "place"]
  d_is_amount : Def K mg "is_amount" s_is_amount ["value"]
  d_is_row : Def K mg "is_row" s_is_row ["value"]
  d_require_row : Def K mg "require_row" s_require_row ["value"]
  d_falling : Def K mg "falling" s_falling ["row"]
  d_lack_of : Def K mg "lack_of" s_lack_of ["degrees", "places"]
  d_heaviest_order : Def K mg "heaviest_order" s_heaviest_order ["degrees"]
  d_heaviest : Def K mg "heaviest" s_heaviest ["degrees"]
  d_is_web_row : Def K mg "is_web_row" s_is_web_row ["degrees"]
  d_lack : Def K mg "lack" s_lack ["degrees", "places"]
  d_greatest_lack : Def K mg "greatest_lack" s_greatest_lack ["degrees"]
  d_has_web : Def K mg "has_web" s_has_web ["degrees"]
  d_partners_in : Def K mg "partners_in" s_partners_in ["degrees", "place"]
  d_row_without : Def K mg "row_without" s_row_without ["degrees", "place"]
  d_made_web : Def K mg "made_web" s_made_web ["degrees"]
  d_require_web_row : Def K mg "require_web_row" s_require_web_row ["degrees"]
  d_require_short : Def K mg "require_short" s_require_short ["degrees"]
  d_web_of : Def K mg "web_of" s_web_of ["degrees"]
  d_web_paper : Def K mg "web_paper" s_web_paper ["degrees"]
  d_law_vat : Def K mg "_law_vat" s_law_vat ["_law_script", "_law_spot"]
  d_law_dip : Def K mg "_law_dip" s_law_dip ["_law_vat_here", "_law_size"]
  d_law_pick : Def K mg "_law_pick" s_law_pick ["_law_vat_here", "_law_items"]
  d_law_web : Def K mg "_law_web" s_law_web ["_law_vat_here", "_law_places"]
  d_law_degrees : Def K mg "_law_degrees" s_law_degrees ["_law_vat_here", "_law_most"]
  d_law_lack : Def K mg "_law_lack" s_law_lack ["_law_degrees_here", "_law_some"]
  d_law_greatest : Def K mg "_law_greatest" s_law_greatest ["_law_degrees_here"]
  d_law_is_possible : Def K mg "_law_is_possible" s_law_is_possible ["_law_degrees_here"]
  d_law_long : Def K mg "_law_long" s_law_long ["_law_vat_here"]
  d_law_moved : Def K mg "_law_moved" s_law_moved ["_law_vat_here"]
  d_law_paper : Def K mg "_law_paper" s_law_paper ["_law_row"]
  d_law_right : Def K mg "_law_right" s_law_right ["_law_vat_here"]
  d_law : Def K mg "law" s_law ["_law_script"]
  n_isinstance : mg "isinstance" = none
  n_int : mg "int" = none
  n_bool : mg "bool" = none
  n_all : mg "all" = none
  n_zip : mg "zip" = none
  n_tuple : mg "tuple" = none
  n_sorted : mg "sorted" = none
  n_len : mg "len" = none
  n_set : mg "set" = none
  n_range : mg "range" = none
  n_enumerate : mg "enumerate" = none
  n_sum : mg "sum" = none
  n_min : mg "min" = none
  n_max : mg "max" = none
  n_abs : mg "abs" = none
  n_list : mg "list" = none
  g_MAX_PLACES : ∃ t, mg "MAX_PLACES" = some (.int 16 t)
  g_MAX_LENGTH : ∃ t, mg "MAX_LENGTH" = some (.int 64 t)
  g_MAX_NUMBER : ∃ t, mg "MAX_NUMBER" = some (.int (10 ^ 30 - 1) t)
  g_BAR : ∃ t, mg "BAR" = some (.str "bar" t)
  g_ODD : ∃ t, mg "ODD" = some (.str "odd" t)
  g_MADE : ∃ t, mg "MADE" = some (.str "made" t)
end K9
set_option Elab.async false
set_option maxRecDepth 100000
set_option maxHeartbeats 400000
/-! what the defs' proofs share -/
namespace K9
open PySem PySem.Spec PyProof.Rows L2
/-! ### heaps -/
theorem same_tup {K : PySem.W.Frag} {H H' : Hp} {a : Addr} {xs : List V} (e : Same H H') (h : SqT K H a xs) : SqT K H' a xs := by
  rcases h with (h | ⟨o, h⟩) | h
  · exact .inl (.inl (e _ _ h))
  · exact .inl (.inr ⟨o, e _ _ h⟩)
  · exact .inr h
theorem same_upd {H H' : Hp} {p : Addr} {o : HO} (e : Same H H') (h : H' p = none) : Same H (upd H' p o) := fun b u z => by
  rw [upd_ne (ne_of_none (e _ _ z) h)]
  exact e _ _ z
theorem same_new {H : Hp} {p : Addr} {o : HO} (h : H p = none) : Same H (upd H p o) := same_upd (Same.refl H) h
/-- H' has all of H0, and of what H had all but the place a, which H0 lacks -/
theorem same_at {H0 H : Hp} {p : Addr} {o : HO} (e : Same H0 H) (h : H0 p = none) : Same H0 (upd H p o) := fun b u z => by
  rw [upd_ne (ne_of_none z h)]
  exact e _ _ z
/-- x is a tuple of these ints -/
abbrev Row (K : PySem.W.Frag) (H : Hp) (x : V) (ns : List Int) : Prop := TupI K H x ns
theorem Row.same {K : PySem.W.Frag} {H H' : Hp} {x : V} {ns : List Int} (h : Row K H x ns) (e : Same H H') : Row K H' x ns := by
  obtain ⟨t, ex, h⟩ := h
  exact ⟨t, ex, same_tup e h⟩
theorem Row.mk' {K : PySem.W.Frag} {H : Hp} {t : Addr} {ns : List Int} (h : H t = some (.tup (ns.map V.int))) : Row K H (.ref t) ns := ⟨t, rfl, SqT.of h⟩
theorem ns_get {ns : List Int} {i : Nat} {x : V} (h : (ns.map V.int)[i]? = some x) : ∃ z, ns[i]? = some z ∧ x = .int z := by
  rw [List.getElem?_map] at h
  cases e : ns[i]? with
  | none => rw [e] at h; cases h
  | some z => rw [e] at h; exact ⟨z, rfl, (Option.some.inj h).symm⟩
theorem get_ent {ns : List Int} {i : Nat} {z : Int} (h : ns[i]? = some z) : z = KM.ent ns i := by
  unfold KM.ent
  rw [List.getD_eq_getElem?_getD, h]
  rfl
theorem lt_of_get {α : Type} {l : List α} {i : Nat} {x : α} (h : l[i]? = some x) : i < l.length := (List.getElem?_eq_some_iff.mp h).1
theorem len_line {n : Nat} (h : n ≤ 1000) : n ≤ sizeLine := Nat.le_of_lt (small1000 h)
/-! ### comprehensions -/
section
variable {J : It} {n : Nat} {G : Hp → Prop} {Y : Nat → Hp → V → Hp → Prop}
theorem wipe_put {a : Prop} {b c : Prop} (h : b) : if true = true then b else c := iteT h
/-- every turn gives an item, of which P says what it is -/
theorem lc_allD (w : Walk J n G Y) {g : TG} {te : TE} {vs : List Nat} {σ : L2.St} {H1 : Hp} {D : Addr} {Qd : Hp → Prop} (P : Nat → V → Hp → Prop) (hn : n ≤ 1000) (hD : H1 D = none) (hG : ∀ H, Same H1 H → G H)
    (hP : ∀ i v H H', P i v H → (∀ b o, b ≠ D → H b = some o → H' b = some o) → P i v H')
    (hs : ∀ i x H H', i < n → Same H1 H → (∃ acc, H D = some (.lst acc)) → Y i H x H' → ∀ R : V → Hp → Prop, (∀ y H4, Same H H4 → P i y H4 → R y H4) → g x (wipe σ vs) H' fun σ2 H2 => wipe σ2 vs = wipe σ vs ∧ te σ2 H2 R)
    (hd : ∀ H acc, Same H1 H → H D = some (.lst acc) → acc.length = n → (∀ i v, acc[i]? = some v → P i v H) → Qd H) :
    ∃ W : Nat → Nat → Hp → Prop, (∃ m, W 0 m (upd H1 D (.lst []))) ∧ ∀ i m H, W i m H →
      (J.stop i H ∧ Qd H) ∨ (J.go i H ∧ ∃ Nx : Hp → Prop, (∀ H', Nx H' → ∃ m', m' < m ∧ W (i + 1) m' H') ∧ ∀ x H', J.yld i H x H' → g x (wipe σ vs) H' fun σ2 H2 => wipe σ2 vs = wipe σ vs ∧ tYes σ2 H2 fun b H3 =>
        if b = true then te σ2 H3 fun y H4 => ∃ acc, H4 D = some (.lst acc) ∧ acc.length < sizeLine ∧ Nx (upd H4 D (.lst (acc ++ [y]))) else Nx H3) := by
  refine lc_it w (fun i H => Same H1 H ∧ ∃ acc, H D = some (.lst acc) ∧ acc.length = i ∧ ∀ j v, acc[j]? = some v → P j v H) ⟨same_new hD, [], upd_same, rfl, fun j v e => by simp at e⟩ (fun i H _ h => hG H h.1) ?_ fun H ⟨e, acc, h1, h2, h3⟩ => hd H acc e h1 h2 h3
  rintro i x H H' hi ⟨e, acc, h1, h2, h3⟩ y
  refine hs i x H H' hi e ⟨acc, h1⟩ y _ fun v H4 e4 p => ⟨acc, e4 _ _ h1, small1000 (by omega), same_at (Same.trans e e4) hD, acc ++ [v], upd_same, by rw [List.length_append, h2]; rfl, fun j u z => ?_⟩
  have keep : ∀ b o, b ≠ D → H4 b = some o → upd H4 D (.lst (acc ++ [v])) b = some o := fun b o hb q => by rw [upd_ne hb]; exact q
  have hj := lt_of_get z
  rw [List.length_append, List.length_singleton] at hj
  rcases Nat.lt_or_ge j acc.length with c | c
  · rw [List.getElem?_append_left c] at z
    exact hP j u H _ (h3 j u z) fun b o hb q => keep b o hb (e4 _ _ q)
  · have ej : j = i := by omega
    subst ej
    rw [List.getElem?_append_right (by omega), h2, Nat.sub_self] at z
    obtain rfl := Option.some.inj z
    exact hP j v H4 _ p keep
/-- every turn gives an item, of which P says what it is -/
theorem lc_all (w : Walk J n G Y) {g : TG} {te : TE} {vs : List Nat} {σ : L2.St} {H1 : Hp} {D : Addr} {Qd : Hp → Prop} (P : Nat → V → Hp → Prop) (hn : n ≤ 1000) (hD : H1 D = none) (hG : ∀ H, Same H1 H → G H)
    (hP : ∀ i v H H', P i v H → (∀ b o, b ≠ D → H b = some o → H' b = some o) → P i v H')
    (hs : ∀ i x H H', i < n → Same H1 H → Y i H x H' → ∀ R : V → Hp → Prop, (∀ y H4, Same H H4 → P i y H4 → R y H4) → g x (wipe σ vs) H' fun σ2 H2 => wipe σ2 vs = wipe σ vs ∧ te σ2 H2 R)
    (hd : ∀ H acc, Same H1 H → H D = some (.lst acc) → acc.length = n → (∀ i v, acc[i]? = some v → P i v H) → Qd H) :
    ∃ W : Nat → Nat → Hp → Prop, (∃ m, W 0 m (upd H1 D (.lst []))) ∧ ∀ i m H, W i m H →
      (J.stop i H ∧ Qd H) ∨ (J.go i H ∧ ∃ Nx : Hp → Prop, (∀ H', Nx H' → ∃ m', m' < m ∧ W (i + 1) m' H') ∧ ∀ x H', J.yld i H x H' → g x (wipe σ vs) H' fun σ2 H2 => wipe σ2 vs = wipe σ vs ∧ tYes σ2 H2 fun b H3 =>
        if b = true then te σ2 H3 fun y H4 => ∃ acc, H4 D = some (.lst acc) ∧ acc.length < sizeLine ∧ Nx (upd H4 D (.lst (acc ++ [y]))) else Nx H3) :=
  lc_allD w P hn hD hG hP (fun i x H H' hi e _ y R hR => hs i x H H' hi e y R hR) hd
/-- each turn gives the item that f tells, or none -/
theorem lc_fm (w : Walk J n G Y) {g : TG} {tt : TT} {te : TE} {vs : List Nat} {σ : L2.St} {H1 : Hp} {D : Addr} {Qd : Hp → Prop} (f : Nat → Option V) (hn : n ≤ 1000) (hD : H1 D = none) (hG : ∀ H, Same H1 H → G H)
    (hs : ∀ i x H H', i < n → Same H1 H → Y i H x H' → ∀ (R : V → Hp → Prop) (N : Hp → Prop), (∀ y H4, Same H H4 → f i = some y → R y H4) → (∀ H4, Same H H4 → f i = none → N H4) →
      g x (wipe σ vs) H' fun σ2 H2 => wipe σ2 vs = wipe σ vs ∧ tt σ2 H2 fun b H3 => if b = true then te σ2 H3 R else N H3)
    (hd : ∀ H, Same H1 H → H D = some (.lst ((List.range n).filterMap f)) → Qd H) :
    ∃ W : Nat → Nat → Hp → Prop, (∃ m, W 0 m (upd H1 D (.lst []))) ∧ ∀ i m H, W i m H →
      (J.stop i H ∧ Qd H) ∨ (J.go i H ∧ ∃ Nx : Hp → Prop, (∀ H', Nx H' → ∃ m', m' < m ∧ W (i + 1) m' H') ∧ ∀ x H', J.yld i H x H' → g x (wipe σ vs) H' fun σ2 H2 => wipe σ2 vs = wipe σ vs ∧ tt σ2 H2 fun b H3 =>
        if b = true then te σ2 H3 fun y H4 => ∃ acc, H4 D = some (.lst acc) ∧ acc.length < sizeLine ∧ Nx (upd H4 D (.lst (acc ++ [y]))) else Nx H3) := by
  have step : ∀ i, (List.range (i + 1)).filterMap f = (List.range i).filterMap f ++ (f i).toList := fun i => by
    rw [List.range_succ, List.filterMap_append]
    cases e : f i <;> simp [e]
  refine lc_it w (fun i H => Same H1 H ∧ H D = some (.lst ((List.range i).filterMap f))) ⟨same_new hD, upd_same⟩ (fun i H _ h => hG H h.1) ?_ fun H ⟨e, h1⟩ => hd H e h1
  rintro i x H H' hi ⟨e, h1⟩ y
  refine hs i x H H' hi e y _ _ (fun v H4 e4 p => ⟨_, e4 _ _ h1, small1000 ?_, same_at (Same.trans e e4) hD, ?_⟩) fun H4 e4 p => ⟨Same.trans e e4, ?_⟩
  · have z := List.length_filterMap_le f (List.range i)
    rw [List.length_range] at z
    omega
  · rw [step, p, upd_same]
    rfl
  · rw [step, p, e4 _ _ h1]
    simp
end
theorem walk_zipT {K : PySem.W.Frag} {a b : Addr} {xs ys : List V} {n : Nat} (hn : n = min xs.length ys.length) : Walk (RZ.ItzT K a b) n (fun H => SqT K H a xs ∧ SqT K H b ys) (YPair (fun i => xs[i]?) (fun i => ys[i]?)) := by
  subst hn
  refine ⟨fun i H hi h => ?_, fun H h => ⟨xs, ys, h.1, h.2, by omega⟩, fun i H v H' hi h y => ?_⟩
  · exact ⟨xs, ys, _, _, h.1, h.2, List.getElem?_eq_getElem (by omega), List.getElem?_eq_getElem (by omega)⟩
  · obtain ⟨T, x, y, e, hT, eH, f1, f2⟩ := y
    exact ⟨T, x, y, e, hT, eH, f1 xs h.1, f2 ys h.2⟩
end K9
set_option Elab.async false
set_option linter.unusedVariables false
set_option maxRecDepth 100000
set_option maxHeartbeats 400000
/-! is_integer .. require_row -/
namespace K9
open PySem PySem.Spec PyProof.Rows L2
def spInteger : Sp := fun vs H Q _ => ∃ n : Int, vs = [.int n] ∧ Q (.bl true) H
def spFrom : Sp := fun vs H Q _ => ∃ v a b : Int, vs = [.int v, .int a, .int b] ∧ Q (.bl (decide (a ≤ v ∧ v ≤ b))) H
def spAsc (K : PySem.W.Frag) : Sp := fun vs H Q _ => ∃ (x : V) (ns : List Int), vs = [x] ∧ Row K H x ns ∧ 1 ≤ ns.length ∧ ns.length ≤ 64 ∧ ns.Pairwise (· < ·) ∧ ∀ H', Same H H' → Q (.bl true) H'
def spIdx (K : PySem.W.Frag) : Sp := fun vs H Q _ => ∃ (x : V) (ns : List Int) (n : Int), vs = [x, .int n] ∧ Row K H x ns ∧ 1 ≤ ns.length ∧ ns.length ≤ 64 ∧ ns.Pairwise (· < ·) ∧ (∀ y ∈ ns, 0 ≤ y ∧ y < n) ∧ ∀ H', Same H H' → Q (.bl true) H'
def spTie (K : PySem.W.Frag) : Sp := fun vs H Q _ => ∃ (x : V) (a b n : Int), vs = [.int n, x] ∧ Row K H x [a, b] ∧ 0 ≤ a ∧ a < b ∧ b < n ∧ ∀ H', Same H H' → Q (.bl true) H'
abbrev top30 : Int := 10 ^ 30 - 1
def spAmount : Sp := fun vs H Q _ => ∃ v : Int, vs = [.int v] ∧ Q (.bl (decide (0 ≤ v ∧ v ≤ top30))) H
/-- the rows that this law comes to -/
structure Good (ns : List Int) : Prop where
  one : 1 ≤ ns.length
  few : ns.length ≤ 64
  ent : ∀ y ∈ ns, 0 ≤ y ∧ y ≤ top30
def spRow (K : PySem.W.Frag) (v : V) : Sp := fun vs H Q _ => ∃ (x : V) (ns : List Int), vs = [x] ∧ Row K H x ns ∧ Good ns ∧ ∀ H', Same H H' → Q v H'
section
variable {P : Program} {w : World} {K : PySem.W.Frag} {mg : Str → Option Value} {base : Heap}
theorem row_ty {H : Hp} {x : V} {ns : List Int} (h : Row K H x ns) : TyX K H x (.type "tuple") := by
  obtain ⟨t, rfl, h⟩ := h
  rcases h with (h | ⟨o, h⟩) | ⟨o, its, n, h, hc, _⟩
  · exact .base (.tup h)
  · exact .fTuple h
  · exact .kTuple h hc
theorem kit_tt : PySem.W.kitOne K (.type "tuple") (.type "tuple") = some true := kit_ty (by decide +kernel)
theorem kit_ii : PySem.W.kitOne K (.type "int") (.type "int") = some true := kit_ty (by decide +kernel)
theorem kit_ib : PySem.W.kitOne K (.type "int") (.type "bool") = some false := kit_ty (by decide +kernel)
theorem ok_integer (T : Txt K mg) : FnOk P w K mg base CX0 1 T.d_is_integer.f T.d_is_integer.fd ["value"] spInteger := by
  refine T.d_is_integer.F.ok c_is_integer (fun vs H Q E h => ?_) (fun cdv A outer s H vs Q E hr h => ?_)
  · obtain ⟨n, rfl, _⟩ := h
    rfl
  · obtain ⟨n, rfl, k⟩ := h
    refine ⟨_, pss_one (ps_ret (pe_and (pe_callB call_isi rfl T.n_isinstance PyProof.Rows.boot_isinstance (pa_cons (pv 0) (pa_cons (pe_bltn (v := .ty "int") rfl T.n_int PyProof.Rows.boot_int rfl) pa_nil)))
      (pe_one (pe_not (pe_callB call_isi rfl T.n_isinstance PyProof.Rows.boot_isinstance (pa_cons (pv 0) (pa_cons (pe_bltn (v := .ty "bool") rfl T.n_bool PyProof.Rows.boot_bool rfl) pa_nil))))))), ?_⟩
    refine ⟨_, rfl, _, _, .type "int", .type "int", true, rfl, .ty "int", .base (.int n), kit_ii, true, rfl, iteT ?_⟩
    exact ⟨_, rfl, _, _, .type "int", .type "bool", false, rfl, .ty "bool", .base (.int n), kit_ib, false, rfl, k⟩
/-- a call of a def of the module that lets nothing out -/
theorem pe_def {X : Cx} {x : Str} {st : Stmt} {ps : List Str} {k : Nat} {sp : Sp} {t : TA} {e : Expr} {es : List Expr} {p pos : Pos} (D : Def X.K X.mg x st ps) (F : FnOk X.prog X.w X.K X.mg X.base CX0 k D.f D.fd ps sp) (hr : Room k X.A) (hg : Gl X x) (ha : PA X (e :: es) t)
    (hdb : (x == ("__debug__" : Str)) = false := by decide) (he : starEach (e :: es) X.env = (false, eval e X.env) :: starEach es X.env := by rfl) (hpl : (backTo pos (starEach es X.env)).any (·.1) = false := by rfl) :
    PE X (.Call (.Name x p) (e :: es) [] pos) (tCall sp [] E0 t) := pe_call F hr hg D.g D.F.kp D.b .nil pass0 ha hdb he hpl
theorem ok_from (T : Txt K mg) : FnOk P w K mg base CX0 2 T.d_is_from.f T.d_is_from.fd ["value", "first", "last"] spFrom := by
  refine T.d_is_from.F.ok c_is_from (fun vs H Q E h => ?_) (fun cdv A outer s H vs Q E hr h => ?_)
  · obtain ⟨v, a, b, rfl, _⟩ := h
    rfl
  · obtain ⟨v, a, b, rfl, k⟩ := h
    refine ⟨_, pss_one (ps_ret (pe_and (pe_def T.d_is_integer (ok_integer T) hr rfl (pa_cons (pv 0) pa_nil)) (pe_one (pe_chain op_le op_le (pv 1) (pv 0) (pv 2))))), ?_⟩
    refine ⟨_, rfl, v, rfl, true, rfl, iteT ?_⟩
    refine ⟨_, rfl, _, rfl, a, v, rfl, rfl, _, rfl, ?_⟩
    refine ite2 (fun h1 => ?_) (fun h1 => ?_)
    · have h1 := of_decide_eq_true h1
      refine ⟨_, rfl, v, b, rfl, rfl, ?_⟩
      show Q (V.bl (decide (v ≤ b))) H
      rw [show decide (v ≤ b) = decide (a ≤ v ∧ v ≤ b) by simp [h1]]
      exact k
    · have h1 : ¬ a ≤ v := fun z => h1 (decide_eq_true z)
      show Q (V.bl false) H
      rw [show false = decide (a ≤ v ∧ v ≤ b) by simp [h1]]
      exact k
theorem ok_asc (T : Txt K mg) : FnOk P w K mg base CX0 1 T.d_is_ascending.f T.d_is_ascending.fd ["items"] (spAsc K) := by
  refine T.d_is_ascending.F.ok c_is_ascending (fun vs H Q E h => ?_) (fun cdv A outer s H vs Q E hr h => ?_)
  · obtain ⟨x, ns, rfl, _⟩ := h
    rfl
  · obtain ⟨x, ns, rfl, ⟨t, rfl, ht⟩, h1, h64, hp, k⟩ := h
    have nd := c_is_ascending.nd
    refine ⟨_, pss_one (ps_ret (pe_callB (cr_all rfl) rfl T.n_all PyProof.Rows.boot_all (pa_cons
      (pe_lc (own := [("one", 1), ("other", 2)]) (g := gTup K 2 (gCons (gName 1) (gCons (gName 2) gNil))) (tt := tYes) rfl nd (RZ.pi_zipA rfl T.n_zip (pa_cons (pv 0) (pa_cons (pe_slice sl_tupA (pv 0) (po_some pe_int) po_none) pa_nil)))
        (blkOk_by (N := ["items", "one", "other"]) (sc := defScope s_is_ascending) (by decide +kernel)) (fun _ _ _ _ _ => pg_tup rfl (pgs_cons (pg_name (i := 1) nd rfl (Or.inl rfl)) (pgs_cons (pg_name (i := 2) nd rfl (Or.inl rfl)) pgs_nil)))
        (fun _ _ _ _ _ => pts_nil) (fun _ _ _ _ _ => pe_cmpR op_lt (pv 1) (pv 2) (nomark _))) pa_nil))), ?_⟩
    have cut : cutV (ns.map V.int) (some 1) none = (ns.drop 1).map V.int := by
      have l1 : (ns.map V.int).length = ns.length := List.length_map _
      unfold cutV
      rw [show (1 : Int) = ((1 : Nat) : Int) from rfl, HT.sIx_nat, HT.sIx_none, l1, Nat.min_eq_left h1, ← List.map_drop, List.take_of_length_le (by rw [List.length_map, List.length_drop]; omega)]
    refine ⟨_, rfl, _, rfl, 1, rfl, t, _, rfl, ht, fun c => ?_, fun _ p hp0 => ?_⟩
    · exfalso
      have l1 : (ns.map V.int).length = ns.length := List.length_map _
      have := c.1
      rw [show (1 : Int) = ((1 : Nat) : Int) from rfl, HT.sIx_nat, l1] at this
      omega
    rw [cut]
    have s1 : Same H (upd H p (.tup ((ns.drop 1).map V.int))) := same_new hp0
    refine ⟨t, p, _, _, rfl, .inr ⟨same_tup s1 ht, SqT.of upd_same, fun D hD => ?_⟩⟩
    refine lc_all (walk_zipT (n := ns.length - 1) (by rw [List.length_map, List.length_map, List.length_drop]; omega)) (fun i v H => v = .bl true) (by omega) hD (fun H' e => ⟨same_tup e (same_tup s1 ht), same_tup e (SqT.of upd_same)⟩) (fun i v _ _ z _ => z)
      (fun i x H1 H2 hi e y R hR => ?_) fun H' acc e hl hn hv => ?_
    · obtain ⟨T2, u, v, rfl, hT2, rfl, hu, hv⟩ := y
      obtain ⟨a, ea, rfl⟩ := ns_get hu
      obtain ⟨b, eb, rfl⟩ := ns_get hv
      have lt : a < b := by
        rw [List.getElem?_drop, Nat.add_comm] at eb
        obtain ⟨i1, rfl⟩ := List.getElem?_eq_some_iff.mp ea
        obtain ⟨i2, rfl⟩ := List.getElem?_eq_some_iff.mp eb
        exact List.pairwise_iff_getElem.mp hp i (i + 1) i1 i2 (Nat.lt_succ_self i)
      refine ⟨T2, _, rfl, SqT.of upd_same, rfl, _, _, rfl, _, _, rfl, rfl, rfl, ?_⟩
      refine ⟨_, rfl, _, rfl, a, b, rfl, rfl, hR _ _ (same_new hT2) ?_⟩
      show V.bl (decide (a < b)) = V.bl true
      rw [decide_eq_true lt]
    · have ea : acc = (List.replicate (ns.length - 1) true).map V.bl := by
        refine List.ext_getElem? fun i => ?_
        by_cases hi : i < ns.length - 1
        · have h1 : i < acc.length := by omega
          rw [List.getElem?_eq_getElem h1, hv i _ (List.getElem?_eq_getElem h1), List.getElem?_map, List.getElem?_replicate, if_pos hi]
          rfl
        · rw [List.getElem?_eq_none (by omega), List.getElem?_eq_none (by rw [List.length_map, List.length_replicate]; omega)]
      subst ea
      refine ⟨D, _, rfl, SqL.of hl, ?_⟩
      rw [show (List.replicate (ns.length - 1) true).all id = true by simp]
      exact k _ (Same.trans s1 e)
theorem all_true {acc : List V} {n : Nat} (hn : acc.length = n) (h : ∀ (i : Nat) (v : V), acc[i]? = some v → v = V.bl true) : acc = (List.replicate n true).map V.bl := by
  refine List.ext_getElem? fun i => ?_
  by_cases hi : i < n
  · have h1 : i < acc.length := by omega
    rw [List.getElem?_eq_getElem h1, h i _ (List.getElem?_eq_getElem h1), List.getElem?_map, List.getElem?_replicate, if_pos hi]
    rfl
  · rw [List.getElem?_eq_none (by omega), List.getElem?_eq_none (by rw [List.length_map, List.length_replicate]; omega)]
theorem ok_idx (T : Txt K mg) : FnOk P w K mg base CX0 3 T.d_are_indices.f T.d_are_indices.fd ["value", "size"] (spIdx K) := by
  refine T.d_are_indices.F.ok c_are_indices (fun vs H Q E h => ?_) (fun cdv A outer s H vs Q E hr h => ?_)
  · obtain ⟨x, ns, n, rfl, _⟩ := h
    rfl
  · obtain ⟨x, ns, n, rfl, hx, h1, h64, hp, hb, k⟩ := h
    have nd := c_are_indices.nd
    refine ⟨_, pss_cons (ps_if (PW.pt (pw_or (pt_not (pt_val (pe_callB call_isi rfl T.n_isinstance PyProof.Rows.boot_isinstance (pa_cons (pv 0) (pa_cons (pe_bltn (v := .ty "tuple") rfl T.n_tuple PyProof.Rows.boot_tuple rfl) pa_nil)))))
      (pw_or1 (pt_not (pt_val (pe_callB (cr_all rfl) rfl T.n_all PyProof.Rows.boot_all (pa_cons
      (pe_lc (own := [("one", 2)]) (g := gName 2) (tt := tYes) rfl nd (pi_tup (pv 0))
        (blkOk_by (N := ["value", "size", "one"]) (sc := defScope s_are_indices) (by decide +kernel)) (fun _ _ _ _ _ => pg_name (i := 2) nd rfl (Or.inl rfl))
        (fun _ _ _ _ _ => pts_nil) (fun _ _ _ _ _ => pe_def T.d_is_from (ok_from T) hr rfl (pa_cons (pv 2) (pa_cons pe_int (pa_cons (pe_op op_sub (pv 1) pe_int) pa_nil))))) pa_nil))))))) pss_never pss_nil)
      (pss_one (ps_ret (pe_def T.d_is_ascending (ok_asc T) (hr.mono (by decide)) rfl (pa_cons (pv 0) pa_nil)))), ?_⟩
    refine ⟨_, rfl, _, _, .type "tuple", .type "tuple", true, rfl, .ty "tuple", row_ty hx, kit_tt, true, rfl, iteF ?_⟩
    obtain ⟨t, rfl, ht⟩ := id hx
    refine ⟨_, rfl, t, rfl, ⟨_, ht⟩, fun D hD => ?_⟩
    refine lc_all walk_tup (fun i v H => v = .bl true) (by rw [List.length_map]; omega) hD (fun H' e => same_tup e ht) (fun i v _ _ z _ => z) (fun i x H1 H2 hi e y R hR => ?_) fun H' acc e hl hn hv => ?_
    · obtain ⟨rfl, hy⟩ := y
      obtain ⟨a, ea, rfl⟩ := ns_get hy
      have hab := hb a (List.mem_of_getElem? ea)
      refine ⟨rfl, _, rfl, _, rfl, n, 1, rfl, rfl, a, 0, n - 1, rfl, hR _ _ (Same.refl _) ?_⟩
      rw [decide_eq_true (show 0 ≤ a ∧ a ≤ n - 1 by omega)]
    · rw [List.length_map] at hn
      obtain rfl := all_true hn hv
      refine ⟨D, _, rfl, SqL.of hl, true, by simp, iteF ?_⟩
      exact ⟨_, rfl, .ref t, ns, rfl, hx.same e, h1, h64, hp, fun H2 e2 => k _ (Same.trans e e2)⟩
theorem ok_tie (T : Txt K mg) : FnOk P w K mg base CX0 4 T.d_is_tie.f T.d_is_tie.fd ["places", "value"] (spTie K) := by
  refine T.d_is_tie.F.ok c_is_tie (fun vs H Q E h => ?_) (fun cdv A outer s H vs Q E hr h => ?_)
  · obtain ⟨x, a, b, n, rfl, _⟩ := h
    rfl
  · obtain ⟨x, a, b, n, rfl, hx, h0, hab, hbn, k⟩ := h
    refine ⟨_, pss_one (ps_ret (pe_ifExp (pt_val (pe_def T.d_are_indices (ok_idx T) hr rfl (pa_cons (pv 1) (pa_cons (pv 0) pa_nil)))) (pe_cmpR op_eq (pe_callB call_len_seq rfl T.n_len PySem.boot_len (pa_cons (pv 1) pa_nil)) pe_int (nomark _)) pe_bl)), ?_⟩
    refine ⟨_, rfl, _, rfl, x, [a, b], n, rfl, hx, by simp, by simp, by simp [hab], by simp; omega, fun H' e => ⟨true, rfl, iteT ?_⟩⟩
    obtain ⟨t, rfl, ht⟩ := hx
    exact ⟨_, rfl, t, _, rfl, .inr (same_tup e ht), rfl, k _ e⟩
theorem ok_amount (T : Txt K mg) : FnOk P w K mg base CX0 3 T.d_is_amount.f T.d_is_amount.fd ["value"] spAmount := by
  refine T.d_is_amount.F.ok c_is_amount (fun vs H Q E h => ?_) (fun cdv A outer s H vs Q E hr h => ?_)
  · obtain ⟨v, rfl, _⟩ := h
    rfl
  · obtain ⟨v, rfl, k⟩ := h
    obtain ⟨tm, hm⟩ := T.g_MAX_NUMBER
    refine ⟨_, pss_one (ps_ret (pe_def T.d_is_from (ok_from T) hr rfl (pa_cons (pv 0) (pa_cons pe_int (pa_cons (pe_glob (v := .int top30) rfl hm ⟨_, rfl⟩) pa_nil))))), ?_⟩
    exact ⟨_, rfl, v, 0, top30, rfl, k⟩
theorem ok_row (T : Txt K mg) : FnOk P w K mg base CX0 4 T.d_is_row.f T.d_is_row.fd ["value"] (spRow K (.bl true)) := by
  refine T.d_is_row.F.ok c_is_row (fun vs H Q E h => ?_) (fun cdv A outer s H vs Q E hr h => ?_)
  · obtain ⟨x, ns, rfl, _⟩ := h
    rfl
  · obtain ⟨x, ns, rfl, hx, g, k⟩ := h
    have nd := c_is_row.nd
    obtain ⟨tm, hm⟩ := T.g_MAX_LENGTH
    refine ⟨_, pss_cons (ps_if (PW.pt (pw_or (pt_not (pt_val (pe_callB call_isi rfl T.n_isinstance PyProof.Rows.boot_isinstance (pa_cons (pv 0) (pa_cons (pe_bltn (v := .ty "tuple") rfl T.n_tuple PyProof.Rows.boot_tuple rfl) pa_nil)))))
      (pw_or1 (pt_not (pt_val (pe_def T.d_is_from (ok_from T) (hr.mono (by decide)) rfl (pa_cons (pe_callB call_len_seq rfl T.n_len PySem.boot_len (pa_cons (pv 0) pa_nil)) (pa_cons pe_int (pa_cons (pe_glob (v := .int 64) rfl hm ⟨_, rfl⟩) pa_nil))))))))) pss_never pss_nil)
      (pss_one (ps_ret (pe_callB (cr_all rfl) rfl T.n_all PyProof.Rows.boot_all (pa_cons
      (pe_lc (own := [("entry", 1)]) (g := gName 1) (tt := tYes) rfl nd (pi_tup (pv 0))
        (blkOk_by (N := ["value", "entry"]) (sc := defScope s_is_row) (by decide +kernel)) (fun _ _ _ _ _ => pg_name (i := 1) nd rfl (Or.inl rfl))
        (fun _ _ _ _ _ => pts_nil) (fun _ _ _ _ _ => pe_def T.d_is_amount (ok_amount T) hr rfl (pa_cons (pv 1) pa_nil))) pa_nil)))), ?_⟩
    obtain ⟨t, rfl, ht⟩ := id hx
    have l1 : (ns.map V.int).length = ns.length := List.length_map _
    refine ⟨_, rfl, _, _, .type "tuple", .type "tuple", true, rfl, .ty "tuple", row_ty hx, kit_tt, true, rfl, iteF ?_⟩
    refine ⟨_, rfl, t, _, rfl, .inr ht, _, 1, 64, rfl, true, ?_, iteF ?_⟩
    · rw [l1, decide_eq_true (show (1 : Int) ≤ ((ns.length : Nat) : Int) ∧ ((ns.length : Nat) : Int) ≤ 64 by have := g.one; have := g.few; omega)]
    refine ⟨_, rfl, t, rfl, ⟨_, ht⟩, fun D hD => ?_⟩
    refine lc_all walk_tup (fun i v H => v = .bl true) (by rw [l1]; have := g.few; omega) hD (fun H' e => same_tup e ht) (fun i v _ _ z _ => z) (fun i x H1 H2 hi e y R hR => ?_) fun H' acc e hl hn hv => ?_
    · obtain ⟨rfl, hy⟩ := y
      obtain ⟨a, ea, rfl⟩ := ns_get hy
      refine ⟨rfl, _, rfl, a, rfl, hR _ _ (Same.refl _) ?_⟩
      rw [decide_eq_true (g.ent a (List.mem_of_getElem? ea))]
    · rw [l1] at hn
      obtain rfl := all_true hn hv
      refine ⟨D, _, rfl, SqL.of hl, ?_⟩
      rw [show (List.replicate ns.length true).all id = true by simp]
      exact k _ e
theorem ok_reqrow (T : Txt K mg) : FnOk P w K mg base CX0 5 T.d_require_row.f T.d_require_row.fd ["value"] (spRow K .non) := by
  refine T.d_require_row.F.ok c_require_row (fun vs H Q E h => ?_) (fun cdv A outer s H vs Q E hr h => ?_)
  · obtain ⟨x, ns, rfl, _⟩ := h
    rfl
  · obtain ⟨x, ns, rfl, hx, g, k⟩ := h
    refine ⟨_, pss_one (ps_if (pt_not (pt_val (pe_def T.d_is_row (ok_row T) hr rfl (pa_cons (pv 0) pa_nil)))) pss_never pss_nil), ?_⟩
    exact ⟨_, rfl, x, ns, rfl, hx, g, fun H' e => ⟨true, rfl, iteF (k _ e)⟩⟩
end
end K9
set_option Elab.async false
set_option linter.unusedVariables false
set_option maxRecDepth 100000
set_option maxHeartbeats 400000
/-! falling .. require_web_row -/
namespace K9
open PySem PySem.Spec PyProof.Rows L2
open KM (Falls Heavy lackL ent mn)
structure Best (ds : List Int) (m : Int) (s : Nat) : Prop where
  ex : ∃ es, Falls es ds ∧ Heavy es m s
theorem Best.one {ds : List Int} {m m' : Int} {s s' : Nat} (a : Best ds m s) (b : Best ds m' s') : m = m' := by
  obtain ⟨es, h1, h2⟩ := a.ex
  obtain ⟨es', h3, h4⟩ := b.ex
  obtain rfl := h1.one h3
  exact h2.one h4
abbrev ofNats (ps : List Nat) : List Int := List.map (fun (n : Nat) => Int.ofNat n) ps
def spFalling (K : PySem.W.Frag) : Sp := fun vs H Q _ => ∃ (x : V) (ns : List Int), vs = [x] ∧ Row K H x ns ∧ ∀ es H' q, Falls es ns → Same H H' → H' q = some (.tup (es.map V.int)) → Q (.ref q) H'
def spLackOf (K : PySem.W.Frag) : Sp := fun vs H Q _ => ∃ (x y : V) (ds : List Int) (ps : List Nat), vs = [x, y] ∧ Row K H x ds ∧ Row K H y (ofNats ps) ∧ Good ds ∧ ps.length ≤ 64 ∧ (∀ i ∈ ps, i < ds.length) ∧ ∀ H', Same H H' → Q (.int (lackL ds ps)) H'
def spHeaviest (K : PySem.W.Frag) : Sp := fun vs H Q _ => ∃ (x : V) (ds : List Int), vs = [x] ∧ Row K H x ds ∧ Good ds ∧ ∀ m (s : Nat) H' q, Best ds m s → Same H H' → H' q = some (.tup [.int m, .int s]) → Q (.ref q) H'
def spWebRow (K : PySem.W.Frag) : Sp := fun vs H Q _ => ∃ (x : V) (ds : List Int), vs = [x] ∧ Row K H x ds ∧ Good ds ∧ ∀ b H', Same H H' → (∀ m s, Best ds m s → (b = true ↔ (ds.sum % 2 = 0 ∧ m = 0))) → Q (.bl b) H'
def spGreatest (K : PySem.W.Frag) : Sp := fun vs H Q _ => ∃ (x : V) (ds : List Int), vs = [x] ∧ Row K H x ds ∧ Good ds ∧ ∀ m s H', Best ds m s → Same H H' → Q (.int m) H'
def spLack (K : PySem.W.Frag) : Sp := fun vs H Q _ => ∃ (x y : V) (ds : List Int) (ps : List Nat), vs = [x, y] ∧ Row K H x ds ∧ Row K H y (ofNats ps) ∧ Good ds ∧ 1 ≤ ps.length ∧ ps.length ≤ 64 ∧ ps.Pairwise (· < ·) ∧ (∀ i ∈ ps, i < ds.length) ∧ ∀ H', Same H H' → Q (.int (lackL ds ps)) H'
def spReqWeb (K : PySem.W.Frag) : Sp := fun vs H Q _ => ∃ (x : V) (ds : List Int) (s : Nat), vs = [x] ∧ Row K H x ds ∧ Good ds ∧ ds.sum % 2 = 0 ∧ Best ds 0 s ∧ ∀ H', Same H H' → Q .non H'
theorem in_ints (p : Int) : ∀ ns : List Int, inV (.int p) (ns.map V.int) = decide (p ∈ ns)
  | [] => rfl
  | n :: ns => by
    have ih := in_ints p ns
    unfold inV at ih ⊢
    rw [List.map_cons, List.any_cons, ih]
    show (decide (n = p) || decide (p ∈ ns)) = decide (p ∈ n :: ns)
    by_cases h : n = p
    · simp [h]
    · have h2 : ¬ p = n := fun z => h z.symm
      simp [h, h2]
theorem flat_ints (ns : List Int) : (ns.map V.int).all flatV = true := by
  rw [List.all_eq_true]
  intro x hx
  obtain ⟨n, _, rfl⟩ := List.mem_map.mp hx
  rfl
section
variable {P : Program} {w : World} {K : PySem.W.Frag} {mg : Str → Option Value} {base : Heap}
theorem ok_falling (T : Txt K mg) : FnOk P w K mg base CX0 1 T.d_falling.f T.d_falling.fd ["row"] (spFalling K) := by
  refine T.d_falling.F.ok c_falling (fun vs H Q E h => ?_) (fun cdv A outer s H vs Q E hr h => ?_)
  · obtain ⟨x, ns, rfl, _⟩ := h
    rfl
  · obtain ⟨x, ns, rfl, ⟨t, rfl, ht⟩, k⟩ := h
    refine ⟨_, pss_one (ps_ret (pe_callTy call_tuple_of rfl T.n_tuple PyProof.Rows.boot_tuple (pa_cons (pe_callBK cr_sortedDown rfl T.n_sorted PyProof.Rows.boot_sorted (pa_cons (pv 0) pa_nil) (pk_cons pe_bl pk_nil)) pa_nil))), ?_⟩
    refine ⟨_, rfl, t, ns, rfl, rfl, .inr ht, fun es p h1 h2 hp => ?_⟩
    refine ⟨p, _, rfl, .inl ⟨SqL.of upd_same, fun l hl => ?_⟩⟩
    exact k es _ l ⟨h1, h2⟩ (same_upd (same_new hp) hl) upd_same
theorem ok_lackof (T : Txt K mg) : FnOk P w K mg base CX0 1 T.d_lack_of.f T.d_lack_of.fd ["degrees", "places"] (spLackOf K) := by
  refine T.d_lack_of.F.ok c_lack_of (fun vs H Q E h => ?_) (fun cdv A outer s H vs Q E hr h => ?_)
  · obtain ⟨x, y, ds, ps, rfl, _⟩ := h
    rfl
  · obtain ⟨x, y, ds, ps, rfl, ⟨t, rfl, ht⟩, ⟨u, rfl, hu⟩, g, h64, hb, k⟩ := h
    have nd := c_lack_of.nd
    refine ⟨_, pss_cons (ps_set (i := 2) nd rfl (Or.inr rfl) (pe_callB call_len_seq rfl T.n_len PySem.boot_len (pa_cons (pv 1) pa_nil)))
      (pss_cons (ps_setLc (i := 3) (own := [("place", 4), ("number", 5)]) (g := gTup K 2 (gCons (gName 4) (gCons (gName 5) gNil))) rfl nd rfl rfl rfl (pi_enumT rfl T.n_enumerate (pa_cons (pv 0) pa_nil))
        (blkOk_by (N := ["degrees", "places", "many", "rest", "place", "number"]) (sc := defScope s_lack_of) (by decide +kernel)) (fun _ _ _ _ _ => pg_tup rfl (pgs_cons (pg_name (i := 4) nd rfl (Or.inl rfl)) (pgs_cons (pg_name (i := 5) nd rfl (Or.inl rfl)) pgs_nil)))
        (fun _ _ _ _ _ => pts_one (pt_cmpR (r := rIn K true) op_notIn_seq (pv 4) (pv 1) rfl)) (fun _ _ _ _ _ => pe_callB (call_min2 rfl) rfl T.n_min PyProof.Rows.boot_min (pa_cons (pv 2) (pa_cons (pv 5) pa_nil))))
      (pss_one (ps_ret (pe_op op_sub (pe_op op_sub (pe_callB (cr_sum rfl) rfl T.n_sum PyProof.Rows.boot_sum (pa_cons
        (pe_lc (own := [("place", 4)]) (g := gName 4) (tt := tYes) rfl nd (pi_tup (pv 1)) (blkOk_by (N := ["degrees", "places", "many", "rest", "place", "number"]) (sc := defScope s_lack_of) (by decide +kernel)) (fun _ _ _ _ _ => pg_name (i := 4) nd rfl (Or.inl rfl))
          (fun _ _ _ _ _ => pts_nil) (fun _ _ _ _ _ => pe_ix (r := rIxT K) ix_tup (pv 0) (pv 4) (fun _ _ => rfl))) pa_nil))
        (pe_op op_mul (pv 2) (pe_op op_sub (pv 2) pe_int))) (pe_callB (cr_sum rfl) rfl T.n_sum PyProof.Rows.boot_sum (pa_cons (pv 3) pa_nil)))))), ?_⟩
    have l1 : (ds.map V.int).length = ds.length := List.length_map _
    have l2 : ((ofNats ps).map V.int).length = ps.length := by rw [List.length_map, List.length_map]
    have g64 := g.few
    refine ⟨_, rfl, u, _, rfl, .inr hu, ?_⟩
    rw [l2]
    refine ⟨_, rfl, t, _, rfl, ht, fun D hD => ?_⟩
    refine lc_fm walk_enumT (fun i => if i ∈ ps then none else some (.int (mn ps.length (ent ds i)))) (by omega) hD (fun H' e => same_tup e ht) (fun i x H1 H2 hi e y R N hR hN => ?_) fun H1 e1 hl1 => ?_
    · obtain ⟨T2, a, b, rfl, hT2, rfl, ha, hb2⟩ := y
      obtain rfl := Option.some.inj ha
      obtain ⟨z, ez, rfl⟩ := ns_get hb2
      have ez2 := get_ent ez
      subst ez2
      refine ⟨T2, _, rfl, SqT.of upd_same, rfl, _, _, rfl, _, _, rfl, rfl, rfl, ?_⟩
      refine ⟨_, rfl, _, rfl, u, _, rfl, .inr (same_tup (Same.trans e (same_new hT2)) hu), rfl, flat_ints _, _, rfl, ?_⟩
      rw [show (if true = true then !inV (V.int ((i : Nat) : Int)) ((ofNats ps).map V.int) else inV (V.int ((i : Nat) : Int)) ((ofNats ps).map V.int)) = !decide (i ∈ ps) by
        rw [if_pos rfl, in_ints]
        congr 1
        exact decide_eq_decide.mpr ⟨fun z => by obtain ⟨j, hj, ej⟩ := List.mem_map.mp z; exact (Int.ofNat.inj ej) ▸ hj, fun z => List.mem_map.mpr ⟨i, z, rfl⟩⟩]
      by_cases hm : i ∈ ps
      · rw [decide_eq_true hm]
        exact iteF (hN _ (same_new hT2) (if_pos hm))
      · rw [decide_eq_false hm]
        refine iteT ⟨_, rfl, _, rfl, _, _, rfl, hR _ _ (same_new hT2) ?_⟩
        rw [if_neg hm]
        rfl
    have fm : ∀ n, (List.range n).filterMap (fun i => if i ∈ ps then none else some (V.int (mn ps.length (ent ds i)))) = ((List.range n).filterMap fun i => if i ∈ ps then none else some (mn ps.length (ent ds i))).map V.int := fun n => by
      rw [List.map_filterMap]
      refine congrArg (fun f => List.filterMap f (List.range n)) (funext fun i => ?_)
      by_cases hm : i ∈ ps <;> simp [hm]
    have fs : ∀ n, ((List.range n).filterMap fun i => if i ∈ ps then none else some (mn ps.length (ent ds i))).sum = KM.S n (fun i => if i ∈ ps then 0 else mn ps.length (ent ds i)) := fun n => by
      induction n with
      | zero => rfl
      | succ n ih =>
        rw [List.range_succ, List.filterMap_append, List.sum_append, ih]
        show _ = KM.S n _ + _
        by_cases hm : n ∈ ps <;> simp [hm]
    rw [l1, fm] at hl1
    have nuD : u ≠ D ∨ True := .inr trivial
    refine ⟨_, rfl, u, rfl, ⟨_, same_tup e1 hu⟩, fun D2 hD2 => ?_⟩
    refine lc_all walk_tup (fun i v _ => ∃ j, ps[i]? = some j ∧ v = .int (ent ds j)) (by rw [l2]; omega) hD2 (fun H' e => same_tup (Same.trans e1 e) hu) (fun i v _ _ z _ => z) (fun i x H2 H3 hi e y R hR => ?_) fun H2 acc e2 hl2 hn hv => ?_
    · obtain ⟨rfl, hy⟩ := y
      obtain ⟨z, ez, rfl⟩ := ns_get hy
      rw [List.getElem?_map] at ez
      obtain ⟨j, ej, rfl⟩ := Option.map_eq_some_iff.mp ez
      have hj := hb j (List.mem_of_getElem? ej)
      refine ⟨rfl, _, rfl, _, rfl, t, _, (j : Int), _, rfl, rfl, same_tup (Same.trans e1 e) ht, atI_nat (v := .int (ent ds j)) ?_, hR _ _ (Same.refl _) ⟨j, ej, rfl⟩⟩
      rw [List.getElem?_map, List.getElem?_eq_getElem hj, Option.map_some]
      unfold ent
      rw [List.getD_eq_getElem?_getD, List.getElem?_eq_getElem hj]
      rfl
    · rw [l2] at hn
      have ea : acc = (ps.map (ent ds)).map V.int := by
        refine List.ext_getElem? fun i => ?_
        by_cases hi : i < ps.length
        · obtain ⟨j, ej, ev⟩ := hv i _ (List.getElem?_eq_getElem (by omega : i < acc.length))
          rw [List.getElem?_eq_getElem (by omega : i < acc.length), ev, List.getElem?_map, List.getElem?_map, ej]
          rfl
        · rw [List.getElem?_eq_none (by omega), List.getElem?_eq_none (by rw [List.length_map, List.length_map]; omega)]
      subst ea
      refine ⟨D2, _, rfl, SqL.of hl2, _, rfl, _, rfl, _, 1, rfl, rfl, _, _, rfl, rfl, .inl ⟨by omega, by omega⟩, _, _, rfl, rfl, _, rfl, D, _, rfl, SqL.of (e2 _ _ hl1), _, _, rfl, rfl, ?_⟩
      rw [fs]
      exact k _ (Same.trans e1 e2)
end
end K9
set_option Elab.async false
set_option linter.unusedVariables false
set_option maxRecDepth 100000
set_option maxHeartbeats 400000
/-! heaviest .. require_web_row -/
namespace K9
open PySem PySem.Spec PyProof.Rows L2
open KM (Falls Heavy HeavyTo gap lackL ent mn)
section
variable {P : Program} {w : World} {K : PySem.W.Frag} {mg : Str → Option Value} {base : Heap}
theorem cut_from (es : List Int) {i : Nat} (h : i ≤ es.length) : cutV (es.map V.int) (some ((i : Nat) : Int)) none = (es.drop i).map V.int := by
  have l1 : (es.map V.int).length = es.length := List.length_map _
  unfold cutV
  rw [HT.sIx_nat, HT.sIx_none, l1, Nat.min_eq_left h, ← List.map_drop, List.take_of_length_le (by rw [List.length_map, List.length_drop]; omega)]
theorem acc_ints {acc : List V} {ns : List Int} (hn : acc.length = ns.length) (hv : ∀ (i : Nat) (v : V), acc[i]? = some v → ∃ z, ns[i]? = some z ∧ v = .int z) : acc = ns.map V.int := by
  refine List.ext_getElem? fun i => ?_
  by_cases hi : i < acc.length
  · obtain ⟨z, ez, ev⟩ := hv i _ (List.getElem?_eq_getElem hi)
    rw [List.getElem?_eq_getElem hi, ev, List.getElem?_map, ez]
    rfl
  · rw [List.getElem?_eq_none (by omega), List.getElem?_eq_none (by rw [List.length_map]; omega)]
theorem sum_take {es : List Int} {i : Nat} {z : Int} (h : es[i]? = some z) : (es.take (i + 1)).sum = (es.take i).sum + z := by
  rw [List.take_add_one, h, List.sum_append]
  simp
theorem ok_heaviest (T : Txt K mg) : FnOk P w K mg base CX0 2 T.d_heaviest.f T.d_heaviest.fd ["degrees"] (spHeaviest K) := by
  refine T.d_heaviest.F.ok c_heaviest (fun vs H Q E h => ?_) (fun cdv A outer s H vs Q E hr h => ?_)
  · obtain ⟨x, ds, rfl, _⟩ := h
    rfl
  · obtain ⟨x, ds, rfl, hx, g, k⟩ := h
    have nd := c_heaviest.nd
    refine ⟨_, pss_cons (ps_par3 (i := 1) (j := 2) (l := 3) rfl nd rfl rfl rfl (by decide) (by decide) (by decide) rfl rfl rfl
        (pa_cons (pe_def T.d_falling (ok_falling T) hr rfl (pa_cons (pv 0) pa_nil)) (pa_cons (pe_tup (pa_cons pe_int (pa_cons pe_int pa_nil))) (pa_cons pe_int pa_nil))) rfl)
      (pss_cons (ps_for PassesOwn.never rfl (pi_enumT rfl T.n_enumerate (pa_cons (pv 1) pa_nil)) (pg_tup rfl (pgs_cons (pg_name (i := 4) nd rfl (Or.inl rfl)) (pgs_cons (pg_name (i := 5) nd rfl (Or.inl rfl)) pgs_nil)))
        (pss_cons (ps_aug (i := 3) nd rfl (Or.inl rfl) (pv 5) ip_add) (pss_cons (ps_set (i := 6) nd rfl (Or.inr rfl) (pe_op op_add (pv 4) pe_int))
          (pss_cons (ps_set (i := 7) nd rfl (Or.inl rfl) (pe_op op_sub (pe_op op_sub (pv 3) (pe_op op_mul (pv 6) (pv 4))) (pe_callB (cr_sum rfl) rfl T.n_sum PyProof.Rows.boot_sum (pa_cons
            (pe_lc (own := [("one", 8)]) (g := gName 8) (tt := tYes) rfl nd (pi_tup (pe_slice sl_tupA (pv 1) (po_some (pv 6)) po_none))
              (blkOk_by (N := ["degrees", "entries", "best", "total", "many", "entry", "size", "found", "one"]) (sc := defScope s_heaviest) (by decide +kernel)) (fun _ _ _ _ _ => pg_name (i := 8) nd rfl (Or.inl rfl))
              (fun _ _ _ _ _ => pts_nil) (fun _ _ _ _ _ => pe_callB (call_min2 rfl) rfl T.n_min PyProof.Rows.boot_min (pa_cons (pv 6) (pa_cons (pv 8) pa_nil)))) pa_nil))))
          (pss_one (ps_if (pt_cmpR op_gt (pv 7) (pe_ix ix_tup (pv 2) pe_int (fun _ _ => rfl)) (nomark _)) (pss_one (ps_set (i := 2) nd rfl (Or.inl rfl) (pe_tup (pa_cons (pv 7) (pa_cons (pv 6) pa_nil))))) pss_nil))))))
      (pss_one (ps_ret (pv 2)))), ?_⟩
    refine ⟨_, rfl, x, ds, rfl, hx, fun es H1 q hf e1 hq => ⟨by show 2 ≤ sizeLine; decide, fun b0 hb0 => ?_⟩⟩
    have hlen : es.length = ds.length := hf.perm.length_eq
    have g64 := g.few
    have e2 : Same H (upd H1 b0 (.tup [.int 0, .int 0])) := same_upd e1 hb0
    have hq2 : upd H1 b0 (.tup [.int 0, .int 0]) q = some (.tup (es.map V.int)) := same_new hb0 _ _ hq
    refine ⟨_, _, _, rfl, ?_⟩
    refine ⟨_, rfl, q, _, rfl, SqT.of hq2, for_it walk_enumT (fun i σ H' => Same H H' ∧ H' q = some (.tup (es.map V.int)) ∧ ∃ (bt : Addr) (m : Int) (s : Nat) (v4 v5 v6 v7 v8 : Option V),
      σ = [some x, some (.ref q), some (.ref bt), some (.int (es.take i).sum), v4, v5, v6, v7, v8] ∧ H' bt = some (.tup [.int m, .int s]) ∧ HeavyTo es i m s)
      ⟨e2, hq2, b0, 0, 0, none, none, none, none, none, rfl, upd_same, HeavyTo.zero es⟩ (fun i σ H' _ ⟨_, h, _⟩ => SqT.of h) ?_ ?_⟩
    · rintro i y σ H2 H3 hi ⟨e, hq3, bt, m, s, v4, v5, v6, v7, v8, rfl, hbt, hv⟩ ⟨T2, a, b, rfl, hT2, rfl, ha, hb⟩
      obtain rfl := Option.some.inj ha
      obtain ⟨z, ez, rfl⟩ := ns_get hb
      have hie : i < es.length := lt_of_get ez
      have e3 : Same H2 (upd H2 T2 (.tup [.int ((i : Nat) : Int), .int z])) := same_new hT2
      refine ⟨T2, _, rfl, SqT.of upd_same, rfl, _, _, rfl, _, _, rfl, rfl, ?_⟩
      refine ⟨_, rfl, _, rfl, _, _, rfl, rfl, ?_⟩
      refine ⟨_, rfl, _, _, rfl, rfl, ?_⟩
      refine ⟨_, rfl, _, rfl, _, rfl, _, _, rfl, rfl, .inl ⟨by omega, by omega⟩, _, _, rfl, rfl, ?_⟩
      refine ⟨_, rfl, _, rfl, _, rfl, q, _, rfl, SqT.of (e3 _ _ hq3), fun c => ?_, fun _ p hp => ?_⟩
      · exfalso
        have l1 : (es.map V.int).length = es.length := List.length_map _
        have c1 := c.1
        rw [show ((i : Nat) : Int) + 1 = ((i + 1 : Nat) : Int) from rfl, HT.sIx_nat, l1] at c1
        omega
      rw [show ((i : Nat) : Int) + 1 = ((i + 1 : Nat) : Int) from rfl, cut_from es hie]
      refine ⟨p, rfl, ⟨_, SqT.of upd_same⟩, fun D hD => ?_⟩
      have e4 := Same.trans e3 (same_new (o := .tup ((es.drop (i + 1)).map V.int)) hp)
      refine lc_all walk_tup (fun j v _ => ∃ u, ((es.drop (i + 1)).map (mn ((i + 1 : Nat) : Int)))[j]? = some u ∧ v = .int u) (by rw [List.length_map, List.length_drop]; omega) hD (fun H' e => same_tup e (SqT.of upd_same)) (fun i v _ _ z _ => z)
        (fun j x H4 H5 hj e y R hR => ?_) fun H4 acc e5 hl5 hn hv5 => ?_
      · obtain ⟨rfl, hy⟩ := y
        obtain ⟨u, eu, rfl⟩ := ns_get hy
        refine ⟨rfl, _, rfl, _, rfl, _, _, rfl, hR _ _ (Same.refl _) ⟨mn ((i + 1 : Nat) : Int) u, ?_, rfl⟩⟩
        rw [List.getElem?_map, eu]
        rfl
      · rw [List.length_map] at hn
        obtain rfl := acc_ints (by rw [List.length_map]; exact hn) hv5
        have gp : (es.take i).sum + z - ((i + 1 : Nat) : Int) * ((i : Nat) : Int) - ((es.drop (i + 1)).map (mn ((i + 1 : Nat) : Int))).sum = gap es (i + 1) := by
          unfold gap
          rw [sum_take ez, show (((i + 1 : Nat) : Int) - 1) = ((i : Nat) : Int) by omega]
        have e6 := Same.trans e4 e5
        refine ⟨D, _, rfl, SqL.of hl5, _, _, rfl, rfl, ?_⟩
        refine ⟨_, rfl, _, rfl, bt, _, 0, _, rfl, rfl, SqT.of (e6 _ _ hbt), atI_nat (j := 0) rfl, _, _, rfl, rfl, _, rfl, ?_⟩
        have st : (es.take i).sum + z = (es.take (i + 1)).sum := (sum_take ez).symm
        refine ite2 (fun c => ?_) (fun c => ?_)
        · have c := of_decide_eq_true c
          refine ⟨_, rfl, _, rfl, by show 2 ≤ sizeLine; decide, fun b2 hb2 => ?_⟩
          refine ⟨Same.trans (Same.trans e e6) (same_new hb2), same_new hb2 _ _ (e6 _ _ hq3), b2, gap es (i + 1), i + 1, some (.int ((i : Nat) : Int)), some (.int z), some (.int (((i : Nat) : Int) + 1)), (some (V.int ((es.take i).sum + z - ((i + 1 : Nat) : Int) * ((i : Nat) : Int) - ((es.drop (i + 1)).map (mn ((i + 1 : Nat) : Int))).sum))), v8, ?_, ?_, hv.up ?_⟩
          · rw [← st]
            rfl
          · rw [← gp]
            exact upd_same
          · rw [← gp]
            exact c
        · have c : ¬ m < _ := fun z => c (decide_eq_true z)
          refine ⟨Same.trans e e6, e6 _ _ hq3, bt, m, s, some (.int ((i : Nat) : Int)), some (.int z), some (.int (((i : Nat) : Int) + 1)), (some (V.int ((es.take i).sum + z - ((i + 1 : Nat) : Int) * ((i : Nat) : Int) - ((es.drop (i + 1)).map (mn ((i + 1 : Nat) : Int))).sum))), v8, ?_, e6 _ _ hbt, hv.stay ?_⟩
          · rw [← st]
            rfl
          · rw [← gp]
            exact c
    · rintro σ H2 ⟨e, hq3, bt, m, s, v4, v5, v6, v7, v8, rfl, hbt, hv⟩
      rw [List.length_map] at hv
      exact ⟨_, rfl, k m s _ bt ⟨es, hf, hv.all⟩ e hbt⟩
theorem ok_webrow (T : Txt K mg) : FnOk P w K mg base CX0 3 T.d_is_web_row.f T.d_is_web_row.fd ["degrees"] (spWebRow K) := by
  refine T.d_is_web_row.F.ok c_is_web_row (fun vs H Q E h => ?_) (fun cdv A outer s H vs Q E hr h => ?_)
  · obtain ⟨x, ds, rfl, _⟩ := h
    rfl
  · obtain ⟨x, ds, rfl, hx, g, k⟩ := h
    refine ⟨_, pss_one (ps_ret (pe_and (pe_cmpR op_eq (pe_op op_mod (pe_callB (cr_sumT rfl) rfl T.n_sum PyProof.Rows.boot_sum (pa_cons (pv 0) pa_nil)) pe_int) pe_int (nomark _))
      (pe_one (pe_cmpR op_eq (pe_ix ix_tup (pe_def T.d_heaviest (ok_heaviest T) hr rfl (pa_cons (pv 0) pa_nil)) pe_int (fun _ _ => rfl)) pe_int (nomark _))))), ?_⟩
    obtain ⟨t, rfl, ht⟩ := id hx
    refine ⟨_, rfl, t, ds, rfl, ht, _, _, rfl, rfl, (by show (0 : Int) < 2; decide), rfl, _, rfl, ?_⟩
    by_cases h0 : ds.sum % 2 = 0
    · have e0 : decide (V.int (ds.sum % 2) = V.int 0) = true := decide_eq_true (by rw [h0])
      refine Eq.mpr (congrArg (fun b => if b = true then _ else _) e0) (iteT ?_)
      refine ⟨_, rfl, .ref t, ds, rfl, hx, g, fun m s H1 q hb e hq => ⟨q, _, 0, _, rfl, rfl, SqT.of hq, atI_nat (j := 0) rfl, rfl, ?_⟩⟩
      refine k _ _ e fun m' s' hb' => ?_
      obtain rfl := hb.one hb'
      rw [decide_eq_true_iff]
      exact ⟨fun z => ⟨h0, by injection z⟩, fun z => by rw [z.2]⟩
    · have e0 : decide (V.int (ds.sum % 2) = V.int 0) = false := decide_eq_false (fun z => h0 (by injection z))
      refine Eq.mpr (congrArg (fun b => if b = true then _ else _) e0) (iteF ?_)
      exact k false _ (Same.refl _) fun m' s' hb' => ⟨fun z => (nomatch z), fun z => absurd z.1 h0⟩
end
end K9
set_option Elab.async false
set_option linter.unusedVariables false
set_option maxRecDepth 100000
set_option maxHeartbeats 400000
/-! lack .. require_web_row, others_at -/
namespace K9
open PySem PySem.Spec PyProof.Rows L2
open KM (Falls Heavy HeavyTo gap lackL ent mn)
/-! ### pairs -/
/-- the two ints of the tuple at x -/
def pairOf (H : Hp) : V → Int × Int
  | .ref t => match H t with
    | some (.tup [.int a, .int b]) => (a, b)
    | _ => (0, 0)
  | _ => (0, 0)
theorem pairOf_at {H : Hp} {t : Addr} {a b : Int} (h : H t = some (.tup [.int a, .int b])) : pairOf H (.ref t) = (a, b) := by
  show (match H t with
    | some (.tup [.int a, .int b]) => (a, b)
    | _ => (0, 0)) = (a, b)
  rw [h]
/-- all of xs are tuples of two ints that are tracked -/
def PairsIn (H : Hp) (xs : List V) : Prop := ∀ x ∈ xs, ∃ t a b, x = V.ref t ∧ H t = some (.tup [.int a, .int b])
theorem PairsIn.same {H H' : Hp} {xs : List V} (h : PairsIn H xs) (e : Same H H') : PairsIn H' xs := fun x hx => by
  obtain ⟨t, a, b, ex, ht⟩ := h x hx
  exact ⟨t, a, b, ex, e _ _ ht⟩
theorem pairs_same {H H' : Hp} {xs : List V} (h : PairsIn H xs) (e : Same H H') : xs.map (pairOf H') = xs.map (pairOf H) := by
  refine List.map_congr_left fun x hx => ?_
  obtain ⟨t, a, b, rfl, ht⟩ := h x hx
  rw [pairOf_at ht, pairOf_at (e _ _ ht)]
/-- a tuple of these pairs -/
structure Ties (K : PySem.W.Frag) (H : Hp) (t : Addr) (ks : List (Int × Int)) : Prop where
  ex : ∃ xs, SqT K H t xs ∧ PairsIn H xs ∧ xs.map (pairOf H) = ks
theorem Ties.same {K : PySem.W.Frag} {H H' : Hp} {t : Addr} {ks : List (Int × Int)} (h : Ties K H t ks) (e : Same H H') : Ties K H' t ks := by
  obtain ⟨xs, h1, h2, h3⟩ := h.ex
  exact ⟨xs, same_tup e h1, h2.same e, (pairs_same h2 e).trans h3⟩
/-- how many of the pairs name p -/
def cnt (ks : List (Int × Int)) (p : Int) : Nat := (ks.filter fun k => decide (p = k.1 ∨ p = k.2)).length
theorem range_get {α : Type} : ∀ l : List α, (List.range l.length).filterMap (fun i => l[i]?) = l
  | [] => rfl
  | a :: l => by
    rw [List.length_cons, List.range_succ_eq_map, List.filterMap_cons, List.filterMap_map]
    show a :: _ = a :: l
    congr 1
    exact range_get l
theorem range_bind {α β : Type} (l : List α) (g : α → Option β) : (List.range l.length).filterMap (fun i => l[i]?.bind g) = l.filterMap g := by
  conv => rhs; rw [← range_get l, List.filterMap_filterMap]
theorem others_len {H : Hp} (p : Int) : ∀ xs : List V, ((xs.filterMap fun x => if p = (pairOf H x).1 ∨ p = (pairOf H x).2 then some ((pairOf H x).1 + (pairOf H x).2 - p) else none)).length = cnt (xs.map (pairOf H)) p
  | [] => rfl
  | x :: xs => by
    have ih := others_len (H := H) p xs
    unfold cnt at ih ⊢
    rw [List.map_cons]
    by_cases h : p = (pairOf H x).1 ∨ p = (pairOf H x).2
    · rw [List.filterMap_cons, if_pos h, List.filter_cons, if_pos (decide_eq_true h), List.length_cons]
      show _ + 1 = _ + 1
      rw [ih]
    · rw [List.filterMap_cons, if_neg h, List.filter_cons, if_neg (by rw [decide_eq_false h]; simp)]
      exact ih
def spOthers (K : PySem.W.Frag) : Sp := fun vs H Q _ => ∃ (t : Addr) (p : Int) (ks : List (Int × Int)), vs = [.ref t, .int p] ∧ Ties K H t ks ∧ ks.length ≤ 300 ∧ ∀ H' q ns, Same H H' → H' q = some (.tup ns) → ns.length = cnt ks p → Q (.ref q) H'
section
variable {P : Program} {w : World} {K : PySem.W.Frag} {mg : Str → Option Value} {base : Heap}
theorem ok_lack (T : Txt K mg) : FnOk P w K mg base CX0 6 T.d_lack.f T.d_lack.fd ["degrees", "places"] (spLack K) := by
  refine T.d_lack.F.ok c_lack (fun vs H Q E h => ?_) (fun cdv A outer s H vs Q E hr h => ?_)
  · obtain ⟨x, y, ds, ps, rfl, _⟩ := h
    rfl
  · obtain ⟨x, y, ds, ps, rfl, hx, hy, g, h1, h64, hp, hb, k⟩ := h
    refine ⟨_, pss_cons (ps_expr (pe_def T.d_require_row (ok_reqrow T) hr rfl (pa_cons (pv 0) pa_nil)))
      (pss_cons (ps_if (pt_not (pt_val (pe_def T.d_are_indices (ok_idx T) (hr.mono (by decide)) rfl (pa_cons (pv 1) (pa_cons (pe_callB call_len_seq rfl T.n_len PySem.boot_len (pa_cons (pv 0) pa_nil)) pa_nil))))) pss_never pss_nil)
      (pss_one (ps_ret (pe_def T.d_lack_of (ok_lackof T) (hr.mono (by decide)) rfl (pa_cons (pv 0) (pa_cons (pv 1) pa_nil)))))), ?_⟩
    refine ⟨_, rfl, x, ds, rfl, hx, g, fun H1 e1 => ?_⟩
    obtain ⟨t, ex, ht⟩ := id hx
    refine ⟨_, rfl, _, rfl, t, _, by rw [ex], .inr (same_tup e1 ht), y, ofNats ps, _, rfl, hy.same e1, by rw [List.length_map]; exact h1, by rw [List.length_map]; exact h64, ?_, fun z hz => ?_, fun H2 e2 => ⟨true, rfl, iteF ?_⟩⟩
    · rw [List.pairwise_map]
      exact hp.imp fun {a b} h => Int.ofNat_lt.mpr h
    · obtain ⟨j, hj, rfl⟩ := List.mem_map.mp hz
      have := hb j hj
      rw [List.length_map]
      exact ⟨Int.natCast_nonneg j, Int.ofNat_lt.mpr this⟩
    · have e12 := Same.trans e1 e2
      exact ⟨_, rfl, _, rfl, x, y, ds, ps, rfl, hx.same e12, hy.same e12, g, h64, hb, fun H3 e3 => k _ (Same.trans e12 e3)⟩
theorem ok_greatest (T : Txt K mg) : FnOk P w K mg base CX0 6 T.d_greatest_lack.f T.d_greatest_lack.fd ["degrees"] (spGreatest K) := by
  refine T.d_greatest_lack.F.ok c_greatest_lack (fun vs H Q E h => ?_) (fun cdv A outer s H vs Q E hr h => ?_)
  · obtain ⟨x, ds, rfl, _⟩ := h
    rfl
  · obtain ⟨x, ds, rfl, hx, g, k⟩ := h
    refine ⟨_, pss_cons (ps_expr (pe_def T.d_require_row (ok_reqrow T) hr rfl (pa_cons (pv 0) pa_nil)))
      (pss_one (ps_ret (pe_ix ix_tup (pe_def T.d_heaviest (ok_heaviest T) (hr.mono (by decide)) rfl (pa_cons (pv 0) pa_nil)) pe_int (fun _ _ => rfl)))), ?_⟩
    refine ⟨_, rfl, x, ds, rfl, hx, g, fun H1 e1 => ?_⟩
    exact ⟨_, rfl, x, ds, rfl, hx.same e1, g, fun m s H2 q hb e2 hq => ⟨q, _, 0, _, rfl, rfl, SqT.of hq, atI_nat (j := 0) rfl, k m s _ hb (Same.trans e1 e2)⟩⟩
theorem ok_hasweb (T : Txt K mg) : FnOk P w K mg base CX0 6 T.d_has_web.f T.d_has_web.fd ["degrees"] (spWebRow K) := by
  refine T.d_has_web.F.ok c_has_web (fun vs H Q E h => ?_) (fun cdv A outer s H vs Q E hr h => ?_)
  · obtain ⟨x, ds, rfl, _⟩ := h
    rfl
  · obtain ⟨x, ds, rfl, hx, g, k⟩ := h
    refine ⟨_, pss_cons (ps_expr (pe_def T.d_require_row (ok_reqrow T) hr rfl (pa_cons (pv 0) pa_nil)))
      (pss_one (ps_ret (pe_def T.d_is_web_row (ok_webrow T) (hr.mono (by decide)) rfl (pa_cons (pv 0) pa_nil)))), ?_⟩
    refine ⟨_, rfl, x, ds, rfl, hx, g, fun H1 e1 => ?_⟩
    exact ⟨_, rfl, x, ds, rfl, hx.same e1, g, fun b H2 e2 hb => k b _ (Same.trans e1 e2) hb⟩
theorem ok_reqweb (T : Txt K mg) : FnOk P w K mg base CX0 4 T.d_require_web_row.f T.d_require_web_row.fd ["degrees"] (spReqWeb K) := by
  refine T.d_require_web_row.F.ok c_require_web_row (fun vs H Q E h => ?_) (fun cdv A outer s H vs Q E hr h => ?_)
  · obtain ⟨x, ds, s, rfl, _⟩ := h
    rfl
  · obtain ⟨x, ds, s, rfl, hx, g, hev, hb, k⟩ := h
    refine ⟨_, pss_one (ps_if (pt_not (pt_val (pe_def T.d_is_web_row (ok_webrow T) hr rfl (pa_cons (pv 0) pa_nil)))) pss_never pss_nil), ?_⟩
    refine ⟨_, rfl, x, ds, rfl, hx, g, fun b H2 e2 hb2 => ?_⟩
    obtain rfl : b = true := (hb2 0 s hb).mpr ⟨hev, rfl⟩
    exact ⟨true, rfl, iteF (k _ e2)⟩
theorem ok_others (T : Txt K mg) : FnOk P w K mg base CX0 1 T.d_others_at.f T.d_others_at.fd ["ties", "place"] (spOthers K) := by
  refine T.d_others_at.F.ok c_others_at (fun vs H Q E h => ?_) (fun cdv A outer s H vs Q E hr h => ?_)
  · obtain ⟨t, p, ks, rfl, _⟩ := h
    rfl
  · obtain ⟨t, p, ks, rfl, ⟨xs, ht, hp, rfl⟩, h300, k⟩ := h
    have nd := c_others_at.nd
    rw [List.length_map] at h300
    refine ⟨_, pss_one (ps_ret (pe_callTy call_tuple_of rfl T.n_tuple PyProof.Rows.boot_tuple (pa_cons (pe_callB cr_sortedI rfl T.n_sorted PyProof.Rows.boot_sorted (pa_cons
      (pe_lc (own := [("one", 2), ("other", 3)]) (g := gTup K 2 (gCons (gName 2) (gCons (gName 3) gNil))) rfl nd (pi_tup (pv 0)) (blkOk_by (N := ["ties", "place", "one", "other"]) (sc := defScope s_others_at) (by decide +kernel))
        (fun _ _ _ _ _ => pg_tup rfl (pgs_cons (pg_name (i := 2) nd rfl (Or.inl rfl)) (pgs_cons (pg_name (i := 3) nd rfl (Or.inl rfl)) pgs_nil)))
        (fun _ _ _ _ _ => pts_one (pt_cmpR (r := rIn K false) op_in_seq (pv 1) (pe_tup (pa_cons (pv 2) (pa_cons (pv 3) pa_nil))) rfl))
        (fun _ _ _ _ _ => pe_op op_sub (pe_op op_add (pv 2) (pv 3)) (pv 1))) pa_nil)) pa_nil))), ?_⟩
    refine ⟨_, rfl, t, rfl, ⟨_, ht⟩, fun D hD => ?_⟩
    refine lc_fm walk_tup (fun i => (xs[i]?.bind fun x => if p = (pairOf H x).1 ∨ p = (pairOf H x).2 then some (.int ((pairOf H x).1 + (pairOf H x).2 - p)) else none)) (by omega) hD (fun H' e => same_tup e ht) (fun i x H1 H2 hi e y R N hR hN => ?_) fun H1 e1 hl1 => ?_
    · obtain ⟨rfl, hy⟩ := y
      obtain ⟨u, a, b, rfl, hu⟩ := hp x (List.mem_of_getElem? hy)
      refine ⟨u, _, rfl, SqT.of (e _ _ hu), rfl, _, _, rfl, _, _, rfl, rfl, rfl, ?_⟩
      refine ⟨_, rfl, _, rfl, _, rfl, by show 2 ≤ sizeLine; decide, fun T2 hT2 => ?_⟩
      refine ⟨T2, [.int a, .int b], rfl, .inr (SqT.of upd_same), rfl, rfl, _, rfl, ?_⟩
      rw [show (if false = true then !inV (V.int p) [.int a, .int b] else inV (V.int p) [.int a, .int b]) = decide (p = a ∨ p = b) by
        rw [if_neg Bool.false_ne_true, show ([.int a, .int b] : List V) = [a, b].map V.int from rfl, in_ints]
        simp]
      by_cases hm : p = a ∨ p = b
      · rw [decide_eq_true hm]
        refine iteT ⟨_, rfl, _, rfl, _, _, rfl, rfl, _, rfl, _, _, rfl, rfl, hR _ _ (same_new hT2) ?_⟩
        rw [hy, Option.bind_some, pairOf_at hu, if_pos hm]
      · rw [decide_eq_false hm]
        refine iteF (hN _ (same_new hT2) ?_)
        rw [hy, Option.bind_some, pairOf_at hu, if_neg hm]
    rw [range_bind] at hl1
    have em : (xs.filterMap fun x => if p = (pairOf H x).1 ∨ p = (pairOf H x).2 then some (V.int ((pairOf H x).1 + (pairOf H x).2 - p)) else none) =
        (xs.filterMap fun x => if p = (pairOf H x).1 ∨ p = (pairOf H x).2 then some ((pairOf H x).1 + (pairOf H x).2 - p) else none).map V.int := by
      rw [List.map_filterMap]
      refine congrArg (fun f => List.filterMap f xs) (funext fun x => ?_)
      by_cases h : p = (pairOf H x).1 ∨ p = (pairOf H x).2
      · rw [if_pos h, if_pos h]
        rfl
      · rw [if_neg h, if_neg h]
        rfl
    rw [em] at hl1
    refine ⟨D, _, rfl, SqL.of hl1, fun zs q pm _ hq => ?_⟩
    refine ⟨q, _, rfl, .inl ⟨SqL.of upd_same, fun l hl => ?_⟩⟩
    refine k _ l _ (same_upd (Same.trans e1 (same_new hq)) hl) upd_same ?_
    rw [List.length_map, pm.length_eq]
    exact others_len p xs
end
end K9
set_option Elab.async false
set_option linter.unusedVariables false
set_option maxRecDepth 100000
set_option maxHeartbeats 400000
/-! Web -/
namespace K9
open PySem PySem.Spec PyProof.Rows L2 StX ClX
/-- what the top has written of Web -/
structure WebT (K : PySem.W.Frag) (mg : Str → Option Value) : Type where
  C : Addr
  gC : mg "Web" = some (.ref C)
  cl : Cls K C
  nP : NoAttr K C "own_places"
  nT : NoAttr K C "own_ties"
  nB : NoAttr K C "own_beside"
  fI : Addr
  fdI : FuncData
  mkI : Mk K C fI
  FI : Fun K "__init__" "Web.__init__" s_init fI fdI
  mc : Value
  rd : CRead K C mc
  pO : Addr
  fO : Addr
  fdO : FuncData
  cO : CMet K C mc "of" pO fO
  FO : Fun K "of" "Web.of" s_of fO fdO
  bO : Binds K fdO ["cls", "places", "ties"] []
  pP : Addr
  fP : Addr
  fdP : FuncData
  cP : PropOf K C "places" pP fP
  FP : Fun K "places" "Web.places" s_places fP fdP
  bP : Binds K fdP ["self"] []
  pD : Addr
  fD : Addr
  fdD : FuncData
  cD : PropOf K C "degrees" pD fD
  FD : Fun K "degrees" "Web.degrees" s_degrees fD fdD
  bD : Binds K fdD ["self"] []
/-- C(..) where a local name holds the class -/
theorem pe_makeV {X : Cx} {CX : CXT} {k : Nat} {f C : Addr} {sp : Sp} {E : XK} {x : Str} {e : Expr} {es : List Expr} {tf : TE} {t : TA} {p pos : Pos} (hf : PE X (.Name x p) tf) (M : Mk X.K C f) (F : FnR X.prog X.w X.K X.mg X.base CX k f sp) (hr : Room (k + 1) X.A) (hx : Passes CX X E) (ha : PA X (e :: es) t)
    (he : starEach (e :: es) X.env = (false, eval e X.env) :: starEach es X.env := by rfl) (hst : (backTo pos (starEach es X.env)).any (·.1) = true := by rfl) :
    PE X (.Call (.Name x p) (e :: es) [] pos) (fun σ H Q => tf σ H fun y H1 => y = .ref C ∧ tMakeR C sp E t σ H1 Q) := by
  refine ⟨fun pins s σ H Q I h => ?_⟩
  refine wpAny_Call_Name_kw (thn (hf.run pins s σ H _ I h) fun v s1 ⟨y, H1, I1, ry, ey, q⟩ => ?_)
  subst ey
  obtain rfl : v = Value.ref C := ry
  refine PySem.W.callWith_S2 (h₀ := X.base) I1.ok.mod.kin M.kp (thn (ha.run pos pins s1 σ H1 _ I1 q) fun us s2 ⟨vs, H2, I2, r, q2⟩ => ⟨I2.kIn, ?_⟩) he hst
  exact run_makeR M F hr hx I2 r q2
theorem pe_fldK {X : Cx} {K : PySem.W.Frag} {e : Expr} {ta : TE} {f : Str} {pos : Pos} (hK : X.K = K) (he : PE X e ta) (hb : attributeBase e f X.env (eval e X.env) = eval e X.env) : PE X (.Attribute e f pos) (tFld K ta f) := by
  subst hK
  exact pe_fld he hb
/-- a web of n places with these ties at x -/
structure WebAt (C : Addr) (H : Hp) (x : Addr) (n : Nat) (ks : List (Int × Int)) : Prop where
  ex : ∃ (dx t l : Addr) (fs : List (Str × V)) (bs : List V), H x = some (.ins C dx fs) ∧ fs.lookup ("own_places" : Str) = some (.int n) ∧ fs.lookup ("own_ties" : Str) = some (.ref t) ∧ fs.lookup ("own_beside" : Str) = some (.ref l) ∧ 
    H l = some (.lst bs) ∧ bs.length = n ∧ ∀ (i : Nat) (b : V), bs[i]? = some b → ∃ q ns, b = .ref q ∧ H q = some (.tup ns) ∧ ns.length = cnt ks (i : Int)
theorem WebAt.same {C : Addr} {H H' : Hp} {x : Addr} {n : Nat} {ks : List (Int × Int)} (h : WebAt C H x n ks) (e : Same H H') : WebAt C H' x n ks := by
  obtain ⟨dx, t, l, fs, bs, h1, h2, h3, h4, h7, h8, h9⟩ := h.ex
  refine ⟨dx, t, l, fs, bs, e _ _ h1, h2, h3, h4, e _ _ h7, h8, fun i b hb => ?_⟩
  obtain ⟨q, ns, eb, hq, hn⟩ := h9 i b hb
  exact ⟨q, ns, eb, e _ _ hq, hn⟩
/-- these ties are such that Web takes them -/
structure Fit (n : Nat) (ks : List (Int × Int)) : Prop where
  one : 1 ≤ n
  few : n ≤ 16
  tie : ∀ k ∈ ks, 0 ≤ k.1 ∧ k.1 < k.2 ∧ k.2 < n
  nd : ks.Nodup
def rLen (K : PySem.W.Frag) : List V → Hp → VK → Prop := fun xs H Q => ∃ p ys, xs = [V.ref p] ∧ (SqL K H p ys ∨ SqT K H p ys) ∧ Q (.int (ys.length : Nat)) H
def spDegrees (C : Addr) : Sp := fun vs H Q _ => ∃ (x : Addr) (n : Nat) (ks : List (Int × Int)), vs = [.ref x] ∧ WebAt C H x n ks ∧ n ≤ 16 ∧ ∀ H' q, Same H H' → H' q = some (.tup (((List.range n).map fun i => (cnt ks (i : Nat) : Int)).map V.int)) → Q (.ref q) H'
def spPlaces (C : Addr) : Sp := fun vs H Q _ => ∃ (x : Addr) (n : Nat) (ks : List (Int × Int)), vs = [.ref x] ∧ WebAt C H x n ks ∧ Q (.int n) H
/-- the body of __init__, behind the binding -/
def spInitB (C : Addr) : Sp := fun vs H Q _ => ∃ (x dx t : Addr) (n : Nat) (xs : List V) (H0 : Hp), vs = [.ref x, .int n, .ref t] ∧ Same H0 H ∧ H0 x = none ∧ H x = some (.ins C dx []) ∧ H t = some (.tup xs) ∧ PairsIn H0 xs ∧ Fit n (xs.map (pairOf H0)) ∧
  ∀ H', Same H0 H' → WebAt C H' x n (xs.map (pairOf H0)) → Q .non H'
def spOf (K : PySem.W.Frag) (C : Addr) : Sp := fun vs H Q _ => ∃ (t : Addr) (n : Nat) (ks : List (Int × Int)), vs = [.ref C, .int n, .ref t] ∧ Ties K H t ks ∧ Fit n ks ∧ ∀ H' x, Same H H' → WebAt C H' x n ks → Q (.ref x) H'
theorem fit_few {n : Nat} {ks : List (Int × Int)} (h : Fit n ks) : ks.length ≤ 256 := by
  have e : ks.length = (ks.map fun k => [k.1, k.2]).length := (List.length_map _).symm
  rw [e]
  refine pairs_few (fun k hk => ?_) (nodup_on (fun a _ b _ q => ?_) h.nd)
  · obtain ⟨p, hp, rfl⟩ := List.mem_map.mp hk
    have := h.tie p hp
    have f := h.few
    refine List.mem_flatMap.mpr ⟨p.1.toNat, List.mem_range.mpr (by omega), List.mem_map.mpr ⟨p.2.toNat, List.mem_range.mpr (by omega), ?_⟩⟩
    show [((p.1.toNat : Nat) : Int), ((p.2.toNat : Nat) : Int)] = _
    rw [Int.toNat_of_nonneg (by omega), Int.toNat_of_nonneg (by omega)]
  · injection q with q1 q2
    injection q2 with q2 _
    exact Prod.ext q1 q2
section
variable {P : Program} {w : World} {K : PySem.W.Frag} {mg : Str → Option Value} {base : Heap}
theorem ok_places (Wt : WebT K mg) : FnOk P w K mg base CX0 1 Wt.fP Wt.fdP ["self"] (spPlaces Wt.C) := by
  refine Wt.FP.ok c_places (fun vs H Q E h => ?_) (fun cdv A outer s H vs Q E hr h => ?_)
  · obtain ⟨x, n, ks, rfl, _⟩ := h
    rfl
  · obtain ⟨x, n, ks, rfl, hw, k⟩ := h
    obtain ⟨dx, t, l, fs, bs, h1, h2, _⟩ := hw.ex
    refine ⟨_, pss_one (ps_ret (pe_fld (pv 0) rfl)), ?_⟩
    exact ⟨_, rfl, x, Wt.C, dx, fs, _, rfl, h1, Wt.cl, Wt.nP, h2, k⟩
theorem ok_degrees (T : Txt K mg) (Wt : WebT K mg) : FnOk P w K mg base CX0 1 Wt.fD Wt.fdD ["self"] (spDegrees Wt.C) := by
  refine Wt.FD.ok c_degrees (fun vs H Q E h => ?_) (fun cdv A outer s H vs Q E hr h => ?_)
  · obtain ⟨x, n, ks, rfl, _⟩ := h
    rfl
  · obtain ⟨x, n, ks, rfl, hw, hn16, k⟩ := h
    have nd := c_degrees.nd
    obtain ⟨dx, t, l, fs, bs, h1, h2, h3, h4, h7, h8, h9⟩ := hw.ex
    refine ⟨_, pss_one (ps_ret (pe_callTy call_tuple_of rfl T.n_tuple PyProof.Rows.boot_tuple (pa_cons
      (pe_lc (own := [("others", 1)]) (g := gName 1) (tt := tYes) rfl nd (pi_list (pe_fld (pv 0) rfl)) (blkOk_by (N := ["self", "others"]) (sc := defScope s_degrees) (by decide +kernel)) (fun _ _ _ _ _ => pg_name (i := 1) nd rfl (Or.inl rfl))
        (fun _ _ _ _ _ => pts_nil) (fun _ _ _ _ _ => pe_callB (r := rLen K) call_len_seq rfl T.n_len PySem.boot_len (pa_cons (pv 1) pa_nil))) pa_nil))), ?_⟩
    refine ⟨_, rfl, x, Wt.C, dx, fs, _, rfl, h1, Wt.cl, Wt.nB, h4, l, rfl, ⟨_, SqL.of h7⟩, fun D hD => ?_⟩
    refine lc_all walk_list (fun i v _ => v = .int ((cnt ks (i : Nat) : Nat) : Int)) (by omega) hD (fun H' e => SqL.of (e _ _ h7)) (fun i v _ _ z _ => z) (fun i y H1 H2 hi e yy R hR => ?_) fun H1 acc e1 hl1 hn hv => ?_
    · obtain ⟨rfl, hy⟩ := yy
      obtain ⟨q, ns, rfl, hq, hns⟩ := h9 i y hy
      refine ⟨rfl, _, rfl, q, _, rfl, .inr (SqT.of (e _ _ hq)), hR _ _ (Same.refl _) ?_⟩
      rw [hns]
    · rw [h8] at hn
      obtain rfl := acc_ints (ns := (List.range n).map fun i => ((cnt ks (i : Nat) : Nat) : Int)) (by rw [hn, List.length_map, List.length_range]) fun i v hv' => by
        have hi := lt_of_get hv'
        rw [hn] at hi
        refine ⟨_, ?_, hv i v hv'⟩
        rw [List.getElem?_map, List.getElem?_range hi]
        rfl
      refine ⟨D, _, rfl, .inl ⟨SqL.of hl1, fun q hq => ?_⟩⟩
      exact k _ q (same_upd e1 hq) upd_same
theorem init_body (T : Txt K mg) (Wt : WebT K mg) {cdv : Value} {A : Around} {outer : List Env} {s : Shared} {H : Hp} {vs : List V} {Q : VK} {E : XK} (hr : Room 4 (A.deeper (envOfC "Web.__init__" (defScope s_init) s.heap.objs.size Wt.fI cdv))) (h : spInitB Wt.C vs H Q E) :
    ∃ t, PSs (cxOf CX0 P w K mg base ["self", "places", "ties", "tie", "place"] "Web.__init__" (defScope s_init) Wt.fI cdv A outer s H E).nox (defBody s_init) t ∧ t { nx := fun _ H' => Q .non H', rt := Q } (start ["self", "places", "ties", "tie", "place"] vs) H := by
  obtain ⟨x, dx, t, n, xs, H0, rfl, e0, hx0, hx, ht, hp, fit, k⟩ := h
  have nd := c_init.nd
  obtain ⟨tm, hm⟩ := T.g_MAX_PLACES
  have hu : (A.deeper (envOfC "Web.__init__" (defScope s_init) s.heap.objs.size Wt.fI cdv)).units + 3 < cLine := by
    have := hr.un
    omega
  refine ⟨_, pss_cons (ps_if (PW.pt (pw_or (pt_not (pt_val (pe_def T.d_is_from (ok_from T) (hr.mono (by decide)) rfl (pa_cons (pv 1) (pa_cons pe_int (pa_cons (pe_glob (v := .int 16) rfl hm ⟨_, rfl⟩) pa_nil))))))
      (pw_or1 (pt_not (pt_val (pe_callB (cr_all rfl) rfl T.n_all PyProof.Rows.boot_all (pa_cons
        (pe_lc (own := [("tie", 3)]) (g := gName 3) (tt := tYes) rfl nd (pi_tup (pv 2)) (blkOk_by (N := ["self", "places", "ties", "tie", "place"]) (sc := defScope s_init) (by decide +kernel)) (fun _ _ _ _ _ => pg_name (i := 3) nd rfl (Or.inl rfl))
          (fun _ _ _ _ _ => pts_nil) (fun _ _ _ _ _ => pe_def T.d_is_tie (ok_tie T) hr rfl (pa_cons (pv 1) (pa_cons (pv 3) pa_nil)))) pa_nil))))))) pss_never pss_nil)
    (pss_cons (ps_if (pt_cmpR op_lt (pe_lenSetP rfl hu rfl T.n_len rfl T.n_set (pv 2)) (pe_callB call_len_seq rfl T.n_len PySem.boot_len (pa_cons (pv 2) pa_nil)) (nomark _)) pss_never pss_nil)
    (pss_cons (ps_fld (pv 0) (pv 1) rfl)
    (pss_cons (ps_fld (pv 0) (pe_callTy call_tuple_of rfl T.n_tuple PyProof.Rows.boot_tuple (pa_cons (pe_callB cr_sortedPT rfl T.n_sorted PyProof.Rows.boot_sorted (pa_cons (pv 2) pa_nil)) pa_nil)) rfl)
    (pss_one (ps_fld (pv 0) (pe_lc (own := [("place", 4)]) (g := gName 4) (tt := tYes) rfl nd (pi_range1 rfl T.n_range (pa_cons (pv 1) pa_nil)) (blkOk_by (N := ["self", "places", "ties", "tie", "place"]) (sc := defScope s_init) (by decide +kernel)) (fun _ _ _ _ _ => pg_name (i := 4) nd rfl (Or.inl rfl))
      (fun _ _ _ _ _ => pts_nil) (fun _ _ _ _ _ => pe_def T.d_others_at (ok_others T) (hr.mono (by decide)) rfl (pa_cons (pe_fldK (K := K) rfl (pv 0) rfl) (pa_cons (pv 4) pa_nil)))) rfl))))), ?_⟩
  have sT : SqT K H t xs := SqT.of ht
  have lt : xs.length ≤ 256 := by
    have := fit_few fit
    rw [List.length_map] at this
    exact this
  have n1 := fit.one
  have n16 := fit.few
  -- the ties are ties
  refine ⟨_, rfl, (n : Int), 1, 16, rfl, true, ?_, iteF ?_⟩
  · rw [decide_eq_true (show (1 : Int) ≤ (n : Int) ∧ (n : Int) ≤ 16 by omega)]
  refine ⟨_, rfl, t, rfl, ⟨_, sT⟩, fun D hD => ?_⟩
  refine lc_all walk_tup (fun i v _ => v = .bl true) (by omega) hD (fun H' e => same_tup e sT) (fun i v _ _ z _ => z) (fun i y H1 H2 hi e yy R hR => ?_) fun H1 acc e1 hl1 hn hv => ?_
  · obtain ⟨rfl, hy⟩ := yy
    have hm := List.mem_of_getElem? hy
    obtain ⟨u, a, b, rfl, hu⟩ := hp y hm
    have f := fit.tie (a, b) (List.mem_map.mpr ⟨_, hm, pairOf_at hu⟩)
    exact ⟨rfl, _, rfl, _, rfl, .ref u, a, b, n, rfl, ⟨u, rfl, SqT.of (e _ _ (e0 _ _ hu))⟩, f.1, f.2.1, f.2.2, fun H3 e3 => hR _ _ e3 rfl⟩
  obtain rfl := all_true hn hv
  refine ⟨D, _, rfl, SqL.of hl1, true, by simp, iteF ?_⟩
  -- they differ
  have e01 := Same.trans e0 e1
  refine ⟨_, rfl, t, xs, (xs.map (pairOf H0)).map (fun k => [k.1, k.2]), rfl, same_tup e1 sT, by rw [List.length_map, List.length_map], ?_, ?_, nodup_on (fun a _ b _ q => ?_) fit.nd, ?_⟩
  · intro i h1 h2
    obtain ⟨u, a, b, ex, hu⟩ := hp xs[i] (List.getElem_mem h1)
    rw [List.getElem_map, List.getElem_map, ex, pairOf_at hu]
    exact ⟨u, rfl, SqT.of (e01 _ _ hu)⟩
  · intro k hk
    obtain ⟨p, hp2, rfl⟩ := List.mem_map.mp hk
    have := fit.tie p hp2
    refine List.mem_flatMap.mpr ⟨p.1.toNat, List.mem_range.mpr (by omega), List.mem_map.mpr ⟨p.2.toNat, List.mem_range.mpr (by omega), ?_⟩⟩
    show [((p.1.toNat : Nat) : Int), ((p.2.toNat : Nat) : Int)] = _
    rw [Int.toNat_of_nonneg (by omega), Int.toNat_of_nonneg (by omega)]
  · injection q with q1 q2
    injection q2 with q2 _
    exact Prod.ext q1 q2
  refine ⟨_, rfl, t, _, rfl, .inr (same_tup e1 sT), _, _, rfl, rfl, false, ?_, iteF ?_⟩
  · rw [List.length_map, List.length_map]
    show V.bl (decide (((xs.length : Nat) : Int) < ((xs.length : Nat) : Int))) = V.bl false
    rw [decide_eq_false (Int.lt_irrefl _)]
  -- the three fields
  have hx1 := e1 _ _ hx
  refine ⟨_, rfl, _, rfl, x, Wt.C, dx, [], rfl, hx1, Wt.cl, Wt.nP, by show 0 < 1000; decide, ?_⟩
  have tx : t ≠ x := ne_of ht hx (by intro q; cases q)
  have ea : Same H0 (upd H1 x (.ins Wt.C dx (putF "own_places" (.int n) []))) := same_at e01 hx0
  have hta : upd H1 x (.ins Wt.C dx (putF "own_places" (.int n) [])) t = some (.tup xs) := (upd_ne tx).trans (e1 _ _ ht)
  refine ⟨_, rfl, t, xs, pairOf H0, rfl, SqT.of hta, fun y hy => ?_, fun ys p pm hp0 => ?_⟩
  · obtain ⟨u, a, b, rfl, hu⟩ := hp y hy
    exact ⟨u, rfl, by rw [pairOf_at hu]; exact ea _ _ hu⟩
  refine ⟨p, _, rfl, .inl ⟨SqL.of upd_same, fun q hq => ?_⟩⟩
  have hpy : PairsIn H0 ys := fun y hy => hp y (pm.mem_iff.mp hy)
  have kk : ∀ b o, upd H1 x (.ins Wt.C dx (putF "own_places" (.int n) [])) b = some o → upd (upd (upd H1 x (.ins Wt.C dx (putF "own_places" (.int n) []))) p (.lst ys)) q (.tup ys) b = some o := same_upd (same_new hp0) hq
  refine ⟨_, rfl, x, Wt.C, dx, _, rfl, kk _ _ upd_same, Wt.cl, Wt.nT, by show 1 < 1000; decide, ?_⟩
  have qx : q ≠ x := fun z => by
    rw [z, same_new hp0 _ _ upd_same] at hq
    cases hq
  have eb : Same H0 (upd (upd (upd (upd H1 x (.ins Wt.C dx (putF "own_places" (.int n) []))) p (.lst ys)) q (.tup ys)) x (.ins Wt.C dx (putF "own_ties" (.ref q) (putF "own_places" (.int n) [])))) := same_at (fun b o z => kk _ _ (ea _ _ z)) hx0
  have hqb : upd (upd (upd (upd H1 x (.ins Wt.C dx (putF "own_places" (.int n) []))) p (.lst ys)) q (.tup ys)) x (.ins Wt.C dx (putF "own_ties" (.ref q) (putF "own_places" (.int n) []))) q = some (.tup ys) := (upd_ne qx).trans upd_same
  have hxb : upd (upd (upd (upd H1 x (.ins Wt.C dx (putF "own_places" (.int n) []))) p (.lst ys)) q (.tup ys)) x (.ins Wt.C dx (putF "own_ties" (.ref q) (putF "own_places" (.int n) []))) x = some (.ins Wt.C dx (putF "own_ties" (.ref q) (putF "own_places" (.int n) []))) := upd_same
  generalize upd (upd (upd (upd H1 x (.ins Wt.C dx (putF "own_places" (.int n) []))) p (.lst ys)) q (.tup ys)) x (.ins Wt.C dx (putF "own_ties" (.ref q) (putF "own_places" (.int n) []))) = H2 at eb hqb hxb ⊢
  refine ⟨_, rfl, (n : Int), rfl, by omega, by omega, fun L hL => ?_⟩
  rw [Int.toNat_natCast]
  have l2 : (putF "own_ties" (.ref q) (putF "own_places" (.int n) [])).lookup ("own_ties" : Str) = some (V.ref q) := by rw [lookup_putF, if_pos rfl]
  refine lc_allD walk_range (fun i v H => ∃ u ns, v = V.ref u ∧ u ≠ L ∧ H u = some (.tup ns) ∧ ns.length = cnt (xs.map (pairOf H0)) (i : Int)) (by omega) hL (fun _ _ => trivial) (fun i v Ha Hb ⟨u, ns, h1, h2, h3, h4⟩ st => ⟨u, ns, h1, h2, st _ _ h2 h3, h4⟩) (fun i y H3 H4 hi e ⟨acc, hacc⟩ yy R hR => ?_) fun H3 acc e3 hl3 hn3 hv3 => ?_
  · obtain ⟨rfl, rfl⟩ := yy
    have e23 := Same.trans eb e
    refine ⟨rfl, _, rfl, x, Wt.C, dx, _, _, rfl, e _ _ hxb, Wt.cl, Wt.nT, l2, _, rfl, q, 0 + (i : Int), ys.map (pairOf H0), rfl, ⟨ys, SqT.of (e _ _ hqb), hpy.same e23, pairs_same hpy e23⟩, ?_, fun H5 u ns e5 hu hns => hR _ _ e5 ⟨u, ns, rfl, ?_, hu, ?_⟩⟩
    · rw [List.length_map, pm.length_eq]
      omega
    · exact ne_of hu (e5 _ _ hacc) (by intro z; cases z)
    · rw [hns, Int.zero_add]
      exact ((pm.map (pairOf H0)).filter _).length_eq
  · have xL : x ≠ L := ne_of (e3 _ _ hxb) hl3 (by intro z; cases z)
    refine ⟨_, rfl, x, Wt.C, dx, _, rfl, e3 _ _ hxb, Wt.cl, Wt.nB, by show 2 < 1000; decide, ?_⟩
    refine k _ (same_at (Same.trans eb e3) hx0) ⟨dx, q, L, _, acc, upd_same, ?_, ?_, ?_, (upd_ne xL.symm).trans hl3, hn3, fun i b hb => ?_⟩
    · rw [lookup_putF, if_neg (by decide +kernel), lookup_putF, if_neg (by decide +kernel), lookup_putF, if_pos rfl]
    · rw [lookup_putF, if_neg (by decide +kernel)]
      exact l2
    · rw [lookup_putF, if_pos rfl]
    · obtain ⟨u, ns, rfl, h2, h3, h4⟩ := hv3 i b hb
      exact ⟨u, ns, rfl, (upd_ne (ne_of h3 (e3 _ _ hxb) (by intro z; cases z))).trans h3, h4⟩
theorem raw_init (T : Txt K mg) (Wt : WebT K mg) : FnR P w K mg base CX0 5 Wt.fI (fun vs H Q E => ∃ ws rest, vs = ws ++ rest ∧ ws.length = ["self", "places"].length ∧ rest.length ≤ sizeLine ∧ ∀ p, H p = none → spInitB Wt.C (ws ++ [V.ref p]) (upd H p (.tup rest)) Q E) := by
  obtain ⟨oc, od, kV, doc, pm, an, cdv, ct, osl, e, lk, hcd⟩ := Wt.FI.ex
  rw [e] at lk
  refine fn_star (ps := ["self", "places"]) (pv := "ties") lk hcd (N := ["self", "places", "ties", "tie", "place"]) c_init cxUp_none ?_ fun A outer s H vs Q E hr h => ?_
  · exact bind_star2 (B := fun us => bindArgs (PySem.W.fnOf "__init__" "Web.__init__" (defArgs s_init) (defBody s_init) (defScope s_init) .none kV doc pm an cdv ct) ⟨us, []⟩) (fun a b => by first | rfl | with_unfolding_all rfl) (fun a b r rs => by first | rfl | with_unfolding_all rfl)
  · obtain ⟨t, h1, h2⟩ := init_body (P := P) (w := w) (base := base) (mg := mg) (outer := outer) T Wt hr h
    exact ⟨t, h1.nox, h2⟩
theorem ok_of (T : Txt K mg) (Wt : WebT K mg) : FnOk P w K mg base CX0 7 Wt.fO Wt.fdO ["cls", "places", "ties"] (spOf K Wt.C) := by
  refine Wt.FO.ok c_of (fun vs H Q E h => ?_) (fun cdv A outer s H vs Q E hr h => ?_)
  · obtain ⟨t, n, ks, rfl, _⟩ := h
    rfl
  · obtain ⟨t, n, ks, rfl, ⟨xs, ht, hp, rfl⟩, fit, k⟩ := h
    refine ⟨_, pss_cons (ps_if (pt_not (pt_val (pe_callB call_isi rfl T.n_isinstance PyProof.Rows.boot_isinstance (pa_cons (pv 2) (pa_cons (pe_bltn (v := .ty "tuple") rfl T.n_tuple PyProof.Rows.boot_tuple rfl) pa_nil))))) pss_never pss_nil)
      (pss_one (ps_ret (pe_makeV (pv 0) Wt.mkI (raw_init T Wt) hr pass0 (pa_cons (pv 1) (pa_star (pv 2) pa_nil))))), ?_⟩
    refine ⟨_, rfl, _, _, .type "tuple", .type "tuple", true, rfl, .ty "tuple", ?_, kit_tt, true, rfl, iteF ?_⟩
    · rcases ht with (h | ⟨o, h⟩) | ⟨o, its, m, h, hc, _⟩
      · exact .base (.tup h)
      · exact .fTuple h
      · exact .kTuple h hc
    refine ⟨_, rfl, rfl, _, rfl, _, rfl, t, xs, rfl, .inl ht, fun x dx nx ndx nex => ?_⟩
    rw [List.append_nil]
    have lt : xs.length ≤ 256 := by
      have := fit_few fit
      rw [List.length_map] at this
      exact this
    have s0 : Same H (upd (upd H dx (.own x)) x (.ins Wt.C dx [])) := same_upd (same_new ndx) ((upd_ne nex.symm).trans nx)
    refine ⟨[.ref x, .int n], xs, rfl, rfl, len_line (by omega), fun p hp0 => ?_⟩
    exact ⟨x, dx, p, n, xs, H, rfl, same_upd s0 hp0, nx, same_new hp0 _ _ upd_same, upd_same, hp, fit, fun H' e wa => ⟨rfl, k H' x e wa⟩⟩
end
end K9
set_option Elab.async false
set_option linter.unusedVariables false
set_option maxRecDepth 100000
set_option maxHeartbeats 400000
/-! made_web's loop, in numbers -/
namespace K9
open KM
/-- the places whose entries are the greatest, i left out, as many as i's entry says -/
def partsOf (d : List Int) (i : Nat) : List Nat := ((ordOf d d.length).filter fun j => decide (j ≠ i)).take (ent d i).toNat
def without (d : List Int) (i : Nat) : List Int := (List.range d.length).map fun j => if j = i then 0 else ent d j - (if j ∈ partsOf d i then 1 else 0)
theorem without_len (d : List Int) (i : Nat) : (without d i).length = d.length := by
  unfold without
  rw [List.length_map, List.length_range]
theorem without_ent (d : List Int) (i : Nat) {q : Nat} (hq : q < d.length) : ent (without d i) q = if q = i then 0 else ent d q - (if q ∈ partsOf d i then 1 else 0) := by
  unfold without ent
  rw [List.getD_eq_getElem?_getD, List.getElem?_map, List.getElem?_range hq]
  rfl
theorem Graphical.congr {n : Nat} {f g : Nat → Int} (h : Graphical n f) (e : ∀ q, q < n → f q = g q) : Graphical n g := by
  obtain ⟨A, h1, h2⟩ := h
  exact ⟨A, h1, fun i hi => (h2 i hi).trans (e i hi)⟩
theorem S_count {n : Nat} {ps : List Nat} (hn : ps.Nodup) (hl : ∀ x, x ∈ ps → x < n) : S n (fun i => if i ∈ ps then 1 else 0) = (ps.length : Int) := by
  rw [S_mem (fun _ => 1) hn hl]
  induction ps with
  | nil => rfl
  | cons a l ih =>
    rw [List.map_cons, List.sum_cons, ih (List.nodup_cons.mp hn).2 fun x hx => hl x (List.mem_cons_of_mem _ hx), List.length_cons]
    omega
/-- what a turn of the loop uses -/
theorem turn_of {d : List Int} {i : Nat} (hi : i < d.length) (h : Graphical d.length (ent d)) :
    Graphical d.length (ent (without d i)) ∧ (partsOf d i).Nodup ∧ ((partsOf d i).length : Int) = ent d i ∧ ∀ x ∈ partsOf d i, x < d.length ∧ x ≠ i ∧ 1 ≤ ent d x := by
  have ord := ordOf_ord d
  have le := h.le hi
  have e0 : d.length - 1 = ((ordOf d d.length).filter fun j => decide (j ≠ i)).length := by
    have z : ((ordOf d d.length).filter fun j => decide (j ≠ i)) = (ordOf d d.length).erase i := by
      rw [ord.nodup.erase_eq_filter]
      refine List.filter_congr fun x _ => ?_
      by_cases hx : x = i <;> simp [hx]
    rw [z, List.length_erase_of_mem (ord.mem.mpr hi), ord.len]
  have fl : ((ordOf d d.length).filter fun j => decide (j ≠ i)).Pairwise fun a b => ent d b ≤ ent d a := ord.ord.filter _
  have fn : ((ordOf d d.length).filter fun j => decide (j ≠ i)).Nodup := ord.nodup.filter _
  have fm : ∀ x, x ∈ ((ordOf d d.length).filter fun j => decide (j ≠ i)) ↔ x < d.length ∧ x ≠ i := fun x => by
    rw [List.mem_filter, ord.mem, decide_eq_true_iff]
  unfold partsOf
  have hle : (ent d i).toNat ≤ ((ordOf d d.length).filter fun j => decide (j ≠ i)).length := by omega
  generalize hF : ((ordOf d d.length).filter fun j => decide (j ≠ i)) = F at e0 fl fn fm hle
  have nt : (F.take (ent d i).toNat).Nodup := fn.sublist (List.take_sublist _ _)
  have lt : ((F.take (ent d i).toNat).length : Int) = ent d i := by
    rw [List.length_take, Nat.min_eq_left hle]
    omega
  have mt : ∀ x ∈ F.take (ent d i).toNat, x < d.length ∧ x ≠ i := fun x hx => (fm x).mp (List.mem_of_mem_take hx)
  have key := laid_off (T := fun x => decide (x ∈ F.take (ent d i).toNat)) h hi (decide_eq_false fun z => (mt i z).2 rfl) (by
      have z := S_count (n := d.length) nt fun x hx => (mt x hx).1
      rw [lt] at z
      refine Eq.trans ?_ z
      congr 1
      funext x
      unfold b2
      by_cases hx : x ∈ F.take (ent d i).toNat <;> simp [hx])
    fun x y hx hy tx ty ny => by
      have tx := of_decide_eq_true tx
      have ty := of_decide_eq_false ty
      have my : y ∈ F := (fm y).mpr ⟨hy, ny⟩
      rw [← List.take_append_drop (ent d i).toNat F] at my fl
      rcases List.mem_append.mp my with z | z
      · exact absurd z ty
      · exact (List.pairwise_append.mp fl).2.2 x tx y z
  refine ⟨?_, nt, lt, fun x hx => ⟨(mt x hx).1, (mt x hx).2, key.2 x (mt x hx).1 (decide_eq_true hx)⟩⟩
  refine Graphical.congr key.1 fun q hq => ?_
  rw [without_ent d i hq]
  unfold partsOf
  rw [hF]
  by_cases hqi : q = i
  · rw [if_pos hqi, if_pos hqi]
  · rw [if_neg hqi, if_neg hqi]
    unfold b2
    by_cases hx : q ∈ F.take (ent d i).toNat <;> simp [hx]
/-- the pairs of i and each of ps -/
abbrev star (i : Nat) (ps : List Nat) : List (Int × Int) := List.map (fun (j : Nat) => (Int.ofNat i, Int.ofNat j)) ps
/-- the loop's invariant -/
structure Laid (d : List Int) (i : Nat) (l : List Int) (ks : List (Int × Int)) : Prop where
  len : l.length = d.length
  gr : Graphical d.length (ent l)
  zero : ∀ q, q < i → q < d.length → ent l q = 0
  tie : ∀ k ∈ ks, 0 ≤ k.1 ∧ k.1 < k.2 ∧ k.2 < d.length ∧ k.1 < i
  nd : ks.Nodup
  sum : ∀ q, q < d.length → (cnt ks (q : Nat) : Int) + ent l q = ent d q
theorem Laid.start {d : List Int} (h : Graphical d.length (ent d)) : Laid d 0 d [] := ⟨rfl, h, fun q hq => absurd hq (Nat.not_lt_zero _), fun k hk => absurd hk (by simp), List.nodup_nil, fun q _ => by
  show ((0 : Nat) : Int) + _ = _
  omega⟩
theorem cnt_append (a b : List (Int × Int)) (p : Int) : cnt (a ++ b) p = cnt a p + cnt b p := by
  unfold cnt
  rw [List.filter_append, List.length_append]
theorem cnt_star (i : Nat) (q : Nat) : ∀ ps : List Nat, ps.Nodup → i ∉ ps → cnt (star i ps) (q : Int) = if q = i then ps.length else if q ∈ ps then 1 else 0
  | [], _, _ => by
    show 0 = _
    by_cases h : q = i <;> simp [h]
  | a :: l, hn, hi => by
    have hn2 := List.nodup_cons.mp hn
    have hi2 : i ∉ l := fun z => hi (List.mem_cons_of_mem _ z)
    have ia : a ≠ i := fun z => hi (by rw [z]; exact List.mem_cons_self)
    have ih := cnt_star i q l hn2.2 hi2
    unfold cnt at ih ⊢
    rw [show star i (a :: l) = (Int.ofNat i, Int.ofNat a) :: star i l from rfl, List.filter_cons]
    by_cases h1 : q = i
    · rw [if_pos h1] at ih ⊢
      rw [if_pos (decide_eq_true (Or.inl (by rw [h1]; rfl))), List.length_cons, List.length_cons, ih]
    · rw [if_neg h1] at ih ⊢
      by_cases h2 : q = a
      · rw [if_pos (decide_eq_true (Or.inr (by rw [h2]; rfl))), if_pos (by rw [h2]; exact List.mem_cons_self), List.length_cons, ih, if_neg (by rw [h2]; exact hn2.1)]
      · rw [if_neg (by
          rw [decide_eq_true_iff]
          rintro (z | z)
          · exact h1 (Int.ofNat.inj z)
          · exact h2 (Int.ofNat.inj z)), ih]
        by_cases h3 : q ∈ l
        · rw [if_pos h3, if_pos (List.mem_cons_of_mem _ h3)]
        · rw [if_neg h3, if_neg fun z => (List.mem_cons.mp z).elim h2 h3]
theorem cnt_perm {a b : List (Int × Int)} (h : a.Perm b) (p : Int) : cnt a p = cnt b p := (h.filter _).length_eq
theorem Laid.next {d : List Int} {i : Nat} {l : List Int} {ks : List (Int × Int)} (h : Laid d i l ks) (hi : i < d.length) {ps : List Nat} (hp : ps.Perm (partsOf l i)) :
    (∀ x ∈ ps, i < x ∧ x < d.length) ∧ Laid d (i + 1) (without l i) (ks ++ star i ps) := by
  have hl := h.len
  obtain ⟨t1, t2, t3, t4⟩ := turn_of (d := l) (i := i) (by omega) (by rw [hl]; exact h.gr)
  have big : ∀ x ∈ partsOf l i, i < x ∧ x < d.length := fun x hx => by
    obtain ⟨a, b, c⟩ := t4 x hx
    rw [hl] at a
    refine ⟨?_, a⟩
    rcases Nat.lt_or_ge x i with z | z
    · have := h.zero x z a
      omega
    · omega
  have big2 : ∀ x ∈ ps, i < x ∧ x < d.length := fun x hx => big x (hp.mem_iff.mp hx)
  have pn : ps.Nodup := hp.nodup_iff.mpr t2
  refine ⟨big2, ⟨by rw [without_len, hl], by rw [← hl]; exact t1, fun q hq hqd => ?_, fun k hk => ?_, ?_, fun q hq => ?_⟩⟩
  · rw [without_ent l i (by omega)]
    by_cases e : q = i
    · rw [if_pos e]
    · rw [if_neg e, if_neg fun z => by have := (big q z).1; omega, h.zero q (by omega) hqd]
      rfl
  · rcases List.mem_append.mp hk with z | z
    · obtain ⟨a, b, c, e⟩ := h.tie k z
      exact ⟨a, b, c, by omega⟩
    · obtain ⟨x, hx, rfl⟩ := List.mem_map.mp z
      have := big2 x hx
      exact ⟨Int.natCast_nonneg _, by show ((i : Nat) : Int) < ((x : Nat) : Int); omega, by show ((x : Nat) : Int) < _; omega, by show ((i : Nat) : Int) < _; omega⟩
  · refine List.nodup_append.mpr ⟨h.nd, nodup_on (fun a _ b _ e => ?_) pn, fun a ha b hb e => ?_⟩
    · injection e with _ e
      exact Int.ofNat.inj e
    · obtain ⟨x, hx, rfl⟩ := List.mem_map.mp hb
      have := (h.tie a ha).2.2.2
      rw [e] at this
      have z : ((i : Nat) : Int) < ((i : Nat) : Int) := this
      omega
  · rw [cnt_append, cnt_star i q ps pn fun z => by have := (big2 i z).1; omega, without_ent l i (by omega)]
    have hs := h.sum q hq
    by_cases e : q = i
    · rw [if_pos e, if_pos e]
      rw [e] at hs ⊢
      have := hp.length_eq
      omega
    · rw [if_neg e, if_neg e]
      by_cases m : q ∈ ps
      · rw [if_pos m, if_pos (hp.mem_iff.mp m)]
        omega
      · rw [if_neg m, if_neg fun z => m (hp.mem_iff.mpr z)]
        omega
end K9
set_option Elab.async false
set_option linter.unusedVariables false
set_option maxRecDepth 100000
set_option maxHeartbeats 400000
/-! heaviest_order .. made_web -/
namespace K9
open PySem PySem.Spec PyProof.Rows L2 StX ClX LamX
open KM (ent Graphical)
/-- the name of the lambda's code object -/
def qKey : Str := (envOfC "heaviest_order" (defScope s_heaviest_order) 0 0 .none).qual ++ "<lambda>"
abbrev LT (P0 : Addr) : List (Addr × Str) := [(P0, qKey)]
/-- heaviest_order's code object, at c; its table at P0 -/
structure HoT (K : PySem.W.Frag) (mg : Str → Option Value) (T : Txt K mg) : Type where
  c : Addr
  P0 : Addr
  lk : ∃ (oc : Value) (od : Option Addr) (kV doc pm : Value) (an : Option Addr) (ct : Value) (osl : Array (Option Value)), T.d_heaviest_order.fd = PySem.W.fnOf "heaviest_order" "heaviest_order" (defArgs s_heaviest_order) (defBody s_heaviest_order) (defScope s_heaviest_order) .none kV doc pm an (.ref c) ct ∧
    K.lookup T.d_heaviest_order.f = some ⟨oc, od, .func T.d_heaviest_order.fd, osl⟩
  hc : PySem.W.codeIn K (.ref c) "heaviest_order" = true
/-- what is behind a def that makes the lambda: all but the table is kept, the table is one -/
structure Kp (P0 : Addr) (H H' : Hp) : Prop where
  ext : ExtN H H'
  tab : Tabs (LT P0) H'
theorem Kp.same {P0 : Addr} {H H' : Hp} (t : Tabs (LT P0) H) (e : Same H H') : Kp P0 H H' := ⟨ExtN.of e, t.ext e⟩
theorem Kp.trans {P0 : Addr} {H H1 H2 : Hp} (a : Kp P0 H H1) (b : Kp P0 H1 H2) : Kp P0 H H2 := ⟨a.ext.trans b.ext, b.tab⟩
theorem Kp.more {P0 : Addr} {H H1 H2 : Hp} (a : Kp P0 H H1) (b : Same H1 H2) : Kp P0 H H2 := a.trans (Kp.same a.tab b)
theorem Kp.pre {P0 : Addr} {H H1 H2 : Hp} (a : Same H H1) (b : Kp P0 H1 H2) : Kp P0 H H2 := ⟨(ExtN.of a).trans b.ext, b.tab⟩
theorem ext_tup {K : PySem.W.Frag} {H H' : Hp} {a : Addr} {xs : List V} (e : ExtN H H') (h : SqT K H a xs) : SqT K H' a xs := by
  rcases h with (h | ⟨o, h⟩) | h
  · exact .inl (.inl (e _ _ h fun ps z => nomatch z))
  · exact .inl (.inr ⟨o, e _ _ h fun ps z => nomatch z⟩)
  · exact .inr h
theorem Row.ext {K : PySem.W.Frag} {H H' : Hp} {x : V} {ns : List Int} (h : Row K H x ns) (e : ExtN H H') : Row K H' x ns := by
  obtain ⟨t, ex, h⟩ := h
  exact ⟨t, ex, ext_tup e h⟩
theorem PairsIn.ext {H H' : Hp} {xs : List V} (h : PairsIn H xs) (e : ExtN H H') : PairsIn H' xs := fun x hx => by
  obtain ⟨t, a, b, ex, ht⟩ := h x hx
  exact ⟨t, a, b, ex, e _ _ ht fun ps z => nomatch z⟩
theorem pairs_ext {H H' : Hp} {xs : List V} (h : PairsIn H xs) (e : ExtN H H') : xs.map (pairOf H') = xs.map (pairOf H) := by
  refine List.map_congr_left fun x hx => ?_
  obtain ⟨t, a, b, rfl, ht⟩ := h x hx
  rw [pairOf_at ht, pairOf_at (e _ _ ht fun ps z => nomatch z)]
theorem tabs_at {P0 : Addr} {H : Hp} {l : Addr} {xs ys : List V} (h : Tabs (LT P0) H) (hl : H l = some (.lst xs)) : Tabs (LT P0) (upd H l (.lst ys)) := fun p hp => by
  obtain ⟨ps, h1, h2, h3⟩ := h p hp
  refine ⟨ps, (upd_ne (ne_of h1 hl (by intro z; cases z))).trans h1, h2, fun pos cv hc => ?_⟩
  obtain ⟨c, e1, e2⟩ := h3 pos cv hc
  exact ⟨c, e1, (upd_ne (ne_of e2 hl (by intro z; unfold CodeO at z; cases z))).trans e2⟩
/-- a list that H lacks is changed -/
theorem Kp.at {P0 : Addr} {H H' : Hp} {l : Addr} {xs ys : List V} (a : Kp P0 H H') (hl : H' l = some (.lst xs)) (h0 : H l = none) : Kp P0 H (upd H' l (.lst ys)) :=
  ⟨fun b o e n => (upd_ne (ne_of_none e h0)).trans (a.ext b o e n), tabs_at a.tab hl⟩
def spOrder (K : PySem.W.Frag) (P0 : Addr) : Sp := fun vs H Q _ => ∃ (x : V) (ds : List Int), vs = [x] ∧ Row K H x ds ∧ ds.length ≤ 64 ∧ Tabs (LT P0) H ∧ ∀ H' p, Kp P0 H H' → H' p = some (.lst ((ordOf ds ds.length).map nv)) → Q (.ref p) H'
def spParts (K : PySem.W.Frag) (P0 : Addr) : Sp := fun vs H Q _ => ∃ (x : V) (ds : List Int) (i : Nat), vs = [x, .int i] ∧ Row K H x ds ∧ ds.length ≤ 64 ∧ i < ds.length ∧ 0 ≤ ent ds i ∧ Tabs (LT P0) H ∧
  ∀ H' q (ps : List Nat), ps.Perm (partsOf ds i) → Kp P0 H H' → H' q = some (.tup ((ofNats ps).map V.int)) → Q (.ref q) H'
def spWithout (K : PySem.W.Frag) (P0 : Addr) : Sp := fun vs H Q _ => ∃ (x : V) (ds : List Int) (i : Nat), vs = [x, .int i] ∧ Row K H x ds ∧ ds.length ≤ 64 ∧ i < ds.length ∧ 0 ≤ ent ds i ∧ Tabs (LT P0) H ∧
  ∀ H' q, Kp P0 H H' → H' q = some (.tup ((without ds i).map V.int)) → Q (.ref q) H'
def spMade (K : PySem.W.Frag) (C P0 : Addr) : Sp := fun vs H Q _ => ∃ (x : V) (ds : List Int), vs = [x] ∧ Row K H x ds ∧ 1 ≤ ds.length ∧ ds.length ≤ 16 ∧ Graphical ds.length (ent ds) ∧ Tabs (LT P0) H ∧
  ∀ H' q (ks : List (Int × Int)), Kp P0 H H' → WebAt C H' q ds.length ks → (∀ j : Nat, j < ds.length → ((cnt ks (j : Int) : Nat) : Int) = ent ds j) → Q (.ref q) H'
section
variable {P : Program} {w : World} {K : PySem.W.Frag} {mg : Str → Option Value} {base : Heap}
theorem ok_order (T : Txt K mg) (O : HoT K mg T) (TB : TabB base mg O.c O.P0) : FnOk P w K mg base CX0 1 T.d_heaviest_order.f T.d_heaviest_order.fd ["degrees"] (spOrder K O.P0) := by
  obtain ⟨oc, od, kV, doc, pm, an, ct, osl, efd, lk⟩ := O.lk
  rw [efd] at lk ⊢
  refine fn_of lk O.hc c_heaviest_order (fun vs H Q E h => ?_) (fun A outer s H vs Q E hr h => ?_)
  · obtain ⟨x, ds, rfl, _⟩ := h
    rfl
  · obtain ⟨x, ds, rfl, ⟨t, rfl, ht⟩, h64, hT, k⟩ := h
    have key : ∃ t', PSs (cxOf CX0 P w K mg base ["degrees"] "heaviest_order" (defScope s_heaviest_order) T.d_heaviest_order.f (.ref O.c) A outer s H E).nox (defBody s_heaviest_order) t' ∧ t' { nx := fun _ H' => Q .non H', rt := Q } (start ["degrees"] [V.ref t]) H := by
      refine ⟨_, pss_one (ps_ret (pe_sortKey (T := LT O.P0) (i := 0) rfl rfl T.n_sorted (pe_callTy cr_range1 rfl T.n_range boot_range (pa_cons (pe_callB call_len_seq rfl T.n_len PySem.boot_len (pa_cons (pv 0) pa_nil)) pa_nil))
        TB rfl (List.mem_singleton.mpr rfl) (fun p hp _ => by rw [List.mem_singleton.mp hp]; rfl) hr rfl rfl)), ?_⟩
      refine ⟨_, rfl, t, _, rfl, .inr ht, _, rfl, fun r hr0 => ?_⟩
      have s1 : Same H (upd H r (.rng 0 ((ds.map V.int).length : Nat))) := same_new hr0
      refine ⟨r, t, ds, rfl, by rw [upd_same, List.length_map], rfl, same_tup s1 ht, h64, hT.ext s1, fun H2 p e2 t2 hp => ?_⟩
      exact k _ p ((Kp.pre s1 ⟨e2, t2⟩).more (same_new hp)) upd_same
    obtain ⟨t', h1, h2⟩ := key
    exact ⟨t', h1.nox, h2⟩
theorem map_nv (l : List Nat) : l.map nv = (ofNats l).map V.int := by
  rw [List.map_map]
  rfl
theorem ok_parts (T : Txt K mg) (O : HoT K mg T) (TB : TabB base mg O.c O.P0) : FnOk P w K mg base CX0 2 T.d_partners_in.f T.d_partners_in.fd ["degrees", "place"] (spParts K O.P0) := by
  refine T.d_partners_in.F.ok c_partners_in (fun vs H Q E h => ?_) (fun cdv A outer s H vs Q E hr h => ?_)
  · obtain ⟨x, ds, i, rfl, _⟩ := h
    rfl
  · obtain ⟨x, ds, i, rfl, ⟨t, rfl, ht⟩, h64, hi, h0, hT, k⟩ := h
    have nd := c_partners_in.nd
    refine ⟨_, pss_cons (ps_setLc (i := 2) (own := [("one", 3)]) (g := gName 3) rfl nd rfl rfl rfl (pi_list (pe_def T.d_heaviest_order (ok_order T O TB) hr rfl (pa_cons (pv 0) pa_nil)))
        (blkOk_by (N := ["degrees", "place", "others", "one"]) (sc := defScope s_partners_in) (by decide +kernel)) (fun _ _ _ _ _ => pg_name (i := 3) nd rfl (Or.inl rfl)) (fun _ _ _ _ _ => pts_one (pt_cmpR (r := rNe) op_ne (pv 3) (pv 1) (nomark _))) (fun _ _ _ _ _ => pv 3))
      (pss_one (ps_ret (pe_callTy call_tuple_of rfl T.n_tuple PyProof.Rows.boot_tuple (pa_cons (pe_callB cr_sortedI rfl T.n_sorted PyProof.Rows.boot_sorted (pa_cons
        (pe_slice sl_list (pv 2) po_none (po_some (pe_ix ix_tup (pv 0) (pv 1) (fun _ _ => rfl)))) pa_nil)) pa_nil)))), ?_⟩
    have ord := ordOf_ord ds
    refine ⟨_, rfl, .ref t, ds, rfl, ⟨t, rfl, ht⟩, h64, hT, fun H1 p kp hp => ⟨p, rfl, ⟨_, SqL.of hp⟩, fun D hD => ?_⟩⟩
    refine lc_fm walk_list (fun j => ((ordOf ds ds.length).map nv)[j]?.bind fun v => if v = V.int (i : Nat) then none else some v) (by rw [List.length_map, ord.len]; omega) hD (fun H' e => SqL.of (e _ _ hp)) (fun j y H2 H3 hj e yy R N hR hN => ?_) fun H2 e2 hl2 => ?_
    · obtain ⟨rfl, hy⟩ := yy
      have hy2 := hy
      rw [List.getElem?_map] at hy2
      obtain ⟨z, ez, rfl⟩ := Option.map_eq_some_iff.mp hy2
      refine ⟨rfl, _, rfl, _, rfl, rfl, _, rfl, ?_⟩
      by_cases hm : nv z = V.int (i : Nat)
      · have e1 : (!decide (nv z = V.int (i : Nat))) = false := by rw [decide_eq_true hm]; rfl
        refine Eq.mpr (congrArg (fun b => if b = true then _ else _) e1) (iteF (hN _ (Same.refl _) ?_))
        rw [hy, Option.bind_some, if_pos hm]
      · have e1 : (!decide (nv z = V.int (i : Nat))) = true := by rw [decide_eq_false hm]; rfl
        refine Eq.mpr (congrArg (fun b => if b = true then _ else _) e1) (iteT ⟨_, rfl, hR _ _ (Same.refl _) ?_⟩)
        rw [hy, Option.bind_some, if_neg hm]
    have fl : (List.range ((ordOf ds ds.length).map nv).length).filterMap (fun j => ((ordOf ds ds.length).map nv)[j]?.bind fun v => if v = V.int (i : Nat) then none else some v) = ((ordOf ds ds.length).filter fun j => decide (j ≠ i)).map nv := by
      rw [range_bind, List.filterMap_map]
      induction ordOf ds ds.length with
      | nil => rfl
      | cons a l ih =>
        rw [List.filterMap_cons, ih]
        by_cases ha : a = i
        · rw [List.filter_cons, if_neg (by simp [ha])]
          have e1 : ((fun v => if v = V.int (i : Nat) then (none : Option V) else some v) ∘ nv) a = none := if_pos (by rw [ha])
          rw [e1]
        · rw [List.filter_cons, if_pos (by simp [ha])]
          have e1 : ((fun v => if v = V.int (i : Nat) then (none : Option V) else some v) ∘ nv) a = some (nv a) := if_neg fun z => ha (Int.ofNat.inj (by injection z))
          rw [e1]
          rfl
    rw [fl] at hl2
    have kp2 := kp.more e2
    refine ⟨_, rfl, _, rfl, _, rfl, t, _, (i : Int), _, rfl, rfl, ext_tup kp2.ext ht, atI_nat (v := .int (ent ds i)) ?_, _, rfl, D, _, rfl, SqL.of hl2, fun q hq => ?_⟩
    · rw [List.getElem?_map, List.getElem?_eq_getElem hi, Option.map_some]
      unfold ent
      rw [List.getD_eq_getElem?_getD, List.getElem?_eq_getElem hi]
      rfl
    have ct : cutV (((ordOf ds ds.length).filter fun j => decide (j ≠ i)).map nv) none (some (ent ds i)) = (ofNats (partsOf ds i)).map V.int := by
      rw [← map_nv]
      unfold cutV partsOf
      rw [HT.sIx_none, ← Int.toNat_of_nonneg h0, HT.sIx_nat, List.drop_zero, Nat.sub_zero, List.length_map, Int.toNat_natCast, ← List.map_take]
      rcases Nat.le_total (ent ds i).toNat ((ordOf ds ds.length).filter fun j => decide (j ≠ i)).length with c | c
      · rw [Nat.min_eq_left c]
      · rw [Nat.min_eq_right c, List.take_of_length_le c, List.take_of_length_le (Nat.le_refl _)]
    rw [ct]
    refine ⟨q, ofNats (partsOf ds i), rfl, SqL.of upd_same, fun zs r pm _ hr2 => ⟨r, _, rfl, .inl ⟨SqL.of upd_same, fun l hl => ?_⟩⟩⟩
    have ez : zs = ofNats (zs.map Int.toNat) := by
      rw [ofNats, List.map_map]
      refine (List.map_id zs).symm.trans (List.map_congr_left fun z hz => ?_)
      obtain ⟨j, _, rfl⟩ := List.mem_map.mp (pm.mem_iff.mp hz)
      rfl
    have pp : (zs.map Int.toNat).Perm (partsOf ds i) := by
      have z := pm.map Int.toNat
      rw [ofNats, List.map_map] at z
      refine z.trans (List.Perm.of_eq ((List.map_congr_left fun j _ => ?_).trans (List.map_id _)))
      rfl
    generalize zs.map Int.toNat = ps at ez pp
    subst ez
    exact k _ l _ pp (kp2.more (same_upd (same_upd (same_new hq) hr2) hl)) upd_same
theorem in_nats (i : Nat) (ps : List Nat) : inV (.int (i : Nat)) ((ofNats ps).map V.int) = decide (i ∈ ps) := by
  rw [in_ints]
  exact decide_eq_decide.mpr ⟨fun z => by obtain ⟨j, hj, ej⟩ := List.mem_map.mp z; exact (Int.ofNat.inj ej) ▸ hj, fun z => List.mem_map.mpr ⟨i, z, rfl⟩⟩
theorem ok_without (T : Txt K mg) (O : HoT K mg T) (TB : TabB base mg O.c O.P0) : FnOk P w K mg base CX0 3 T.d_row_without.f T.d_row_without.fd ["degrees", "place"] (spWithout K O.P0) := by
  refine T.d_row_without.F.ok c_row_without (fun vs H Q E h => ?_) (fun cdv A outer s H vs Q E hr h => ?_)
  · obtain ⟨x, ds, i, rfl, _⟩ := h
    rfl
  · obtain ⟨x, ds, i, rfl, ⟨t, rfl, ht⟩, h64, hi, h0, hT, k⟩ := h
    have nd := c_row_without.nd
    refine ⟨_, pss_cons (ps_set (i := 2) nd rfl (Or.inr rfl) (pe_def T.d_partners_in (ok_parts T O TB) hr rfl (pa_cons (pv 0) (pa_cons (pv 1) pa_nil))))
      (pss_one (ps_ret (pe_callTy call_tuple_of rfl T.n_tuple PyProof.Rows.boot_tuple (pa_cons
        (pe_lc (own := [("one", 3), ("number", 4)]) (g := gTup K 2 (gCons (gName 3) (gCons (gName 4) gNil))) (tt := tYes) rfl nd (pi_enumT rfl T.n_enumerate (pa_cons (pv 0) pa_nil))
          (blkOk_by (N := ["degrees", "place", "some", "one", "number"]) (sc := defScope s_row_without) (by decide +kernel)) (fun _ _ _ _ _ => pg_tup rfl (pgs_cons (pg_name (i := 3) nd rfl (Or.inl rfl)) (pgs_cons (pg_name (i := 4) nd rfl (Or.inl rfl)) pgs_nil)))
          (fun _ _ _ _ _ => pts_nil) (fun _ _ _ _ _ => pe_ifExp (pt_cmpR (r := rEq) op_eq (pv 3) (pv 1) (nomark _)) pe_int
            (pe_op op_sub (pv 4) (pe_callTy call_int1 rfl T.n_int PyProof.Rows.boot_int (pa_cons (pe_cmpR (r := rIn K false) op_in_seq (pv 3) (pv 2) rfl) pa_nil))))) pa_nil)))), ?_⟩
    have l1 : (ds.map V.int).length = ds.length := List.length_map _
    refine ⟨_, rfl, _, rfl, .ref t, ds, i, rfl, ⟨t, rfl, ht⟩, h64, hi, h0, hT, fun H1 q ps pm kp hq => ?_⟩
    have ht1 := ext_tup kp.ext ht
    refine ⟨_, rfl, t, _, rfl, ht1, fun D hD => ?_⟩
    refine lc_all walk_enumT (fun j v _ => v = .int (if j = i then 0 else ent ds j - (if j ∈ ps then 1 else 0))) (by omega) hD (fun H' e => same_tup e ht1) (fun i v _ _ z _ => z) (fun j y H2 H3 hj e yy R hR => ?_) fun H2 acc e2 hl2 hn hv => ?_
    · obtain ⟨T2, a, b, rfl, hT2, rfl, ha, hb⟩ := yy
      obtain rfl := Option.some.inj ha
      obtain ⟨z, ez, rfl⟩ := ns_get hb
      have ez2 := get_ent ez
      subst ez2
      refine ⟨T2, _, rfl, SqT.of upd_same, rfl, _, _, rfl, _, _, rfl, rfl, rfl, ?_⟩
      refine ⟨_, rfl, _, rfl, rfl, _, rfl, ?_⟩
      by_cases hm : j = i
      · have e1 : decide (V.int (j : Nat) = V.int (i : Nat)) = true := decide_eq_true (by rw [hm])
        refine Eq.mpr (congrArg (fun b => if b = true then _ else _) e1) (iteT (hR _ _ (same_new hT2) ?_))
        rw [if_pos hm]
      · have e1 : decide (V.int (j : Nat) = V.int (i : Nat)) = false := decide_eq_false fun z => hm (Int.ofNat.inj (by injection z))
        refine Eq.mpr (congrArg (fun b => if b = true then _ else _) e1) (iteF ⟨_, rfl, _, rfl, _, rfl, q, _, rfl, .inr (SqT.of (same_new hT2 _ _ (e _ _ hq))), rfl, flat_ints _, .inr ⟨_, rfl, _, _, rfl, rfl, hR _ _ (same_new hT2) ?_⟩⟩)
        show V.int (_ - (if (if false = true then !inV (V.int (j : Nat)) ((ofNats ps).map V.int) else inV (V.int (j : Nat)) ((ofNats ps).map V.int)) = true then 1 else 0)) = _
        rw [if_neg Bool.false_ne_true, in_nats, if_neg hm]
        by_cases hp : j ∈ ps
        · rw [decide_eq_true hp, if_pos rfl, if_pos hp]
        · rw [decide_eq_false hp, if_neg Bool.false_ne_true, if_neg hp]
    · rw [l1] at hn
      obtain rfl := acc_ints (ns := without ds i) (by rw [hn, without_len]) fun j v hv' => by
        have hj := lt_of_get hv'
        rw [hn] at hj
        refine ⟨_, ?_, hv j v hv'⟩
        unfold without
        rw [List.getElem?_map, List.getElem?_range hj, Option.map_some]
        congr 1
        by_cases hm : j = i
        · rw [if_pos hm, if_pos hm]
        · rw [if_neg hm, if_neg hm]
          by_cases hp : j ∈ ps
          · rw [if_pos hp, if_pos (pm.mem_iff.mp hp)]
          · rw [if_neg hp, if_neg fun z => hp (pm.mem_iff.mpr z)]
      refine ⟨D, _, rfl, .inl ⟨SqL.of hl2, fun r hr2 => ?_⟩⟩
      exact k _ r (kp.more (same_upd e2 hr2)) upd_same
theorem ok_made (T : Txt K mg) (Wt : WebT K mg) (O : HoT K mg T) (TB : TabB base mg O.c O.P0) : FnOk P w K mg base CX0 8 T.d_made_web.f T.d_made_web.fd ["degrees"] (spMade K Wt.C O.P0) := by
  refine T.d_made_web.F.ok c_made_web (fun vs H Q E h => ?_) (fun cdv A outer s H vs Q E hr h => ?_)
  · obtain ⟨x, ds, rfl, _⟩ := h
    rfl
  · obtain ⟨x, ds, rfl, hx, h1, h16, gr, hT, k⟩ := h
    have nd := c_made_web.nd
    refine ⟨_, pss_cons (ps_par (i := 1) (j := 2) rfl nd rfl rfl (by decide) rfl rfl (pa_cons (pv 0) (pa_cons (pe_lst pa_nil) pa_nil)) rfl)
      (pss_cons (ps_for PassesOwn.never rfl (pi_range1 rfl T.n_range (pa_cons (pe_callB call_len_seq rfl T.n_len PySem.boot_len (pa_cons (pv 0) pa_nil)) pa_nil)) (pg_name (i := 3) nd rfl (Or.inr rfl))
        (pss_cons (ps_expr (pe_bm PySem.F.plainAttrs_list PySem.F.slot_list_extend PySem.F.type_list_extend mt_extend (pv 2) (pa_cons
          (pe_lc (own := [("one", 4)]) (g := gName 4) (tt := tYes) rfl nd (pi_tup (pe_def T.d_partners_in (ok_parts T O TB) (hr.mono (by decide)) rfl (pa_cons (pv 1) (pa_cons (pv 3) pa_nil))))
            (blkOk_by (N := ["degrees", "left", "ties", "place", "one"]) (sc := defScope s_made_web) (by decide +kernel)) (fun _ _ _ _ _ => pg_name (i := 4) nd rfl (Or.inl rfl)) (fun _ _ _ _ _ => pts_nil)
            (fun _ _ _ _ _ => pe_tup (pa_cons (pe_callB (call_min2 rfl) rfl T.n_min PyProof.Rows.boot_min (pa_cons (pv 3) (pa_cons (pv 4) pa_nil))) (pa_cons (pe_callB (call_max2 rfl) rfl T.n_max PyProof.Rows.boot_max (pa_cons (pv 3) (pa_cons (pv 4) pa_nil))) pa_nil)))) pa_nil)))
        (pss_one (ps_set (i := 1) nd rfl (Or.inl rfl) (pe_def T.d_row_without (ok_without T O TB) (hr.mono (by decide)) rfl (pa_cons (pv 1) (pa_cons (pv 3) pa_nil)))))))
      (pss_one (ps_ret (pe_cmeth (pe_glob (v := .ref Wt.C) rfl Wt.gC rfl) Wt.rd Wt.cO ((ok_of T Wt).raw Wt.bO .nil) hr pass0 (pa_cons (pe_callB call_len_seq rfl T.n_len PySem.boot_len (pa_cons (pv 0) pa_nil)) (pa_cons (pe_callTy call_tuple_of rfl T.n_tuple PyProof.Rows.boot_tuple (pa_cons (pv 2) pa_nil)) pa_nil)))))), ?_⟩
    obtain ⟨t, rfl, ht⟩ := id hx
    have l1 : (ds.map V.int).length = ds.length := List.length_map _
    refine ⟨_, rfl, Nat.zero_le _, fun l hl => ⟨_, _, rfl, ?_⟩⟩
    have s0 : Same H (upd H l (.lst [])) := same_new hl
    refine ⟨_, rfl, t, _, rfl, .inr (same_tup s0 ht), _, rfl, by omega, by omega, ?_⟩
    rw [l1, Int.toNat_natCast]
    refine for_it walk_range (fun i σ H' => Kp O.P0 H H' ∧ ∃ (lx : V) (left : List Int) (xs : List V) (v3 v4 : Option V), σ = [some (.ref t), some lx, some (.ref l), v3, v4] ∧ Row K H' lx left ∧ H' l = some (.lst xs) ∧ PairsIn H' xs ∧ Laid ds i left (xs.map (pairOf H')))
      ⟨Kp.same hT s0, .ref t, ds, [], none, none, rfl, Row.same hx s0, upd_same, fun x hx => absurd hx (by simp), Laid.start gr⟩ (fun _ _ _ _ _ => trivial) ?_ ?_
    · rintro i y σ H1 H2 hi ⟨kp, lx, left, xs, v3, v4, rfl, hlx, hxs, hpx, ld⟩ ⟨eH, ey⟩
      have ey : y = V.int (i : Nat) := ey.trans (by show V.int (0 + (i : Int)) = _; rw [Int.zero_add])
      subst eH ey
      have ll := ld.len
      have le := ld.gr.le hi
      refine ⟨_, rfl, .inl ⟨rfl, _, SqL.of hxs⟩, _, rfl, _, rfl, lx, left, i, rfl, hlx, by omega, by omega, le.1, kp.tab, fun H3 q ps pm kp3 hq => ?_⟩
      obtain ⟨big, ld2⟩ := ld.next hi pm
      refine ⟨q, rfl, ⟨_, SqT.of hq⟩, fun D hD => ?_⟩
      have fit : Fit ds.length (xs.map (pairOf H2) ++ star i ps) := ⟨h1, h16, fun k hk => ⟨(ld2.tie k hk).1, (ld2.tie k hk).2.1, (ld2.tie k hk).2.2.1⟩, ld2.nd⟩
      have few := fit_few fit
      rw [List.length_append, List.length_map, List.length_map] at few
      have l3 : ((ofNats ps).map V.int).length = ps.length := by rw [List.length_map, List.length_map]
      refine lc_allD walk_tup (fun j v H' => ∃ u p, v = V.ref u ∧ u ≠ D ∧ ps[j]? = some p ∧ H' u = some (.tup [.int (i : Nat), .int (p : Nat)])) (by omega) hD (fun H' e => SqT.of (e _ _ hq)) (fun j v Ha Hb ⟨u, p, z1, z2, z3, z4⟩ st => ⟨u, p, z1, z2, z3, st _ _ z2 z4⟩)
        (fun j y H4 H5 hj e ⟨acc, hacc⟩ yy R hR => ?_) fun H4 acc e4 hl4 hn hv => ?_
      · obtain ⟨rfl, hy⟩ := yy
        obtain ⟨z, ez, rfl⟩ := ns_get hy
        rw [List.getElem?_map] at ez
        obtain ⟨p, hp, rfl⟩ := Option.map_eq_some_iff.mp ez
        have hip := (big p (List.mem_of_getElem? hp)).1
        refine ⟨rfl, _, rfl, _, rfl, _, _, rfl, _, rfl, _, rfl, _, _, rfl, by show 2 ≤ sizeLine; decide, fun u hu => hR _ _ (same_new hu) ⟨u, p, rfl, fun z => ?_, hp, ?_⟩⟩
        · rw [z, hacc] at hu
          cases hu
        · rw [upd_same, if_neg (show ¬ Int.ofNat p < ((i : Nat) : Int) from fun z => by have z2 : ((p : Nat) : Int) < ((i : Nat) : Int) := z; omega), if_pos (show Int.ofNat p > ((i : Nat) : Int) from Int.ofNat_lt.mpr hip)]
          rfl
      rw [l3] at hn
      have hpa : PairsIn H4 acc := fun x hx => by
        obtain ⟨j, hj, ej⟩ := List.mem_iff_getElem.mp hx
        obtain ⟨u, p, z1, _, _, z4⟩ := hv j x (by rw [List.getElem?_eq_getElem hj, ej])
        exact ⟨u, _, _, z1, z4⟩
      have hma : acc.map (pairOf H4) = star i ps := by
        refine List.ext_getElem? fun j => ?_
        rw [List.getElem?_map, List.getElem?_map]
        by_cases hj : j < acc.length
        · obtain ⟨u, p, z1, _, z3, z4⟩ := hv j _ (List.getElem?_eq_getElem hj)
          rw [List.getElem?_eq_getElem hj, z3, Option.map_some, Option.map_some, z1, pairOf_at z4]
          rfl
        · rw [List.getElem?_eq_none (by omega), List.getElem?_eq_none (by omega)]
          rfl
      have kp4 : Kp O.P0 H2 H4 := kp3.more e4
      have hxs4 : H4 l = some (.lst xs) := kp4.ext _ _ hxs fun ps z => nomatch z
      refine ⟨l, D, xs, acc, rfl, rfl, hxs4, hl4, len_line (by omega), ?_⟩
      have kpa : Kp O.P0 H (upd H4 l (.lst (xs ++ acc))) := (kp.trans kp4).at hxs4 hl
      -- what is not the list stays
      have st : ∀ b o, H2 b = some o → b ≠ l → (∀ ps, o ≠ .tbl ps) → upd H4 l (.lst (xs ++ acc)) b = some o := fun b o e nb nt => (upd_ne nb).trans (kp4.ext b o e nt)
      have hlx5 : Row K (upd H4 l (.lst (xs ++ acc))) lx left := by
        obtain ⟨u, ex, hu⟩ := hlx
        refine ⟨u, ex, ?_⟩
        rcases hu with (h | ⟨o, h⟩) | h
        · exact .inl (.inl (st _ _ h (ne_of h hxs (by intro z; cases z)) fun ps z => nomatch z))
        · exact .inl (.inr ⟨o, st _ _ h (ne_of h hxs (by intro z; cases z)) fun ps z => nomatch z⟩)
        · exact .inr h
      have hp5 : PairsIn (upd H4 l (.lst (xs ++ acc))) (xs ++ acc) := fun x hx => by
        have hm : ∃ u a b, x = V.ref u ∧ H4 u = some (.tup [.int a, .int b]) := (List.mem_append.mp hx).elim (fun z => hpx.ext kp4.ext x z) fun z => hpa x z
        obtain ⟨u, a, b, ex, hu⟩ := hm
        exact ⟨u, a, b, ex, (upd_ne (ne_of hu hxs4 (by intro z; cases z))).trans hu⟩
      have hm5 : (xs ++ acc).map (pairOf (upd H4 l (.lst (xs ++ acc)))) = xs.map (pairOf H2) ++ star i ps := by
        rw [← hma, ← pairs_ext hpx kp4.ext, ← List.map_append]
        refine List.map_congr_left fun x hx => ?_
        have hm : ∃ u a b, x = V.ref u ∧ H4 u = some (.tup [.int a, .int b]) := (List.mem_append.mp hx).elim (fun z => hpx.ext kp4.ext x z) fun z => hpa x z
        obtain ⟨u, a, b, rfl, hu⟩ := hm
        rw [pairOf_at hu, pairOf_at ((upd_ne (ne_of hu hxs4 (by intro z; cases z))).trans hu)]
      refine ⟨_, rfl, _, rfl, lx, left, i, rfl, hlx5, by omega, by omega, le.1, kpa.tab, fun H6 q2 kp6 hq2 => ?_⟩
      refine ⟨kpa.trans kp6, .ref q2, without left i, xs ++ acc, some (.int (i : Nat)), v4, rfl, Row.mk' hq2, kp6.ext _ _ upd_same (fun ps z => nomatch z), hp5.ext kp6.ext, ?_⟩
      rw [pairs_ext hp5 kp6.ext, hm5]
      exact ld2
    · rintro σ H1 ⟨kp, lx, left, xs, v3, v4, rfl, hlx, hxs, hpx, ld⟩
      refine ⟨rfl, _, rfl, t, _, rfl, .inr (ext_tup kp.ext ht), ?_⟩
      rw [l1]
      refine ⟨_, rfl, l, _, rfl, .inl ⟨SqL.of hxs, fun q hq => ?_⟩⟩
      have s1 : Same H1 (upd H1 q (.tup xs)) := same_new hq
      refine ⟨q, ds.length, xs.map (pairOf H1), rfl, ⟨xs, SqT.of upd_same, hpx.same s1, pairs_same hpx s1⟩, ⟨h1, h16, fun k hk => ⟨(ld.tie k hk).1, (ld.tie k hk).2.1, (ld.tie k hk).2.2.1⟩, ld.nd⟩, fun H' x e wa => ?_⟩
      refine k _ x _ (kp.more (Same.trans s1 e)) wa fun j hj => ?_
      have := ld.sum j hj
      rw [ld.zero j hj hj] at this
      omega
end
end K9
set_option Elab.async false
set_option linter.all false
set_option maxRecDepth 100000
set_option maxHeartbeats 1000000
/-! TooMany(16): its __init__ says super().__init__(f'more than {limit}'), then self.limit = limit -/
namespace PySem
namespace TMX
open PySem.W PySem.Calls PyProof.Rows PySem.HandSPX L2
abbrev s_tm : Stmt := inClass (K9.top 12) 0
abbrev ovTail : List Value := [.type "OverflowError", .type "ArithmeticError", .type "Exception", .type "BaseException", .type "object"]
/-- what the top has written of TooMany, at C -/
structure TmT (prog : Program) (K : Frag) (mg : Str → Option Value) : Type where
  C : Addr
  fI : Addr
  cc : Addr
  cda : Addr
  gC : mg "TooMany" = some (.ref C)
  gS : mg "super" = none
  cls : ∃ nm q N bs sn sub ab col dd k0 k1 k2 k3 k5, K.lookup C = some (excClassObj nm q C N bs ovTail true sn sub ab col dd k0 k1 k2 k3 k5 "OverflowError.__new__")
  sa : findIn K (.ref C) "__setattr__" = some (some (.builtin "object.__setattr__"))
  noL : findIn K (.ref C) "limit" = some none
  iC : findIn K (.ref C) "__init__" = some (some (.ref fI))
  tC : typeIn K (.ref fI) = some (.type "function")
  kC : keepIn K (.ref C) = true
  xf : XfC K C
  tyC : typeIn K (.ref C) = some (.type "type")
  sOv : subIn K (.ref C) (.type "OverflowError") = some true
  ms : mroIn K C (.ref C) = some true
  te : exmOne K (.ref C) (.ref C) = some true
  op : nsIn K cStatics "thirdparty.any" = some none
  fn : ∃ (oc : Value) (od : Option Addr) (kV doc pm : Value) (an : Option Addr) (ct : Value) (osl : Array (Option Value)), K.lookup fI = some ⟨oc, od, .func (ksFn "__init__" "TooMany.__init__" (defArgs s_tm) (defBody s_tm) (defScope s_tm) .none kV doc pm an (.ref cda) ct cc), osl⟩
  hcd : codeIn K (.ref cda) "TooMany.__init__" = true
  code : ∃ (ccl : Value) (cdd : Option Addr) (vs : Array Value) (ccs : Array (Option Value)) (file : Str) (tf : Tok), K.lookup cda = some ⟨ccl, cdd, .fields vs, ccs⟩ ∧ vs[2]? = some (.str file tf) ∧ ((prog.main.file : Str) == file) = true
  cell : ∃ (cl : Value) (cld : Option Addr) (csl : Array (Option Value)), K.lookup cc = some ⟨cl, cld, .cell (some (.ref C)), csl⟩
  top : (prog.main.scope.names.lookup ("super" : Str)).isSome = false
-- self.name = v of an exception that has no dict yet
section
open Builtin Builtin.ObjectAttr
variable {prog : Program} {w : World} {A : Around} {R : Result → Shared → Prop} {hp : Heap} {g : Array GenState} {d : Drawn} {t : Nat} {os : OsState}
theorem osa_ov {K : Frag} {name : Str} {tk : Tok} {v : Value} {x C : Addr} {fv : Array Value} {cd : ClassData}
    (X : K.In hp) (hx : hp.get? x = some { cls := .ref C, data := .fields fv }) (hcd : clsIn K C = some cd) (hm : cd.mro = .ref C :: ovTail) (hh : cd.hasDict = true) (ha : findIn K (.ref C) name = some none)
    (hq : ∀ h' tk' dx, (∀ b o, b ≠ x → hp.get? b = some o → h'.get? b = some o) → hp.objs.size ≤ dx → dx ≠ x → h'.get? x = some { cls := .ref C, dict := some dx, data := .fields fv } →
      h'.Ns1 dx (fun y => if y = name then some v else none) → R (.ok (.ret .none)) ⟨h', g, d, tk', os⟩) :
    codeAny (model prog w) A (.call (.builtin "object.__setattr__") ⟨[.ref x, .str name tk, v], []⟩) R ⟨hp, g, d, t, os⟩ := by
  have I : InstAt hp x { cls := .ref C, data := .fields fv } C none := ⟨hx, rfl, rfl, trivial⟩
  have SF := F.store_object
  have hxs : x ≠ hp.objs.size := Nat.ne_of_lt (Heap.lt_size hx)
  have hasO : mroIn K C (.type "object") = some true := by
    unfold mroIn
    rw [hcd, Option.bind_some, hm, if_neg (show ¬ (List.isEmpty (Value.ref C :: ovTail) = true) from Bool.false_ne_true), List.contains_cons, show (ovTail.contains (Value.type "object")) = true by decide +kernel, Bool.or_true]
  have sub : Looks (model prog w) hp (isInstance (.ref x) (.type "object")) true := I.type.andThen (looks_mroIn X hasO)
  refine codeAny_call_builtin SF.slot.plain SF.entry (@check_slot (model prog w) _ _ ⟨hp, g, d, t, os⟩ "object.__setattr__" "object" "__setattr__" (.ref x) [.str name tk, v] [] _ SF.kind SF.split sub (SF.args (.ref x) (.str name tk) v) ?_)
  have hmr : Looks (model prog w) hp (mroOf (.ref C)) cd.mro := (looks_clsIn X hcd).andThen .now
  have L3 : Looks (model prog w) hp (storeTaker? none) none := .now
  have hcls : Looks (model prog w) hp (classData C) cd := looks_clsIn X hcd
  have pass : refuseLoop (.ref x) "__setattr__" cd.mro = pure () := by
    rw [hm, refuseLoop_ref]
    exact F.store_OverflowError.passes _
  rw [osa_eq, refuse_eq]
  refine wpAny_bind (wpAny_bind (I.type.at (wpAny_bind (hmr.at ?_))))
  rw [pass]
  refine wpAny_pure (wpAny_bind (I.type.at (wpAny_bind ((looks_findIn X ha).at (wpAny_bind (L3.at ?_))))))
  show wpAny _ _ (storeInOwnDict (.ref x) (.ref C) (.str name tk) name v false) _ _ _
  obtain ⟨nm, bs, mro, ns, qn, hd, sn, sb, ab, col, del⟩ := cd
  dsimp only at hh
  subst hh
  unfold storeInOwnDict ownDictForStores
  repeat (first | with_reducible refine store_in_new ?_ ?_ | with_reducible refine wpAny_loadPart_at hx ?_ | with_reducible refine hcls.at ?_ | wp_step)
  · exact ⟨_, #[], _, (Heap.get?_update_ne _ _ _ _ hxs.symm).trans (Heap.get?_push_at rfl rfl), rfl, fun e he => absurd he (by simp), fun _ => rfl⟩
  · intro h' tk' hn' hs
    have hx1 := Heap.get?_push_of_some ({ cls := .type "dict", data := .dict #[] } : Obj) hx
    refine hq h' tk' hp.objs.size (fun b o hb ho => ?_) (Nat.le_refl _) hxs.symm ((hs.2 x hxs).trans (Heap.get?_update_self _ hx1 rfl)) hn'
    exact (hs.2 b (Nat.ne_of_lt (Heap.lt_size ho))).trans ((Heap.get?_update_ne _ _ _ _ hb).trans (Heap.get?_push_of_some _ ho))
end
-- the call of OverflowError.__init__, bound to e
section
variable {prog : Program} {w : World} {A : Around} {E : Value → Shared → Prop} {h : Heap} {g : Array GenState} {d : Drawn} {t : Nat} {os : OsState}
variable {nm q : Str} {C N : Addr} {bs bm : List Value} {hdct : Bool} {sn : List Str} {sub : List Value} {ab : Bool} {col : Option Bool} {dd : Option Addr} {k0 k1 k2 k3 k5 : Option Value}
theorem call_up {u e t0 : Addr} {rest : List Value} {Q : Value → Shared → Prop}
    (hC : h.get? C = some (excClassObj nm q C N bs bm hdct sn sub ab col dd k0 k1 k2 k3 k5 "OverflowError.__new__")) (he : h.get? e = some (excO C t0)) (hu : h.get? u = some (kxs_mw "OverflowError.__init__" e)) (hrest : rest.length ≤ sizeLine)
    (hq : ∀ h' t1, (∀ b o, b ≠ e → h.get? b = some o → h'.get? b = some o) → h'.get? e = some (excO C t1) → Q .none ⟨h', g, d, t, os⟩) :
    wpAny (model prog w) A (call (.ref u) rest) Q E ⟨h, g, d, t, os⟩ := by
  have FB := F.excBase_OverflowError
  refine wpAny_call (codeAny_of_tree ?_)
  show wpAny _ A.in1 (callAny (.ref u) ⟨rest, []⟩) _ _ _
  simp only [callAny]
  refine wpAny_bind (wpAny_load hu ?_)
  simp only [kxs_mw, show (Value.type "method-wrapper" == Value.type "method" || Value.type "method-wrapper" == Value.type "builtin_function_or_method" || Value.type "method-wrapper" == Value.type "method-wrapper") = true by decide, if_true]
  refine KFB.if_so (by decide) ?_
  refine wpAny_bind (check_bound_init FB.toExcCallFacts hC he rfl ?_)
  refine wpAny_bind (wpAny_pure (wpAny_pure ?_))
  refine ⟨plainId_quiet FB.init.plain _, codeAny_builtin FB.initEntry ?_⟩
  exact exc_init_tree (cls := .ref C) (t0 := t0) (dv := none) (c2 := .none) (c3 := .none) (b4 := .bool false) he hrest fun h' k1 k2 k3 => hq h' _ k1 k2
end
section
variable {prog : Program} {w : World} {A : Around} {E : Value → Shared → Prop} {R : Result → Shared → Prop} {s : Shared} {K : Frag} {mg mb : Str → Option Value}
/-- what __init__ leaves of a fresh exception at x -/
structure TmEnd (h h' : Heap) (x C dx t1 : Addr) (v : Value) : Prop where
  keep : ∀ b o, b ≠ x → h.get? b = some o → h'.get? b = some o
  obj : h'.get? x = some { cls := .ref C, dict := some dx, data := .fields #[.ref t1, .none, .none, .none, .bool false, .none] }
  dbig : h.objs.size ≤ dx
  dne : dx ≠ x
  ns : h'.Ns1 dx (fun y => if y = "limit" then some v else none)
theorem tm_init (T : TmT prog K mg) {x t0 : Addr} {n : Int} {tk0 : Tok} (X : K.In s.heap) (hlim : s.heap.NoLimit) (hg : s.heap.Ns mainGlobals mg) (hb : s.heap.Ns builtinsNs mb) (hbb : mb "super" = some (.type "super")) (hx : s.heap.get? x = some (excO T.C t0)) (hnx : K.lookup x = none) (hn : n.natAbs.log2 < 1920) (hroom : A.depth < recursionLimit)
    (hsmall : (Str.ofString "more than " ++ (toString n : String)).length ≤ sizeLine)
    (hq : ∀ h' tk dx t1, TmEnd s.heap h' x T.C dx t1 (.int n tk0) → R (.ok (.ret .none)) { s with heap := h', toks := tk }) :
    codeAny (model prog w) A (.call (.ref T.fI) ⟨[.ref x, .int n tk0], []⟩) R s := by
  obtain ⟨oc, od, kV, doc, pm, an, ct, osl, ho⟩ := T.fn
  obtain ⟨nm, q, N, bs, sn, sub, ab, col, dd, k0, k1, k2, k3, k5, hC⟩ := T.cls
  obtain ⟨ccl, cdd, vs, ccs, file, tf, hcode, hvs, hfile⟩ := T.code
  obtain ⟨cl, cld, csl, hcell⟩ := T.cell
  have hcl : clsIn K T.C = some { name := nm, bases := bs, mro := .ref T.C :: ovTail, ns := N, qualname := q, hasDict := true, slotNames := sn, subclasses := sub, abstract := ab, collection := col, hasDel := false } := by
    unfold clsIn
    rw [hC] <;> rfl
  refine ks_codeAny_call_defAt (fd := ksFn "__init__" "TooMany.__init__" (defArgs s_tm) (defBody s_tm) (defScope s_tm) .none kV doc pm an (.ref T.cda) ct T.cc) (body := defBody s_tm) (binds := [("self", .ref x), ("limit", .int n tk0)])
    hroom (X _ _ ho) rfl hlim (codeRec_of X T.hcd) rfl (BindsTo.of_eq (by first | rfl | with_unfolding_all rfl)) (show ∀ y ∈ (defScope s_tm).names, y.2 ≠ .cell by decide +kernel) (fun y hy => ?_) (fun h1 hns hk1 => ?_) rfl rfl rfl
  · rcases List.mem_cons.mp hy with z | z
    · rw [z]; rfl
    · rw [List.mem_singleton.mp z]; rfl
  have X1 : K.In h1 := X.keeps hk1
  have hx1 := hk1 _ _ hx
  have hxC : x ≠ T.C := fun z => by
    rw [z, hC] at hnx
    cases hnx
  have hL : s.heap.objs.size ≠ x := Nat.ne_of_gt (Heap.lt_size hx)
  -- super()
  refine ks_wpAt_execs_cons (ks_wpAt_Expr_any (ks_wpAt_MethodCall ?_))
  refine ks_wpAt_super_base (f := T.fI) (cc := T.cda) (ar := { arg := "self", annotation := none, pos := ⟨31, 17, 31, 21⟩ }) rfl rfl (by decide) rfl (X1 _ _ ho) rfl rfl rfl (X1 _ _ hcode) rfl hvs hfile T.top ?_
  refine ks_loadName_global rfl rfl (loadGlobal_builtin (hg.keeps hk1) T.gS (hb.keeps hk1) hbb ⟨rfl, ?_⟩)
  refine wpAny_loadName_free rfl rfl rfl ⟨_, X1 _ _ hcell, rfl⟩ ?_
  refine wpAny_loadName_local rfl rfl hns (v := .ref x) rfl ?_
  refine ks_wpAny_isType_cls (X1 _ _ hC) rfl ⟨rfl, ?_⟩
  refine ks_wpAny_call_super (X1 _ _ hC) rfl hx1 rfl (fun c e => nomatch e) (looks_mroIn X1 T.ms) (fun h2 hso hk2 => ?_)
  have X2 : K.In h2 := X1.keeps hk2
  have hx2 := hk2 _ _ hx1
  have I2 : InstAt h2 x (excO T.C t0) T.C none := ⟨hx2, rfl, rfl, trivial⟩
  -- .__init__
  refine kxs_getMethod (i := "OverflowError.__init__") (l := ovTail) kxs_OverflowError hso (looks_opaque X2 T.op) (l₀ := .ref T.C :: ovTail) ?_ (ESX.drop_own T.C ovTail) X2 (by kernel_rfl) (I2.type.andThen (looks_subIn X2 T.sOv)) hxC (by decide) ?_
  · exact fun A Q E s k q => wpAny_bind ((looks_clsIn X2 hcl) A _ E s k (wpAny_pure q))
  have hu : (h2.push (kxs_mw "OverflowError.__init__" x)).get? h2.objs.size = some (kxs_mw "OverflowError.__init__" x) := Heap.get?_push_size _ rfl
  have hk3 : ∀ b o, h2.get? b = some o → (h2.push (kxs_mw "OverflowError.__init__" x)).get? b = some o := fun b o e => Heap.get?_push_of_some _ e
  generalize h2.push (kxs_mw "OverflowError.__init__" x) = h3 at hu hk3 ⊢
  have hns3 := (hns.keeps hk2).keeps hk3
  -- its argument
  refine kxs_callWith (i := "OverflowError.__init__") (x := x) rfl (evalArgs_plain ?_)
  refine Calls.spliced_cons ?_
  refine wpAny_JoinedStr (pos := ⟨32, 25, 32, 45⟩) ?_
  show wpAny _ _ (eval (.Constant (.str "more than ") 0 ⟨32, 27, 32, 37⟩) _) _ _ _
  refine wpAny_Constant_str ?_
  refine ⟨_, _, rfl, by decide +kernel, ?_⟩
  show wpAny _ _ (eval (.FormattedValue (.Name "limit" ⟨32, 38, 32, 43⟩) (-1) none ⟨32, 37, 32, 44⟩) _) _ _ _
  refine wpAny_FormattedValue_plain (ldc rfl rfl hns3 (v := .int n tk0) rfl ?_)
  refine wpAny_formatField_int hn ⟨_, _, rfl, hsmall, hsmall, ?_⟩
  refine Calls.spliced_nil ⟨hu, ?_⟩
  refine call_up ((X2.keeps hk3) _ _ hC) (hk3 _ _ hx2) hu (by show 1 ≤ sizeLine; decide) fun h4 t1 k4 hx4 => ?_
  have X4 : K.In h4 := fun b o e => k4 b o (fun z => by
    rw [z, hnx] at e
    cases e) ((X2.keeps hk3) _ _ e)
  have hns4 : h4.Ns s.heap.objs.size (fun y => ([("self", Value.ref x), ("limit", Value.int n tk0)] : List (Str × Value)).reverse.lookup y) := by
    obtain ⟨oL, es, ep, eL, r⟩ := hns3
    exact ⟨oL, es, ep, k4 _ _ hL eL, r⟩
  -- self.limit = limit
  show wpAt _ _ _ (execs _ _) _ _ _
  refine ks_wpAt_execs_cons (ks_wpAt_Assign_Attr (wpAt_of_wpAny ?_))
  refine ldc rfl rfl hns4 (v := .int n tk0) rfl (ldc rfl rfl hns4 (v := .ref x) rfl ?_)
  refine set_plain X4 (ox := excO T.C t1) (od := none) ⟨hx4, rfl, rfl, trivial⟩ T.sa ?_
  refine osa_ov X4 hx4 hcl rfl rfl T.noL (fun h5 tk5 dx k5 dn dne hx5 hns5 => ?_)
  show wpAt _ _ _ (execs _ _) _ _ _
  refine wpAt_of_wpAny (wpAny_execs_nil (hq h5 tk5 dx t1 ⟨fun b o hb e => k5 b o hb (k4 b o hb (hk3 b o (hk2 b o (hk1 b o e)))), hx5, ?_, dne, hns5⟩))
  have z : s.heap.objs.size < h4.objs.size := by
    obtain ⟨oL, es, ep, eL, r⟩ := hns4
    exact Heap.lt_size eL
  exact Nat.le_of_lt (Nat.lt_of_lt_of_le z dn)
/-- a made TooMany -/
structure TmMade (h h' : Heap) (e C d : Addr) (v : Value) : Prop where
  keep : ∀ b o, h.get? b = some o → h'.get? b = some o
  new : h.objs.size ≤ e
  obj : ∃ oe vs, h'.get? e = some oe ∧ oe.cls = .ref C ∧ oe.dict = some d ∧ oe.data = .fields vs ∧ vs[1]? = some .none
  dbig : h.objs.size ≤ d
  dne : d ≠ e
  ns : h'.Ns1 d (fun y => if y = "limit" then some v else none)
theorem tm_made (T : TmT prog K mg) {n : Int} {tk0 : Tok} (X : K.In s.heap) (hlim : s.heap.NoLimit) (hg : s.heap.Ns mainGlobals mg) (hb : s.heap.Ns builtinsNs mb) (hbb : mb "super" = some (.type "super")) (hn : n.natAbs.log2 < 1920) (hroom : A.depth + 1 < recursionLimit)
    (hsmall : (Str.ofString "more than " ++ (toString n : String)).length ≤ sizeLine)
    (hq : ∀ h' tk e d, TmMade s.heap h' e T.C d (.int n tk0) → R (.ok (.ret (.ref e))) { s with heap := h', toks := tk }) :
    codeAny (model prog w) A (.call (.ref T.C) ⟨[.int n tk0], []⟩) R s := by
  obtain ⟨nm, q, N, bs, sn, sub, ab, col, dd, k0, k1, k2, k3, k5, hC⟩ := T.cls
  obtain ⟨hp, g, dr, tk, os⟩ := s
  have k : ∀ b o, hp.get? b = some o → ((hp.push (kdv_tup [.int n tk0])).push (excO T.C hp.objs.size)).get? b = some o := fun b o e => Heap.get?_push_of_some _ (Heap.get?_push_of_some _ e)
  have hget : ((hp.push (kdv_tup [.int n tk0])).push (excO T.C hp.objs.size)).get? (hp.objs.size + 1) = some (excO T.C hp.objs.size) := by heap_get
  have hnx : K.lookup (hp.objs.size + 1) = none := by
    cases e : K.lookup (hp.objs.size + 1) with
    | none => rfl
    | some o => exact absurd (Nat.lt_of_succ_lt (Heap.lt_size (show hp.get? (hp.objs.size + 1) = some o from X _ _ e))) (Nat.lt_irrefl _)
  refine call_own F.excBase_OverflowError (fun Y => rfl) (X _ _ hC) (looks_findIn X T.iC) (fun self => bind_fn X self T.tC) (by show 1 ≤ sizeLine; decide) ?_
  refine tm_init (s := ⟨(hp.push (kdv_tup [.int n tk0])).push (excO T.C hp.objs.size), g, dr, tk, os⟩) T (X.keeps k) (hlim.keeps k) (hg.keeps k) (hb.keeps k) hbb hget hnx hn ?_ hsmall fun h' tk' dx t1 ⟨k', hx, dn, dne, hns⟩ => ?_
  · show A.depth + 1 < recursionLimit
    exact hroom
  · have old : ∀ b o, hp.get? b = some o → h'.get? b = some o := fun b o e => k' b o (Nat.ne_of_lt (Nat.lt_succ_of_lt (Heap.lt_size e))) (k b o e)
    have z : hp.objs.size + 1 + 1 ≤ dx := by
      have z2 := dn
      rw [Heap.size_push, Heap.size_push] at z2
      exact z2
    exact ⟨rfl, hq h' tk' (hp.objs.size + 1) dx ⟨old, Nat.le_succ _, ⟨_, _, hx, rfl, rfl, rfl, rfl⟩, Nat.le_trans (Nat.le_trans (Nat.le_succ _) (Nat.le_succ _)) z, dne, hns⟩⟩
end
end TMX
end PySem
set_option Elab.async false
set_option linter.all false
set_option maxRecDepth 100000
set_option maxHeartbeats 400000
/-! raise TooMany(n); require_short .. _law_paper -/
namespace K9
open PySem PySem.Spec PyProof.Rows L2 StX ClX LamX
open KM (ent Graphical)
theorem relO_one {v : V} {v' : Value} (r : RelV v v') (f : Str) : RelO (List.lookup f [(("limit" : Str), v)]) (if f = "limit" then some v' else none) := by
  by_cases hw : f = "limit"
  · subst hw
    rw [if_pos rfl, show List.lookup ("limit" : Str) [(("limit" : Str), v)] = some v by simp [List.lookup]]
    exact r
  · have qw : (f == ("limit" : Str)) = false := by simpa using hw
    rw [if_neg hw, show List.lookup f [(("limit" : Str), v)] = none by simp [List.lookup, qw]]
    trivial
def tMkTm (C : Addr) (ta : TA) : L2.St → Hp → XK → Prop := fun σ H Q => ta σ H fun vs H1 => vs = [.int 16] ∧ ∀ d, H1 d = none → Q (.ref C) (some d) (upd H1 d (.xd [(("limit" : Str), .int 16)]))
theorem pmk_tm {X : Cx} {a : Expr} {ta : TA} {p pos : Pos} {k : Nat} (T : PySem.TMX.TmT X.prog X.K X.mg) (hr : Room k X.A) (ha : PA X [a] ta) (hg : Gl X "TooMany" := by rfl)
    (he : starEach (a :: []) X.env = (false, eval a X.env) :: starEach [] X.env := by rfl) (hpl : (backTo pos (starEach [] X.env)).any (·.1) = false := by rfl) : PMk X (.Call (.Name "TooMany" p) [a] [] pos) (tMkTm T.C ta) := by
  intro pins s σ H Q I h
  refine wpAny_Call_Name_kw (ld_glob I hg T.gC ?_)
  refine PySem.W.callWith_K (h₀ := X.base) I.ok.mod.kin T.kC (thn (ha.run pos pins s σ H _ I h) fun us s1 hh => ?_) he hpl
  obtain ⟨vs, H1, I1, r1, rfl, q1⟩ := hh
  refine ⟨I1.kIn, ?_⟩
  obtain ⟨v', rfl, tk0, rfl⟩ := vals1 r1
  show wpAny _ _ (call (.ref T.C) [.int 16 tk0]) _ _ _
  obtain ⟨mb, hb, hbb⟩ := I1.mod.blt
  have hgl := I1.mod.glob.keeps I1.bk
  have hbl := hb.keeps I1.bk
  have hlim := I1.nolimit
  obtain ⟨hp, g, dr, tk, os⟩ := s1
  refine wpAny_call (PySem.TMX.tm_made T I1.kIn hlim hgl hbl ((hbb _ (by decide +kernel)).trans (by decide +kernel)) (by decide +kernel) (by have := hr.dp; omega) (by decide +kernel) fun h' tk' e d M => ?_)
  show MkP X pins σ Q (.ref e) ⟨h', g, dr, tk', os⟩
  obtain ⟨oe, fv, hoe, hc, hd, hdat, h1⟩ := M.obj
  obtain ⟨G', g1, g2⟩ := restrict h' fun b => decide (b ≠ e)
  have gk : ∀ b, b ≠ e → G'.get? b = h'.get? b := fun b hb => g1 b (decide_eq_true hb)
  have ge : G'.get? e = none := g2 e (by simp)
  have old : ∀ b o, hp.get? b = some o → G'.get? b = some o := fun b o q => (gk b (Nat.ne_of_lt (Nat.lt_of_lt_of_le (Heap.lt_size q) M.new))).trans (M.keep b o q)
  have ob : ObjOk X.prog X.w (upd H1 d (.xd [(("limit" : Str), .int 16)])) G' d (.xd [(("limit" : Str), .int 16)]) := ⟨_, M.ns.at (fun o q => (gk d M.dne).trans q), fun f => relO_one (v := .int 16) ⟨tk0, rfl⟩ f⟩
  have J : Inv X pins σ (upd H1 d (.xd [(("limit" : Str), .int 16)])) ⟨G', g, dr, tk', os⟩ := I1.laid (t' := tk') old M.dbig ob
  refine ⟨e, oe, fv, ⟨G', g, dr, tk', os⟩, _, .ref T.C, some d, rfl, J, fun b o q => ?_, ge, hoe, ⟨hc, hd⟩, hdat, h1, ?_, rfl, I1.bare, raises_own T.xf.exC T.tyC, q1 d (I1.hok.fresh M.dbig)⟩
  · by_cases hb : b = e
    · have q' : G'.get? b = some o := q
      rw [hb, ge] at q'
      cases q'
    · exact (gk b hb).symm.trans q
  · rw [upd_ne (Ne.symm M.dne)]
    exact I1.hok.fresh M.new
def spShort (K : PySem.W.Frag) (C : Addr) : Sp := fun vs H Q E => ∃ (x : V) (ds : List Int), vs = [x] ∧ Row K H x ds ∧ (ds.length ≤ 16 → Q .non H) ∧ (16 < ds.length → ∀ d, H d = none → E (.ref C) (some d) (upd H d (.xd [(("limit" : Str), .int 16)])))
/-- what web_paper's tuple at q tells -/
inductive Paper (C : Addr) (ds : List Int) (H : Hp) (q : Addr) : Prop
  | bar (t : Addr) (ps : List Nat) (m : Int) (s : Nat) (b : Best ds m s) (h0 : 0 < m) (hq : H q = some (.tup [.str "bar", .ref t])) (ht : H t = some (.tup ((ofNats ps).map V.int))) (pm : ps.Perm ((ordOf ds ds.length).take s)) (pw : ps.Pairwise (· < ·))
  | odd (s : Nat) (b : Best ds 0 s) (h1 : ds.sum % 2 = 1) (hq : H q = some (.tup [.str "odd", .int ds.sum]))
  | made (s : Nat) (t : Addr) (ks : List (Int × Int)) (b : Best ds 0 s) (h1 : ds.sum % 2 = 0) (few : ds.length ≤ 16) (hq : H q = some (.tup [.str "made", .ref t])) (wa : WebAt C H t ds.length ks) (hc : ∀ j : Nat, j < ds.length → ((cnt ks (j : Int) : Nat) : Int) = ent ds j)
  | many (s : Nat) (b : Best ds 0 s) (h1 : ds.sum % 2 = 0) (lots : 16 < ds.length) (hq : H q = some (.tup [.str "many", .int 16]))
def spPaper (K : PySem.W.Frag) (C CT P0 : Addr) : Sp := fun vs H Q E => ∃ (x : V) (ds : List Int), vs = [x] ∧ Row K H x ds ∧ Good ds ∧ Tabs (LT P0) H ∧ (∀ H' q, Kp P0 H H' → Paper C ds H' q → Q (.ref q) H') ∧
  (∀ s H' d, Best ds 0 s → ds.sum % 2 = 0 → 16 < ds.length → Kp P0 H H' → H' d = none → E (.ref CT) (some d) (upd H' d (.xd [(("limit" : Str), .int 16)])))
def spLawPaper (K : PySem.W.Frag) (C P0 : Addr) : Sp := fun vs H Q _ => ∃ (x : V) (ds : List Int), vs = [x] ∧ Row K H x ds ∧ Good ds ∧ Tabs (LT P0) H ∧ (∀ H' q, Kp P0 H H' → Paper C ds H' q → Q (.ref q) H')
def spWebOf (K : PySem.W.Frag) (C P0 : Addr) : Sp := fun vs H Q _ => ∃ (x : V) (ds : List Int) (s : Nat), vs = [x] ∧ Row K H x ds ∧ Good ds ∧ ds.length ≤ 16 ∧ ds.sum % 2 = 0 ∧ Best ds 0 s ∧ Tabs (LT P0) H ∧
  ∀ H' q (ks : List (Int × Int)), Kp P0 H H' → WebAt C H' q ds.length ks → (∀ j : Nat, j < ds.length → ((cnt ks (j : Int) : Nat) : Int) = ent ds j) → Q (.ref q) H'
section
variable {P : Program} {w : World} {K : PySem.W.Frag} {mg : Str → Option Value} {base : Heap}
theorem ok_short (T : Txt K mg) (TM : PySem.TMX.TmT P K mg) : FnOk P w K mg base (L2.CX P w) 1 T.d_require_short.f T.d_require_short.fd ["degrees"] (spShort K TM.C) := by
  refine T.d_require_short.F.okX c_require_short (fun vs H Q E h => ?_) (fun cdv A outer s H vs Q E hr h => ?_)
  · obtain ⟨x, ds, rfl, _⟩ := h
    rfl
  · obtain ⟨x, ds, rfl, ⟨t, rfl, ht⟩, k1, k2⟩ := h
    obtain ⟨tm, hm⟩ := T.g_MAX_PLACES
    refine ⟨_, pss_one (ps_if (pt_cmpR op_gt (pe_callB call_len_seq rfl T.n_len PySem.boot_len (pa_cons (pv 0) pa_nil)) (pe_glob (v := .int 16) rfl hm ⟨_, rfl⟩) (nomark _))
      (pss_one (ps_raise rfl (takes_of rfl rfl rfl rfl) (pmk_tm TM hr (pa_cons (pe_glob (v := .int 16) rfl hm ⟨_, rfl⟩) pa_nil)))) pss_nil), ?_⟩
    have l1 : (ds.map V.int).length = ds.length := List.length_map _
    refine ⟨_, rfl, t, _, rfl, .inr ht, _, _, rfl, rfl, _, rfl, ?_⟩
    rw [l1]
    refine ite2 (fun c => ?_) (fun c => ?_)
    · have c := of_decide_eq_true c
      exact ⟨rfl, fun d hd => k2 (by omega) d hd⟩
    · have c : ¬ (16 : Int) < _ := fun z => c (decide_eq_true z)
      exact k1 (by omega)
theorem web_gr {ds : List Int} {s : Nat} (g : Good ds) (b : Best ds 0 s) (hev : ds.sum % 2 = 0) : Graphical ds.length (ent ds) := by
  obtain ⟨es, h1, h2⟩ := b.ex
  exact KM.possible (fun x hx => (g.ent x hx).1) (ordOf_ord ds) h1 h2 hev
theorem nats_of_perm {zs : List Int} {l : List Nat} (pm : zs.Perm (ofNats l)) : zs = ofNats (zs.map Int.toNat) ∧ (zs.map Int.toNat).Perm l := by
  refine ⟨?_, ?_⟩
  · rw [ofNats, List.map_map]
    refine (List.map_id zs).symm.trans (List.map_congr_left fun z hz => ?_)
    obtain ⟨j, _, rfl⟩ := List.mem_map.mp (pm.mem_iff.mp hz)
    rfl
  · have z := pm.map Int.toNat
    rw [ofNats, List.map_map] at z
    exact z.trans (List.Perm.of_eq ((List.map_congr_left fun j _ => rfl).trans (List.map_id _)))
theorem cut_to (xs : List V) (k : Nat) : cutV xs none (some (k : Int)) = xs.take k := by
  unfold cutV
  rw [HT.sIx_none, HT.sIx_nat, List.drop_zero, Nat.sub_zero]
  rcases Nat.le_total k xs.length with c | c
  · rw [Nat.min_eq_left c]
  · rw [Nat.min_eq_right c, List.take_of_length_le c, List.take_of_length_le (Nat.le_refl _)]
theorem ok_webof (T : Txt K mg) (Wt : WebT K mg) (O : HoT K mg T) (TM : PySem.TMX.TmT P K mg) (TB : TabB base mg O.c O.P0) : FnOk P w K mg base CX0 9 T.d_web_of.f T.d_web_of.fd ["degrees"] (spWebOf K Wt.C O.P0) := by
  refine T.d_web_of.F.ok c_web_of (fun vs H Q E h => ?_) (fun cdv A outer s H vs Q E hr h => ?_)
  · obtain ⟨x, ds, s, rfl, _⟩ := h
    rfl
  · obtain ⟨x, ds, s0, rfl, hx, g, h16, hev, hb, hT, k⟩ := h
    refine ⟨_, pss_cons (ps_expr (pe_def T.d_require_row (ok_reqrow T) (hr.mono (by decide)) rfl (pa_cons (pv 0) pa_nil)))
      (pss_cons (ps_expr (pe_def T.d_require_web_row (ok_reqweb T) (hr.mono (by decide)) rfl (pa_cons (pv 0) pa_nil)))
      (pss_cons (ps_expr (pe_call (ok_short T TM) (hr.mono (by decide)) rfl T.d_require_short.g T.d_require_short.F.kp T.d_require_short.b .nil passL (pa_cons (pv 0) pa_nil)))
      (pss_one (ps_ret (pe_def T.d_made_web (ok_made T Wt O TB) hr rfl (pa_cons (pv 0) pa_nil)))))), ?_⟩
    refine ⟨_, rfl, x, ds, rfl, hx, g, fun H1 e1 => ?_⟩
    refine ⟨_, rfl, x, ds, s0, rfl, hx.same e1, g, hev, hb, fun H2 e2 => ?_⟩
    have e12 := Same.trans e1 e2
    refine ⟨_, rfl, x, ds, rfl, hx.same e12, fun _ => ?_, fun z => absurd z (by omega)⟩
    exact ⟨_, rfl, x, ds, rfl, hx.same e12, g.one, h16, web_gr g hb hev, hT.ext e12, fun H3 q ks kp wa hc => k H3 q ks (Kp.pre e12 kp) wa hc⟩
theorem ok_paper (T : Txt K mg) (Wt : WebT K mg) (O : HoT K mg T) (TM : PySem.TMX.TmT P K mg) (TB : TabB base mg O.c O.P0) : FnOk P w K mg base (L2.CX P w) 9 T.d_web_paper.f T.d_web_paper.fd ["degrees"] (spPaper K Wt.C TM.C O.P0) := by
  refine T.d_web_paper.F.okX c_web_paper (fun vs H Q E h => ?_) (fun cdv A outer s H vs Q E hr h => ?_)
  · obtain ⟨x, ds, rfl, _⟩ := h
    rfl
  · obtain ⟨x, ds, rfl, hx, g, hT, k, kE⟩ := h
    have nd := c_web_paper.nd
    obtain ⟨t1, hm1⟩ := T.g_BAR
    obtain ⟨t2, hm2⟩ := T.g_ODD
    obtain ⟨t3, hm3⟩ := T.g_MADE
    refine ⟨_, pss_cons (ps_expr (pe_def T.d_require_row (ok_reqrow T) (hr.mono (by decide)) rfl (pa_cons (pv 0) pa_nil)))
      (pss_cons (ps_asg (pe_def T.d_heaviest (ok_heaviest T) (hr.mono (by decide)) rfl (pa_cons (pv 0) pa_nil)) (pg_tup (n := 2) rfl (pgs_cons (pg_name (i := 1) nd rfl (Or.inl rfl)) (pgs_cons (pg_name (i := 2) nd rfl (Or.inl rfl)) pgs_nil))))
      (pss_cons (ps_if (pt_cmpR op_gt (pv 1) pe_int (nomark _)) (pss_one (ps_ret (pe_tup (pa_cons (pe_glob (v := .str "bar") rfl hm1 ⟨_, rfl⟩) (pa_cons (pe_callTy call_tuple_of rfl T.n_tuple PyProof.Rows.boot_tuple (pa_cons
          (pe_callB cr_sortedI rfl T.n_sorted PyProof.Rows.boot_sorted (pa_cons (pe_slice sl_list (pe_def T.d_heaviest_order (ok_order T O TB) (hr.mono (by decide)) rfl (pa_cons (pv 0) pa_nil)) po_none (po_some (pv 2))) pa_nil)) pa_nil)) pa_nil))))) pss_nil)
      (pss_cons (ps_if (pt_cmpR op_eq (pe_op op_mod (pe_callB (cr_sumT rfl) rfl T.n_sum PyProof.Rows.boot_sum (pa_cons (pv 0) pa_nil)) pe_int) pe_int (nomark _))
          (pss_one (ps_ret (pe_tup (pa_cons (pe_glob (v := .str "odd") rfl hm2 ⟨_, rfl⟩) (pa_cons (pe_callB (cr_sumT rfl) rfl T.n_sum PyProof.Rows.boot_sum (pa_cons (pv 0) pa_nil)) pa_nil))))) pss_nil)
      (pss_cons (ps_expr (pe_callS (ok_short T TM) (hr.mono (by decide)) rfl T.d_require_short.g T.d_require_short.F.kp T.d_require_short.b (fun σ => passAt (takes_of rfl rfl rfl rfl) σ) (pa_cons (pv 0) pa_nil)))
      (pss_one (ps_ret (pe_tup (pa_cons (pe_glob (v := .str "made") rfl hm3 ⟨_, rfl⟩) (pa_cons (pe_def T.d_made_web (ok_made T Wt O TB) hr rfl (pa_cons (pv 0) pa_nil)) pa_nil))))))))), ?_⟩
    refine ⟨_, rfl, x, ds, rfl, hx, g, fun H1 e1 => ?_⟩
    refine ⟨_, rfl, x, ds, rfl, hx.same e1, g, fun m sz H2 q hb e2 hq => ?_⟩
    have e12 := Same.trans e1 e2
    have hx2 := hx.same e12
    have hT2 := hT.ext e12
    obtain ⟨t, ex, ht⟩ := id hx2
    subst ex
    refine ⟨q, _, rfl, SqT.of hq, rfl, _, _, rfl, _, _, rfl, rfl, ?_⟩
    refine ⟨_, rfl, _, _, rfl, rfl, _, rfl, ?_⟩
    refine ite2 (fun c => ?_) (fun c => ?_)
    · have c := of_decide_eq_true c
      refine ⟨.ref t, rfl, .ref t, ds, rfl, hx2, g.few, hT2, fun H3 p kp hp => ?_⟩
      refine ⟨_, rfl, (sz : Int), rfl, p, _, rfl, SqL.of hp, fun q2 hq2 => ?_⟩
      rw [cut_to, ← List.map_take, map_nv]
      refine ⟨q2, _, rfl, SqL.of upd_same, fun zs r pm pw hr2 => ?_⟩
      obtain ⟨ez, pp⟩ := nats_of_perm pm
      generalize zs.map Int.toNat = ps at ez pp
      subst ez
      have pl : ps.Pairwise (· < ·) := by
        have nd2 : ps.Nodup := pp.nodup_iff.mpr ((ordOf_ord ds).nodup.sublist (List.take_sublist _ _))
        rw [List.pairwise_map] at pw
        refine (pw.and nd2).imp fun {a b} h => ?_
        have h1 : (a : Int) ≤ (b : Int) := h.1
        have h2 : a ≠ b := h.2
        omega
      refine ⟨r, _, rfl, .inl ⟨SqL.of upd_same, fun u hu => ⟨by show 2 ≤ sizeLine; decide, fun v hv => ?_⟩⟩⟩
      exact k _ v (((Kp.pre e12 kp).more (same_upd (same_new hq2) hr2)).more (same_upd (same_new hu) hv)) (.bar u ps m sz hb c upd_same ((upd_ne (ne_of_none upd_same hv)).trans upd_same) pp pl)
    · have c : ¬ (0 : Int) < m := fun z => c (decide_eq_true z)
      have m0 : m = 0 := by
        obtain ⟨es, _, h2⟩ := hb.ex
        have := h2.nn
        omega
      subst m0
      refine ⟨_, rfl, t, ds, rfl, ht, _, _, rfl, rfl, (by show (0 : Int) < 2; decide), rfl, _, rfl, ?_⟩
      by_cases h0 : ds.sum % 2 = 1
      · have e0 : decide (V.int (ds.sum % 2) = V.int 1) = true := decide_eq_true (by rw [h0])
        refine Eq.mpr (congrArg (fun b => if b = true then _ else _) e0) (iteT ?_)
        refine ⟨_, rfl, t, ds, rfl, ht, by show 2 ≤ sizeLine; decide, fun v hv => ?_⟩
        exact k _ v (Kp.same hT (Same.trans e12 (same_new hv))) (.odd sz hb h0 upd_same)
      · have e0 : decide (V.int (ds.sum % 2) = V.int 1) = false := decide_eq_false (fun z => h0 (by injection z))
        have hev : ds.sum % 2 = 0 := by omega
        refine Eq.mpr (congrArg (fun b => if b = true then _ else _) e0) (iteF ?_)
        refine ⟨_, rfl, .ref t, ds, rfl, hx2, fun h16 => ?_, fun h16 d hd => kE sz H2 d hb hev h16 (Kp.same hT e12) hd⟩
        refine ⟨_, rfl, .ref t, ds, rfl, hx2, g.one, h16, web_gr g hb hev, hT2, fun H3 u ks kp wa hc => ⟨by show 2 ≤ sizeLine; decide, fun v hv => ?_⟩⟩
        exact k _ v ((Kp.pre e12 kp).more (same_new hv)) (.made sz u ks hb hev h16 upd_same (wa.same (same_new hv)) hc)
theorem ok_lawpaper (T : Txt K mg) (Wt : WebT K mg) (O : HoT K mg T) (TM : PySem.TMX.TmT P K mg) (TB : TabB base mg O.c O.P0) : FnOk P w K mg base CX0 10 T.d_law_paper.f T.d_law_paper.fd ["_law_row"] (spLawPaper K Wt.C O.P0) := by
  refine T.d_law_paper.F.ok c_law_paper (fun vs H Q E h => ?_) (fun cdv A outer s H vs Q E hr h => ?_)
  · obtain ⟨x, ds, rfl, _⟩ := h
    rfl
  · obtain ⟨x, ds, rfl, hx, g, hT, k⟩ := h
    have nd := c_law_paper.nd
    refine ⟨_, pss_one (ps_try_as (i := 1) (tb := fun W => tRet (tCallS (spPaper K Wt.C TM.C O.P0) (WE W) (tCons (tVar 0) tNil))) (ts := fun a cls d => tRet (tTup (tCons (tC (.str "many")) (tCons (tXf a cls d TM.C "limit" (tVar 1)) tNil)))) (Wout := fun _ _ _ _ => False) rfl rfl nd rfl rfl ⟨rfl, by decide, Or.inl TM.gC⟩ L2.takes0
      (fun W pn xe tk _ => pss_one (ps_ret (by exact (pe_callS (ok_paper T Wt O TM TB) hr rfl T.d_web_paper.g T.d_web_paper.F.kp T.d_web_paper.b (fun σ => passAt tk σ) (by exact (pa_cons (pv 0) pa_nil))))))
      (fun a oe cls d pn hz hf => pss_one (ps_ret (by exact (pe_tup (pa_cons pe_str (pa_cons (pe_xf TM.xf TM.noL hz hf (pv 1)) pa_nil))))))), ?_⟩
    refine ⟨_, rfl, x, ds, rfl, hx, g, hT, fun H1 q kp pp => k H1 q kp pp, fun sz H1 d hb hev h16 kp hd => ?_⟩
    refine ⟨true, TM.te, fun _ a0 _ => ?_, fun z => nomatch z⟩
    refine ⟨_, rfl, rfl, rfl, d, _, _, rfl, upd_same, rfl, by show 2 ≤ sizeLine; decide, fun v hv => ?_⟩
    exact k _ v (kp.more (same_upd (same_new hd) hv)) (.many sz hb hev h16 upd_same)
end
end K9
set_option Elab.async false
set_option linter.all false
set_option maxRecDepth 100000
set_option maxHeartbeats 400000
/-! _law_lack, _law_greatest, _law_is_possible -/
namespace K9
open PySem PySem.Spec PyProof.Rows L2
open KM (Falls Heavy HeavyTo gap lackL ent mn S)
theorem heavy_ex (es : List Int) : ∃ m s, Heavy es m s := by
  have h : ∀ i, ∃ m s, HeavyTo es i m s := fun i => by
    induction i with
    | zero => exact ⟨0, 0, HeavyTo.zero es⟩
    | succ i ih =>
      obtain ⟨m, s, h⟩ := ih
      by_cases c : m < gap es (i + 1)
      · exact ⟨_, _, h.up c⟩
      · exact ⟨_, _, h.stay c⟩
  obtain ⟨m, s, h⟩ := h es.length
  exact ⟨m, s, h.all⟩
def spLawLack (K : PySem.W.Frag) : Sp := fun vs H Q _ => ∃ (x y : V) (ds : List Int) (ps : List Nat), vs = [x, y] ∧ Row K H x ds ∧ Row K H y (ofNats ps) ∧ Good ds ∧ ps.length ≤ 64 ∧ ps.Nodup ∧ (∀ i ∈ ps, i < ds.length) ∧ ∀ H', Same H H' → Q (.int (lackL ds ps)) H'
section
variable {P : Program} {w : World} {K : PySem.W.Frag} {mg : Str → Option Value} {base : Heap}
theorem ok_lawlack (T : Txt K mg) : FnOk P w K mg base CX0 1 T.d_law_lack.f T.d_law_lack.fd ["_law_degrees_here", "_law_some"] (spLawLack K) := by
  refine T.d_law_lack.F.ok c_law_lack (fun vs H Q E h => ?_) (fun cdv A outer s H vs Q E hr h => ?_)
  · obtain ⟨x, y, ds, ps, rfl, _⟩ := h
    rfl
  · obtain ⟨x, y, ds, ps, rfl, ⟨t, rfl, ht⟩, ⟨u, rfl, hu⟩, g, h64, pn, hb, k⟩ := h
    have nd := c_law_lack.nd
    refine ⟨_, pss_cons (ps_par3 (i := 2) (j := 3) (l := 4) rfl nd rfl rfl rfl (by decide) (by decide) (by decide) rfl rfl rfl
        (pa_cons (pe_callB call_len_seq rfl T.n_len PySem.boot_len (pa_cons (pv 1) pa_nil)) (pa_cons pe_int (pa_cons pe_int pa_nil))) rfl)
      (pss_cons (ps_for PassesOwn.never rfl (pi_enumT rfl T.n_enumerate (pa_cons (pv 0) pa_nil)) (pg_tup rfl (pgs_cons (pg_name (i := 5) nd rfl (Or.inl rfl)) (pgs_cons (pg_name (i := 6) nd rfl (Or.inl rfl)) pgs_nil)))
        (pss_one (ps_if (pt_cmpR op_in_seq (pv 5) (pv 1) rfl) (pss_one (ps_set (i := 3) nd rfl (Or.inl rfl) (pe_op op_add (pv 3) (pv 6))))
          (pss_one (ps_set (i := 4) nd rfl (Or.inl rfl) (pe_op op_add (pv 4) (pe_callB (call_min2 rfl) rfl T.n_min PyProof.Rows.boot_min (pa_cons (pv 2) (pa_cons (pv 6) pa_nil)))))))))
      (pss_one (ps_ret (pe_op op_sub (pe_op op_sub (pv 3) (pe_op op_mul (pv 2) (pe_op op_sub (pv 2) pe_int))) (pv 4))))), ?_⟩
    have l1 : (ds.map V.int).length = ds.length := List.length_map _
    have l2 : ((ofNats ps).map V.int).length = ps.length := by rw [List.length_map, List.length_map]
    refine ⟨_, rfl, u, _, rfl, .inr hu, ?_⟩
    rw [l2]
    refine ⟨_, _, _, rfl, ?_⟩
    refine ⟨_, rfl, t, _, rfl, ht, for_it walk_enumT (fun i σ H' => Same H H' ∧ ∃ v5 v6 : Option V, σ = [some (.ref t), some (.ref u), some (.int (ps.length : Nat)), some (.int (S i fun j => if j ∈ ps then ent ds j else 0)), some (.int (S i fun j => if j ∈ ps then 0 else mn ps.length (ent ds j))), v5, v6])
      ⟨Same.refl H, none, none, rfl⟩ (fun i σ H' _ ⟨e, _⟩ => same_tup e ht) ?_ ?_⟩
    · rintro i y σ H2 H3 hi ⟨e, v5, v6, rfl⟩ ⟨T2, a, b, rfl, hT2, rfl, ha, hb2⟩
      obtain rfl := Option.some.inj ha
      obtain ⟨z, ez, rfl⟩ := ns_get hb2
      have ez2 := get_ent ez
      subst ez2
      have e3 := Same.trans e (same_new (o := .tup [.int ((i : Nat) : Int), .int (ent ds i)]) hT2)
      refine ⟨T2, _, rfl, SqT.of upd_same, rfl, _, _, rfl, _, _, rfl, rfl, ?_⟩
      refine ⟨_, rfl, _, rfl, u, _, rfl, .inr (same_tup e3 hu), rfl, flat_ints _, _, rfl, ?_⟩
      rw [show (if false = true then !inV (V.int ((i : Nat) : Int)) ((ofNats ps).map V.int) else inV (V.int ((i : Nat) : Int)) ((ofNats ps).map V.int)) = decide (i ∈ ps) by rw [if_neg Bool.false_ne_true, in_nats]]
      have s1 : ∀ f : Nat → Int, S (i + 1) f = S i f + f i := fun _ => rfl
      refine ite2 (fun c => ?_) (fun c => ?_)
      · have c := of_decide_eq_true c
        refine ⟨_, rfl, _, rfl, _, _, rfl, rfl, ?_⟩
        refine ⟨e3, some (.int (i : Nat)), some (.int (ent ds i)), ?_⟩
        rw [s1, s1, if_pos c, if_pos c, Int.add_zero]
        rfl
      · have c : ¬ i ∈ ps := fun z => c (decide_eq_true z)
        refine ⟨_, rfl, _, rfl, _, rfl, _, _, rfl, _, _, rfl, rfl, ?_⟩
        refine ⟨e3, some (.int (i : Nat)), some (.int (ent ds i)), ?_⟩
        rw [s1, s1, if_neg c, if_neg c, Int.add_zero]
        rfl
    · rintro σ H2 ⟨e, v5, v6, rfl⟩
      rw [l1]
      refine ⟨_, rfl, _, rfl, _, rfl, _, 1, rfl, rfl, _, _, rfl, rfl, .inl ⟨by omega, by omega⟩, _, _, rfl, rfl, _, rfl, _, _, rfl, rfl, ?_⟩
      have := k _ e
      unfold lackL at this
      rw [← KM.S_inside pn hb] at this
      exact this
theorem ok_lawgreat (T : Txt K mg) : FnOk P w K mg base CX0 1 T.d_law_greatest.f T.d_law_greatest.fd ["_law_degrees_here"] (spGreatest K) := by
  refine T.d_law_greatest.F.ok c_law_greatest (fun vs H Q E h => ?_) (fun cdv A outer s H vs Q E hr h => ?_)
  · obtain ⟨x, ds, rfl, _⟩ := h
    rfl
  · obtain ⟨x, ds, rfl, ⟨t, rfl, ht⟩, g, k⟩ := h
    have nd := c_law_greatest.nd
    refine ⟨_, pss_cons (ps_par (i := 1) (j := 2) rfl nd rfl rfl (by decide) rfl rfl (pa_cons (pe_callBK cr_sortedDown rfl T.n_sorted PyProof.Rows.boot_sorted (pa_cons (pv 0) pa_nil) (pk_cons pe_bl pk_nil)) (pa_cons (pe_lst (pa_cons pe_int pa_nil)) pa_nil)) rfl)
      (pss_cons (ps_for PassesOwn.never rfl (pi_range2 rfl T.n_range (pa_cons pe_int (pa_cons (pe_op op_add (pe_callB call_len_seq rfl T.n_len PySem.boot_len (pa_cons (pv 1) pa_nil)) pe_int) pa_nil))) (pg_name (i := 3) nd rfl (Or.inr rfl))
        (pss_cons (ps_set (i := 4) nd rfl (Or.inl rfl) (pe_callB (cr_sum rfl) rfl T.n_sum PyProof.Rows.boot_sum (pa_cons
          (pe_lc (own := [("_law_entry", 5)]) (g := gName 5) (tt := tYes) rfl nd (pi_list (pe_slice sl_list (pv 1) (po_some (pv 3)) po_none)) (blkOk_by (N := ["_law_degrees_here", "_law_falling", "_law_found", "_law_size", "_law_others", "_law_entry"]) (sc := defScope s_law_greatest) (by decide +kernel))
            (fun _ _ _ _ _ => pg_name (i := 5) nd rfl (Or.inl rfl)) (fun _ _ _ _ _ => pts_nil) (fun _ _ _ _ _ => pe_callB (call_min2 rfl) rfl T.n_min PyProof.Rows.boot_min (pa_cons (pv 3) (pa_cons (pv 5) pa_nil)))) pa_nil)))
        (pss_one (ps_expr (pe_bm PySem.F.plainAttrs_list PySem.F.slot_list_append PySem.F.type_list_append mt_append (pv 2) (pa_cons
          (pe_op op_sub (pe_op op_sub (pe_callB (cr_sum rfl) rfl T.n_sum PyProof.Rows.boot_sum (pa_cons (pe_slice sl_list (pv 1) po_none (po_some (pv 3))) pa_nil)) (pe_op op_mul (pv 3) (pe_op op_sub (pv 3) pe_int))) (pv 4)) pa_nil))))))
      (pss_one (ps_ret (pe_callB (cr_max rfl) rfl T.n_max PyProof.Rows.boot_max (pa_cons (pv 2) pa_nil))))), ?_⟩
    refine ⟨_, rfl, t, ds, rfl, rfl, .inr ht, fun es f h1 h2 hf => ⟨by show 1 ≤ sizeLine; decide, fun l hl => ⟨_, _, rfl, ?_⟩⟩⟩
    have fa : Falls es ds := ⟨h1, h2⟩
    have hlen : es.length = ds.length := h1.length_eq
    have g64 := g.few
    have fl : f ≠ l := fun z => by
      rw [← z, upd_same] at hl
      cases hl
    have hl0 : H l = none := by
      rw [upd_ne fl.symm] at hl
      exact hl
    have l1 : (es.map V.int).length = es.length := List.length_map _
    have hf1 : upd (upd H f (.lst (es.map V.int))) l (.lst [.int 0]) f = some (.lst (es.map V.int)) := (upd_ne fl).trans upd_same
    refine ⟨_, rfl, f, _, rfl, .inl (SqL.of hf1), _, _, rfl, rfl, 1, _, rfl, ?_, ?_⟩
    · rw [l1]
      omega
    rw [l1, show ((es.length : Nat) : Int) + 1 - 1 = ((es.length : Nat) : Int) by omega, Int.toNat_natCast]
    refine for_it walk_range (fun i σ H' => Same H H' ∧ H' f = some (.lst (es.map V.int)) ∧ H' l = some (.lst ((KM.found es i).map V.int)) ∧ ∃ v3 v4 v5 : Option V, σ = [some (.ref t), some (.ref f), some (.ref l), v3, v4, v5])
      ⟨same_at (same_new hf) hl0, hf1, upd_same, none, none, none, rfl⟩ (fun _ _ _ _ _ => trivial) ?_ ?_
    · rintro i y σ H2 H3 hi ⟨e, hf2, hl2, v3, v4, v5, rfl⟩ ⟨eH, ey⟩
      have ey : y = V.int ((i + 1 : Nat) : Int) := ey.trans (by
        show V.int (1 + (i : Int)) = _
        rw [show (1 : Int) + (i : Int) = ((i + 1 : Nat) : Int) by omega])
      subst eH ey
      refine ⟨_, rfl, _, rfl, _, rfl, f, _, rfl, SqL.of hf2, fun p hp => ?_⟩
      rw [cut_from es (show i + 1 ≤ es.length from hi)]
      refine ⟨p, rfl, ⟨_, SqL.of upd_same⟩, fun D hD => ?_⟩
      have e1 : Same H3 (upd H3 p (.lst ((es.drop (i + 1)).map V.int))) := same_new hp
      refine lc_all walk_list (fun j v _ => ∃ u, ((es.drop (i + 1)).map (mn ((i + 1 : Nat) : Int)))[j]? = some u ∧ v = .int u) (by rw [List.length_map, List.length_drop]; omega) hD (fun H' e => SqL.of (e _ _ upd_same)) (fun i v _ _ z _ => z)
        (fun j x H4 H5 hj e y R hR => ?_) fun H4 acc e5 hl5 hn hv5 => ?_
      · obtain ⟨rfl, hy⟩ := y
        obtain ⟨u, eu, rfl⟩ := ns_get hy
        refine ⟨rfl, _, rfl, _, rfl, _, _, rfl, hR _ _ (Same.refl _) ⟨mn ((i + 1 : Nat) : Int) u, ?_, rfl⟩⟩
        rw [List.getElem?_map, eu]
        rfl
      · rw [List.length_map] at hn
        obtain rfl := acc_ints (by rw [List.length_map]; exact hn) hv5
        have e6 := Same.trans e1 e5
        refine ⟨D, _, rfl, SqL.of hl5, ?_⟩
        refine ⟨_, rfl, .inl ⟨rfl, _, SqL.of (e6 _ _ hl2)⟩, _, rfl, _, rfl, _, rfl, f, _, rfl, SqL.of (e6 _ _ hf2), fun p2 hp2 => ?_⟩
        rw [cut_to, ← List.map_take]
        have e7 := Same.trans e6 (same_new (o := .lst ((es.take (i + 1)).map V.int)) hp2)
        refine ⟨p2, _, rfl, SqL.of upd_same, _, rfl, _, rfl, _, 1, rfl, rfl, _, _, rfl, rfl, .inl ⟨by omega, by omega⟩, _, _, rfl, rfl, _, rfl, _, _, rfl, rfl, ?_⟩
        have gp : ((es.take (i + 1)).sum - ((i + 1 : Nat) : Int) * (((i + 1 : Nat) : Int) - 1) - ((es.drop (i + 1)).map (mn ((i + 1 : Nat) : Int))).sum) = gap es (i + 1) := rfl
        refine ⟨l, _, _, rfl, rfl, e7 _ _ hl2, small1000 (by rw [List.length_map]; unfold KM.found; rw [List.length_cons, List.length_map, List.length_range]; omega), ?_⟩
        have nfl : f ≠ l := fl
        refine ⟨same_at (Same.trans e e7) hl0, (upd_ne nfl).trans (e7 _ _ hf2), ?_, _, _, _, rfl⟩
        rw [KM.found_succ, List.map_append, ← gp]
        exact upd_same
    · rintro σ H2 ⟨e, hf2, hl2, v3, v4, v5, rfl⟩
      obtain ⟨m, sz, hv⟩ := heavy_ex es
      refine ⟨_, rfl, l, _, rfl, SqL.of hl2, by unfold KM.found; simp, fun z hz hy => ?_⟩
      have := hv.is_max hz hy
      subst this
      exact k z sz _ ⟨es, fa, hv⟩ e
theorem ok_lawposs (T : Txt K mg) : FnOk P w K mg base CX0 2 T.d_law_is_possible.f T.d_law_is_possible.fd ["_law_degrees_here"] (spWebRow K) := by
  refine T.d_law_is_possible.F.ok c_law_is_possible (fun vs H Q E h => ?_) (fun cdv A outer s H vs Q E hr h => ?_)
  · obtain ⟨x, ds, rfl, _⟩ := h
    rfl
  · obtain ⟨x, ds, rfl, hx, g, k⟩ := h
    refine ⟨_, pss_one (ps_ret (pe_and (pe_cmpR op_eq (pe_op op_mod (pe_callB (cr_sumT rfl) rfl T.n_sum PyProof.Rows.boot_sum (pa_cons (pv 0) pa_nil)) pe_int) pe_int (nomark _))
      (pe_one (pe_cmpR op_eq (pe_def T.d_law_greatest (ok_lawgreat T) hr rfl (pa_cons (pv 0) pa_nil)) pe_int (nomark _))))), ?_⟩
    obtain ⟨t, rfl, ht⟩ := id hx
    refine ⟨_, rfl, t, ds, rfl, ht, _, _, rfl, rfl, (by show (0 : Int) < 2; decide), rfl, _, rfl, ?_⟩
    by_cases h0 : ds.sum % 2 = 0
    · have e0 : decide (V.int (ds.sum % 2) = V.int 0) = true := decide_eq_true (by rw [h0])
      refine Eq.mpr (congrArg (fun b => if b = true then _ else _) e0) (iteT ?_)
      refine ⟨_, rfl, .ref t, ds, rfl, hx, g, fun m s H1 hb e => ⟨rfl, ?_⟩⟩
      refine k _ _ e fun m' s' hb' => ?_
      obtain rfl := hb.one hb'
      rw [decide_eq_true_iff]
      exact ⟨fun z => ⟨h0, by injection z⟩, fun z => by rw [z.2]⟩
    · have e0 : decide (V.int (ds.sum % 2) = V.int 0) = false := decide_eq_false (fun z => h0 (by injection z))
      refine Eq.mpr (congrArg (fun b => if b = true then _ else _) e0) (iteF ?_)
      exact k false _ (Same.refl _) fun m' s' hb' => ⟨fun z => (nomatch z), fun z => absurd z.1 h0⟩
end
end K9
set_option Elab.async false
set_option linter.all false
set_option maxRecDepth 100000
set_option maxHeartbeats 400000
/-! _law_vat, _law_dip, _law_pick -/
namespace K9
open PySem PySem.Spec PyProof.Rows L2 LamX
/-- a vat stands at a -/
def VatOk (H : Hp) (a : Addr) : Prop := ∃ g s c : Int, H a = some (.lst [.int g, .int s, .int c])
/-- all but the vat at a is kept -/
structure BV (a : Addr) (H H' : Hp) : Prop where
  keep : ∀ b o, b ≠ a → H b = some o → H' b = some o
  ok : VatOk H' a
theorem BV.trans {a : Addr} {H H1 H2 : Hp} (x : BV a H H1) (y : BV a H1 H2) : BV a H H2 := ⟨fun b o n e => y.keep b o n (x.keep b o n e), y.ok⟩
theorem VatOk.same {H H' : Hp} {a : Addr} (v : VatOk H a) (e : Same H H') : VatOk H' a := by
  obtain ⟨g, s, c, h⟩ := v
  exact ⟨g, s, c, e _ _ h⟩
theorem BV.of {a : Addr} {H H' : Hp} (v : VatOk H a) (e : Same H H') : BV a H H' := ⟨fun b o _ h => e b o h, v.same e⟩
theorem BV.more {a : Addr} {H H1 H2 : Hp} (x : BV a H H1) (e : Same H1 H2) : BV a H H2 := x.trans (BV.of x.ok e)
/-- another object than the vat is changed, which H lacks -/
theorem BV.at {a l : Addr} {H H1 : Hp} {o : HO} (x : BV a H H1) (h0 : H l = none) (n : a ≠ l) : BV a H (upd H1 l o) := by
  refine ⟨fun b u nb e => (upd_ne (ne_of_none e h0)).trans (x.keep b u nb e), ?_⟩
  obtain ⟨g, s, c, h⟩ := x.ok
  exact ⟨g, s, c, (upd_ne n).trans h⟩
theorem vat_ne {H : Hp} {a b : Addr} {o : HO} (v : VatOk H a) (h : H b = some o) (n : ∀ xs, o ≠ .lst xs) : b ≠ a := fun z => by
  obtain ⟨g, s, c, e⟩ := v
  rw [z, e] at h
  exact n _ (Option.some.inj h).symm
theorem bv_tup {K : PySem.W.Frag} {a b : Addr} {H H' : Hp} {xs : List V} (v : VatOk H a) (x : BV a H H') (h : SqT K H b xs) : SqT K H' b xs := by
  rcases h with (h | ⟨o, h⟩) | h
  · exact .inl (.inl (x.keep _ _ (vat_ne v h fun xs z => nomatch z) h))
  · exact .inl (.inr ⟨o, x.keep _ _ (vat_ne v h fun xs z => nomatch z) h⟩)
  · exact .inr h
theorem bv_tabs {a P0 : Addr} {H H' : Hp} (v : VatOk H a) (x : BV a H H') (t : Tabs (LT P0) H) : Tabs (LT P0) H' := fun p hp => by
  obtain ⟨ps, h1, h2, h3⟩ := t p hp
  refine ⟨ps, x.keep _ _ (vat_ne v h1 fun xs z => nomatch z) h1, h2, fun pos cv hc => ?_⟩
  obtain ⟨c, e1, e2⟩ := h3 pos cv hc
  exact ⟨c, e1, x.keep _ _ (vat_ne v e2 fun xs z => by unfold CodeO at z; cases z) e2⟩
def spVat (K : PySem.W.Frag) : Sp := fun vs H Q _ => ∃ (l : Addr) (ns : List Int) (i : Nat), vs = [.ref l, .int i] ∧ SqL K H l (ns.map V.int) ∧ ∀ H' a, Same H H' → H a = none → VatOk H' a → Q (.ref a) H'
def spDip : Sp := fun vs H Q _ => ∃ (a : Addr) (n : Int), vs = [.ref a, .int n] ∧ VatOk H a ∧ 0 < n ∧ n ≤ 1000 ∧ ∀ r H', 0 ≤ r → r < n → BV a H H' → Q (.int r) H'
def spPick : Sp := fun vs H Q _ => ∃ (a b : Addr) (ns : List Int), vs = [.ref a, .ref b] ∧ VatOk H a ∧ a ≠ b ∧ H b = some (.lst (ns.map V.int)) ∧ 1 ≤ ns.length ∧ ns.length ≤ 1000 ∧ ∀ z H', z ∈ ns → BV a H H' → Q (.int z) H'
theorem boot_abs9 : bootBuiltins "abs" = some (.builtin "abs") := by decide +kernel
theorem pow58 : CPowB 10 58 := by unfold CPowB; decide +kernel
theorem pow9 : CPowB ((10 : Int) ^ (58 : Int).toNat) 9 := by unfold CPowB; decide +kernel
theorem pow522 : (0 : Int) < ((10 : Int) ^ (58 : Int).toNat) ^ (9 : Int).toNat := by decide +kernel
theorem pow17 : CPowB 10 17 := by unfold CPowB; decide +kernel
section
variable {P : Program} {w : World} {K : PySem.W.Frag} {mg : Str → Option Value} {base : Heap}
theorem ok_vat (T : Txt K mg) : FnOk P w K mg base CX0 1 T.d_law_vat.f T.d_law_vat.fd ["_law_script", "_law_spot"] (spVat K) := by
  refine T.d_law_vat.F.ok c_law_vat (fun vs H Q E h => ?_) (fun cdv A outer s H vs Q E hr h => ?_)
  · obtain ⟨l, ns, i, rfl, _⟩ := h
    rfl
  · obtain ⟨l, ns, i, rfl, hl, k⟩ := h
    have nd := c_law_vat.nd
    refine ⟨_, pss_cons (ps_set (i := 2) nd rfl (Or.inl rfl) (pe_ifExp (pt_cmpR op_lt (pv 1) (pe_callB call_len_seq rfl T.n_len PySem.boot_len (pa_cons (pv 0) pa_nil)) (nomark _)) (pe_ix ix_list (pv 0) (pv 1) (fun _ _ => rfl)) (pe_op op_add (pe_op op_mul pe_int (pv 1)) pe_int)))
      (pss_cons (ps_set (i := 3) nd rfl (Or.inl rfl) (pe_op op_mod (pe_callTy call_int1 rfl T.n_int PyProof.Rows.boot_int (pa_cons (pe_callB call_abs rfl T.n_abs boot_abs9 (pa_cons (pv 2) pa_nil)) pa_nil)) (pe_op op_powB (pe_op op_powB pe_int pe_int) pe_int)))
      (pss_cons (ps_set (i := 4) nd rfl (Or.inl rfl) (pe_op op_mod (pe_callTy call_int1 rfl T.n_int PyProof.Rows.boot_int (pa_cons
        (pe_op op_add (pe_op op_add (pe_op op_add (pe_op op_mul (pv 3) pe_int) (pe_op op_mul pe_int (pv 1))) (pe_op op_mul pe_int (pe_callTy call_int1 rfl T.n_int PyProof.Rows.boot_int (pa_cons (pe_cmpR op_lt (pv 2) pe_int (nomark _)) pa_nil)))) pe_int) pa_nil)) pe_int))
      (pss_one (ps_ret (pe_lst (pa_cons (pe_callB (call_max2 rfl) rfl T.n_max PyProof.Rows.boot_max (pa_cons pe_int (pa_cons (pe_op op_sub (pv 3) (pe_op op_powB pe_int pe_int)) pa_nil))) (pa_cons (pv 4) (pa_cons pe_int pa_nil)))))))), ?_⟩
    have l1 : (ns.map V.int).length = ns.length := List.length_map _
    refine ⟨_, rfl, _, rfl, l, _, rfl, .inl hl, _, _, rfl, rfl, _, rfl, ?_⟩
    rw [l1]
    refine ite2 (fun c => ⟨_, rfl, _, rfl, l, _, (i : Int), V.int (ns.getD i 0), rfl, rfl, hl, atI_nat ?_, ?_⟩) (fun c => ⟨_, rfl, _, _, rfl, rfl, .inl ⟨by decide, by decide⟩, _, _, rfl, rfl, ?_⟩)
    · have c := of_decide_eq_true c
      have hi : i < ns.length := by omega
      rw [List.getElem?_map, List.getD_eq_getElem?_getD, List.getElem?_eq_getElem hi]
      rfl
    all_goals
      refine ⟨_, rfl, _, rfl, .inl ⟨_, rfl, _, _, rfl, rfl, pow58, _, _, rfl, rfl, pow9, _, _, rfl, rfl, pow522, ?_⟩⟩
      refine ⟨_, rfl, _, _, rfl, rfl, .inr ⟨by decide, by decide⟩, _, rfl, _, _, rfl, rfl, .inl ⟨by decide, by decide⟩, _, _, rfl, rfl, _, rfl, _, _, rfl, rfl, .inr ⟨_, rfl, _, _, rfl, rfl, .inl ⟨by decide, by decide⟩, _, _, rfl, rfl, _, _, rfl, rfl, .inl ⟨_, rfl, _, _, rfl, rfl, (by show (0 : Int) < 1152921504606846883; decide), ?_⟩⟩⟩
      refine ⟨_, rfl, _, _, rfl, rfl, pow17, _, _, rfl, rfl, _, _, rfl, _, rfl, by show 3 ≤ sizeLine; decide, fun a ha => ?_⟩
      exact k _ a (same_new ha) ha ⟨_, _, _, upd_same⟩
theorem ok_dip (T : Txt K mg) : FnOk P w K mg base CX0 1 T.d_law_dip.f T.d_law_dip.fd ["_law_vat_here", "_law_size"] spDip := by
  refine T.d_law_dip.F.ok c_law_dip (fun vs H Q E h => ?_) (fun cdv A outer s H vs Q E hr h => ?_)
  · obtain ⟨a, n, rfl, _⟩ := h
    rfl
  · obtain ⟨a, n, rfl, ⟨g, sd, c, ha⟩, hn, hn2, k⟩ := h
    have nd := c_law_dip.nd
    refine ⟨_, pss_cons (ps_if (pt_cmpR op_gt (pe_ix ix_list (pv 0) pe_int (fun _ _ => rfl)) pe_int (nomark _))
        (pss_cons (ps_set (i := 2) nd rfl (Or.inl rfl) (pe_op op_mod (pe_callTy call_int1 rfl T.n_int PyProof.Rows.boot_int (pa_cons (pe_ix ix_list (pv 0) pe_int (fun _ _ => rfl)) pa_nil)) (pv 1)))
        (pss_cons (ps_asg (pe_op op_fdiv (pe_ix ix_list (pv 0) pe_int (fun _ _ => rfl)) (pv 1)) (pg_sub (pv 0) pe_int set_list))
        (pss_one (ps_ret (pv 2))))) pss_nil)
      (pss_cons (ps_asg (pe_op op_add (pe_ix ix_list (pv 0) pe_int (fun _ _ => rfl)) pe_int) (pg_sub (pv 0) pe_int set_list))
      (pss_cons (ps_set (i := 3) nd rfl (Or.inl rfl) (pe_op op_mod (pe_callTy call_int1 rfl T.n_int PyProof.Rows.boot_int (pa_cons (pe_op op_add (pe_ix ix_list (pv 0) pe_int (fun _ _ => rfl)) (pe_op op_mul pe_int (pe_ix ix_list (pv 0) pe_int (fun _ _ => rfl)))) pa_nil)) pe_int))
      (pss_cons (ps_set (i := 4) nd rfl (Or.inl rfl) (pe_op op_add (pe_op op_mul (pe_op op_mod (pe_callTy call_int1 rfl T.n_int PyProof.Rows.boot_int (pa_cons (pe_op op_mul (pv 3) (pv 3)) pa_nil)) pe_int) (pv 3)) (pe_op op_mul pe_int (pe_ix ix_list (pv 0) pe_int (fun _ _ => rfl)))))
      (pss_one (ps_ret (pe_op op_mod (pe_callTy call_int1 rfl T.n_int PyProof.Rows.boot_int (pa_cons (pe_op op_fdiv (pe_op op_mod (pe_callTy call_int1 rfl T.n_int PyProof.Rows.boot_int (pa_cons (pe_op op_add (pv 4) (pe_ix ix_list (pv 0) pe_int (fun _ _ => rfl))) pa_nil)) pe_int) pe_int) pa_nil)) (pv 1))))))), ?_⟩
    refine ⟨_, rfl, a, _, 0, _, rfl, rfl, SqL.of ha, atI_nat (j := 0) rfl, _, _, rfl, rfl, _, rfl, ?_⟩
    refine ite2 (fun _ => ?_) (fun _ => ?_)
    · refine ⟨_, rfl, a, _, 0, _, rfl, rfl, SqL.of ha, atI_nat (j := 0) rfl, .inl ⟨_, rfl, _, rfl, _, _, rfl, rfl, hn, ?_⟩⟩
      refine ⟨_, rfl, a, _, 0, _, rfl, rfl, SqL.of ha, atI_nat (j := 0) rfl, _, rfl, _, _, rfl, rfl, ⟨hn, by omega⟩, _, rfl, a, _, 0, 0, rfl, rfl, ha, rfl, ?_⟩
      exact ⟨_, rfl, k _ _ (Int.emod_nonneg _ (by omega)) (Int.emod_lt_of_pos _ hn) ⟨fun b o nb e => (upd_ne nb).trans e, _, _, _, upd_same⟩⟩
    · refine ⟨_, rfl, a, _, 2, _, rfl, rfl, SqL.of ha, atI_nat (j := 2) rfl, _, _, rfl, rfl, _, rfl, a, _, 2, 2, rfl, rfl, ha, rfl, ?_⟩
      have bv : BV a H (upd H a (.lst [.int g, .int sd, .int (c + 1)])) := ⟨fun b o nb e => (upd_ne nb).trans e, _, _, _, upd_same⟩
      have ha2 : upd H a (.lst [.int g, .int sd, .int (c + 1)]) a = some (.lst [.int g, .int sd, .int (c + 1)]) := upd_same
      have b0 : 0 ≤ (sd + 961748927 * (c + 1)) % 2305843009213693967 := Int.emod_nonneg _ (by decide)
      have b1 : (sd + 961748927 * (c + 1)) % 2305843009213693967 < 2305843009213693967 := Int.emod_lt_of_pos _ (by decide)
      refine ⟨_, rfl, a, _, 1, _, rfl, rfl, SqL.of ha2, atI_nat (j := 1) rfl, _, rfl, a, _, 2, _, rfl, rfl, SqL.of ha2, atI_nat (j := 2) rfl, _, _, rfl, rfl, .inl ⟨by decide, by decide⟩, _, _, rfl, rfl, .inl ⟨_, rfl, _, _, rfl, rfl, (by show (0 : Int) < 2305843009213693967; decide), ?_⟩⟩
      generalize (sd + 961748927 * (c + 1)) % 2305843009213693967 = one at b0 b1 ⊢
      refine ⟨_, rfl, _, rfl, _, _, rfl, rfl, .inl ⟨by omega, by omega⟩, .inl ⟨_, rfl, _, _, rfl, rfl, (by show (0 : Int) < 1000000000000063; decide), _, rfl, _, _, rfl, rfl, .inr ⟨by omega, by omega⟩, _, rfl, a, _, 2, _, rfl, rfl, SqL.of ha2, atI_nat (j := 2) rfl, _, _, rfl, rfl, .inl ⟨by decide, by decide⟩, _, _, rfl, rfl, ?_⟩⟩
      refine ⟨_, rfl, _, rfl, a, _, 1, _, rfl, rfl, SqL.of ha2, atI_nat (j := 1) rfl, _, _, rfl, rfl, .inl ⟨_, rfl, _, _, rfl, rfl, (by show (0 : Int) < 4398046511119; decide), _, _, rfl, rfl, (by show (0 : Int) < 64 ∧ (64 : Int) < 1073741824; decide), .inl ⟨_, rfl, _, rfl, _, _, rfl, rfl, hn, ?_⟩⟩⟩
      exact k _ _ (Int.emod_nonneg _ (by omega)) (Int.emod_lt_of_pos _ hn) bv
theorem ok_pick (T : Txt K mg) : FnOk P w K mg base CX0 2 T.d_law_pick.f T.d_law_pick.fd ["_law_vat_here", "_law_items"] spPick := by
  refine T.d_law_pick.F.ok c_law_pick (fun vs H Q E h => ?_) (fun cdv A outer s H vs Q E hr h => ?_)
  · obtain ⟨a, b, ns, rfl, _⟩ := h
    rfl
  · obtain ⟨a, b, ns, rfl, hv, nab, hb, h1, h2, k⟩ := h
    refine ⟨_, pss_one (ps_ret (pe_ix ix_list (pv 1) (pe_def T.d_law_dip (ok_dip T) hr rfl (pa_cons (pv 0) (pa_cons (pe_callB call_len_seq rfl T.n_len PySem.boot_len (pa_cons (pv 1) pa_nil)) pa_nil))) (fun _ _ => rfl))), ?_⟩
    have l1 : (ns.map V.int).length = ns.length := List.length_map _
    refine ⟨_, rfl, _, rfl, _, rfl, b, _, rfl, .inl (SqL.of hb), a, _, rfl, hv, by omega, by omega, fun r H1 r0 rn bv => ?_⟩
    rw [l1] at rn
    obtain ⟨j, rfl⟩ : ∃ j : Nat, r = (j : Int) := ⟨r.toNat, by omega⟩
    have hr1 : j < ns.length := by omega
    exact ⟨b, _, (j : Int), .int (ns[j]), rfl, rfl, SqL.of (bv.keep _ _ nab.symm hb), atI_nat (by rw [List.getElem?_map, List.getElem?_eq_getElem hr1]; rfl), k _ _ (List.getElem_mem hr1) bv⟩
end
end K9
set_option Elab.async false
set_option linter.all false
set_option maxRecDepth 100000
set_option maxHeartbeats 600000
/-! _law_web .. _law_moved -/
namespace K9
open PySem PySem.Spec PyProof.Rows L2 LamX ClX
theorem PairsIn.bv {a : Addr} {H H' : Hp} {xs : List V} (h : PairsIn H xs) (v : VatOk H a) (x : BV a H H') : PairsIn H' xs := fun y hy => by
  obtain ⟨t, p, q, ex, ht⟩ := h y hy
  exact ⟨t, p, q, ex, x.keep _ _ (vat_ne v ht fun xs z => nomatch z) ht⟩
theorem pairs_bv {a : Addr} {H H' : Hp} {xs : List V} (h : PairsIn H xs) (v : VatOk H a) (x : BV a H H') : xs.map (pairOf H') = xs.map (pairOf H) := by
  refine List.map_congr_left fun y hy => ?_
  obtain ⟨t, p, q, rfl, ht⟩ := h y hy
  rw [pairOf_at ht, pairOf_at (x.keep _ _ (vat_ne v ht fun xs z => nomatch z) ht)]
/-- pairs stand though a list is changed -/
theorem pairs_at {H : Hp} {l : Addr} {xs ys zs : List V} (h : PairsIn H xs) (hl : H l = some (.lst ys)) : PairsIn (upd H l (.lst zs)) xs ∧ xs.map (pairOf (upd H l (.lst zs))) = xs.map (pairOf H) := by
  have k : ∀ y ∈ xs, ∃ t p q, y = V.ref t ∧ H t = some (.tup [.int p, .int q]) ∧ upd H l (.lst zs) t = some (.tup [.int p, .int q]) := fun y hy => by
    obtain ⟨t, p, q, ex, ht⟩ := h y hy
    exact ⟨t, p, q, ex, ht, (upd_ne (ne_of ht hl (by intro z; cases z))).trans ht⟩
  refine ⟨fun y hy => ?_, List.map_congr_left fun y hy => ?_⟩
  · obtain ⟨t, p, q, ex, _, ht⟩ := k y hy
    exact ⟨t, p, q, ex, ht⟩
  · obtain ⟨t, p, q, rfl, h1, h2⟩ := k y hy
    rw [pairOf_at h1, pairOf_at h2]
def spLawWeb (C : Addr) : Sp := fun vs H Q _ => ∃ (a : Addr) (n : Nat), vs = [.ref a, .int n] ∧ VatOk H a ∧ 1 ≤ n ∧ n ≤ 16 ∧ ∀ H' x ks, Fit n ks → BV a H H' → WebAt C H' x n ks → Q (.ref x) H'
def spLawDeg : Sp := fun vs H Q _ => ∃ (a : Addr) (m : Int), vs = [.ref a, .int m] ∧ VatOk H a ∧ 1 ≤ m ∧ m ≤ 16 ∧ ∀ H' q (ds : List Int), BV a H H' → H' q = some (.tup (ds.map V.int)) → 1 ≤ ds.length → ds.length ≤ 16 → (∀ y ∈ ds, 0 ≤ y ∧ y ≤ 256) → Q (.ref q) H'
def spLawRow : Sp := fun vs H Q _ => ∃ a : Addr, vs = [.ref a] ∧ VatOk H a ∧ ∀ H' q (ds : List Int), BV a H H' → H' q = some (.tup (ds.map V.int)) → Good ds → ds.length ≤ 40 → Q (.ref q) H'
/-- what _law_web has drawn -/
structure Drew (i : Nat) (ks : List (Int × Int)) : Prop where
  tie : ∀ k ∈ ks, 0 ≤ k.1 ∧ k.1 < k.2 ∧ k.2 < i
  nd : ks.Nodup
structure DrewIn (i j : Nat) (ks : List (Int × Int)) : Prop where
  tie : ∀ k ∈ ks, 0 ≤ k.1 ∧ k.1 < j ∧ k.2 = i
  nd : ks.Nodup
theorem Drew.next {i : Nat} {ks ls : List (Int × Int)} (h : Drew i ks) (h2 : DrewIn i i ls) : Drew (i + 1) (ks ++ ls) where
  tie := fun k hk => by
    rcases List.mem_append.mp hk with z | z
    · have := h.tie k z
      omega
    · have := h2.tie k z
      omega
  nd := List.nodup_append.mpr ⟨h.nd, h2.nd, fun x hx y hy e => by
    have a := h.tie x hx
    have b := h2.tie y hy
    rw [e] at a
    omega⟩
section
variable {P : Program} {w : World} {K : PySem.W.Frag} {mg : Str → Option Value} {base : Heap}
theorem ok_lawweb (T : Txt K mg) (Wt : WebT K mg) : FnOk P w K mg base CX0 8 T.d_law_web.f T.d_law_web.fd ["_law_vat_here", "_law_places"] (spLawWeb Wt.C) := by
  refine T.d_law_web.F.ok c_law_web (fun vs H Q E h => ?_) (fun cdv A outer s H vs Q E hr h => ?_)
  · obtain ⟨a, n, rfl, _⟩ := h
    rfl
  · obtain ⟨a, n, rfl, hv, h1, h16, k⟩ := h
    have nd := c_law_web.nd
    refine ⟨_, pss_cons (ps_asg (pe_tup (pa_cons (pe_op op_add pe_int (pe_def T.d_law_dip (ok_dip T) (hr.mono (by decide)) rfl (pa_cons (pv 0) (pa_cons pe_int pa_nil)))) (pa_cons (pe_lst pa_nil) pa_nil)))
        (pg_tup (n := 2) rfl (pgs_cons (pg_name (i := 2) nd rfl (Or.inr rfl)) (pgs_cons (pg_name (i := 3) nd rfl (Or.inl rfl)) pgs_nil))))
      (pss_cons (ps_for PassesOwn.never rfl (pi_range1 rfl T.n_range (pa_cons (pv 1) pa_nil)) (pg_name (i := 4) nd rfl (Or.inr rfl))
        (pss_one (ps_expr (pe_bm PySem.F.plainAttrs_list PySem.F.slot_list_extend PySem.F.type_list_extend mt_extend (pv 3) (pa_cons
          (pe_lc (own := [("_law_one", 5)]) (g := gName 5) rfl nd (pi_range1 rfl T.n_range (pa_cons (pv 4) pa_nil)) (blkOk_by (N := ["_law_vat_here", "_law_places", "_law_often", "_law_ties", "_law_other", "_law_one"]) (sc := defScope s_law_web) (by decide +kernel))
            (fun _ _ _ _ _ => pg_name (i := 5) nd rfl (Or.inl rfl)) (fun _ _ _ _ _ => pts_one (pt_cmpR op_lt (pe_def T.d_law_dip (ok_dip T) (hr.mono (by decide)) rfl (pa_cons (pv 0) (pa_cons pe_int pa_nil))) (pv 2) (nomark _)))
            (fun _ _ _ _ _ => pe_tup (pa_cons (pv 5) (pa_cons (pv 4) pa_nil)))) pa_nil)))))
      (pss_one (ps_ret (pe_cmeth (pe_glob (v := .ref Wt.C) rfl Wt.gC rfl) Wt.rd Wt.cO ((ok_of T Wt).raw Wt.bO .nil) hr pass0 (pa_cons (pv 1) (pa_cons (pe_callTy call_tuple_of rfl T.n_tuple PyProof.Rows.boot_tuple (pa_cons (pv 3) pa_nil)) pa_nil)))))), ?_⟩
    refine ⟨_, rfl, a, 3, rfl, hv, by decide, by decide, fun r H1 r0 r3 bv1 => ⟨_, _, rfl, rfl, Nat.zero_le _, fun l hl => ⟨by show 2 ≤ sizeLine; decide, fun p hp => ?_⟩⟩⟩
    refine ⟨p, _, rfl, SqT.of upd_same, rfl, _, _, rfl, _, _, rfl, rfl, ?_⟩
    have s1 : Same H1 (upd H1 l (.lst [])) := same_new hl
    have s2 : Same (upd H1 l (.lst [])) (upd (upd H1 l (.lst [])) p (.tup [.int (1 + r), .ref l])) := same_new hp
    have hl0 : H l = none := by
      cases e : H l with
      | none => rfl
      | some o =>
        by_cases c : l = a
        · obtain ⟨g, sd, cc, z⟩ := bv1.ok
          rw [c, z] at hl
          cases hl
        · rw [bv1.keep _ _ c e] at hl
          cases hl
    have nal : a ≠ l := fun z => by
      obtain ⟨g, sd, cc, e⟩ := bv1.ok
      rw [← z, e] at hl
      cases hl
    refine ⟨_, rfl, (n : Int), rfl, by omega, by omega, ?_⟩
    rw [Int.toNat_natCast]
    refine for_it walk_range (fun i σ H' => BV a H H' ∧ ∃ (xs : List V) (v4 v5 : Option V), σ = [some (.ref a), some (.int (n : Nat)), some (.int (1 + r)), some (.ref l), v4, v5] ∧ H' l = some (.lst xs) ∧ PairsIn H' xs ∧ Drew i (xs.map (pairOf H')))
      ⟨(bv1.more s1).more s2, [], none, none, rfl, s2 _ _ upd_same, fun y hy => absurd hy (by simp), ⟨fun k hk => absurd hk (by simp), List.nodup_nil⟩⟩ (fun _ _ _ _ _ => trivial) ?_ ?_
    · rintro i y σ H2 H3 hi ⟨bv, xs, v4, v5, rfl, hxs, hpx, dr⟩ ⟨eH, ey⟩
      have ey : y = V.int (i : Nat) := ey.trans (by show V.int (0 + (i : Int)) = _; rw [Int.zero_add])
      subst eH ey
      refine ⟨_, rfl, .inl ⟨rfl, _, SqL.of hxs⟩, _, rfl, (i : Int), rfl, by omega, by omega, fun D hD => ?_⟩
      rw [Int.toNat_natCast]
      have naD : a ≠ D := fun z => by
        obtain ⟨g, sd, cc, e⟩ := bv.ok
        rw [← z, e] at hD
        cases hD
      refine lc_it walk_range (fun j H' => BV a H3 H' ∧ ∃ acc : List V, H' D = some (.lst acc) ∧ acc.length ≤ j ∧ PairsIn H' acc ∧ DrewIn i j (acc.map (pairOf H')))
        ⟨BV.of bv.ok (same_new hD), [], upd_same, Nat.le_refl _, fun y hy => absurd hy (by simp), ⟨fun k hk => absurd hk (by simp), List.nodup_nil⟩⟩ (fun _ _ _ _ => trivial) ?_ ?_
      · rintro j y H4 H5 hj ⟨bv4, acc, hacc, hal, hpa, da⟩ ⟨eH, ey⟩
        have ey : y = V.int (j : Nat) := ey.trans (by show V.int (0 + (j : Int)) = _; rw [Int.zero_add])
        subst eH ey
        refine ⟨rfl, _, rfl, a, 4, rfl, bv4.ok, by decide, by decide, fun r2 H6 r20 r24 bv6 => ⟨_, rfl, _, _, rfl, rfl, _, rfl, ?_⟩⟩
        have hacc6 : H6 D = some (.lst acc) := bv6.keep _ _ naD.symm hacc
        have hp6 := hpa.bv bv4.ok bv6
        have hm6 := pairs_bv hpa bv4.ok bv6
        refine ite2 (fun _ => ?_) (fun _ => ?_)
        · refine ⟨_, rfl, _, rfl, by show 2 ≤ sizeLine; decide, fun u hu => ?_⟩
          have s7 : Same H6 (upd H6 u (.tup [.int (j : Nat), .int (i : Nat)])) := same_new hu
          refine ⟨acc, s7 _ _ hacc6, small1000 (by omega), ((bv4.trans bv6).more s7).at hD naD, acc ++ [.ref u], upd_same, by rw [List.length_append]; simp; omega, ?_, ?_⟩
          · obtain ⟨z, _⟩ := pairs_at (zs := acc ++ [.ref u]) (hp6.same s7) (s7 _ _ hacc6)
            intro y hy
            rcases List.mem_append.mp hy with q | q
            · exact z y q
            · rw [List.mem_singleton.mp q]
              exact ⟨u, _, _, rfl, (upd_ne (ne_of upd_same (s7 _ _ hacc6) (by intro z; cases z))).trans upd_same⟩
          · obtain ⟨_, z⟩ := pairs_at (zs := acc ++ [.ref u]) (hp6.same s7) (s7 _ _ hacc6)
            have eu : pairOf (upd (upd H6 u (.tup [.int (j : Nat), .int (i : Nat)])) D (.lst (acc ++ [.ref u]))) (.ref u) = ((j : Int), (i : Int)) := pairOf_at ((upd_ne (ne_of upd_same (s7 _ _ hacc6) (by intro z; cases z))).trans upd_same)
            rw [List.map_append, List.map_singleton, eu, z, pairs_same hp6 s7, hm6]
            refine ⟨fun k hk => ?_, List.nodup_append.mpr ⟨da.nd, by simp, fun x hx y hy e => ?_⟩⟩
            · rcases List.mem_append.mp hk with q | q
              · have := da.tie k q
                omega
              · rw [List.mem_singleton.mp q]
                exact ⟨by show (0 : Int) ≤ (j : Int); omega, by show (j : Int) < ((j + 1 : Nat) : Int); omega, rfl⟩
            · have := da.tie x hx
              rw [e, List.mem_singleton.mp hy] at this
              have z2 : (j : Int) < (j : Int) := this.2.1
              omega
        · refine ⟨bv4.trans bv6, acc, hacc6, by omega, hp6, ?_⟩
          rw [hm6]
          exact ⟨fun k hk => by have := da.tie k hk; omega, da.nd⟩
      · rintro H4 ⟨bv4, acc, hacc, hal, hpa, da⟩
        have hxs4 : H4 l = some (.lst xs) := bv4.keep _ _ nal.symm hxs
        have hp4 := hpx.bv bv.ok bv4
        have hm4 := pairs_bv hpx bv.ok bv4
        have dn : Drew (i + 1) ((xs ++ acc).map (pairOf H4)) := by
          rw [List.map_append, hm4]
          exact dr.next da
        have few := fit_few (n := n) (ks := (xs ++ acc).map (pairOf H4)) ⟨h1, h16, fun k hk => by have := dn.tie k hk; omega, dn.nd⟩
        rw [List.length_map, List.length_append] at few
        refine ⟨l, D, xs, acc, rfl, rfl, hxs4, hacc, len_line (by omega), ?_⟩
        have hpa4 : PairsIn H4 (xs ++ acc) := fun y hy => (List.mem_append.mp hy).elim (hp4 y) (hpa y)
        obtain ⟨z1, z2⟩ := pairs_at (zs := xs ++ acc) hpa4 hxs4
        refine ⟨(bv.trans bv4).at hl0 nal, xs ++ acc, some (.int (i : Nat)), v5, rfl, upd_same, z1, ?_⟩
        rw [z2]
        exact dn
    · rintro σ H2 ⟨bv, xs, v4, v5, rfl, hxs, hpx, dr⟩
      refine ⟨rfl, _, rfl, _, rfl, l, _, rfl, .inl ⟨SqL.of hxs, fun q hq => ?_⟩⟩
      have s3 : Same H2 (upd H2 q (.tup xs)) := same_new hq
      have fit : Fit n (xs.map (pairOf H2)) := ⟨h1, h16, fun k hk => by have := dr.tie k hk; omega, dr.nd⟩
      exact ⟨q, n, xs.map (pairOf H2), rfl, ⟨xs, SqT.of upd_same, hpx.same s3, pairs_same hpx s3⟩, fit, fun H' x e wa => k H' x _ fit (bv.more (Same.trans s3 e)) wa⟩
theorem cnt_le (ks : List (Int × Int)) (p : Int) : cnt ks p ≤ ks.length := List.length_filter_le _ _
theorem ok_lawdeg (T : Txt K mg) (Wt : WebT K mg) : FnOk P w K mg base CX0 9 T.d_law_degrees.f T.d_law_degrees.fd ["_law_vat_here", "_law_most"] spLawDeg := by
  refine T.d_law_degrees.F.ok c_law_degrees (fun vs H Q E h => ?_) (fun cdv A outer s H vs Q E hr h => ?_)
  · obtain ⟨a, m, rfl, _⟩ := h
    rfl
  · obtain ⟨a, m, rfl, hv, h1, h16, k⟩ := h
    refine ⟨_, pss_one (ps_ret (pe_prop (pe_def T.d_law_web (ok_lawweb T Wt) hr rfl (pa_cons (pv 0) (pa_cons (pe_op op_add pe_int (pe_def T.d_law_dip (ok_dip T) (hr.mono (by decide)) rfl (pa_cons (pv 0) (pa_cons (pv 1) pa_nil)))) pa_nil))) Wt.cl Wt.cD (ok_degrees T Wt) (hr.mono (by decide)) Wt.bD .nil pass0 rfl)), ?_⟩
    refine ⟨_, rfl, _, rfl, _, rfl, a, m, rfl, hv, by omega, by omega, fun r H1 r0 rm bv => ?_⟩
    obtain ⟨j, rfl⟩ : ∃ j : Nat, r = (j : Int) := ⟨r.toNat, by omega⟩
    refine ⟨_, _, rfl, rfl, a, j + 1, ?_, bv.ok, by omega, by omega, fun H2 x ks fit bv2 wa => ?_⟩
    · show [V.ref a, V.int (1 + (j : Int))] = [V.ref a, V.int ((j + 1 : Nat) : Int)]
      rw [show (1 : Int) + (j : Int) = ((j + 1 : Nat) : Int) by omega]
    · obtain ⟨dx, t, l, fs, bs, hx, _⟩ := wa.ex
      refine ⟨x, dx, fs, rfl, hx, x, j + 1, ks, rfl, wa, fit.few, fun H3 q e hq => ?_⟩
      refine k H3 q _ ((bv.trans bv2).more e) hq (by rw [List.length_map, List.length_range]; omega) (by rw [List.length_map, List.length_range]; exact fit.few) fun y hy => ?_
      obtain ⟨p, _, rfl⟩ := List.mem_map.mp hy
      have := cnt_le ks (p : Int)
      have := fit_few fit
      omega
end
end K9
set_option Elab.async false
set_option linter.all false
set_option maxRecDepth 100000
set_option maxHeartbeats 600000
/-! _law_long, _law_moved -/
namespace K9
open PySem PySem.Spec PyProof.Rows L2 LamX ClX
theorem pow29 : CPowB 10 29 := by unfold CPowB; decide +kernel
theorem pow30 : CPowB 10 30 := by unfold CPowB; decide +kernel
theorem ix_at {n j : Nat} (h : j < n) : ixN n (j : Int) = some j := by
  unfold ixN
  rw [if_pos (Int.natCast_nonneg j)]
  simp [h]
theorem set_ints (ns : List Int) (j : Nat) (z : Int) : (ns.map V.int).set j (.int z) = (ns.set j z).map V.int := by
  rw [List.map_set]
theorem mem_set {ns : List Int} {j : Nat} {z y : Int} (h : y ∈ ns.set j z) : y = z ∨ y ∈ ns := (List.mem_or_eq_of_mem_set h).symm
/-- the list at l is changed -/
theorem BV.put {a l : Addr} {H H1 : Hp} {o : HO} (x : BV a H H1) (h0 : H l = none) (n : a ≠ l) : BV a H (upd H1 l o) := x.at h0 n
theorem new_ne {a l : Addr} {H : Hp} (v : VatOk H a) (h : H l = none) : a ≠ l := fun z => by
  obtain ⟨g, sd, cc, e⟩ := v
  rw [← z, e] at h
  cases h
theorem none_bv {a l : Addr} {H H1 : Hp} (x : BV a H H1) (h : H1 l = none) : H l = none := by
  cases e : H l with
  | none => rfl
  | some o =>
    have n := new_ne x.ok h
    rw [x.keep _ _ n.symm e] at h
    cases h
theorem yes_of {σ : L2.St} {H : Hp} {A B : Hp → Prop} (h : A H) : tYes σ H (fun b H3 => if b = true then A H3 else B H3) := by
  show if true = true then A H else B H
  rw [if_pos rfl]
  exact h
section
variable {P : Program} {w : World} {K : PySem.W.Frag} {mg : Str → Option Value} {base : Heap}
theorem ok_long (T : Txt K mg) : FnOk P w K mg base CX0 3 T.d_law_long.f T.d_law_long.fd ["_law_vat_here"] spLawRow := by
  refine T.d_law_long.F.ok c_law_long (fun vs H Q E h => ?_) (fun cdv A outer s H vs Q E hr h => ?_)
  · obtain ⟨a, rfl, _⟩ := h
    rfl
  · obtain ⟨a, rfl, hv, k⟩ := h
    have nd := c_law_long.nd
    refine ⟨_, pss_cons (ps_set (i := 1) nd rfl (Or.inr rfl) (pe_op op_add pe_int (pe_def T.d_law_dip (ok_dip T) (hr.mono (by decide)) rfl (pa_cons (pv 0) (pa_cons pe_int pa_nil)))))
      (pss_cons (ps_setLc (i := 2) (own := [("_law_place", 3)]) (g := gName 3) (tt := tYes) rfl nd rfl rfl rfl (pi_range1 rfl T.n_range (pa_cons (pv 1) pa_nil)) (blkOk_by (N := ["_law_vat_here", "_law_size", "_law_row", "_law_place"]) (sc := defScope s_law_long) (by decide +kernel))
          (fun _ _ _ _ _ => pg_name (i := 3) nd rfl (Or.inl rfl)) (fun _ _ _ _ _ => pts_nil)
          (fun _ _ _ _ _ => pe_def T.d_law_dip (ok_dip T) (hr.mono (by decide)) rfl (pa_cons (pv 0) (pa_cons (pe_op op_add pe_int (pe_def T.d_law_dip (ok_dip T) (hr.mono (by decide)) rfl (pa_cons (pv 0) (pa_cons (pv 1) pa_nil)))) pa_nil))))
      (pss_cons (ps_if (pt_cmpR op_eq (pe_def T.d_law_dip (ok_dip T) (hr.mono (by decide)) rfl (pa_cons (pv 0) (pa_cons pe_int pa_nil))) pe_int (nomark _))
          (pss_one (ps_asg (pe_def T.d_law_pick (ok_pick T) hr rfl (pa_cons (pv 0) (pa_cons (pe_lst (pa_cons (pe_op op_powB pe_int pe_int) (pa_cons (pv 1) (pa_cons (pe_op op_sub (pv 1) pe_int) (pa_cons (pe_op op_sub (pe_op op_powB pe_int pe_int) pe_int) (pa_cons (pe_op op_mul pe_int (pv 1)) pa_nil)))))) pa_nil)))
            (pg_sub (pv 2) (pe_def T.d_law_dip (ok_dip T) (hr.mono (by decide)) rfl (pa_cons (pv 0) (pa_cons (pv 1) pa_nil))) set_list))) pss_nil)
      (pss_one (ps_ret (pe_callTy call_tuple_of rfl T.n_tuple PyProof.Rows.boot_tuple (pa_cons (pv 2) pa_nil)))))), ?_⟩
    refine ⟨_, rfl, a, 40, rfl, hv, by decide, by decide, fun r H1 r0 r40 bv1 => ⟨_, _, rfl, rfl, ?_⟩⟩
    obtain ⟨j, rfl⟩ : ∃ j : Nat, r = (j : Int) := ⟨r.toNat, by omega⟩
    refine ⟨_, rfl, 1 + (j : Int), rfl, by omega, by omega, fun D hD => ?_⟩
    rw [show (1 : Int) + (j : Int) = ((j + 1 : Nat) : Int) by omega, Int.toNat_natCast]
    have naD := new_ne bv1.ok hD
    have hD0 := none_bv bv1 hD
    refine lc_it walk_range (fun i H' => BV a H H' ∧ ∃ ns : List Int, H' D = some (.lst (ns.map V.int)) ∧ ns.length = i ∧ ∀ y ∈ ns, 0 ≤ y ∧ y ≤ 1000) ⟨bv1.more (same_new hD), [], upd_same, rfl, fun y hy => absurd hy (by simp)⟩ (fun _ _ _ _ => trivial) ?_ ?_
    · rintro i y H2 H3 hi ⟨bv, ns, hns, hl, hb⟩ ⟨eH, ey⟩
      subst eH ey
      refine ⟨rfl, yes_of ?_⟩
      refine ⟨_, rfl, _, rfl, _, rfl, a, _, rfl, bv.ok, by omega, by omega, fun r2 H4 r20 r2n bv4 => ⟨_, _, rfl, rfl, a, _, rfl, bv4.ok, by omega, by omega, fun r3 H5 r30 r3n bv5 => ?_⟩⟩
      have bv6 := (bv.trans bv4).trans bv5
      have hns5 : H5 D = some (.lst (ns.map V.int)) := bv5.keep _ _ naD.symm (bv4.keep _ _ naD.symm hns)
      refine ⟨_, hns5, small1000 (by rw [List.length_map]; omega), bv6.put hD0 naD, ns ++ [r3], ?_, by rw [List.length_append, hl]; rfl, fun y hy => ?_⟩
      · rw [upd_same, List.map_append]
        rfl
      · rcases List.mem_append.mp hy with q | q
        · exact hb y q
        · rw [List.mem_singleton.mp q]
          omega
    · rintro H2 ⟨bv, ns, hns, hl, hb⟩
      have fin : ∀ H3 (ms : List Int), BV a H H3 → H3 D = some (.lst (ms.map V.int)) → ms.length = j + 1 → (∀ y ∈ ms, 0 ≤ y ∧ y ≤ top30) → ∀ q, H3 q = none → Q (.ref q) (upd H3 q (.tup (ms.map V.int))) := fun H3 ms b3 h3 l3 g3 q hq =>
        k _ q ms (b3.more (same_new hq)) upd_same ⟨by omega, by omega, g3⟩ (by omega)
      have t30 : top30 = 10 ^ 30 - 1 := rfl
      refine ⟨_, rfl, a, 3, rfl, bv.ok, by decide, by decide, fun r2 H4 r20 r2n bv4 => ⟨rfl, _, rfl, ?_⟩⟩
      have hns4 : H4 D = some (.lst (ns.map V.int)) := bv4.keep _ _ naD.symm hns
      have bv5 := bv.trans bv4
      refine ite2 (fun _ => ?_) (fun _ => ?_)
      · refine ⟨_, rfl, _, _, rfl, rfl, pow29, _, rfl, _, rfl, _, _, rfl, rfl, _, _, rfl, rfl, pow30, _, _, rfl, rfl, _, rfl, _, _, rfl, rfl, .inl ⟨by decide, by decide⟩, by show 5 ≤ sizeLine; decide, fun b hb4 => ?_⟩
        refine ⟨a, b, [10 ^ 29, 1 + (j : Int), 1 + (j : Int) - 1, 10 ^ 30 - 1, 2 * (1 + (j : Int))], rfl, bv4.ok.same (same_new hb4), new_ne bv4.ok hb4, upd_same, by simp, by simp, fun z H5 hz bv6 => ?_⟩
        have zb : 0 ≤ z ∧ z ≤ top30 := by
          simp only [List.mem_cons, List.not_mem_nil, or_false] at hz
          rcases hz with e | e | e | e | e <;> subst e <;> rw [t30] <;> omega
        have bv7 := (bv5.more (same_new hb4)).trans bv6
        have hns5 : H5 D = some (.lst (ns.map V.int)) := bv6.keep _ _ naD.symm (same_new hb4 _ _ hns4)
        refine ⟨_, rfl, _, rfl, _, rfl, a, _, rfl, bv6.ok, by omega, by omega, fun r4 H6 r40' r4n bv8 => ?_⟩
        obtain ⟨u, rfl⟩ : ∃ u : Nat, r4 = (u : Int) := ⟨r4.toNat, by omega⟩
        have hns6 : H6 D = some (.lst (ns.map V.int)) := bv8.keep _ _ naD.symm hns5
        refine ⟨D, _, (u : Int), u, rfl, rfl, hns6, ix_at (by rw [List.length_map]; omega), ?_⟩
        rw [set_ints]
        refine ⟨_, rfl, D, _, rfl, .inl ⟨SqL.of upd_same, fun q hq => ?_⟩⟩
        refine fin _ (ns.set u z) ((bv7.trans bv8).put hD0 naD) upd_same (by rw [List.length_set, hl]) (fun y hy => ?_) q hq
        rcases mem_set hy with e | e
        · rw [e]
          exact zb
        · have := hb y e
          rw [t30]
          omega
      · refine ⟨_, rfl, D, _, rfl, .inl ⟨SqL.of hns4, fun q hq => ?_⟩⟩
        refine fin _ ns bv5 hns4 hl (fun y hy => ?_) q hq
        have := hb y hy
        rw [t30]
        omega
theorem ok_moved (T : Txt K mg) (Wt : WebT K mg) : FnOk P w K mg base CX0 10 T.d_law_moved.f T.d_law_moved.fd ["_law_vat_here"] spLawRow := by
  refine T.d_law_moved.F.ok c_law_moved (fun vs H Q E h => ?_) (fun cdv A outer s H vs Q E hr h => ?_)
  · obtain ⟨a, rfl, _⟩ := h
    rfl
  · obtain ⟨a, rfl, hv, k⟩ := h
    have nd := c_law_moved.nd
    refine ⟨_, pss_cons (ps_set (i := 1) nd rfl (Or.inl rfl) (pe_callTy call_list_of rfl T.n_list PyProof.Rows.boot_list (pa_cons (pe_def T.d_law_degrees (ok_lawdeg T Wt) hr rfl (pa_cons (pv 0) (pa_cons pe_int pa_nil))) pa_nil)))
      (pss_cons (ps_for PassesOwn.never rfl (pi_range1 rfl T.n_range (pa_cons (pe_def T.d_law_dip (ok_dip T) (hr.mono (by decide)) rfl (pa_cons (pv 0) (pa_cons pe_int pa_nil))) pa_nil)) (pg_name (i := 2) nd rfl (Or.inl rfl))
        (pss_cons (ps_set (i := 3) nd rfl (Or.inl rfl) (pe_def T.d_law_dip (ok_dip T) (hr.mono (by decide)) rfl (pa_cons (pv 0) (pa_cons (pe_callB call_len_seq rfl T.n_len PySem.boot_len (pa_cons (pv 1) pa_nil)) pa_nil))))
        (pss_one (ps_asg (pe_callB (call_max2 rfl) rfl T.n_max PyProof.Rows.boot_max (pa_cons pe_int (pa_cons (pe_op op_add (pe_ix ix_list (pv 1) (pv 3) (fun _ _ => rfl))
          (pe_def T.d_law_pick (ok_pick T) (hr.mono (by decide)) rfl (pa_cons (pv 0) (pa_cons (pe_lst (pa_cons pe_int (pa_cons (pe_op op_sub pe_int pe_int) (pa_cons pe_int pa_nil)))) pa_nil)))) pa_nil))) (pg_sub (pv 1) (pv 3) set_list)))))
      (pss_one (ps_ret (pe_callTy call_tuple_of rfl T.n_tuple PyProof.Rows.boot_tuple (pa_cons (pv 1) pa_nil))))), ?_⟩
    refine ⟨_, rfl, a, 16, rfl, hv, by decide, by decide, fun H1 q ds bv1 hq h1 h16 hb => ⟨q, _, rfl, .inr (SqT.of hq), fun l hl => ?_⟩⟩
    have nal := new_ne bv1.ok hl
    have hl0 := none_bv bv1 hl
    have bv2 : BV a H (upd H1 l (.lst (ds.map V.int))) := bv1.more (same_new hl)
    refine ⟨_, rfl, a, 4, rfl, bv2.ok, by decide, by decide, fun r H2 r0 r4 bv3 => ⟨r, rfl, by omega, by omega, ?_⟩⟩
    have hl2 : H2 l = some (.lst (ds.map V.int)) := bv3.keep _ _ nal.symm upd_same
    refine for_it walk_range (fun i σ H' => BV a H H' ∧ ∃ (ms : List Int) (v2 v3 : Option V), σ = [some (.ref a), some (.ref l), v2, v3] ∧ H' l = some (.lst (ms.map V.int)) ∧ ms.length = ds.length ∧ ∀ y ∈ ms, 0 ≤ y ∧ y ≤ 256 + (i : Int))
      ⟨bv2.trans bv3, ds, none, none, rfl, hl2, rfl, fun y hy => by have := hb y hy; omega⟩ (fun _ _ _ _ _ => trivial) ?_ ?_
    · rintro i y σ H3 H4 hi ⟨bv, ms, v2, v3, rfl, hms, hml, hmb⟩ ⟨eH, ey⟩
      subst eH ey
      have l1 : (ms.map V.int).length = ms.length := List.length_map _
      refine ⟨_, rfl, _, rfl, l, _, rfl, .inl (SqL.of hms), a, _, rfl, bv.ok, by omega, by omega, fun r2 H5 r20 r2n bv5 => ?_⟩
      rw [l1] at r2n
      obtain ⟨u, rfl⟩ : ∃ u : Nat, r2 = (u : Int) := ⟨r2.toNat, by omega⟩
      have hu : u < ms.length := by omega
      have hms5 : H5 l = some (.lst (ms.map V.int)) := bv5.keep _ _ nal.symm hms
      refine ⟨_, rfl, _, rfl, l, _, (u : Int), .int (ms[u]), rfl, rfl, SqL.of hms5, atI_nat (by rw [List.getElem?_map, List.getElem?_eq_getElem hu]; rfl), ?_⟩
      refine ⟨_, rfl, _, _, rfl, rfl, by show 3 ≤ sizeLine; decide, fun b hb5 => ?_⟩
      refine ⟨a, b, [1, 0 - 1, 1], rfl, bv5.ok.same (same_new hb5), new_ne bv5.ok hb5, upd_same, by decide, by decide, fun z H6 hz bv6 => ?_⟩
      have zb : -1 ≤ z ∧ z ≤ 1 := by
        simp only [List.mem_cons, List.not_mem_nil, or_false] at hz
        rcases hz with e | e | e <;> subst e <;> omega
      have hms6 : H6 l = some (.lst (ms.map V.int)) := bv6.keep _ _ nal.symm (same_new hb5 _ _ hms5)
      refine ⟨_, _, rfl, rfl, _, _, rfl, _, rfl, _, rfl, l, _, (u : Int), u, rfl, rfl, hms6, ix_at (by rw [l1]; exact hu), ?_⟩
      rw [set_ints]
      have hub := hmb _ (List.getElem_mem hu)
      refine ⟨(((bv.trans bv5).more (same_new hb5)).trans bv6).put hl0 nal, ms.set u _, _, _, rfl, upd_same, by rw [List.length_set, hml], fun y hy => ?_⟩
      rcases mem_set hy with e | e
      · rw [e]
        split <;> omega
      · have := hmb y e
        omega
    · rintro σ H3 ⟨bv, ms, v2, v3, rfl, hms, hml, hmb⟩
      refine ⟨_, rfl, l, _, rfl, .inl ⟨SqL.of hms, fun q2 hq2 => ?_⟩⟩
      have t30 : top30 = 10 ^ 30 - 1 := rfl
      refine k _ q2 ms (bv.more (same_new hq2)) upd_same ⟨by omega, by omega, fun y hy => ?_⟩ (by omega)
      have := hmb y hy
      rw [t30]
      omega
end
end K9
set_option Elab.async false
set_option linter.all false
set_option maxRecDepth 100000
set_option maxHeartbeats 1000000
/-! _law_right -/
namespace K9
open PySem PySem.Spec PyProof.Rows L2 LamX ClX
open KM (Falls Heavy gap lackL ent mn)
theorem bar_lack {ds : List Int} {m : Int} {s : Nat} {ps : List Nat} (b : Best ds m s) (h0 : 0 < m) (pm : ps.Perm ((ordOf ds ds.length).take s)) :
    lackL ds ps = m ∧ 1 ≤ ps.length ∧ ps.length ≤ ds.length ∧ (∀ i ∈ ps, i < ds.length) ∧ ps.Nodup := by
  obtain ⟨es, h1, h2⟩ := b.ex
  have ord := ordOf_ord ds
  obtain rfl := h1.one ord.falls
  rcases h2.at_ with ⟨z, _⟩ | ⟨s1, s2, em, _⟩
  · omega
  rw [List.length_map, ord.len] at s2
  have hl := pm.length_eq
  rw [List.length_take, ord.len, Nat.min_eq_left s2] at hl
  refine ⟨?_, by omega, by omega, fun i hi => ord.mem.mp (List.mem_of_mem_take (pm.mem_iff.mp hi)), pm.nodup_iff.mpr (ord.nodup.sublist (List.take_sublist _ _))⟩
  rw [KM.lackL_perm pm, ord.lack s2, ← em]
/-! ### data -/
section
variable {K : PySem.W.Frag} {H : Hp}
theorem dp_ints : ∀ ns : List Int, DpAll K H (ns.map V.int) (ns.map PyData.int)
  | [] => .nil
  | n :: ns => .cons (.int n) (dp_ints ns)
theorem dp_row {x : V} {ns : List Int} (h : Row K H x ns) : Dp K H x (.tuple (ns.map PyData.int)) := by
  obtain ⟨t, rfl, h⟩ := h
  exact .tup h (dp_ints ns)
theorem lay_ints : ∀ ns : List Int, PyData.canLayAll0 (ns.map PyData.int) = true
  | [] => by simp [PyData.canLayAll0]
  | n :: ns => by
    rw [List.map_cons]
    unfold PyData.canLayAll0
    rw [lay_ints ns]
    simp [PyData.canLay0]
theorem depth_ints : ∀ ns : List Int, PyData.depthAll (ns.map PyData.int) ≤ 1
  | [] => by simp [PyData.depthAll]
  | n :: ns => by
    have := depth_ints ns
    rw [List.map_cons]
    unfold PyData.depthAll
    simp [PyData.depth]
    omega
theorem shaped_ints (ns : List Int) : SeqAt.shaped (.tuple (ns.map PyData.int)) = true := by
  have h1 : PyData.canLay0 (.tuple (ns.map PyData.int)) = true := by
    unfold PyData.canLay0
    exact lay_ints ns
  have h2 := depth_ints ns
  unfold SeqAt.shaped
  rw [h1, Bool.true_and, decide_eq_true_eq]
  unfold PyData.depth
  omega
theorem same_ints (ns : List Int) : PyData.eqv (.tuple (ns.map PyData.int)) (.tuple (ns.map PyData.int)) = true := SeqAt.eqv_refl _ (SeqAt.canLay_of_shaped (shaped_ints ns))
end
/-- behind _law_right -/
structure KV (a P0 : Addr) (H H' : Hp) : Prop where
  keep : ∀ b o, b ≠ a → (∀ ps, o ≠ .tbl ps) → H b = some o → H' b = some o
  ok : VatOk H' a
  tab : Tabs (LT P0) H'
theorem KV.bv {a P0 : Addr} {H H' : Hp} (v : VatOk H a) (t : Tabs (LT P0) H) (x : BV a H H') : KV a P0 H H' := ⟨fun b o n _ e => x.keep b o n e, x.ok, bv_tabs v x t⟩
theorem KV.kp {a P0 : Addr} {H H1 H2 : Hp} (x : KV a P0 H H1) (y : Kp P0 H1 H2) : KV a P0 H H2 := by
  refine ⟨fun b o n t e => y.ext _ _ (x.keep b o n t e) t, ?_, y.tab⟩
  obtain ⟨g, s, c, h⟩ := x.ok
  exact ⟨g, s, c, y.ext _ _ h fun ps z => nomatch z⟩
theorem KV.same {a P0 : Addr} {H H1 H2 : Hp} (x : KV a P0 H H1) (e : Same H1 H2) : KV a P0 H H2 := x.kp (Kp.same x.tab e)
theorem KV.trans {a P0 : Addr} {H H1 H2 : Hp} (x : KV a P0 H H1) (y : KV a P0 H1 H2) : KV a P0 H H2 := ⟨fun b o n t e => y.keep b o n t (x.keep b o n t e), y.ok, y.tab⟩
theorem WebAt.ext {C : Addr} {H H' : Hp} {x : Addr} {n : Nat} {ks : List (Int × Int)} (h : WebAt C H x n ks) (e : ExtN H H') : WebAt C H' x n ks := by
  obtain ⟨dx, t, l, fs, bs, h1, h2, h3, h4, h7, h8, h9⟩ := h.ex
  refine ⟨dx, t, l, fs, bs, e _ _ h1 (fun ps z => nomatch z), h2, h3, h4, e _ _ h7 (fun ps z => nomatch z), h8, fun i b hb => ?_⟩
  obtain ⟨q, ns, eb, hq, hn⟩ := h9 i b hb
  exact ⟨q, ns, eb, e _ _ hq (fun ps z => nomatch z), hn⟩
theorem ite_one {c : Prop} [Decidable c] {A : Prop} (h : A) : if c then A else A := by
  by_cases q : c
  · rw [if_pos q]
    exact h
  · rw [if_neg q]
    exact h
def spRight (P0 : Addr) : Sp := fun vs H Q _ => ∃ a : Addr, vs = [.ref a] ∧ VatOk H a ∧ Tabs (LT P0) H ∧ ∀ H', KV a P0 H H' → Q (.bl true) H'
section
variable {P : Program} {w : World} {K : PySem.W.Frag} {mg : Str → Option Value} {base : Heap}
theorem ok_right (T : Txt K mg) (Wt : WebT K mg) (O : HoT K mg T) (TM : PySem.TMX.TmT P K mg) (TB : TabB base mg O.c O.P0) : FnOk P w K mg base CX0 11 T.d_law_right.f T.d_law_right.fd ["_law_vat_here"] (spRight O.P0) := by
  refine T.d_law_right.F.ok c_law_right (fun vs H Q E h => ?_) (fun cdv A outer s H vs Q E hr h => ?_)
  · obtain ⟨a, rfl, _⟩ := h
    rfl
  · obtain ⟨a, rfl, hv, hT, k⟩ := h
    have nd := c_law_right.nd
    have hu := hr.units
    have GL := ok_lawlack (P := P) (w := w) (base := base) T
    refine ⟨_, pss_cons (ps_set (i := 1) nd rfl (Or.inl rfl) (pe_ifExp (pt_cmpR op_eq (pe_def T.d_law_dip (ok_dip T) (hr.mono (by decide)) rfl (pa_cons (pv 0) (pa_cons pe_int pa_nil))) pe_int (nomark _))
        (pe_def T.d_law_long (ok_long T) (hr.mono (by decide)) rfl (pa_cons (pv 0) pa_nil)) (pe_def T.d_law_moved (ok_moved T Wt) hr rfl (pa_cons (pv 0) pa_nil))))
      (pss_cons (ps_par (i := 2) (j := 3) rfl nd rfl rfl (by decide) rfl rfl (pa_cons (pe_def T.d_law_greatest (ok_lawgreat T) (hr.mono (by decide)) rfl (pa_cons (pv 1) pa_nil)) (pa_cons (pe_def T.d_law_is_possible (ok_lawposs T) (hr.mono (by decide)) rfl (pa_cons (pv 1) pa_nil)) pa_nil)) rfl)
      (pss_cons (ps_if (PW.pt (pw_or (pt_cmpR op_ne (pe_def T.d_greatest_lack (ok_greatest T) (hr.mono (by decide)) rfl (pa_cons (pv 1) pa_nil)) (pv 2) (nomark _))
          (pw_or1 (pt_cmpR op_ne (pe_def T.d_has_web (ok_hasweb T) (hr.mono (by decide)) rfl (pa_cons (pv 1) pa_nil)) (pv 3) (nomark _))))) pss_never pss_nil)
      (pss_cons (ps_asg (pe_def T.d_law_paper (ok_lawpaper T Wt O TM TB) hr rfl (pa_cons (pv 1) pa_nil)) (pg_tup (n := 2) rfl (pgs_cons (pg_name (i := 4) nd rfl (Or.inl rfl)) (pgs_cons (pg_name (i := 5) nd rfl (Or.inl rfl)) pgs_nil))))
      (pss_cons (ps_if (pt_not (pt_val (pv 3)))
          (pss_cons (ps_if (pt_cmpR op_eq (pv 4) pe_str (nomark _)) (pss_one (ps_ret (pe_and (pe_cmpR op_eq (pv 5) (pe_callB (cr_sumT rfl) rfl T.n_sum PyProof.Rows.boot_sum (pa_cons (pv 1) pa_nil)) (nomark _))
              (pe_one (pe_cmpR op_eq (pe_op op_mod (pv 5) pe_int) pe_int (nomark _)))))) pss_nil)
          (pss_one (ps_ret (pe_and (pe_cmpR op_eq (pv 4) pe_str (nomark _)) (pe_and (pe_cmpR op_gt (pe_def T.d_law_lack GL (hr.mono (by decide)) rfl (pa_cons (pv 1) (pa_cons (pv 5) pa_nil))) pe_int (nomark _))
              (pe_one (pe_cmpR op_eq (pe_def T.d_lack (ok_lack T) (hr.mono (by decide)) rfl (pa_cons (pv 1) (pa_cons (pv 5) pa_nil))) (pe_def T.d_law_lack GL (hr.mono (by decide)) rfl (pa_cons (pv 1) (pa_cons (pv 5) pa_nil))) (nomark _)))))))) pss_nil)
      (pss_cons (ps_if (pt_cmpR op_gt (pe_callB call_len_seq rfl T.n_len PySem.boot_len (pa_cons (pv 1) pa_nil)) pe_int (nomark _))
          (pss_one (ps_ret (pe_cmpR (op_eqD hu) (pe_lst (pa_cons (pv 4) (pa_cons (pv 5) pa_nil))) (pe_lst (pa_cons pe_str (pa_cons pe_int pa_nil))) (nomark _)))) pss_nil)
      (pss_one (ps_ret (pe_and (pe_cmpR op_eq (pv 4) pe_str (nomark _)) (pe_and (pe_cmpR (op_eqD hu) (pe_prop (pv 5) Wt.cl Wt.cD (ok_degrees T Wt) (hr.mono (by decide)) Wt.bD .nil pass0 rfl) (pv 1) (nomark _))
          (pe_and (pe_cmpR (op_eqD hu) (pe_prop (pe_def T.d_web_of (ok_webof T Wt O TM TB) (hr.mono (by decide)) rfl (pa_cons (pv 1) pa_nil)) Wt.cl Wt.cD (ok_degrees T Wt) (hr.mono (by decide)) Wt.bD .nil pass0 rfl) (pv 1) (nomark _))
          (pe_one (pe_cmpR op_eq (pe_prop (pv 5) Wt.cl Wt.cP (ok_places Wt) (hr.mono (by decide)) Wt.bP .nil pass0 rfl) (pe_callB call_len_seq rfl T.n_len PySem.boot_len (pa_cons (pv 1) pa_nil)) (nomark _))))))))))))), ?_⟩
    refine ⟨_, rfl, a, 2, rfl, hv, by decide, by decide, fun r H1 r0 r2 bv1 => ⟨rfl, _, rfl, ?_⟩⟩
    refine ite_one ⟨_, rfl, a, rfl, bv1.ok, fun H2 q ds bv2 hq g h40 => ?_⟩
    have hrow : Row K H2 (.ref q) ds := Row.mk' hq
    have kv2 : KV a O.P0 H H2 := KV.bv hv hT (bv1.trans bv2)
    refine ⟨_, rfl, .ref q, ds, rfl, hrow, g, fun m sz H3 hb e3 => ⟨_, rfl, .ref q, ds, rfl, hrow.same e3, g, fun b H4 e4 hbb => ⟨_, _, rfl, ?_⟩⟩⟩
    have e34 := Same.trans e3 e4
    refine ⟨_, rfl, .ref q, ds, rfl, hrow.same e34, g, fun m2 s2 H5 hb2 e5 => ⟨_, rfl, rfl, _, rfl, ?_⟩⟩
    obtain rfl := hb.one hb2
    have d1 : (!decide (V.int m = V.int m)) = false := by
      rw [decide_eq_true rfl]
      rfl
    refine Eq.mpr (congrArg (fun b => if b = true then _ else _) d1) (iteF ?_)
    have e35 := Same.trans e34 e5
    refine ⟨_, rfl, .ref q, ds, rfl, hrow.same e35, g, fun b2 H6 e6 hbb2 => ⟨_, rfl, rfl, _, rfl, ?_⟩⟩
    have eb : b2 = b := Bool.eq_iff_iff.mpr ((hbb2 m sz hb).trans (hbb m sz hb).symm)
    subst eb
    have d2 : (!decide (V.bl b2 = V.bl b2)) = false := by
      rw [decide_eq_true rfl]
      rfl
    refine Eq.mpr (congrArg (fun b => if b = true then _ else _) d2) (iteF ?_)
    have e36 := Same.trans e35 e6
    refine ⟨_, rfl, .ref q, ds, rfl, hrow.same e36, g, (kv2.same e36).tab, fun H7 u kp pp => ?_⟩
    have hrow7 : Row K H7 (.ref q) ds := (hrow.same e36).ext kp.ext
    have kv7 : KV a O.P0 H H7 := (kv2.same e36).kp kp
    have hbb1 := hbb m sz hb
    obtain ⟨q', eq', sq7⟩ := id hrow7
    cases eq'
    have l1 : (ds.map V.int).length = ds.length := List.length_map _
    have t16 : ∀ x : Int, decide (V.int x = V.int x) = true := fun x => decide_eq_true rfl
    cases pp with
    | bar t ps m' s' b' h0 hq' ht pm pw =>
      have em := hb.one b'
      have bf : b2 = false := by
        cases b2 with
        | false => rfl
        | true => exact absurd (hbb1.mp rfl).2 (by omega)
      subst bf
      obtain ⟨l0, p1, p2, p3, p4⟩ := bar_lack b' h0 pm
      have g64 := g.few
      have hps : Row K H7 (.ref t) (ofNats ps) := Row.mk' ht
      refine ⟨u, _, rfl, SqT.of hq', rfl, _, _, rfl, _, _, rfl, rfl, ?_⟩
      refine ⟨_, rfl, false, rfl, iteT ⟨_, rfl, rfl, _, rfl, ?_⟩⟩
      have d3 : decide (V.str "bar" = V.str "odd") = false := decide_eq_false (fun z => by
        injection z with z
        exact absurd z (by decide +kernel))
      refine Eq.mpr (congrArg (fun b => if b = true then _ else _) d3) (iteF ?_)
      refine ⟨_, rfl, rfl, _, rfl, ?_⟩
      refine Eq.mpr (congrArg (fun b => if b = true then _ else _) (decide_eq_true (rfl : V.str "bar" = V.str "bar"))) (iteT ?_)
      refine ⟨_, rfl, _, rfl, .ref q, .ref t, ds, ps, rfl, hrow7, hps, g, by omega, p4, p3, fun H8 e8 => ⟨_, _, rfl, rfl, _, rfl, ?_⟩⟩
      refine Eq.mpr (congrArg (fun b => if b = true then _ else _) (decide_eq_true (show (0 : Int) < lackL ds ps by omega))) (iteT ?_)
      refine ⟨_, rfl, _, rfl, .ref q, .ref t, ds, ps, rfl, hrow7.same e8, hps.same e8, g, p1, by omega, pw, p3, fun H9 e9 => ?_⟩
      have e89 := Same.trans e8 e9
      refine ⟨_, rfl, _, rfl, .ref q, .ref t, ds, ps, rfl, hrow7.same e89, hps.same e89, g, by omega, p4, p3, fun H10 e10 => ⟨rfl, ?_⟩⟩
      show Q (V.bl (decide (V.int _ = V.int _))) H10
      rw [t16]
      exact k _ (kv7.same (Same.trans e89 e10))
    | odd s' b' h1 hq' =>
      have em := hb.one b'
      have bf : b2 = false := by
        cases b2 with
        | false => rfl
        | true => exact absurd (hbb1.mp rfl).1 (by omega)
      subst bf
      refine ⟨u, _, rfl, SqT.of hq', rfl, _, _, rfl, _, _, rfl, rfl, ?_⟩
      refine ⟨_, rfl, false, rfl, iteT ⟨_, rfl, rfl, _, rfl, ?_⟩⟩
      refine Eq.mpr (congrArg (fun b => if b = true then _ else _) (decide_eq_true (rfl : V.str "odd" = V.str "odd"))) (iteT ?_)
      refine ⟨_, rfl, _, rfl, q, ds, rfl, sq7, rfl, _, rfl, ?_⟩
      refine Eq.mpr (congrArg (fun b => if b = true then _ else _) (t16 ds.sum)) (iteT ?_)
      refine ⟨_, rfl, _, _, rfl, rfl, (by show (0 : Int) < 2; decide), rfl, ?_⟩
      show Q (V.bl (decide (V.int (ds.sum % 2) = V.int 1))) H7
      rw [h1, t16]
      exact k _ kv7
    | made s' t ks b' h1 few hq' wa hc =>
      have em := hb.one b'
      have bt : b2 = true := hbb1.mpr ⟨h1, em⟩
      subst bt
      have eds : (List.map (fun (i : Nat) => ((cnt ks (i : Int) : Nat) : Int)) (List.range ds.length)) = ds := by
        refine Eq.trans (List.map_congr_left fun i hi => hc i (List.mem_range.mp hi)) (KM.range_ent ds)
      refine ⟨u, _, rfl, SqT.of hq', rfl, _, _, rfl, _, _, rfl, rfl, ?_⟩
      refine ⟨_, rfl, true, rfl, iteF ?_⟩
      refine ⟨_, rfl, q, _, rfl, .inr sq7, _, _, rfl, rfl, _, rfl, ?_⟩
      refine Eq.mpr (congrArg (fun b => if b = true then _ else _) (decide_eq_false (show ¬ (16 : Int) < (((ds.map V.int).length : Nat) : Int) by rw [l1]; omega))) (iteF ?_)
      refine ⟨_, rfl, rfl, _, rfl, ?_⟩
      refine Eq.mpr (congrArg (fun b => if b = true then _ else _) (decide_eq_true (rfl : V.str "made" = V.str "made"))) (iteT ?_)
      obtain ⟨dx, tt, ll, fs, bs, hx, _⟩ := id wa.ex
      refine ⟨_, rfl, t, dx, fs, rfl, hx, t, ds.length, ks, rfl, wa, few, fun H8 v e8 hv8 => ?_⟩
      rw [eds] at hv8
      refine ⟨_, rfl, _, _, dp_row (Row.mk' hv8), dp_row (hrow7.same e8), shaped_ints ds, shaped_ints ds, _, rfl, ?_⟩
      refine Eq.mpr (congrArg (fun b => if b = true then _ else _) (same_ints ds)) (iteT ?_)
      refine ⟨_, rfl, .ref q, ds, s', rfl, hrow7.same e8, g, few, h1, b', (kv7.same e8).tab, fun H9 v2 ks2 kp9 wa2 hc2 => ?_⟩
      have eds2 : (List.map (fun (i : Nat) => ((cnt ks2 (i : Int) : Nat) : Int)) (List.range ds.length)) = ds := by
        refine Eq.trans (List.map_congr_left fun i hi => hc2 i (List.mem_range.mp hi)) (KM.range_ent ds)
      obtain ⟨dx2, tt2, ll2, fs2, bs2, hx2, _⟩ := id wa2.ex
      refine ⟨v2, dx2, fs2, rfl, hx2, v2, ds.length, ks2, rfl, wa2, few, fun H10 v3 e10 hv10 => ?_⟩
      rw [eds2] at hv10
      have hrow10 := ((hrow7.same e8).ext kp9.ext).same e10
      refine ⟨_, rfl, _, _, dp_row (Row.mk' hv10), dp_row hrow10, shaped_ints ds, shaped_ints ds, _, rfl, ?_⟩
      refine Eq.mpr (congrArg (fun b => if b = true then _ else _) (same_ints ds)) (iteT ?_)
      obtain ⟨q10, eq10, sq10⟩ := hrow10
      cases eq10
      have wa10 : WebAt Wt.C H10 t ds.length ks := ((wa.same e8).ext kp9.ext).same e10
      obtain ⟨dx3, tt3, ll3, fs3, bs3, hx3, _⟩ := id wa10.ex
      refine ⟨_, rfl, t, dx3, fs3, rfl, hx3, t, ds.length, ks, rfl, wa10, _, rfl, q, _, rfl, .inr sq10, rfl, ?_⟩
      show Q (V.bl (decide (V.int _ = V.int (((ds.map V.int).length : Nat) : Int)))) H10
      rw [l1, t16]
      exact k _ (((kv7.same e8).kp kp9).same e10)
    | many s' b' h1 lots hq' =>
      have em := hb.one b'
      have bt : b2 = true := hbb1.mpr ⟨h1, em⟩
      subst bt
      refine ⟨u, _, rfl, SqT.of hq', rfl, _, _, rfl, _, _, rfl, rfl, ?_⟩
      refine ⟨_, rfl, true, rfl, iteF ?_⟩
      refine ⟨_, rfl, q, _, rfl, .inr sq7, _, _, rfl, rfl, _, rfl, ?_⟩
      refine Eq.mpr (congrArg (fun b => if b = true then _ else _) (decide_eq_true (show (16 : Int) < (((ds.map V.int).length : Nat) : Int) by rw [l1]; omega))) (iteT ?_)
      refine ⟨_, rfl, _, rfl, by show 2 ≤ sizeLine; decide, fun p hp => ⟨by show 2 ≤ sizeLine; decide, fun p2 hp2 => ?_⟩⟩
      have s1 : Same H7 (upd H7 p (.lst [.str "many", .int 16])) := same_new hp
      have s2 : Same (upd H7 p (.lst [.str "many", .int 16])) (upd (upd H7 p (.lst [.str "many", .int 16])) p2 (.lst [.str "many", .int 16])) := same_new hp2
      refine ⟨.list [.str "many", .int 16], .list [.str "many", .int 16], .lst (SqL.of (s2 _ _ upd_same)) (.cons (.str _) (.cons (.int _) .nil)), .lst (SqL.of upd_same) (.cons (.str _) (.cons (.int _) .nil)), by decide +kernel, by decide +kernel, ?_⟩
      have d5 : PyData.eqv (.list [.str "many", .int 16]) (.list [.str "many", .int 16]) = true := by decide +kernel
      show Q (V.bl (PyData.eqv (.list [.str "many", .int 16]) (.list [.str "many", .int 16]))) _
      rw [d5]
      exact k _ (kv7.same (Same.trans s1 s2))
end
end K9
set_option Elab.async false
set_option linter.all false
set_option maxRecDepth 100000
set_option maxHeartbeats 1000000
/-! law -/
namespace K9
open PySem PySem.Spec PyProof.Rows L2 LamX ClX
open KM (Falls Heavy gap ent)
theorem best_ex (ds : List Int) : ∃ m s, Best ds m s := by
  obtain ⟨m, s, h⟩ := heavy_ex ((ordOf ds ds.length).map (ent ds))
  exact ⟨m, s, ⟨_, (ordOf_ord ds).falls, h⟩⟩
theorem rep_ge (c : Int) : ∀ n : Nat, (List.replicate n c).Pairwise (· ≥ ·) := fun n => List.pairwise_replicate.mpr (.inr (Int.le_refl c))
theorem rep_zero {n : Nat} {c : Int} (h : ∀ k, k ≤ n → gap (List.replicate n c) k ≤ 0) {m : Int} {s : Nat} (b : Best (List.replicate n c) m s) : m = 0 := by
  obtain ⟨es, h1, h2⟩ := b.ex
  obtain rfl := h1.one ⟨List.Perm.refl _, rep_ge c n⟩
  rcases h2.at_ with ⟨z, _⟩ | ⟨_, s2, em, z⟩
  · exact z
  · rw [List.length_replicate] at s2
    have := h s s2
    omega
theorem one_best {N m : Int} {s : Nat} (hN : 0 < N) (b : Best [N] m s) : m = N := by
  obtain ⟨es, h1, h2⟩ := b.ex
  obtain rfl := h1.one ⟨List.Perm.refl _, List.pairwise_singleton _ _⟩
  have g1 : gap [N] 1 = N := by
    unfold gap
    simp
  have t := h2.top 1 (Nat.le_refl _) (Nat.le_refl _)
  rw [g1] at t
  rcases h2.at_ with ⟨z, _⟩ | ⟨s1, s2, em, z⟩
  · omega
  · have e1 : s = 1 := by
      have : s ≤ 1 := s2
      omega
    rw [e1, g1] at em
    exact em
theorem rep_flat (c : Int) : ∀ n : Nat, (List.replicate n [V.int c]).flatten = (List.replicate n c).map V.int
  | 0 => rfl
  | n + 1 => by
    rw [List.replicate_succ, List.flatten_cons, rep_flat c n, List.replicate_succ, List.map_cons]
    rfl
theorem good_rep {n : Nat} {c : Int} (h1 : 1 ≤ n) (h64 : n ≤ 64) (h0 : 0 ≤ c) (hc : c ≤ 1000) : Good (List.replicate n c) := by
  refine ⟨by rw [List.length_replicate]; exact h1, by rw [List.length_replicate]; exact h64, fun y hy => ?_⟩
  rw [List.eq_of_mem_replicate hy]
  have t30 : top30 = 10 ^ 30 - 1 := rfl
  rw [t30]
  omega
theorem gaps39 : ∀ k, k ≤ 40 → gap (List.replicate 40 39) k ≤ 0 := by decide +kernel
theorem gaps64 : ∀ k, k ≤ 64 → gap (List.replicate 64 1) k ≤ 0 := by decide +kernel
theorem gaps63 : ∀ k, k ≤ 63 → gap (List.replicate 63 1) k ≤ 0 := by decide +kernel
theorem said_yes {ds : List Int} {b : Bool} (h : ∀ m s, Best ds m s → (b = true ↔ (ds.sum % 2 = 0 ∧ m = 0))) (hs : ds.sum % 2 = 0) (hz : ∀ m s, Best ds m s → m = 0) : b = true := by
  obtain ⟨m, s, hb⟩ := best_ex ds
  exact (h m s hb).mpr ⟨hs, hz m s hb⟩
theorem said_no {ds : List Int} {b : Bool} (h : ∀ m s, Best ds m s → (b = true ↔ (ds.sum % 2 = 0 ∧ m = 0))) (hs : ds.sum % 2 = 1) : b = false := by
  obtain ⟨m, s, hb⟩ := best_ex ds
  cases b with
  | false => rfl
  | true =>
    have := ((h m s hb).mp rfl).1
    omega
theorem KV.kp' {a P0 : Addr} {H H1 H2 : Hp} (e : Same H H1) (h : H a = none) (x : KV a P0 H1 H2) : Kp P0 H H2 := ⟨fun b o q n => x.keep b o (fun z => by rw [z, h] at q; cases q) n (e b o q), x.tab⟩
theorem ext_lst {K : PySem.W.Frag} {H H' : Hp} {a : Addr} {xs : List V} (e : ExtN H H') (h : SqL K H a xs) : SqL K H' a xs := by
  rcases h with (h | ⟨o, h⟩) | h
  · exact .inl (.inl (e _ _ h fun ps z => nomatch z))
  · exact .inl (.inr ⟨o, e _ _ h fun ps z => nomatch z⟩)
  · exact .inr h
theorem row_rep {K : PySem.W.Frag} {H : Hp} {p : Addr} {z c : Int} {n : Nat} (hz : z.toNat = n) : Row K (upd H p (.tup (List.replicate z.toNat [V.int c]).flatten)) (.ref p) (List.replicate n c) := by
  subst hz
  exact ⟨p, rfl, SqT.of (by rw [upd_same, rep_flat])⟩
theorem pow_top : (10 : Int) ^ (30 : Int).toNat - 1 = top30 := by decide +kernel
theorem pos_top : (0 : Int) < top30 := by decide +kernel
def spLaw (K : PySem.W.Frag) (P0 : Addr) : Sp := fun vs H Q _ => ∃ (a : Addr) (ns : List Int), vs = [.ref a] ∧ SqL K H a (ns.map V.int) ∧ ns.length ≤ 63 ∧ Tabs (LT P0) H ∧ ∀ H', Q (.bl true) H'
section
variable {P : Program} {w : World} {K : PySem.W.Frag} {mg : Str → Option Value} {base : Heap}
theorem ok_law (T : Txt K mg) (Wt : WebT K mg) (O : HoT K mg T) (TM : PySem.TMX.TmT P K mg) (TB : TabB base mg O.c O.P0) : FnOk P w K mg base CX0 12 T.d_law.f T.d_law.fd ["_law_script"] (spLaw K O.P0) := by
  refine T.d_law.F.ok c_law (fun vs H Q E h => ?_) (fun cdv A outer s H vs Q E hr h => ?_)
  · obtain ⟨a, ns, rfl, _⟩ := h
    rfl
  · obtain ⟨a, ns, rfl, hS, h63, hT, k⟩ := h
    have nd := c_law.nd
    have hu := hr.units
    have HW := ok_hasweb (P := P) (w := w) (base := base) T
    have GR := ok_right (P := P) (w := w) T Wt O TM TB
    have GP := ok_lawpaper (P := P) (w := w) T Wt O TM TB
    refine ⟨_, pss_cons (ps_for PassesOwn.never rfl (pi_range1 rfl T.n_range (pa_cons (pe_callB (call_max2 rfl) rfl T.n_max PyProof.Rows.boot_max (pa_cons pe_int (pa_cons (pe_callB (call_min2 rfl) rfl T.n_min PyProof.Rows.boot_min
          (pa_cons pe_int (pa_cons (pe_callB call_len_seq rfl T.n_len PySem.boot_len (pa_cons (pv 0) pa_nil)) pa_nil))) pa_nil))) pa_nil)) (pg_name (i := 1) nd rfl (Or.inl rfl))
        (pss_cons (ps_set (i := 2) nd rfl (Or.inl rfl) (pe_def T.d_law_vat (ok_vat T) (hr.mono (by decide)) rfl (pa_cons (pv 0) (pa_cons (pv 1) pa_nil))))
        (pss_one (ps_if (PW.pt (pw_or (pt_not (pt_val (pe_def T.d_law_right GR hr rfl (pa_cons (pv 2) pa_nil)))) (pw_or1 (pt_not (pt_val (pe_def T.d_law_right GR hr rfl (pa_cons (pv 2) pa_nil))))))) pss_never pss_nil))))
      (pss_cons (ps_set (i := 3) nd rfl (Or.inl rfl) (pe_lst (pa_cons (pe_def T.d_has_web HW (hr.mono (by decide)) rfl (pa_cons (pe_op op_repT (pe_tup (pa_cons pe_int pa_nil)) pe_int) pa_nil))
          (pa_cons (pe_def T.d_has_web HW (hr.mono (by decide)) rfl (pa_cons (pe_op op_catA (pe_tup (pa_cons pe_int pa_nil)) (pe_op op_repT (pe_tup (pa_cons pe_int pa_nil)) pe_int)) pa_nil))
          (pa_cons (pe_def T.d_has_web HW (hr.mono (by decide)) rfl (pa_cons (pe_op op_repT (pe_tup (pa_cons pe_int pa_nil)) pe_int) pa_nil))
          (pa_cons (pe_def T.d_has_web HW (hr.mono (by decide)) rfl (pa_cons (pe_op op_repT (pe_tup (pa_cons pe_int pa_nil)) pe_int) pa_nil)) pa_nil))))))
      (pss_cons (ps_if (PW.pt (pw_or (pt_cmpR (op_neD hu) (pv 3) (pe_lst (pa_cons pe_bl (pa_cons pe_bl (pa_cons pe_bl (pa_cons pe_bl pa_nil))))) (nomark _))
          (pw_or1 (pt_cmpR op_ne (pe_def T.d_greatest_lack (ok_greatest T) (hr.mono (by decide)) rfl (pa_cons (pe_tup (pa_cons (pe_op op_sub (pe_op op_powB pe_int pe_int) pe_int) pa_nil)) pa_nil)) (pe_op op_sub (pe_op op_powB pe_int pe_int) pe_int) (nomark _))))) pss_never pss_nil)
      (pss_one (ps_ret (pe_and (pe_cmpR (op_eqD hu) (pe_def T.d_law_paper GP (hr.mono (by decide)) rfl (pa_cons (pe_op op_repT (pe_tup (pa_cons pe_int pa_nil)) pe_int) pa_nil)) (pe_tup (pa_cons pe_str (pa_cons pe_int pa_nil))) (nomark _))
          (pe_one (pe_cmpR (op_eqD hu) (pe_def T.d_law_paper GP (hr.mono (by decide)) rfl (pa_cons (pe_op op_repT (pe_tup (pa_cons pe_int pa_nil)) pe_int) pa_nil)) (pe_tup (pa_cons pe_str (pa_cons pe_int pa_nil))) (nomark _)))))))), ?_⟩
    refine ⟨_, rfl, a, _, rfl, .inl hS, _, _, rfl, _, _, rfl, _, rfl, ?_, ?_, ?_⟩
    · split
      · split <;> omega
      · omega
    · split
      · split <;> omega
      · omega
    refine for_it walk_range (fun i σ H' => Kp O.P0 H H' ∧ ∃ v1 v2 : Option V, σ = [some (.ref a), v1, v2, none]) ⟨Kp.same hT (Same.refl H), none, none, rfl⟩ (fun _ _ _ _ _ => trivial) ?_ ?_
    · rintro i y σ H1 H2 hi ⟨kp, v1, v2, rfl⟩ ⟨eH, ey⟩
      have ey : y = V.int (i : Nat) := ey.trans (by show V.int (0 + (i : Int)) = _; rw [Int.zero_add])
      subst eH ey
      refine ⟨_, rfl, _, rfl, a, ns, i, rfl, ext_lst kp.ext hS, fun H3 v e3 hv0 hv => ?_⟩
      have t3 := kp.tab.ext e3
      refine ⟨_, rfl, v, rfl, hv, t3, fun H4 kv4 => ⟨true, rfl, iteF ?_⟩⟩
      refine ⟨_, rfl, v, rfl, kv4.ok, kv4.tab, fun H5 kv5 => ⟨true, rfl, iteF ?_⟩⟩
      exact ⟨kp.trans (KV.kp' e3 hv0 (kv4.trans kv5)), some (.int (i : Nat)), some (.ref v), rfl⟩
    · rintro σ H1 ⟨kp, v1, v2, rfl⟩
      -- the four that are told
      refine ⟨by show 1 ≤ sizeLine; decide, fun p1 hp1 => ⟨p1, 40, [.int 39], rfl, rfl, SqT.of upd_same, by simp, by decide, by decide, by decide, fun p2 hp2 => ?_⟩⟩
      refine ⟨.ref p2, List.replicate 40 39, rfl, row_rep rfl, good_rep (by decide) (by decide) (by decide) (by decide), fun b1 H2 e2 hb1 => ?_⟩
      obtain rfl := said_yes hb1 (by decide +kernel) fun m s b => rep_zero gaps39 b
      refine ⟨by show 1 ≤ sizeLine; decide, fun p3 hp3 => ⟨by show 1 ≤ sizeLine; decide, fun p4 hp4 => ⟨p4, 39, [.int 39], rfl, rfl, SqT.of upd_same, by simp, by decide, by decide, by decide, fun p5 hp5 => ?_⟩⟩⟩
      have r5 := row_rep (K := K) (H := upd (upd H2 p3 (.tup [.int 40])) p4 (.tup [.int 39])) (p := p5) (z := 39) (c := 39) (n := 39) rfl
      obtain ⟨q5, eq5, sq5⟩ := r5
      cases eq5
      refine ⟨p3, p5, [.int 40], (List.replicate 39 39).map V.int, rfl, rfl, SqT.of (same_new hp5 _ _ (same_new hp4 _ _ upd_same)), sq5, by decide, (fun z => nomatch z), (fun _ z => absurd z (by decide)), fun _ _ p6 hp6 => ?_⟩
      refine ⟨.ref p6, 40 :: List.replicate 39 39, rfl, ⟨p6, rfl, SqT.of upd_same⟩, ⟨by decide, by decide, fun y hy => ?_⟩, fun b2 H3 e3 hb2 => ?_⟩
      · have t30 : top30 = 10 ^ 30 - 1 := rfl
        rw [t30]
        rcases List.mem_cons.mp hy with e | e
        · omega
        · have := List.eq_of_mem_replicate e
          omega
      obtain rfl := said_no hb2 (by decide +kernel)
      refine ⟨by show 1 ≤ sizeLine; decide, fun p7 hp7 => ⟨p7, 63, [.int 1], rfl, rfl, SqT.of upd_same, by simp, by decide, by decide, by decide, fun p8 hp8 => ?_⟩⟩
      refine ⟨.ref p8, List.replicate 63 1, rfl, row_rep rfl, good_rep (by decide) (by decide) (by decide) (by decide), fun b3 H4 e4 hb3 => ?_⟩
      obtain rfl := said_no hb3 (by decide +kernel)
      refine ⟨by show 1 ≤ sizeLine; decide, fun p9 hp9 => ⟨p9, 64, [.int 1], rfl, rfl, SqT.of upd_same, by simp, by decide, by decide, by decide, fun p10 hp10 => ?_⟩⟩
      refine ⟨.ref p10, List.replicate 64 1, rfl, row_rep rfl, good_rep (by decide) (by decide) (by decide) (by decide), fun b4 H5 e5 hb4 => ?_⟩
      obtain rfl := said_yes hb4 (by decide +kernel) fun m s b => rep_zero gaps64 b
      refine ⟨by show 4 ≤ sizeLine; decide, fun l hl => ?_⟩
      -- they are as they should be
      have s25 : Same H1 H5 := by
        refine Same.trans (Same.trans (same_upd (same_new hp1) hp2) e2) (Same.trans (Same.trans (same_upd (same_upd (same_upd (same_new hp3) hp4) hp5) hp6) e3) (Same.trans (Same.trans (same_upd (same_new hp7) hp8) e4) (Same.trans (same_upd (same_new hp9) hp10) e5)))
      have s6 : Same H1 (upd H5 l (.lst [.bl true, .bl false, .bl false, .bl true])) := same_upd s25 hl
      refine ⟨_, rfl, by show 4 ≤ sizeLine; decide, fun l2 hl2 => ?_⟩
      refine ⟨.list [.bool true, .bool false, .bool false, .bool true], .list [.bool true, .bool false, .bool false, .bool true], .lst (SqL.of (same_new hl2 _ _ upd_same)) (.cons (.bl _) (.cons (.bl _) (.cons (.bl _) (.cons (.bl _) .nil)))),
        .lst (SqL.of upd_same) (.cons (.bl _) (.cons (.bl _) (.cons (.bl _) (.cons (.bl _) .nil)))), by decide +kernel, by decide +kernel, _, rfl, ?_⟩
      have d1 : (!PyData.eqv (.list [.bool true, .bool false, .bool false, .bool true]) (.list [.bool true, .bool false, .bool false, .bool true])) = false := by decide +kernel
      refine Eq.mpr (congrArg (fun b => if b = true then _ else _) d1) (iteF ?_)
      have s7 := same_upd (o := .lst [.bl true, .bl false, .bl false, .bl true]) s6 hl2
      refine ⟨_, _, rfl, rfl, pow30, _, _, rfl, rfl, by show 1 ≤ sizeLine; decide, fun p hp => ?_⟩
      have s8 := same_upd (o := .tup [.int ((10 : Int) ^ (30 : Int).toNat - 1)]) s7 hp
      refine ⟨.ref p, [(10 : Int) ^ (30 : Int).toNat - 1], rfl, ⟨p, rfl, SqT.of upd_same⟩, ⟨by decide, by decide, fun y hy => ?_⟩, fun m s H6 hb e6 => ?_⟩
      · rw [List.mem_singleton.mp hy, pow_top]
        exact ⟨Int.le_of_lt pos_top, Int.le_refl _⟩
      have em : m = (10 : Int) ^ (30 : Int).toNat - 1 := one_best (by rw [pow_top]; exact pos_top) hb
      subst em
      refine ⟨_, _, rfl, rfl, pow30, _, _, rfl, rfl, rfl, _, rfl, ?_⟩
      have d2 : (!decide (V.int ((10 : Int) ^ (30 : Int).toNat - 1) = V.int ((10 : Int) ^ (30 : Int).toNat - 1))) = false := by
        rw [decide_eq_true rfl]
        rfl
      refine Eq.mpr (congrArg (fun b => if b = true then _ else _) d2) (iteF ?_)
      have kp6 : Kp O.P0 H H6 := kp.more (Same.trans s8 e6)
      -- the two papers
      refine ⟨by show 1 ≤ sizeLine; decide, fun r1 hr1 => ⟨r1, 64, [.int 1], rfl, rfl, SqT.of upd_same, by simp, by decide, by decide, by decide, fun r2 hr2 => ?_⟩⟩
      have kp7 := kp6.more (same_upd (o := .tup (List.replicate (64 : Int).toNat [V.int 1]).flatten) (same_new (o := .tup [.int 1]) hr1) hr2)
      refine ⟨.ref r2, List.replicate 64 1, rfl, row_rep rfl, good_rep (by decide) (by decide) (by decide) (by decide), kp7.tab, fun H7 u kp8 pp => ⟨by show 2 ≤ sizeLine; decide, fun u2 hu2 => ?_⟩⟩
      have hq : H7 u = some (.tup [.str "many", .int 16]) := by
        cases pp with
        | bar t ps m s b h0 hq ht pm pw => exact absurd (rep_zero gaps64 b) (by omega)
        | odd s b h1 hq => exact absurd h1 (by decide +kernel)
        | made s t ks b h1 few hq wa hc => exact absurd few (by decide)
        | many s b h1 lots hq => exact hq
      have kp9 := (kp7.trans kp8).more (same_new (o := .tup [.str "many", .int 16]) hu2)
      refine ⟨.tuple [.str "many", .int 16], .tuple [.str "many", .int 16], .tup (SqT.of (same_new hu2 _ _ hq)) (.cons (.str _) (.cons (.int _) .nil)), .tup (SqT.of upd_same) (.cons (.str _) (.cons (.int _) .nil)), by decide +kernel, by decide +kernel, _, rfl, ?_⟩
      have d3 : PyData.eqv (.tuple [.str "many", .int 16]) (.tuple [.str "many", .int 16]) = true := by decide +kernel
      refine Eq.mpr (congrArg (fun b => if b = true then _ else _) d3) (iteT ?_)
      refine ⟨by show 1 ≤ sizeLine; decide, fun r3 hr3 => ⟨r3, 63, [.int 1], rfl, rfl, SqT.of upd_same, by simp, by decide, by decide, by decide, fun r4 hr4 => ?_⟩⟩
      have kp10 := kp9.more (same_upd (o := .tup (List.replicate (63 : Int).toNat [V.int 1]).flatten) (same_new (o := .tup [.int 1]) hr3) hr4)
      refine ⟨.ref r4, List.replicate 63 1, rfl, row_rep rfl, good_rep (by decide) (by decide) (by decide) (by decide), kp10.tab, fun H8 u3 kp11 pp => ⟨by show 2 ≤ sizeLine; decide, fun u4 hu4 => ?_⟩⟩
      have hq2 : H8 u3 = some (.tup [.str "odd", .int 63]) := by
        cases pp with
        | bar t ps m s b h0 hq ht pm pw => exact absurd (rep_zero gaps63 b) (by omega)
        | odd s b h1 hq =>
          rw [hq, show (List.replicate 63 (1 : Int)).sum = 63 by decide +kernel]
        | made s t ks b h1 few hq wa hc => exact absurd few (by decide)
        | many s b h1 lots hq => exact absurd h1 (by decide +kernel)
      refine ⟨.tuple [.str "odd", .int 63], .tuple [.str "odd", .int 63], .tup (SqT.of (same_new hu4 _ _ hq2)) (.cons (.str _) (.cons (.int _) .nil)), .tup (SqT.of upd_same) (.cons (.str _) (.cons (.int _) .nil)), by decide +kernel, by decide +kernel, ?_⟩
      have d4 : PyData.eqv (.tuple [.str "odd", .int 63]) (.tuple [.str "odd", .int 63]) = true := by decide +kernel
      show Q (V.bl (PyData.eqv (.tuple [.str "odd", .int 63]) (.tuple [.str "odd", .int 63]))) _
      rw [d4]
      exact k _
end
end K9
set_option Elab.async false
set_option linter.all false
set_option maxRecDepth 100000
set_option maxHeartbeats 2000000
/-! what the top has written, gathered -/
namespace K9
open PySem PySem.Spec PyProof.Rows L2
theorem top30_lit : top30 = 999999999999999999999999999999 := by decide +kernel
structure All (P : Program) (K : PySem.W.Frag) (mg : Str → Option Value) : Type where
  T : Txt K mg
  Wt : WebT K mg
  O : HoT K mg T
  TM : PySem.TMX.TmT P K mg
def def_mk {K : PySem.W.Frag} {mg : Str → Option Value} {h : Heap} {x : Str} {st : Stmt} {ps : List Str} {f : Addr} {od an : Option Addr} {sl : Array (Option Value)} {oc kV dc pm cd ct : Value} (X : K.In h) (G : h.Ns mainGlobals mg)
    (a : PySem.W.nsIn K mainGlobals x = some (some (.ref f))) (l : K.lookup f = some ⟨oc, od, .func (PySem.W.fnOf x x (defArgs st) (defBody st) (defScope st) .none kV dc pm an cd ct), sl⟩) (c : PySem.W.codeIn K cd x = true) (k : PySem.W.keepIn K (.ref f) = true)
    (hb : ∀ (kV doc pm : Value) (an : Option Addr) (cdv ct : Value) (us : List Value), us.length = ps.length → bindArgs (PySem.W.fnOf x x (defArgs st) (defBody st) (defScope st) .none kV doc pm an cdv ct) ⟨us, []⟩ = pure (ps.zip us)) : Def K mg x st ps :=
  ⟨f, _, fun_mk l c k, PySem.W.mg_of X G a, (fun_mk l c k).binds hb⟩
theorem own_hit {K : PySem.W.Frag} {S : Addr} (h1 : PySem.W.subIn K (.ref S) (.type "BaseException") = some true) (h2 : PySem.W.isClsIn K S = true) (h3 : PySem.W.typeIn K (.ref S) = some (.type "type")) (h4 : PySem.W.subIn K (.ref S) (.ref S) = some true) : PySem.W.exmOne K (.ref S) (.ref S) = some true := by
  have e2 : ((PySem.W.clsIn K S).isSome && PySem.W.typeIn K (.ref S) == some (.type "type")) = true := by
    rw [show (PySem.W.clsIn K S).isSome = true from h2, h3]
    rfl
  show (if (PySem.W.subIn K (.ref S) (.type "BaseException") == some true) = true then (if ((PySem.W.clsIn K S).isSome && PySem.W.typeIn K (.ref S) == some (.type "type")) = true then PySem.W.subIn K (.ref S) (.ref S) else none) else none) = some true
  rw [if_pos (by rw [h1]; rfl), if_pos e2]
  exact h4
def all_mk {P : Program} {K : PySem.W.Frag} {h : Heap} {mg : Str → Option Value} (X : K.In h) (G : h.Ns mainGlobals mg)
    {f1 : Addr} {od1 an1 : Option Addr} {sl1 : Array (Option Value)} {oc1 kV1 dc1 pm1 cd1 ct1 : Value}
    {f2 : Addr} {od2 an2 : Option Addr} {sl2 : Array (Option Value)} {oc2 kV2 dc2 pm2 cd2 ct2 : Value}
    {f3 : Addr} {od3 an3 : Option Addr} {sl3 : Array (Option Value)} {oc3 kV3 dc3 pm3 cd3 ct3 : Value}
    {f4 : Addr} {od4 an4 : Option Addr} {sl4 : Array (Option Value)} {oc4 kV4 dc4 pm4 cd4 ct4 : Value}
    {f5 : Addr} {od5 an5 : Option Addr} {sl5 : Array (Option Value)} {oc5 kV5 dc5 pm5 cd5 ct5 : Value}
    {f6 : Addr} {od6 an6 : Option Addr} {sl6 : Array (Option Value)} {oc6 kV6 dc6 pm6 cd6 ct6 : Value}
    {f7 : Addr} {od7 an7 : Option Addr} {sl7 : Array (Option Value)} {oc7 kV7 dc7 pm7 cd7 ct7 : Value}
    {f8 : Addr} {od8 an8 : Option Addr} {sl8 : Array (Option Value)} {oc8 kV8 dc8 pm8 cd8 ct8 : Value}
    {f9 : Addr} {od9 an9 : Option Addr} {sl9 : Array (Option Value)} {oc9 kV9 dc9 pm9 cd9 ct9 : Value}
    {f10 : Addr} {od10 an10 : Option Addr} {sl10 : Array (Option Value)} {oc10 kV10 dc10 pm10 cd10 ct10 : Value}
    {f11 : Addr} {od11 an11 : Option Addr} {sl11 : Array (Option Value)} {oc11 kV11 dc11 pm11 cd11 ct11 : Value}
    {f12 cH : Addr} {od12 an12 : Option Addr} {sl12 : Array (Option Value)} {oc12 kV12 dc12 pm12 ct12 : Value}
    {f13 : Addr} {od13 an13 : Option Addr} {sl13 : Array (Option Value)} {oc13 kV13 dc13 pm13 cd13 ct13 : Value}
    {f14 : Addr} {od14 an14 : Option Addr} {sl14 : Array (Option Value)} {oc14 kV14 dc14 pm14 cd14 ct14 : Value}
    {f15 : Addr} {od15 an15 : Option Addr} {sl15 : Array (Option Value)} {oc15 kV15 dc15 pm15 cd15 ct15 : Value}
    {f16 : Addr} {od16 an16 : Option Addr} {sl16 : Array (Option Value)} {oc16 kV16 dc16 pm16 cd16 ct16 : Value}
    {f17 : Addr} {od17 an17 : Option Addr} {sl17 : Array (Option Value)} {oc17 kV17 dc17 pm17 cd17 ct17 : Value}
    {f18 : Addr} {od18 an18 : Option Addr} {sl18 : Array (Option Value)} {oc18 kV18 dc18 pm18 cd18 ct18 : Value}
    {f19 : Addr} {od19 an19 : Option Addr} {sl19 : Array (Option Value)} {oc19 kV19 dc19 pm19 cd19 ct19 : Value}
    {f20 : Addr} {od20 an20 : Option Addr} {sl20 : Array (Option Value)} {oc20 kV20 dc20 pm20 cd20 ct20 : Value}
    {f21 : Addr} {od21 an21 : Option Addr} {sl21 : Array (Option Value)} {oc21 kV21 dc21 pm21 cd21 ct21 : Value}
    {f22 : Addr} {od22 an22 : Option Addr} {sl22 : Array (Option Value)} {oc22 kV22 dc22 pm22 cd22 ct22 : Value}
    {f23 : Addr} {od23 an23 : Option Addr} {sl23 : Array (Option Value)} {oc23 kV23 dc23 pm23 cd23 ct23 : Value}
    {f24 : Addr} {od24 an24 : Option Addr} {sl24 : Array (Option Value)} {oc24 kV24 dc24 pm24 cd24 ct24 : Value}
    {f25 : Addr} {od25 an25 : Option Addr} {sl25 : Array (Option Value)} {oc25 kV25 dc25 pm25 cd25 ct25 : Value}
    {f26 : Addr} {od26 an26 : Option Addr} {sl26 : Array (Option Value)} {oc26 kV26 dc26 pm26 cd26 ct26 : Value}
    {f27 : Addr} {od27 an27 : Option Addr} {sl27 : Array (Option Value)} {oc27 kV27 dc27 pm27 cd27 ct27 : Value}
    {f28 : Addr} {od28 an28 : Option Addr} {sl28 : Array (Option Value)} {oc28 kV28 dc28 pm28 cd28 ct28 : Value}
    {f29 : Addr} {od29 an29 : Option Addr} {sl29 : Array (Option Value)} {oc29 kV29 dc29 pm29 cd29 ct29 : Value}
    {f30 : Addr} {od30 an30 : Option Addr} {sl30 : Array (Option Value)} {oc30 kV30 dc30 pm30 cd30 ct30 : Value}
    {f31 : Addr} {od31 an31 : Option Addr} {sl31 : Array (Option Value)} {oc31 kV31 dc31 pm31 cd31 ct31 : Value}
    {f32 : Addr} {od32 an32 : Option Addr} {sl32 : Array (Option Value)} {oc32 kV32 dc32 pm32 cd32 ct32 : Value}
    {f33 : Addr} {od33 an33 : Option Addr} {sl33 : Array (Option Value)} {oc33 kV33 dc33 pm33 cd33 ct33 : Value}
    {f34 : Addr} {od34 an34 : Option Addr} {sl34 : Array (Option Value)} {oc34 kV34 dc34 pm34 cd34 ct34 : Value}
    {f35 : Addr} {od35 an35 : Option Addr} {sl35 : Array (Option Value)} {oc35 kV35 dc35 pm35 cd35 ct35 : Value}
    {f36 : Addr} {od36 an36 : Option Addr} {sl36 : Array (Option Value)} {oc36 kV36 dc36 pm36 cd36 ct36 : Value}
    {f37 : Addr} {od37 an37 : Option Addr} {sl37 : Array (Option Value)} {oc37 kV37 dc37 pm37 cd37 ct37 : Value}
    {t_MAX_PLACES : Tok}
    {t_MAX_LENGTH : Tok}
    {t_MAX_NUMBER : Tok}
    {t_BAR : Tok}
    {t_ODD : Tok}
    {t_MADE : Tok}
    {C : Addr}
    {fI : Addr} {odI anI : Option Addr} {slI : Array (Option Value)} {ocI kVI dcI pmI cdI ctI : Value}
    {pO : Addr} {rO : List Value}
    {fO : Addr} {odO anO : Option Addr} {slO : Array (Option Value)} {ocO kVO dcO pmO cdO ctO : Value}
    {pP : Addr} {rP : List Value}
    {fP : Addr} {odP anP : Option Addr} {slP : Array (Option Value)} {ocP kVP dcP pmP cdP ctP : Value}
    {pD : Addr} {rD : List Value}
    {fD : Addr} {odD anD : Option Addr} {slD : Array (Option Value)} {ocD kVD dcD pmD cdD ctD : Value}
    {M fM cc cda N : Addr} {nm qn : Str} {bs : List Value} {sn : List Str} {sub : List Value} {ab : Bool} {col : Option Bool} {dd : Option Addr} {m0 m1 m2 m3 m5 : Option Value}
    {odM anM : Option Addr} {slM : Array (Option Value)} {ocM kVM dcM pmM ctM : Value}
    {ccl : Value} {cdd : Option Addr} {vs : Array Value} {ccs : Array (Option Value)} {file : Str} {tf : Tok} {cl : Value} {cld : Option Addr} {csl : Array (Option Value)}
    (P0 : Addr)
    (a1 : PySem.W.nsIn K mainGlobals "is_integer" = some (some (.ref f1)))
    (l1 : K.lookup f1 = some ⟨oc1, od1, .func (PySem.W.fnOf "is_integer" "is_integer" (defArgs s_is_integer) (defBody s_is_integer) (defScope s_is_integer) .none kV1 dc1 pm1 an1 cd1 ct1), sl1⟩)
    (c1 : PySem.W.codeIn K cd1 "is_integer" = true)
    (k1 : PySem.W.keepIn K (.ref f1) = true)
    (a2 : PySem.W.nsIn K mainGlobals "is_from" = some (some (.ref f2)))
    (l2 : K.lookup f2 = some ⟨oc2, od2, .func (PySem.W.fnOf "is_from" "is_from" (defArgs s_is_from) (defBody s_is_from) (defScope s_is_from) .none kV2 dc2 pm2 an2 cd2 ct2), sl2⟩)
    (c2 : PySem.W.codeIn K cd2 "is_from" = true)
    (k2 : PySem.W.keepIn K (.ref f2) = true)
    (a3 : PySem.W.nsIn K mainGlobals "is_ascending" = some (some (.ref f3)))
    (l3 : K.lookup f3 = some ⟨oc3, od3, .func (PySem.W.fnOf "is_ascending" "is_ascending" (defArgs s_is_ascending) (defBody s_is_ascending) (defScope s_is_ascending) .none kV3 dc3 pm3 an3 cd3 ct3), sl3⟩)
    (c3 : PySem.W.codeIn K cd3 "is_ascending" = true)
    (k3 : PySem.W.keepIn K (.ref f3) = true)
    (a4 : PySem.W.nsIn K mainGlobals "are_indices" = some (some (.ref f4)))
    (l4 : K.lookup f4 = some ⟨oc4, od4, .func (PySem.W.fnOf "are_indices" "are_indices" (defArgs s_are_indices) (defBody s_are_indices) (defScope s_are_indices) .none kV4 dc4 pm4 an4 cd4 ct4), sl4⟩)
    (c4 : PySem.W.codeIn K cd4 "are_indices" = true)
    (k4 : PySem.W.keepIn K (.ref f4) = true)
    (a5 : PySem.W.nsIn K mainGlobals "is_tie" = some (some (.ref f5)))
    (l5 : K.lookup f5 = some ⟨oc5, od5, .func (PySem.W.fnOf "is_tie" "is_tie" (defArgs s_is_tie) (defBody s_is_tie) (defScope s_is_tie) .none kV5 dc5 pm5 an5 cd5 ct5), sl5⟩)
    (c5 : PySem.W.codeIn K cd5 "is_tie" = true)
    (k5 : PySem.W.keepIn K (.ref f5) = true)
    (a6 : PySem.W.nsIn K mainGlobals "others_at" = some (some (.ref f6)))
    (l6 : K.lookup f6 = some ⟨oc6, od6, .func (PySem.W.fnOf "others_at" "others_at" (defArgs s_others_at) (defBody s_others_at) (defScope s_others_at) .none kV6 dc6 pm6 an6 cd6 ct6), sl6⟩)
    (c6 : PySem.W.codeIn K cd6 "others_at" = true)
    (k6 : PySem.W.keepIn K (.ref f6) = true)
    (a7 : PySem.W.nsIn K mainGlobals "is_amount" = some (some (.ref f7)))
    (l7 : K.lookup f7 = some ⟨oc7, od7, .func (PySem.W.fnOf "is_amount" "is_amount" (defArgs s_is_amount) (defBody s_is_amount) (defScope s_is_amount) .none kV7 dc7 pm7 an7 cd7 ct7), sl7⟩)
    (c7 : PySem.W.codeIn K cd7 "is_amount" = true)
    (k7 : PySem.W.keepIn K (.ref f7) = true)
    (a8 : PySem.W.nsIn K mainGlobals "is_row" = some (some (.ref f8)))
    (l8 : K.lookup f8 = some ⟨oc8, od8, .func (PySem.W.fnOf "is_row" "is_row" (defArgs s_is_row) (defBody s_is_row) (defScope s_is_row) .none kV8 dc8 pm8 an8 cd8 ct8), sl8⟩)
    (c8 : PySem.W.codeIn K cd8 "is_row" = true)
    (k8 : PySem.W.keepIn K (.ref f8) = true)
    (a9 : PySem.W.nsIn K mainGlobals "require_row" = some (some (.ref f9)))
    (l9 : K.lookup f9 = some ⟨oc9, od9, .func (PySem.W.fnOf "require_row" "require_row" (defArgs s_require_row) (defBody s_require_row) (defScope s_require_row) .none kV9 dc9 pm9 an9 cd9 ct9), sl9⟩)
    (c9 : PySem.W.codeIn K cd9 "require_row" = true)
    (k9 : PySem.W.keepIn K (.ref f9) = true)
    (a10 : PySem.W.nsIn K mainGlobals "falling" = some (some (.ref f10)))
    (l10 : K.lookup f10 = some ⟨oc10, od10, .func (PySem.W.fnOf "falling" "falling" (defArgs s_falling) (defBody s_falling) (defScope s_falling) .none kV10 dc10 pm10 an10 cd10 ct10), sl10⟩)
    (c10 : PySem.W.codeIn K cd10 "falling" = true)
    (k10 : PySem.W.keepIn K (.ref f10) = true)
    (a11 : PySem.W.nsIn K mainGlobals "lack_of" = some (some (.ref f11)))
    (l11 : K.lookup f11 = some ⟨oc11, od11, .func (PySem.W.fnOf "lack_of" "lack_of" (defArgs s_lack_of) (defBody s_lack_of) (defScope s_lack_of) .none kV11 dc11 pm11 an11 cd11 ct11), sl11⟩)
    (c11 : PySem.W.codeIn K cd11 "lack_of" = true)
    (k11 : PySem.W.keepIn K (.ref f11) = true)
    (a12 : PySem.W.nsIn K mainGlobals "heaviest_order" = some (some (.ref f12)))
    (l12 : K.lookup f12 = some ⟨oc12, od12, .func (PySem.W.fnOf "heaviest_order" "heaviest_order" (defArgs s_heaviest_order) (defBody s_heaviest_order) (defScope s_heaviest_order) .none kV12 dc12 pm12 an12 (.ref cH) ct12), sl12⟩)
    (c12 : PySem.W.codeIn K (.ref cH) "heaviest_order" = true)
    (k12 : PySem.W.keepIn K (.ref f12) = true)
    (a13 : PySem.W.nsIn K mainGlobals "heaviest" = some (some (.ref f13)))
    (l13 : K.lookup f13 = some ⟨oc13, od13, .func (PySem.W.fnOf "heaviest" "heaviest" (defArgs s_heaviest) (defBody s_heaviest) (defScope s_heaviest) .none kV13 dc13 pm13 an13 cd13 ct13), sl13⟩)
    (c13 : PySem.W.codeIn K cd13 "heaviest" = true)
    (k13 : PySem.W.keepIn K (.ref f13) = true)
    (a14 : PySem.W.nsIn K mainGlobals "is_web_row" = some (some (.ref f14)))
    (l14 : K.lookup f14 = some ⟨oc14, od14, .func (PySem.W.fnOf "is_web_row" "is_web_row" (defArgs s_is_web_row) (defBody s_is_web_row) (defScope s_is_web_row) .none kV14 dc14 pm14 an14 cd14 ct14), sl14⟩)
    (c14 : PySem.W.codeIn K cd14 "is_web_row" = true)
    (k14 : PySem.W.keepIn K (.ref f14) = true)
    (a15 : PySem.W.nsIn K mainGlobals "lack" = some (some (.ref f15)))
    (l15 : K.lookup f15 = some ⟨oc15, od15, .func (PySem.W.fnOf "lack" "lack" (defArgs s_lack) (defBody s_lack) (defScope s_lack) .none kV15 dc15 pm15 an15 cd15 ct15), sl15⟩)
    (c15 : PySem.W.codeIn K cd15 "lack" = true)
    (k15 : PySem.W.keepIn K (.ref f15) = true)
    (a16 : PySem.W.nsIn K mainGlobals "greatest_lack" = some (some (.ref f16)))
    (l16 : K.lookup f16 = some ⟨oc16, od16, .func (PySem.W.fnOf "greatest_lack" "greatest_lack" (defArgs s_greatest_lack) (defBody s_greatest_lack) (defScope s_greatest_lack) .none kV16 dc16 pm16 an16 cd16 ct16), sl16⟩)
    (c16 : PySem.W.codeIn K cd16 "greatest_lack" = true)
    (k16 : PySem.W.keepIn K (.ref f16) = true)
    (a17 : PySem.W.nsIn K mainGlobals "has_web" = some (some (.ref f17)))
    (l17 : K.lookup f17 = some ⟨oc17, od17, .func (PySem.W.fnOf "has_web" "has_web" (defArgs s_has_web) (defBody s_has_web) (defScope s_has_web) .none kV17 dc17 pm17 an17 cd17 ct17), sl17⟩)
    (c17 : PySem.W.codeIn K cd17 "has_web" = true)
    (k17 : PySem.W.keepIn K (.ref f17) = true)
    (a18 : PySem.W.nsIn K mainGlobals "partners_in" = some (some (.ref f18)))
    (l18 : K.lookup f18 = some ⟨oc18, od18, .func (PySem.W.fnOf "partners_in" "partners_in" (defArgs s_partners_in) (defBody s_partners_in) (defScope s_partners_in) .none kV18 dc18 pm18 an18 cd18 ct18), sl18⟩)
    (c18 : PySem.W.codeIn K cd18 "partners_in" = true)
    (k18 : PySem.W.keepIn K (.ref f18) = true)
    (a19 : PySem.W.nsIn K mainGlobals "row_without" = some (some (.ref f19)))
    (l19 : K.lookup f19 = some ⟨oc19, od19, .func (PySem.W.fnOf "row_without" "row_without" (defArgs s_row_without) (defBody s_row_without) (defScope s_row_without) .none kV19 dc19 pm19 an19 cd19 ct19), sl19⟩)
    (c19 : PySem.W.codeIn K cd19 "row_without" = true)
    (k19 : PySem.W.keepIn K (.ref f19) = true)
    (a20 : PySem.W.nsIn K mainGlobals "made_web" = some (some (.ref f20)))
    (l20 : K.lookup f20 = some ⟨oc20, od20, .func (PySem.W.fnOf "made_web" "made_web" (defArgs s_made_web) (defBody s_made_web) (defScope s_made_web) .none kV20 dc20 pm20 an20 cd20 ct20), sl20⟩)
    (c20 : PySem.W.codeIn K cd20 "made_web" = true)
    (k20 : PySem.W.keepIn K (.ref f20) = true)
    (a21 : PySem.W.nsIn K mainGlobals "require_web_row" = some (some (.ref f21)))
    (l21 : K.lookup f21 = some ⟨oc21, od21, .func (PySem.W.fnOf "require_web_row" "require_web_row" (defArgs s_require_web_row) (defBody s_require_web_row) (defScope s_require_web_row) .none kV21 dc21 pm21 an21 cd21 ct21), sl21⟩)
    (c21 : PySem.W.codeIn K cd21 "require_web_row" = true)
    (k21 : PySem.W.keepIn K (.ref f21) = true)
    (a22 : PySem.W.nsIn K mainGlobals "require_short" = some (some (.ref f22)))
    (l22 : K.lookup f22 = some ⟨oc22, od22, .func (PySem.W.fnOf "require_short" "require_short" (defArgs s_require_short) (defBody s_require_short) (defScope s_require_short) .none kV22 dc22 pm22 an22 cd22 ct22), sl22⟩)
    (c22 : PySem.W.codeIn K cd22 "require_short" = true)
    (k22 : PySem.W.keepIn K (.ref f22) = true)
    (a23 : PySem.W.nsIn K mainGlobals "web_of" = some (some (.ref f23)))
    (l23 : K.lookup f23 = some ⟨oc23, od23, .func (PySem.W.fnOf "web_of" "web_of" (defArgs s_web_of) (defBody s_web_of) (defScope s_web_of) .none kV23 dc23 pm23 an23 cd23 ct23), sl23⟩)
    (c23 : PySem.W.codeIn K cd23 "web_of" = true)
    (k23 : PySem.W.keepIn K (.ref f23) = true)
    (a24 : PySem.W.nsIn K mainGlobals "web_paper" = some (some (.ref f24)))
    (l24 : K.lookup f24 = some ⟨oc24, od24, .func (PySem.W.fnOf "web_paper" "web_paper" (defArgs s_web_paper) (defBody s_web_paper) (defScope s_web_paper) .none kV24 dc24 pm24 an24 cd24 ct24), sl24⟩)
    (c24 : PySem.W.codeIn K cd24 "web_paper" = true)
    (k24 : PySem.W.keepIn K (.ref f24) = true)
    (a25 : PySem.W.nsIn K mainGlobals "_law_vat" = some (some (.ref f25)))
    (l25 : K.lookup f25 = some ⟨oc25, od25, .func (PySem.W.fnOf "_law_vat" "_law_vat" (defArgs s_law_vat) (defBody s_law_vat) (defScope s_law_vat) .none kV25 dc25 pm25 an25 cd25 ct25), sl25⟩)
    (c25 : PySem.W.codeIn K cd25 "_law_vat" = true)
    (k25 : PySem.W.keepIn K (.ref f25) = true)
    (a26 : PySem.W.nsIn K mainGlobals "_law_dip" = some (some (.ref f26)))
    (l26 : K.lookup f26 = some ⟨oc26, od26, .func (PySem.W.fnOf "_law_dip" "_law_dip" (defArgs s_law_dip) (defBody s_law_dip) (defScope s_law_dip) .none kV26 dc26 pm26 an26 cd26 ct26), sl26⟩)
    (c26 : PySem.W.codeIn K cd26 "_law_dip" = true)
    (k26 : PySem.W.keepIn K (.ref f26) = true)
    (a27 : PySem.W.nsIn K mainGlobals "_law_pick" = some (some (.ref f27)))
    (l27 : K.lookup f27 = some ⟨oc27, od27, .func (PySem.W.fnOf "_law_pick" "_law_pick" (defArgs s_law_pick) (defBody s_law_pick) (defScope s_law_pick) .none kV27 dc27 pm27 an27 cd27 ct27), sl27⟩)
    (c27 : PySem.W.codeIn K cd27 "_law_pick" = true)
    (k27 : PySem.W.keepIn K (.ref f27) = true)
    (a28 : PySem.W.nsIn K mainGlobals "_law_web" = some (some (.ref f28)))
    (l28 : K.lookup f28 = some ⟨oc28, od28, .func (PySem.W.fnOf "_law_web" "_law_web" (defArgs s_law_web) (defBody s_law_web) (defScope s_law_web) .none kV28 dc28 pm28 an28 cd28 ct28), sl28⟩)
    (c28 : PySem.W.codeIn K cd28 "_law_web" = true)
    (k28 : PySem.W.keepIn K (.ref f28) = true)
    (a29 : PySem.W.nsIn K mainGlobals "_law_degrees" = some (some (.ref f29)))
    (l29 : K.lookup f29 = some ⟨oc29, od29, .func (PySem.W.fnOf "_law_degrees" "_law_degrees" (defArgs s_law_degrees) (defBody s_law_degrees) (defScope s_law_degrees) .none kV29 dc29 pm29 an29 cd29 ct29), sl29⟩)
    (c29 : PySem.W.codeIn K cd29 "_law_degrees" = true)
    (k29 : PySem.W.keepIn K (.ref f29) = true)
    (a30 : PySem.W.nsIn K mainGlobals "_law_lack" = some (some (.ref f30)))
    (l30 : K.lookup f30 = some ⟨oc30, od30, .func (PySem.W.fnOf "_law_lack" "_law_lack" (defArgs s_law_lack) (defBody s_law_lack) (defScope s_law_lack) .none kV30 dc30 pm30 an30 cd30 ct30), sl30⟩)
    (c30 : PySem.W.codeIn K cd30 "_law_lack" = true)
    (k30 : PySem.W.keepIn K (.ref f30) = true)
    (a31 : PySem.W.nsIn K mainGlobals "_law_greatest" = some (some (.ref f31)))
    (l31 : K.lookup f31 = some ⟨oc31, od31, .func (PySem.W.fnOf "_law_greatest" "_law_greatest" (defArgs s_law_greatest) (defBody s_law_greatest) (defScope s_law_greatest) .none kV31 dc31 pm31 an31 cd31 ct31), sl31⟩)
    (c31 : PySem.W.codeIn K cd31 "_law_greatest" = true)
    (k31 : PySem.W.keepIn K (.ref f31) = true)
    (a32 : PySem.W.nsIn K mainGlobals "_law_is_possible" = some (some (.ref f32)))
    (l32 : K.lookup f32 = some ⟨oc32, od32, .func (PySem.W.fnOf "_law_is_possible" "_law_is_possible" (defArgs s_law_is_possible) (defBody s_law_is_possible) (defScope s_law_is_possible) .none kV32 dc32 pm32 an32 cd32 ct32), sl32⟩)
    (c32 : PySem.W.codeIn K cd32 "_law_is_possible" = true)
    (k32 : PySem.W.keepIn K (.ref f32) = true)
    (a33 : PySem.W.nsIn K mainGlobals "_law_long" = some (some (.ref f33)))
    (l33 : K.lookup f33 = some ⟨oc33, od33, .func (PySem.W.fnOf "_law_long" "_law_long" (defArgs s_law_long) (defBody s_law_long) (defScope s_law_long) .none kV33 dc33 pm33 an33 cd33 ct33), sl33⟩)
    (c33 : PySem.W.codeIn K cd33 "_law_long" = true)
    (k33 : PySem.W.keepIn K (.ref f33) = true)
    (a34 : PySem.W.nsIn K mainGlobals "_law_moved" = some (some (.ref f34)))
    (l34 : K.lookup f34 = some ⟨oc34, od34, .func (PySem.W.fnOf "_law_moved" "_law_moved" (defArgs s_law_moved) (defBody s_law_moved) (defScope s_law_moved) .none kV34 dc34 pm34 an34 cd34 ct34), sl34⟩)
    (c34 : PySem.W.codeIn K cd34 "_law_moved" = true)
    (k34 : PySem.W.keepIn K (.ref f34) = true)
    (a35 : PySem.W.nsIn K mainGlobals "_law_paper" = some (some (.ref f35)))
    (l35 : K.lookup f35 = some ⟨oc35, od35, .func (PySem.W.fnOf "_law_paper" "_law_paper" (defArgs s_law_paper) (defBody s_law_paper) (defScope s_law_paper) .none kV35 dc35 pm35 an35 cd35 ct35), sl35⟩)
    (c35 : PySem.W.codeIn K cd35 "_law_paper" = true)
    (k35 : PySem.W.keepIn K (.ref f35) = true)
    (a36 : PySem.W.nsIn K mainGlobals "_law_right" = some (some (.ref f36)))
    (l36 : K.lookup f36 = some ⟨oc36, od36, .func (PySem.W.fnOf "_law_right" "_law_right" (defArgs s_law_right) (defBody s_law_right) (defScope s_law_right) .none kV36 dc36 pm36 an36 cd36 ct36), sl36⟩)
    (c36 : PySem.W.codeIn K cd36 "_law_right" = true)
    (k36 : PySem.W.keepIn K (.ref f36) = true)
    (a37 : PySem.W.nsIn K mainGlobals "law" = some (some (.ref f37)))
    (l37 : K.lookup f37 = some ⟨oc37, od37, .func (PySem.W.fnOf "law" "law" (defArgs s_law) (defBody s_law) (defScope s_law) .none kV37 dc37 pm37 an37 cd37 ct37), sl37⟩)
    (c37 : PySem.W.codeIn K cd37 "law" = true)
    (k37 : PySem.W.keepIn K (.ref f37) = true)
    (z_isinstance : PySem.W.nsIn K mainGlobals "isinstance" = some none)
    (z_int : PySem.W.nsIn K mainGlobals "int" = some none)
    (z_bool : PySem.W.nsIn K mainGlobals "bool" = some none)
    (z_all : PySem.W.nsIn K mainGlobals "all" = some none)
    (z_zip : PySem.W.nsIn K mainGlobals "zip" = some none)
    (z_tuple : PySem.W.nsIn K mainGlobals "tuple" = some none)
    (z_sorted : PySem.W.nsIn K mainGlobals "sorted" = some none)
    (z_len : PySem.W.nsIn K mainGlobals "len" = some none)
    (z_set : PySem.W.nsIn K mainGlobals "set" = some none)
    (z_range : PySem.W.nsIn K mainGlobals "range" = some none)
    (z_enumerate : PySem.W.nsIn K mainGlobals "enumerate" = some none)
    (z_sum : PySem.W.nsIn K mainGlobals "sum" = some none)
    (z_min : PySem.W.nsIn K mainGlobals "min" = some none)
    (z_max : PySem.W.nsIn K mainGlobals "max" = some none)
    (z_abs : PySem.W.nsIn K mainGlobals "abs" = some none)
    (z_list : PySem.W.nsIn K mainGlobals "list" = some none)
    (g_MAX_PLACES : PySem.W.nsIn K mainGlobals "MAX_PLACES" = some (some (.int 16 t_MAX_PLACES)))
    (g_MAX_LENGTH : PySem.W.nsIn K mainGlobals "MAX_LENGTH" = some (some (.int 64 t_MAX_LENGTH)))
    (g_MAX_NUMBER : PySem.W.nsIn K mainGlobals "MAX_NUMBER" = some (some (.int 999999999999999999999999999999 t_MAX_NUMBER)))
    (g_BAR : PySem.W.nsIn K mainGlobals "BAR" = some (some (.str "bar" t_BAR)))
    (g_ODD : PySem.W.nsIn K mainGlobals "ODD" = some (some (.str "odd" t_ODD)))
    (g_MADE : PySem.W.nsIn K mainGlobals "MADE" = some (some (.str "made" t_MADE)))
    (w_C : PySem.W.nsIn K mainGlobals "Web" = some (some (.ref C)))
    (w_pg : PySem.W.plainGet K C Str.empty = true)
    (w_hd : PySem.W.hasDictIn K C = true)
    (w_po : PySem.W.plainOver K C = true)
    (w_sa : PySem.W.findIn K (.ref C) "__setattr__" = some (some (.builtin "object.__setattr__")))
    (w_nP : PySem.W.findIn K (.ref C) "own_places" = some none)
    (w_nT : PySem.W.findIn K (.ref C) "own_ties" = some none)
    (w_nB : PySem.W.findIn K (.ref C) "own_beside" = some none)
    (w_mk : PySem.W.makesIn K C = true)
    (w_in : PySem.W.findIn K (.ref C) "__init__" = some (some (.ref fI)))
    (w_if : PySem.W.isFn K (.ref fI) = true)
    (w_kc : PySem.W.keepIn K (.ref C) = true)
    (lI : K.lookup fI = some ⟨ocI, odI, .func (PySem.W.fnOf "__init__" "Web.__init__" (defArgs s_init) (defBody s_init) (defScope s_init) .none kVI dcI pmI anI cdI ctI), slI⟩)
    (cI : PySem.W.codeIn K cdI "Web.__init__" = true)
    (kI : PySem.W.keepIn K (.ref fI) = true)
    (w_rd : PySem.W.readsIn K C (.type "type") = true)
    (w_ga : PySem.W.specialIn K (.ref C) "__getattribute__" = some (some (.builtin "type.__getattribute__")))
    (o_at : PySem.W.findCls K (.ref C) (.type "type") "of" = some (.get (.builtin "classmethod.__get__") (.ref pO) .none (.ref C)))
    (o_rc : PySem.W.recIn K pO "classmethod" = some (.ref fO :: rO))
    (o_fi : PySem.W.fnIn K fO = true)
    (lO : K.lookup fO = some ⟨ocO, odO, .func (PySem.W.fnOf "of" "Web.of" (defArgs s_of) (defBody s_of) (defScope s_of) .none kVO dcO pmO anO cdO ctO), slO⟩)
    (cO : PySem.W.codeIn K cdO "Web.of" = true)
    (kO : PySem.W.keepIn K (.ref fO) = true)
    (p_atP : PySem.W.findIn K (.ref C) "places" = some (some (.ref pP)))
    (p_getP : PySem.W.specialIn K (.ref pP) "__get__" = some (some (.builtin "property.__get__")))
    (p_tkP : PySem.W.takesIn K (.ref pP) = some true)
    (p_rcP : PySem.W.recIn K pP "property" = some (.ref fP :: rP))
    (lP : K.lookup fP = some ⟨ocP, odP, .func (PySem.W.fnOf "places" "Web.places" (defArgs s_places) (defBody s_places) (defScope s_places) .none kVP dcP pmP anP cdP ctP), slP⟩)
    (cP : PySem.W.codeIn K cdP "Web.places" = true)
    (kP : PySem.W.keepIn K (.ref fP) = true)
    (p_atD : PySem.W.findIn K (.ref C) "degrees" = some (some (.ref pD)))
    (p_getD : PySem.W.specialIn K (.ref pD) "__get__" = some (some (.builtin "property.__get__")))
    (p_tkD : PySem.W.takesIn K (.ref pD) = some true)
    (p_rcD : PySem.W.recIn K pD "property" = some (.ref fD :: rD))
    (lD : K.lookup fD = some ⟨ocD, odD, .func (PySem.W.fnOf "degrees" "Web.degrees" (defArgs s_degrees) (defBody s_degrees) (defScope s_degrees) .none kVD dcD pmD anD cdD ctD), slD⟩)
    (cD : PySem.W.codeIn K cdD "Web.degrees" = true)
    (kD : PySem.W.keepIn K (.ref fD) = true)
    (m_C : PySem.W.nsIn K mainGlobals "TooMany" = some (some (.ref M)))
    (m_S : PySem.W.nsIn K mainGlobals "super" = some none)
    (m_L : K.lookup M = some (excClassObj nm qn M N bs PySem.TMX.ovTail true sn sub ab col dd m0 m1 m2 m3 m5 "OverflowError.__new__"))
    (m_sa : PySem.W.findIn K (.ref M) "__setattr__" = some (some (.builtin "object.__setattr__")))
    (m_nl : PySem.W.findIn K (.ref M) "limit" = some none)
    (m_in : PySem.W.findIn K (.ref M) "__init__" = some (some (.ref fM)))
    (m_tI : PySem.W.typeIn K (.ref fM) = some (.type "function"))
    (m_k : PySem.W.keepIn K (.ref M) = true)
    (m_ga : PySem.W.findIn K (.ref M) "__getattribute__" = some (some (.builtin "BaseException.__getattribute__")))
    (m_gg : PySem.W.findIn K (.ref M) "__getattr__" = some none)
    (m_eb : PySem.W.subIn K (.ref M) (.type "BaseException") = some true)
    (m_hd : PySem.W.hasDictIn K M = true)
    (m_ty : PySem.W.typeIn K (.ref M) = some (.type "type"))
    (m_ov : PySem.W.subIn K (.ref M) (.type "OverflowError") = some true)
    (m_ms : PySem.W.mroIn K M (.ref M) = some true)
    (m_ic : PySem.W.isClsIn K M = true)
    (m_ss : PySem.W.subIn K (.ref M) (.ref M) = some true)
    (m_op : PySem.W.nsIn K cStatics "thirdparty.any" = some none)
    (m_l : K.lookup fM = some ⟨ocM, odM, .func (PySem.W.ksFn "__init__" "TooMany.__init__" (defArgs PySem.TMX.s_tm) (defBody PySem.TMX.s_tm) (defScope PySem.TMX.s_tm) .none kVM dcM pmM anM (.ref cda) ctM cc), slM⟩)
    (m_c : PySem.W.codeIn K (.ref cda) "TooMany.__init__" = true)
    (m_cl : K.lookup cda = some ⟨ccl, cdd, .fields vs, ccs⟩)
    (m_v2 : vs[2]? = some (.str file tf))
    (m_f : ((P.main.file : Str) == file) = true)
    (m_cell : K.lookup cc = some ⟨cl, cld, .cell (some (.ref M)), csl⟩)
    (m_top : (P.main.scope.names.lookup ("super" : Str)).isSome = false)
    : All P K mg :=
  let T : Txt K mg :=
    { d_is_integer := def_mk X G a1 l1 c1 k1 (fun _ _ _ _ _ _ us hl => match us, hl with | [_], _ => rfl),
      d_is_from := def_mk X G a2 l2 c2 k2 (fun _ _ _ _ _ _ us hl => match us, hl with | [_, _, _], _ => rfl),
      d_is_ascending := def_mk X G a3 l3 c3 k3 (fun _ _ _ _ _ _ us hl => match us, hl with | [_], _ => rfl),
      d_are_indices := def_mk X G a4 l4 c4 k4 (fun _ _ _ _ _ _ us hl => match us, hl with | [_, _], _ => rfl),
      d_is_tie := def_mk X G a5 l5 c5 k5 (fun _ _ _ _ _ _ us hl => match us, hl with | [_, _], _ => rfl),
      d_others_at := def_mk X G a6 l6 c6 k6 (fun _ _ _ _ _ _ us hl => match us, hl with | [_, _], _ => rfl),
      d_is_amount := def_mk X G a7 l7 c7 k7 (fun _ _ _ _ _ _ us hl => match us, hl with | [_], _ => rfl),
      d_is_row := def_mk X G a8 l8 c8 k8 (fun _ _ _ _ _ _ us hl => match us, hl with | [_], _ => rfl),
      d_require_row := def_mk X G a9 l9 c9 k9 (fun _ _ _ _ _ _ us hl => match us, hl with | [_], _ => rfl),
      d_falling := def_mk X G a10 l10 c10 k10 (fun _ _ _ _ _ _ us hl => match us, hl with | [_], _ => rfl),
      d_lack_of := def_mk X G a11 l11 c11 k11 (fun _ _ _ _ _ _ us hl => match us, hl with | [_, _], _ => rfl),
      d_heaviest_order := def_mk X G a12 l12 c12 k12 (fun _ _ _ _ _ _ us hl => match us, hl with | [_], _ => rfl),
      d_heaviest := def_mk X G a13 l13 c13 k13 (fun _ _ _ _ _ _ us hl => match us, hl with | [_], _ => rfl),
      d_is_web_row := def_mk X G a14 l14 c14 k14 (fun _ _ _ _ _ _ us hl => match us, hl with | [_], _ => rfl),
      d_lack := def_mk X G a15 l15 c15 k15 (fun _ _ _ _ _ _ us hl => match us, hl with | [_, _], _ => rfl),
      d_greatest_lack := def_mk X G a16 l16 c16 k16 (fun _ _ _ _ _ _ us hl => match us, hl with | [_], _ => rfl),
      d_has_web := def_mk X G a17 l17 c17 k17 (fun _ _ _ _ _ _ us hl => match us, hl with | [_], _ => rfl),
      d_partners_in := def_mk X G a18 l18 c18 k18 (fun _ _ _ _ _ _ us hl => match us, hl with | [_, _], _ => rfl),
      d_row_without := def_mk X G a19 l19 c19 k19 (fun _ _ _ _ _ _ us hl => match us, hl with | [_, _], _ => rfl),
      d_made_web := def_mk X G a20 l20 c20 k20 (fun _ _ _ _ _ _ us hl => match us, hl with | [_], _ => rfl),
      d_require_web_row := def_mk X G a21 l21 c21 k21 (fun _ _ _ _ _ _ us hl => match us, hl with | [_], _ => rfl),
      d_require_short := def_mk X G a22 l22 c22 k22 (fun _ _ _ _ _ _ us hl => match us, hl with | [_], _ => rfl),
      d_web_of := def_mk X G a23 l23 c23 k23 (fun _ _ _ _ _ _ us hl => match us, hl with | [_], _ => rfl),
      d_web_paper := def_mk X G a24 l24 c24 k24 (fun _ _ _ _ _ _ us hl => match us, hl with | [_], _ => rfl),
      d_law_vat := def_mk X G a25 l25 c25 k25 (fun _ _ _ _ _ _ us hl => match us, hl with | [_, _], _ => rfl),
      d_law_dip := def_mk X G a26 l26 c26 k26 (fun _ _ _ _ _ _ us hl => match us, hl with | [_, _], _ => rfl),
      d_law_pick := def_mk X G a27 l27 c27 k27 (fun _ _ _ _ _ _ us hl => match us, hl with | [_, _], _ => rfl),
      d_law_web := def_mk X G a28 l28 c28 k28 (fun _ _ _ _ _ _ us hl => match us, hl with | [_, _], _ => rfl),
      d_law_degrees := def_mk X G a29 l29 c29 k29 (fun _ _ _ _ _ _ us hl => match us, hl with | [_, _], _ => rfl),
      d_law_lack := def_mk X G a30 l30 c30 k30 (fun _ _ _ _ _ _ us hl => match us, hl with | [_, _], _ => rfl),
      d_law_greatest := def_mk X G a31 l31 c31 k31 (fun _ _ _ _ _ _ us hl => match us, hl with | [_], _ => rfl),
      d_law_is_possible := def_mk X G a32 l32 c32 k32 (fun _ _ _ _ _ _ us hl => match us, hl with | [_], _ => rfl),
      d_law_long := def_mk X G a33 l33 c33 k33 (fun _ _ _ _ _ _ us hl => match us, hl with | [_], _ => rfl),
      d_law_moved := def_mk X G a34 l34 c34 k34 (fun _ _ _ _ _ _ us hl => match us, hl with | [_], _ => rfl),
      d_law_paper := def_mk X G a35 l35 c35 k35 (fun _ _ _ _ _ _ us hl => match us, hl with | [_], _ => rfl),
      d_law_right := def_mk X G a36 l36 c36 k36 (fun _ _ _ _ _ _ us hl => match us, hl with | [_], _ => rfl),
      d_law := def_mk X G a37 l37 c37 k37 (fun _ _ _ _ _ _ us hl => match us, hl with | [_], _ => rfl),
      n_isinstance := PySem.W.mg_none_of X G z_isinstance,
      n_int := PySem.W.mg_none_of X G z_int,
      n_bool := PySem.W.mg_none_of X G z_bool,
      n_all := PySem.W.mg_none_of X G z_all,
      n_zip := PySem.W.mg_none_of X G z_zip,
      n_tuple := PySem.W.mg_none_of X G z_tuple,
      n_sorted := PySem.W.mg_none_of X G z_sorted,
      n_len := PySem.W.mg_none_of X G z_len,
      n_set := PySem.W.mg_none_of X G z_set,
      n_range := PySem.W.mg_none_of X G z_range,
      n_enumerate := PySem.W.mg_none_of X G z_enumerate,
      n_sum := PySem.W.mg_none_of X G z_sum,
      n_min := PySem.W.mg_none_of X G z_min,
      n_max := PySem.W.mg_none_of X G z_max,
      n_abs := PySem.W.mg_none_of X G z_abs,
      n_list := PySem.W.mg_none_of X G z_list,
      g_MAX_PLACES := ⟨_, PySem.W.mg_of X G g_MAX_PLACES⟩,
      g_MAX_LENGTH := ⟨_, PySem.W.mg_of X G g_MAX_LENGTH⟩,
      g_MAX_NUMBER := ⟨_, (PySem.W.mg_of X G g_MAX_NUMBER).trans (congrArg (fun z => some (Value.int z t_MAX_NUMBER)) top30_lit.symm)⟩,
      g_BAR := ⟨_, PySem.W.mg_of X G g_BAR⟩,
      g_ODD := ⟨_, PySem.W.mg_of X G g_ODD⟩,
      g_MADE := ⟨_, PySem.W.mg_of X G g_MADE⟩ }
  { T := T
    Wt := { C := C, gC := PySem.W.mg_of X G w_C, cl := ⟨w_pg, w_hd, w_po, w_sa⟩, nP := w_nP, nT := w_nT, nB := w_nB, fI := fI, fdI := _, mkI := ⟨w_mk, w_in, w_if, w_kc⟩, FI := fun_mk lI cI kI, mc := .type "type", rd := ⟨w_rd, w_ga⟩, pO := pO, fO := fO, fdO := _, cO := ⟨o_at, ⟨rO, o_rc⟩, o_fi⟩, FO := fun_mk lO cO kO, bO := (fun_mk lO cO kO).binds (ps := ["cls", "places", "ties"]) (fun _ _ _ _ _ _ us hl => match us, hl with | [_, _, _], _ => rfl), pP := pP, fP := fP, fdP := _, cP := ⟨p_atP, p_getP, p_tkP, ⟨rP, p_rcP⟩⟩, FP := fun_mk lP cP kP, bP := (fun_mk lP cP kP).binds (ps := ["self"]) (fun _ _ _ _ _ _ us hl => match us, hl with | [_], _ => rfl), pD := pD, fD := fD, fdD := _, cD := ⟨p_atD, p_getD, p_tkD, ⟨rD, p_rcD⟩⟩, FD := fun_mk lD cD kD, bD := (fun_mk lD cD kD).binds (ps := ["self"]) (fun _ _ _ _ _ _ us hl => match us, hl with | [_], _ => rfl) }
    O := { c := cH, P0 := P0, lk := ⟨_, _, _, _, _, _, _, _, rfl, l12⟩, hc := c12 }
    TM := { C := M, fI := fM, cc := cc, cda := cda, gC := PySem.W.mg_of X G m_C, gS := PySem.W.mg_none_of X G m_S, cls := ⟨_, _, _, _, _, _, _, _, _, _, _, _, _, _, m_L⟩, sa := m_sa, noL := m_nl, iC := m_in, tC := m_tI, kC := m_k, xf := ⟨m_ga, m_gg, m_eb, m_hd⟩, tyC := m_ty, sOv := m_ov, ms := m_ms, te := own_hit m_eb m_ic m_ty m_ss, op := m_op, fn := ⟨_, _, _, _, _, _, _, _, m_l⟩, hcd := m_c, code := ⟨_, _, _, _, _, _, m_cl, m_v2, m_f⟩, cell := ⟨_, _, _, m_cell⟩, top := m_top } }
def Key {K : PySem.W.Frag} {h : Heap} (P : Program) (mg : Str → Option Value) (_ : K.In h) (P0 : Addr) : Prop :=
  ∃ A : All P K mg, A.O.P0 = P0 ∧ PySem.W.CodeHd h A.O.c P0 ∧ ∀ (s : Shared) (v : Value), BindsTo s A.T.d_law.fd ⟨[v], []⟩ [(("_law_script" : Str), v)]
end K9
set_option Elab.async false
set_option linter.all false
set_option maxRecDepth 100000
open PySem PySem.W PyProof.Rows in
set_option maxRecDepth 100000 in
set_option maxHeartbeats 0 in
theorem PySem.Challenge.cw_sumsalone_k29_whole_one_of_two_papers_holds : PySem.Challenge.rw_sumsalone_k29_whole_one_of_two_papers.Holds := by
  w_on; o_law; k_head; (case hw => w_witness2)
  k_fill
  refine LamX.walk_ofTs (l := PySem.Challenge.rw_sumsalone_k29_whole_one_of_two_papers) (n := 63) (k := 12) (x := "_law_script") (CX := fun _ => L2.CX0) rfl (by decide) rfl ⟨rfl, by decide, by decide⟩ (fun w h Y => PySem.W.km_in_of Y) ?F (fun _ _ _ _ _ z => z)
  case F =>
    intro w mg fa h Y KX G hmg
    have key : K9.Key PySem.Challenge.rw_sumsalone_k29_whole_one_of_two_papers.prog mg KX 298 := by
      refine' ⟨K9.all_mk KX G 298 ?a1 ?l1 ?c1 ?k1 ?a2 ?l2 ?c2 ?k2 ?a3 ?l3 ?c3 ?k3 ?a4 ?l4 ?c4 ?k4 ?a5 ?l5 ?c5 ?k5 ?a6 ?l6 ?c6 ?k6 ?a7 ?l7 ?c7 ?k7 ?a8 ?l8 ?c8 ?k8 ?a9 ?l9 ?c9 ?k9 ?a10 ?l10 ?c10 ?k10 ?a11 ?l11 ?c11 ?k11 ?a12 ?l12 ?c12 ?k12 ?a13 ?l13 ?c13 ?k13 ?a14 ?l14 ?c14 ?k14 ?a15 ?l15 ?c15 ?k15 ?a16 ?l16 ?c16 ?k16 ?a17 ?l17 ?c17 ?k17 ?a18 ?l18 ?c18 ?k18 ?a19 ?l19 ?c19 ?k19 ?a20 ?l20 ?c20 ?k20 ?a21 ?l21 ?c21 ?k21 ?a22 ?l22 ?c22 ?k22 ?a23 ?l23 ?c23 ?k23 ?a24 ?l24 ?c24 ?k24 ?a25 ?l25 ?c25 ?k25 ?a26 ?l26 ?c26 ?k26 ?a27 ?l27 ?c27 ?k27 ?a28 ?l28 ?c28 ?k28 ?a29 ?l29 ?c29 ?k29 ?a30 ?l30 ?c30 ?k30 ?a31 ?l31 ?c31 ?k31 ?a32 ?l32 ?c32 ?k32 ?a33 ?l33 ?c33 ?k33 ?a34 ?l34 ?c34 ?k34 ?a35 ?l35 ?c35 ?k35 ?a36 ?l36 ?c36 ?k36 ?a37 ?l37 ?c37 ?k37 ?z_isinstance ?z_int ?z_bool ?z_all ?z_zip ?z_tuple ?z_sorted ?z_len ?z_set ?z_range ?z_enumerate ?z_sum ?z_min ?z_max ?z_abs ?z_list ?g_MAX_PLACES ?g_MAX_LENGTH ?g_MAX_NUMBER ?g_BAR ?g_ODD ?g_MADE ?w_C ?w_pg ?w_hd ?w_po ?w_sa ?w_nP ?w_nT ?w_nB ?w_mk ?w_in ?w_if ?w_kc ?lI ?cI ?kI ?w_rd ?w_ga ?o_at ?o_rc ?o_fi ?lO ?cO ?kO ?p_atP ?p_getP ?p_tkP ?p_rcP ?lP ?cP ?kP ?p_atD ?p_getD ?p_tkD ?p_rcD ?lD ?cD ?kD ?m_C ?m_S ?m_L ?m_sa ?m_nl ?m_in ?m_tI ?m_k ?m_ga ?m_gg ?m_eb ?m_hd ?m_ty ?m_ov ?m_ms ?m_ic ?m_ss ?m_op ?m_l ?m_c ?m_cl ?m_v2 ?m_f ?m_cell ?m_top, rfl, ?hcd, fun s v => .of_eq rfl⟩
      (case a1 => k_is)
      (case l1 => k_is)
      (case c1 => k_is)
      (case k1 => k_is)
      (case a2 => k_is)
      (case l2 => k_is)
      (case c2 => k_is)
      (case k2 => k_is)
      (case a3 => k_is)
      (case l3 => k_is)
      (case c3 => k_is)
      (case k3 => k_is)
      (case a4 => k_is)
      (case l4 => k_is)
      (case c4 => k_is)
      (case k4 => k_is)
      (case a5 => k_is)
      (case l5 => k_is)
      (case c5 => k_is)
      (case k5 => k_is)
      (case a6 => k_is)
      (case l6 => k_is)
      (case c6 => k_is)
      (case k6 => k_is)
      (case a7 => k_is)
      (case l7 => k_is)
      (case c7 => k_is)
      (case k7 => k_is)
      (case a8 => k_is)
      (case l8 => k_is)
      (case c8 => k_is)
      (case k8 => k_is)
      (case a9 => k_is)
      (case l9 => k_is)
      (case c9 => k_is)
      (case k9 => k_is)
      (case a10 => k_is)
      (case l10 => k_is)
      (case c10 => k_is)
      (case k10 => k_is)
      (case a11 => k_is)
      (case l11 => k_is)
      (case c11 => k_is)
      (case k11 => k_is)
      (case a12 => k_is)
      (case l12 => k_is)
      (case c12 => k_is)
      (case k12 => k_is)
      (case a13 => k_is)
      (case l13 => k_is)
      (case c13 => k_is)
      (case k13 => k_is)
      (case a14 => k_is)
      (case l14 => k_is)
      (case c14 => k_is)
      (case k14 => k_is)
      (case a15 => k_is)
      (case l15 => k_is)
      (case c15 => k_is)
      (case k15 => k_is)
      (case a16 => k_is)
      (case l16 => k_is)
      (case c16 => k_is)
      (case k16 => k_is)
      (case a17 => k_is)
      (case l17 => k_is)
      (case c17 => k_is)
      (case k17 => k_is)
      (case a18 => k_is)
      (case l18 => k_is)
      (case c18 => k_is)
      (case k18 => k_is)
      (case a19 => k_is)
      (case l19 => k_is)
      (case c19 => k_is)
      (case k19 => k_is)
      (case a20 => k_is)
      (case l20 => k_is)
      (case c20 => k_is)
      (case k20 => k_is)
      (case a21 => k_is)
      (case l21 => k_is)
      (case c21 => k_is)
      (case k21 => k_is)
      (case a22 => k_is)
      (case l22 => k_is)
      (case c22 => k_is)
      (case k22 => k_is)
      (case a23 => k_is)
      (case l23 => k_is)
      (case c23 => k_is)
      (case k23 => k_is)
      (case a24 => k_is)
      (case l24 => k_is)
      (case c24 => k_is)
      (case k24 => k_is)
      (case a25 => k_is)
      (case l25 => k_is)
      (case c25 => k_is)
      (case k25 => k_is)
      (case a26 => k_is)
      (case l26 => k_is)
      (case c26 => k_is)
      (case k26 => k_is)
      (case a27 => k_is)
      (case l27 => k_is)
      (case c27 => k_is)
      (case k27 => k_is)
      (case a28 => k_is)
      (case l28 => k_is)
      (case c28 => k_is)
      (case k28 => k_is)
      (case a29 => k_is)
      (case l29 => k_is)
      (case c29 => k_is)
      (case k29 => k_is)
      (case a30 => k_is)
      (case l30 => k_is)
      (case c30 => k_is)
      (case k30 => k_is)
      (case a31 => k_is)
      (case l31 => k_is)
      (case c31 => k_is)
      (case k31 => k_is)
      (case a32 => k_is)
      (case l32 => k_is)
      (case c32 => k_is)
      (case k32 => k_is)
      (case a33 => k_is)
      (case l33 => k_is)
      (case c33 => k_is)
      (case k33 => k_is)
      (case a34 => k_is)
      (case l34 => k_is)
      (case c34 => k_is)
      (case k34 => k_is)
      (case a35 => k_is)
      (case l35 => k_is)
      (case c35 => k_is)
      (case k35 => k_is)
      (case a36 => k_is)
      (case l36 => k_is)
      (case c36 => k_is)
      (case k36 => k_is)
      (case a37 => k_is)
      (case l37 => k_is)
      (case c37 => k_is)
      (case k37 => k_is)
      (case z_isinstance => k_is)
      (case z_int => k_is)
      (case z_bool => k_is)
      (case z_all => k_is)
      (case z_zip => k_is)
      (case z_tuple => k_is)
      (case z_sorted => k_is)
      (case z_len => k_is)
      (case z_set => k_is)
      (case z_range => k_is)
      (case z_enumerate => k_is)
      (case z_sum => k_is)
      (case z_min => k_is)
      (case z_max => k_is)
      (case z_abs => k_is)
      (case z_list => k_is)
      (case g_MAX_PLACES => k_is)
      (case g_MAX_LENGTH => k_is)
      (case g_MAX_NUMBER => k_is)
      (case g_BAR => k_is)
      (case g_ODD => k_is)
      (case g_MADE => k_is)
      (case w_C => k_is)
      (case w_pg => k_is)
      (case w_hd => k_is)
      (case w_po => k_is)
      (case w_sa => k_is)
      (case w_nP => k_is)
      (case w_nT => k_is)
      (case w_nB => k_is)
      (case w_mk => k_is)
      (case w_in => k_is)
      (case w_if => k_is)
      (case w_kc => k_is)
      (case lI => k_is)
      (case cI => k_is)
      (case kI => k_is)
      (case w_rd => k_is)
      (case w_ga => k_is)
      (case o_at => k_is)
      (case o_rc => k_is)
      (case o_fi => k_is)
      (case lO => k_is)
      (case cO => k_is)
      (case kO => k_is)
      (case p_atP => k_is)
      (case p_getP => k_is)
      (case p_tkP => k_is)
      (case p_rcP => k_is)
      (case lP => k_is)
      (case cP => k_is)
      (case kP => k_is)
      (case p_atD => k_is)
      (case p_getD => k_is)
      (case p_tkD => k_is)
      (case p_rcD => k_is)
      (case lD => k_is)
      (case cD => k_is)
      (case kD => k_is)
      (case m_C => k_is)
      (case m_S => k_is)
      (case m_L => k_is)
      (case m_sa => k_is)
      (case m_nl => k_is)
      (case m_in => k_is)
      (case m_tI => k_is)
      (case m_k => k_is)
      (case m_ga => k_is)
      (case m_gg => k_is)
      (case m_eb => k_is)
      (case m_hd => k_is)
      (case m_ty => k_is)
      (case m_ov => k_is)
      (case m_ms => k_is)
      (case m_ic => k_is)
      (case m_ss => first | rfl | k_is)
      (case m_op => k_is)
      (case m_l => k_is)
      (case m_c => k_is)
      (case m_cl => k_is)
      (case m_v2 => rfl)
      (case m_f => first | rfl | decide +kernel)
      (case m_cell => k_is)
      (case m_top => first | rfl | decide +kernel)
      (case hcd => exact PySem.W.codeHd_of_K KX (by kernel_rfl))
    obtain ⟨A, e0, hC, hB⟩ := key
    have hf : fa = A.T.d_law.f := by
      have e := hmg.symm.trans A.T.d_law.g
      injection e with e
      injection e
    subst hf
    refine ⟨A.T.d_law.fd, [(A.O.c, 298)], K9.spLaw _ 298, fun p hp => ?_, fun p hp => ?_, fun p hp => ?_, hB, fun H a ns hl _ hT hS => ⟨a, ns, rfl, hS, hl, fun p hp => ?_, fun _ => rfl⟩, fun base hK hN hTB => ?_⟩
    · rw [List.mem_singleton.mp hp]
      exact PySem.W.km_tabs_of Y 298 (by simp)
    · rw [List.mem_singleton.mp hp]
      kernel_rfl
    · rw [List.mem_singleton.mp hp]
      exact hC
    · rw [List.mem_singleton.mp hp]
      exact LamX.TabS.nil (hT (A.O.c, 298) (List.mem_singleton.mpr rfl))
    · have TB : LamX.TabB base mg A.O.c A.O.P0 := by
        rw [e0]
        exact hTB (A.O.c, 298) (List.mem_singleton.mpr rfl)
      have done := K9.ok_law (P := PySem.Challenge.rw_sumsalone_k29_whole_one_of_two_papers.prog) (w := w) A.T A.Wt A.O A.TM TB
      rw [e0] at done
      exact done
