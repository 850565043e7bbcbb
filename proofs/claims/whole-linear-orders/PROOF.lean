import PyProof.Rows.All
import Wide.All
import OpenK.AllK
import Wide.FinOn
import HandS.ForMost
import HandS.ForExc
import HandS.IsInst
import HandS.Conv
import HandS.TupAny
import HandS.Deep
import HandS.Style
import HandS.WideBits
import HandS.ExcInit
import HandS.ExcField
import HandS.Small
import HandS.RaiseMore
import KE.KExcSuper
import PySem.Challenge.RW_orderforms_k32_whole_linear_orders
import HandS.Dict
set_option Elab.async false
set_option linter.all false
set_option maxRecDepth 100000
set_option maxHeartbeats 4000000
/-! Plain Lean: orders by bit sets, lower sets, linear orders. -/
namespace OF

/-! ### sets as numbers -/
def setOf (xs : List Nat) : Nat := xs.foldl (fun o x => o ||| 2 ^ x) 0
theorem testBit_foldl (xs : List Nat) : ∀ (o y : Nat), (xs.foldl (fun o x => o ||| 2 ^ x) o).testBit y = (o.testBit y || decide (y ∈ xs)) := by
  induction xs with
  | nil => intro o y; simp
  | cons x xs ih =>
    intro o y
    rw [List.foldl_cons, ih, Nat.testBit_or, Nat.testBit_two_pow]
    by_cases h : x = y
    · subst h; simp
    · have h' : y ≠ x := fun e => h e.symm
      simp [h, h']
theorem testBit_setOf (xs : List Nat) (y : Nat) : (setOf xs).testBit y = decide (y ∈ xs) := by
  unfold setOf
  rw [testBit_foldl]
  simp
theorem setOf_append (xs : List Nat) (x : Nat) : setOf (xs ++ [x]) = setOf xs ||| 2 ^ x := by
  unfold setOf
  rw [List.foldl_append]
  rfl
theorem setOf_lt {xs : List Nat} {n : Nat} (h : ∀ x ∈ xs, x < n) : setOf xs < 2 ^ n := by
  apply Nat.lt_pow_two_of_testBit
  intro i hi
  rw [testBit_setOf]
  apply decide_eq_false
  intro hm
  exact absurd (h i hm) (by omega)

/-- the members of a set within n -/
def mem (n m : Nat) : List Nat := (List.range n).filter fun x => m.testBit x
theorem mem_bits {n m k : Nat} (h : m < 2 ^ n) (hk : m < 2 ^ k) : mem n m = mem k m := by
  have key : ∀ a b : Nat, a ≤ b → m < 2 ^ a → mem b m = mem a m := by
    intro a b hab ha
    unfold mem
    obtain ⟨c, rfl⟩ := Nat.le.dest hab
    induction c with
    | zero => rfl
    | succ c ih =>
      rw [← Nat.add_assoc, List.range_succ, List.filter_append, ih (by omega)]
      have hb : m.testBit (a + c) = false := Nat.testBit_lt_two_pow (Nat.lt_of_lt_of_le ha (Nat.pow_le_pow_right (by decide) (by omega)))
      simp [hb]
  rcases Nat.le_total n k with hnk | hnk
  · exact (key n k hnk h).symm
  · exact key k n hnk hk

/-! ### orders -/
/-- x is below y -/
def rel (al : List Nat) (x y : Nat) : Bool := (al.getD x 0).testBit y
structure OrdOk (n : Nat) (al : List Nat) : Prop where
  len : al.length = n
  lt : ∀ a ∈ al, a < 2 ^ n
  irr : ∀ x, rel al x x = false
  tr : ∀ x y z, rel al x y = true → rel al y z = true → rel al x z = true
theorem OrdOk.bnd {n : Nat} {al : List Nat} (h : OrdOk n al) {x y : Nat} (r : rel al x y = true) : x < n ∧ y < n := by
  unfold rel at r
  by_cases hx : x < al.length
  · have e : al.getD x 0 = al[x] := by simp [hx]
    rw [e] at r
    refine ⟨by rw [← h.len]; exact hx, ?_⟩
    have := h.lt _ (List.getElem_mem hx)
    apply Decidable.byContradiction
    intro hy
    rw [Nat.testBit_lt_two_pow (Nat.lt_of_lt_of_le this (Nat.pow_le_pow_right (by decide) (by omega)))] at r
    cases r
  · have e : al.getD x 0 = 0 := by simp [List.getD, hx]
    rw [e] at r
    simp at r
/-- the points that may come next -/
def fol (R : Nat → Nat → Bool) (n F : Nat) : List Nat := (List.range n).filter fun x => !F.testBit x && (List.range n).all fun z => !R z x || F.testBit z

section
variable {R : Nat → Nat → Bool} {n : Nat}
theorem mem_fol {F x : Nat} : x ∈ fol R n F ↔ x < n ∧ F.testBit x = false ∧ ∀ z, z < n → R z x = true → F.testBit z = true := by
  unfold fol
  simp only [List.mem_filter, List.mem_range, Bool.and_eq_true, Bool.not_eq_true', List.all_eq_true, Bool.or_eq_true]
  constructor
  · rintro ⟨h1, h2, h3⟩
    refine ⟨h1, h2, fun z hz hr => ?_⟩
    rcases h3 z hz with h | h
    · rw [h] at hr; cases hr
    · exact h
  · rintro ⟨h1, h2, h3⟩
    refine ⟨h1, h2, fun z hz => ?_⟩
    cases hr : R z x with
    | false => exact .inl rfl
    | true => exact .inr (h3 z hz hr)
theorem fol_sorted (F : Nat) : (fol R n F).Pairwise (· < ·) := List.Pairwise.sublist List.filter_sublist List.pairwise_lt_range

/-! ### linear orders: two ways to make them -/
/-- the completions of a front -/
def ext (R : Nat → Nat → Bool) (n : Nat) : Nat → Nat → List (List Nat)
  | 0, _ => [[]]
  | k + 1, F => (fol R n F).flatMap fun x => (ext R n k (F ||| 2 ^ x)).map (x :: ·)
/-- their number -/
def cnt (R : Nat → Nat → Bool) (n : Nat) : Nat → Nat → Nat
  | 0, _ => 1
  | k + 1, F => ((fol R n F).map fun x => cnt R n k (F ||| 2 ^ x)).sum
theorem cnt_ext : ∀ (k F : Nat), (ext R n k F).length = cnt R n k F
  | 0, _ => rfl
  | k + 1, F => by
    show ((fol R n F).flatMap fun x => (ext R n k (F ||| 2 ^ x)).map (x :: ·)).length = ((fol R n F).map fun x => cnt R n k (F ||| 2 ^ x)).sum
    rw [List.length_flatMap]
    congr 1
    apply List.map_congr_left
    intro x _
    rw [List.length_map, cnt_ext k]
/-- the rows of t points, step by step -/
def lin (R : Nat → Nat → Bool) (n : Nat) : Nat → List (List Nat)
  | 0 => [[]]
  | t + 1 => (lin R n t).flatMap fun row => (fol R n (setOf row)).map fun x => row ++ [x]
theorem lin_ext : ∀ (k t : Nat), (lin R n t).flatMap (fun row => (ext R n k (setOf row)).map (row ++ ·)) = lin R n (t + k)
  | 0, t => by
    show (lin R n t).flatMap (fun row => [row ++ []]) = lin R n t
    simp
  | k + 1, t => by
    have h := lin_ext k (t + 1)
    rw [show t + (k + 1) = t + 1 + k by omega, ← h]
    show (lin R n t).flatMap (fun row => ((fol R n (setOf row)).flatMap fun x => (ext R n k (setOf row ||| 2 ^ x)).map (x :: ·)).map (row ++ ·)) =
      ((lin R n t).flatMap fun row => (fol R n (setOf row)).map fun x => row ++ [x]).flatMap (fun row => (ext R n k (setOf row)).map (row ++ ·))
    rw [List.flatMap_assoc]
    congr 1
    funext row
    rw [List.map_flatMap, List.flatMap_map]
    congr 1
    funext x
    rw [setOf_append, List.map_map]
    congr 1
    funext r
    simp
theorem lin_all : lin R n n = ext R n n 0 := by
  have h := lin_ext (R := R) (n := n) n 0
  rw [Nat.zero_add] at h
  rw [← h]
  show [([] : List Nat)].flatMap (fun row => (ext R n n (setOf row)).map (row ++ ·)) = ext R n n 0
  simp [setOf]
theorem lin_len : ∀ {t : Nat} {row : List Nat}, row ∈ lin R n t → row.length = t
  | 0, row, h => by
    have : row = [] := by simpa [lin] using h
    rw [this]; rfl
  | t + 1, row, h => by
    unfold lin at h
    rw [List.mem_flatMap] at h
    obtain ⟨r, hr, h⟩ := h
    rw [List.mem_map] at h
    obtain ⟨x, _, rfl⟩ := h
    rw [List.length_append, lin_len hr]; rfl

/-- the law's rows -/
def rows (n : Nat) : Nat → List (List Nat)
  | 0 => [[]]
  | t + 1 => (rows n t).flatMap fun row => ((List.range n).filter fun x => !row.contains x).map fun x => row ++ [x]
theorem rows_ok : ∀ {t : Nat} {row : List Nat}, row ∈ rows n t → row.length = t ∧ row.Nodup ∧ ∀ x ∈ row, x < n
  | 0, row, h => by
    have : row = [] := by simpa [rows] using h
    subst this
    exact ⟨rfl, List.nodup_nil, fun x hx => by cases hx⟩
  | t + 1, row, h => by
    unfold rows at h
    rw [List.mem_flatMap] at h
    obtain ⟨r, hr, h⟩ := h
    rw [List.mem_map] at h
    obtain ⟨x, hx, rfl⟩ := h
    rw [List.mem_filter, List.mem_range] at hx
    obtain ⟨hxn, hxr⟩ := hx
    obtain ⟨h1, h2, h3⟩ := rows_ok hr
    have hnot : x ∉ r := by simpa using hxr
    refine ⟨by rw [List.length_append, h1]; rfl, ?_, ?_⟩
    · rw [List.nodup_append]
      refine ⟨h2, by simp, fun a ha b hb => ?_⟩
      have : b = x := by simpa using hb
      subst this
      rintro rfl
      exact hnot ha
    · intro y hy
      rcases List.mem_append.mp hy with hy | hy
      · exact h3 y hy
      · have : y = x := by simpa using hy
        rw [this]; exact hxn

/-- no point stands before one below it -/
def fits (R : Nat → Nat → Bool) (row : List Nat) : Bool := (List.range row.length).all fun i => (List.range i).all fun j => !R (row.getD i 0) (row.getD j 0)
/-- every point stands behind those below it -/
def good (R : Nat → Nat → Bool) (n : Nat) : List Nat → List Nat → Bool
  | _, [] => true
  | pre, x :: r => ((List.range n).all fun z => !R z x || pre.contains z) && good R n (pre ++ [x]) r
theorem good_snoc : ∀ (r pre : List Nat) (x : Nat), good R n pre (r ++ [x]) = (good R n pre r && (List.range n).all fun z => !R z x || (pre ++ r).contains z)
  | [], pre, x => by
    show (((List.range n).all fun z => !R z x || pre.contains z) && true) = (true && _)
    simp
  | y :: r, pre, x => by
    show (((List.range n).all fun z => !R z y || pre.contains z) && good R n (pre ++ [y]) (r ++ [x])) = ((((List.range n).all fun z => !R z y || pre.contains z) && good R n (pre ++ [y]) r) && _)
    rw [good_snoc r (pre ++ [y]) x, List.append_assoc, Bool.and_assoc]
    rfl
theorem lin_rows : ∀ t : Nat, lin R n t = (rows n t).filter (good R n [])
  | 0 => rfl
  | t + 1 => by
    show (lin R n t).flatMap _ = ((rows n t).flatMap _).filter _
    rw [lin_rows t]
    induction rows n t with
    | nil => rfl
    | cons row rs ih =>
      have e : (((List.range n).filter fun x => !row.contains x).map fun x => row ++ [x]).filter (good R n []) = if good R n [] row then (fol R n (setOf row)).map (fun x => row ++ [x]) else [] := by
        rw [List.filter_map]
        have e1 : ((List.range n).filter fun x => !row.contains x).filter (good R n [] ∘ fun x => row ++ [x]) = if good R n [] row then fol R n (setOf row) else [] := by
          rw [List.filter_filter]
          cases hg : good R n [] row with
          | false =>
            rw [if_neg (by simp)]
            rw [List.filter_eq_nil_iff]
            intro x _
            simp [Function.comp, good_snoc, hg]
          | true =>
            rw [if_pos rfl]
            unfold fol
            apply List.filter_congr
            intro x _
            simp only [Function.comp, good_snoc, hg, Bool.true_and, List.nil_append]
            rw [Bool.and_comm]
            congr 1
            · rw [testBit_setOf]; simp
            · congr 1
              funext z
              rw [testBit_setOf]
              simp
        rw [e1]
        cases good R n [] row <;> rfl
      rw [List.flatMap_cons, List.filter_append, e, List.filter_cons]
      cases hg : good R n [] row with
      | false => simpa using ih
      | true =>
        rw [if_pos rfl, if_pos rfl, List.flatMap_cons, ih]
theorem good_iff : ∀ (r pre : List Nat), good R n pre r = true ↔ ∀ i x, r[i]? = some x → ∀ z, z < n → R z x = true → z ∈ pre ++ r.take i
  | [], pre => by simp [good]
  | y :: r, pre => by
    unfold good
    rw [Bool.and_eq_true, good_iff r (pre ++ [y])]
    simp only [List.all_eq_true, List.mem_range, Bool.or_eq_true, Bool.not_eq_true', List.contains_iff_mem]
    constructor
    · rintro ⟨h1, h2⟩ i x hx z hz hr
      cases i with
      | zero =>
        have : y = x := by simpa using hx
        subst this
        rcases h1 z hz with h | h
        · rw [h] at hr; cases hr
        · simpa using h
      | succ i =>
        have := h2 i x (by simpa using hx) z hz hr
        simpa using this
    · intro h
      refine ⟨fun z hz => ?_, fun i x hx z hz hr => ?_⟩
      · cases hr : R z y with
        | false => exact .inl rfl
        | true => exact .inr (by simpa using h 0 y rfl z hz hr)
      · have := h (i + 1) x (by simpa using hx) z hz hr
        simpa using this
theorem fits_iff (row : List Nat) : fits R row = true ↔ ∀ i j x y : Nat, row[i]? = some x → row[j]? = some y → j < i → R x y = false := by
  unfold fits
  simp only [List.all_eq_true, List.mem_range, Bool.not_eq_true']
  constructor
  · intro h i j x y hx hy hj
    have hi : i < row.length := (List.getElem?_eq_some_iff.mp hx).1
    have := h i hi j hj
    simpa [List.getD, hx, hy] using this
  · intro h i hi j hj
    have hx : row[i]? = some (row[i]) := List.getElem?_eq_getElem hi
    have hj' : j < row.length := by omega
    have hy : row[j]? = some (row[j]) := List.getElem?_eq_getElem hj'
    have := h i j _ _ hx hy hj
    simpa [List.getD, hx, hy] using this
/-- all n points stand in a row of n -/
theorem rows_full : ∀ {n : Nat} {row : List Nat}, row.length = n → row.Nodup → (∀ x ∈ row, x < n) → ∀ z, z < n → z ∈ row := by
  intro n
  induction n with
  | zero => intro row _ _ _ z hz; omega
  | succ n ih =>
    intro row hl hn hb z hz
    have hmem : n ∈ row := by
      apply Decidable.byContradiction
      intro hno
      -- n + 1 different numbers below n
      have hb' : ∀ x ∈ row, x < n := fun x hx => by
        have := hb x hx
        have : x ≠ n := fun e => hno (e ▸ hx)
        omega
      cases row with
      | nil => simp at hl
      | cons a r =>
        have hl' : r.length = n := by simpa using hl
        have := ih hl' (List.nodup_cons.mp hn).2 (fun x hx => hb' x (List.mem_cons_of_mem _ hx)) a (hb' a (by simp))
        exact (List.nodup_cons.mp hn).1 this
    by_cases e : z = n
    · rw [e]; exact hmem
    · have h1 : (row.erase n).length = n := by rw [List.length_erase_of_mem hmem, hl]; rfl
      have h2 : (row.erase n).Nodup := hn.erase n
      have h3 : ∀ x ∈ row.erase n, x < n := fun x hx => by
        have := (List.Nodup.mem_erase_iff hn).mp hx
        have h4 := hb x this.2
        omega
      exact List.mem_of_mem_erase (ih h1 h2 h3 z (by omega))
theorem good_fits (irr : ∀ x, R x x = false) (asy : ∀ x y, R x y = true → R y x = false) (bnd : ∀ x y, R x y = true → x < n) {row : List Nat} (h : row ∈ rows n n) : good R n [] row = fits R row := by
  obtain ⟨hl, hn, hb⟩ := rows_ok h
  have full := rows_full hl hn hb
  rw [Bool.eq_iff_iff, good_iff, fits_iff]
  constructor
  · intro hg i j x y hx hy hj
    cases hr : R x y with
    | false => rfl
    | true =>
      exfalso
      have hm := hg j y hy x (bnd x y hr) hr
      rw [List.nil_append, List.mem_take_iff_getElem] at hm
      obtain ⟨k, hk, e⟩ := hm
      have hi := (List.getElem?_eq_some_iff.mp hx)
      obtain ⟨hi1, hi2⟩ := hi
      have : k = i := (List.getElem_inj hn).mp (e.trans hi2.symm)
      omega
  · intro hf i x hx z hz hr
    have hm := full z hz
    obtain ⟨k, hk, e⟩ := List.getElem_of_mem hm
    rw [List.nil_append, List.mem_take_iff_getElem]
    by_cases hki : k < i
    · have hi : i < row.length := (List.getElem?_eq_some_iff.mp hx).1
      exact ⟨k, by omega, e⟩
    · exfalso
      have hz' : row[k]? = some z := by rw [List.getElem?_eq_getElem hk, e]
      by_cases hki2 : k = i
      · subst hki2
        rw [hx] at hz'
        have : x = z := Option.some.inj hz'
        subst this
        rw [irr] at hr; cases hr
      · have := hf k i z x hz' hx (by omega)
        rw [this] at hr; cases hr
theorem due_lin (irr : ∀ x, R x x = false) (asy : ∀ x y, R x y = true → R y x = false) (bnd : ∀ x y, R x y = true → x < n) : (rows n n).filter (fits R) = lin R n n := by
  rw [lin_rows]
  apply List.filter_congr
  intro row h
  rw [good_fits irr asy bnd h]

/-! ### ranks -/
/-- the row at a place, found point by point -/
def pick (f : Nat → Nat) : List Nat → Nat → Option (Nat × Nat)
  | [], _ => none
  | x :: xs, k => if k < f x then some (x, k) else pick f xs (k - f x)
theorem flat_pick {g : Nat → List (List Nat)} : ∀ (xs : List Nat) (k : Nat) (r : List Nat), (xs.flatMap fun x => (g x).map (x :: ·))[k]? = some r → ∃ x j s, pick (fun x => (g x).length) xs k = some (x, j) ∧ (g x)[j]? = some s ∧ r = x :: s ∧ x ∈ xs
  | [], k, r, h => by simp at h
  | x :: xs, k, r, h => by
    rw [List.flatMap_cons] at h
    by_cases hk : k < (g x).length
    · rw [List.getElem?_append_left (by rw [List.length_map]; exact hk), List.getElem?_map] at h
      obtain ⟨s, hs, rfl⟩ := Option.map_eq_some_iff.mp h
      exact ⟨x, k, s, by simp [pick, hk], hs, rfl, by simp⟩
    · rw [List.getElem?_append_right (by rw [List.length_map]; omega), List.length_map] at h
      obtain ⟨y, j, s, h1, h2, h3, h4⟩ := flat_pick xs _ r h
      exact ⟨y, j, s, by simp [pick, hk, h1], h2, h3, List.mem_cons_of_mem _ h4⟩
/-- the rank of a row -/
def rank (R : Nat → Nat → Bool) (n : Nat) : Nat → Nat → List Nat → Nat
  | 0, _, _ => 0
  | _ + 1, _, [] => 0
  | k + 1, F, y :: r => (((fol R n F).filter fun x => decide (x < y)).map fun x => cnt R n k (F ||| 2 ^ x)).sum + rank R n k (F ||| 2 ^ y) r
theorem flat_rank {g : Nat → List (List Nat)} {y : Nat} {s : List Nat} : ∀ (xs : List Nat) (k : Nat), xs.Pairwise (· < ·) → (xs.flatMap fun x => (g x).map (x :: ·))[k]? = some (y :: s) →
    ∃ j, (g y)[j]? = some s ∧ k = ((xs.filter fun x => decide (x < y)).map fun x => (g x).length).sum + j
  | [], k, _, h => by simp at h
  | x :: xs, k, hp, h => by
    rw [List.flatMap_cons] at h
    have hp' := List.pairwise_cons.mp hp
    by_cases hk : k < (g x).length
    · rw [List.getElem?_append_left (by rw [List.length_map]; exact hk), List.getElem?_map] at h
      obtain ⟨s', hs, e⟩ := Option.map_eq_some_iff.mp h
      injection e with e1 e2
      subst e1 e2
      refine ⟨k, hs, ?_⟩
      have e0 : ((x :: xs).filter fun z => decide (z < x)) = [] := by
        rw [List.filter_eq_nil_iff]
        intro z hz
        rcases List.mem_cons.mp hz with rfl | hz
        · simp
        · have := hp'.1 z hz
          simp; omega
      rw [e0]
      simp
    · rw [List.getElem?_append_right (by rw [List.length_map]; omega), List.length_map] at h
      obtain ⟨j, h1, h2⟩ := flat_rank xs _ hp'.2 h
      refine ⟨j, h1, ?_⟩
      -- y is among xs: it is above x
      obtain ⟨x', j', s', _, _, e, hm⟩ := flat_pick xs _ _ h
      injection e with e1 _
      subst e1
      have hlt : x < y := hp'.1 _ hm
      rw [List.filter_cons, if_pos (by simpa using hlt), List.map_cons, List.sum_cons]
      omega
theorem rank_ext : ∀ (k F i : Nat) (row : List Nat), (ext R n k F)[i]? = some row → rank R n k F row = i
  | 0, F, i, row, h => by
    have : i < 1 := (List.getElem?_eq_some_iff.mp h).1
    show 0 = i
    omega
  | k + 1, F, i, row, h => by
    have h0 := h
    obtain ⟨x, j, s, _, _, rfl, _⟩ := flat_pick (g := fun x => ext R n k (F ||| 2 ^ x)) _ _ _ h
    obtain ⟨j, h1, h2⟩ := flat_rank (g := fun x => ext R n k (F ||| 2 ^ x)) _ _ (fol_sorted F) h0
    show (((fol R n F).filter fun z => decide (z < x)).map fun x => cnt R n k (F ||| 2 ^ x)).sum + rank R n k (F ||| 2 ^ x) s = i
    rw [rank_ext k _ _ _ h1, h2]
    simp only [cnt_ext]
end

/-! ### fronts that are reached -/
theorem nodup_len : ∀ {N : Nat} {l : List Nat}, l.Nodup → (∀ x ∈ l, x < N) → l.length ≤ N
  | 0, [], _, _ => Nat.le_refl _
  | 0, x :: l, _, h => absurd (h x (by simp)) (by omega)
  | N + 1, l, hn, h => by
    by_cases hm : N ∈ l
    · have h1 : (l.erase N).length = l.length - 1 := List.length_erase_of_mem hm
      have h2 : (l.erase N).length ≤ N := nodup_len (hn.erase N) fun x hx => by
        have := (List.Nodup.mem_erase_iff hn).mp hx
        have h4 := h x this.2
        omega
      omega
    · have h2 : l.length ≤ N := nodup_len hn fun x hx => by
        have h4 := h x hx
        have : x ≠ N := fun e => hm (e ▸ hx)
        omega
      omega
inductive Rch (R : Nat → Nat → Bool) (n : Nat) : Nat → Nat → Prop
  | zero : Rch R n 0 0
  | step {t F x : Nat} : Rch R n t F → x ∈ fol R n F → Rch R n (t + 1) (F ||| 2 ^ x)
def pc (n F : Nat) : Nat := ((List.range n).filter fun x => F.testBit x).length
theorem or_bit (F x y : Nat) : (F ||| 2 ^ x).testBit y = (F.testBit y || decide (x = y)) := by
  rw [Nat.testBit_or, Nat.testBit_two_pow]
theorem pc_add {F x : Nat} (h : F.testBit x = false) : ∀ {n : Nat}, pc n (F ||| 2 ^ x) = pc n F + (if x < n then 1 else 0)
  | 0 => by simp [pc]
  | n + 1 => by
    have ih := pc_add h (n := n)
    unfold pc at ih ⊢
    rw [List.range_succ, List.filter_append, List.filter_append, List.length_append, List.length_append, ih]
    by_cases e : x = n
    · subst e
      have e1 : (F ||| 2 ^ x).testBit x = true := by rw [or_bit]; simp
      simp [e1, h]
    · have e1 : (F ||| 2 ^ x).testBit n = F.testBit n := by rw [or_bit]; simp [e]
      have e2 : x < n + 1 ↔ x < n := by omega
      simp only [List.filter_cons, List.filter_nil, e1, e2]
      omega
section
variable {R : Nat → Nat → Bool} {n : Nat}
theorem Rch.pc_eq {t F : Nat} (h : Rch R n t F) : pc n F = t := by
  induction h with
  | zero => simp [pc]
  | step h hx ih =>
    obtain ⟨h1, h2, _⟩ := mem_fol.mp hx
    rw [pc_add h2, ih, if_pos h1]
theorem Rch.bits {t F : Nat} (h : Rch R n t F) : ∀ y, F.testBit y = true → y < n := by
  induction h with
  | zero => intro y hy; simp at hy
  | step h hx ih =>
    intro y hy
    obtain ⟨h1, _, _⟩ := mem_fol.mp hx
    rw [or_bit] at hy
    rcases Bool.or_eq_true_iff.mp hy with hy | hy
    · exact ih y hy
    · have := of_decide_eq_true hy
      omega
theorem Rch.lt {t F : Nat} (h : Rch R n t F) : F < 2 ^ n := by
  apply Nat.lt_pow_two_of_testBit
  intro i hi
  cases e : F.testBit i with
  | false => rfl
  | true =>
    have := h.bits i e
    omega
theorem Rch.level {t t' F : Nat} (h : Rch R n t F) (h' : Rch R n t' F) : t = t' := h.pc_eq.symm.trans h'.pc_eq
theorem Rch.full {F : Nat} (h : Rch R n n F) {x : Nat} (hx : x < n) : F.testBit x = true := by
  have e := h.pc_eq
  unfold pc at e
  have e2 : ((List.range n).filter fun x => F.testBit x).length = (List.range n).length := by rw [e, List.length_range]
  rw [List.length_filter_eq_length_iff] at e2
  exact e2 x (List.mem_range.mpr hx)
theorem Rch.ge {t F : Nat} (h : Rch R n t F) : t ≤ n := by
  rw [← h.pc_eq]
  unfold pc
  exact Nat.le_trans (List.length_filter_le _ _) (by rw [List.length_range]; exact Nat.le_refl _)
theorem fol_full {F : Nat} (h : Rch R n n F) : fol R n F = [] := by
  rw [List.eq_nil_iff_forall_not_mem]
  intro x hx
  obtain ⟨h1, h2, _⟩ := mem_fol.mp hx
  rw [h.full h1] at h2
  cases h2
theorem cnt_le (k F : Nat) : cnt R n k F ≤ n ^ k := by
  induction k generalizing F with
  | zero => exact Nat.le_refl _
  | succ k ih =>
    show ((fol R n F).map fun x => cnt R n k (F ||| 2 ^ x)).sum ≤ n ^ (k + 1)
    have h1 : ∀ l : List Nat, (l.map fun x => cnt R n k (F ||| 2 ^ x)).sum ≤ l.length * n ^ k := by
      intro l
      induction l with
      | nil => simp
      | cons x l ih2 =>
        have h0 := ih (F ||| 2 ^ x)
        rw [List.map_cons, List.sum_cons, List.length_cons, Nat.succ_mul]
        omega
    have h2 : (fol R n F).length ≤ n := Nat.le_trans (List.length_filter_le _ _) (by rw [List.length_range]; exact Nat.le_refl _)
    have h3 := h1 (fol R n F)
    have h4 : (fol R n F).length * n ^ k ≤ n * n ^ k := Nat.mul_le_mul_right _ h2
    rw [Nat.pow_succ, Nat.mul_comm (n ^ k) n]
    omega
theorem row_rch {t : Nat} {row : List Nat} (h : row ∈ lin R n t) : Rch R n t (setOf row) := by
  induction t generalizing row with
  | zero =>
    have : row = [] := by simpa [lin] using h
    subst this
    exact .zero
  | succ t ih =>
    unfold lin at h
    rw [List.mem_flatMap] at h
    obtain ⟨r, hr, h⟩ := h
    rw [List.mem_map] at h
    obtain ⟨x, hx, rfl⟩ := h
    rw [setOf_append]
    exact .step (ih hr) hx
end
end OF

namespace OFW
open PySem PySem.Spec PyProof.Rows L2
/-! ### the text -/
def topS (i : Nat) : Stmt := PySem.Challenge.pw_orderforms_k32_whole_linear_orders.main.body.getD i (.Pass ⟨0, 0, 0, 0⟩)
abbrev sInt : Stmt := topS 6
abbrev sMembers : Stmt := topS 7
abbrev sSetOf : Stmt := topS 8
abbrev sHas : Stmt := topS 9
abbrev sChecked : Stmt := topS 12
abbrev sClosed : Stmt := topS 13
abbrev sInit : Stmt := inClass (topS 14) 0
abbrev sSize : Stmt := inClass (topS 14) 3
abbrev sBelow : Stmt := inClass (topS 14) 4
abbrev sLess : Stmt := inClass (topS 14) 5
abbrev sPairs : Stmt := inClass (topS 14) 8
abbrev sIsRow : Stmt := topS 16
abbrev sIsLinear : Stmt := topS 17
abbrev sWays : Stmt := topS 18
abbrev sFol : Stmt := topS 19
abbrev sCount : Stmt := topS 20
abbrev sLinAt : Stmt := topS 21
abbrev sRank : Stmt := topS 22
abbrev sAll : Stmt := topS 23
abbrev sLNumbers : Stmt := topS 25
abbrev sLNext : Stmt := topS 26
abbrev sLOrder : Stmt := topS 27
abbrev sLTable : Stmt := topS 28
abbrev sLRows : Stmt := topS 29
abbrev sLFits : Stmt := topS 30
abbrev sLReason : Stmt := topS 31
abbrev sLaw : Stmt := topS 32
/-! ### values -/
abbrev nv (n : Nat) : V := V.int (n : Int)
abbrev nvs (l : List Nat) : List V := l.map nv
/-! ### heaps: all opaque, one after another -/
theorem same_upd {H : Hp} {p : Addr} {o : HO} (h : H p = none) : Same H (upd H p o) := fun b x e => by
  rw [upd_ne (ne_of_none e h)]
  exact e
/-- all but a is as it was -/
def But (a : Addr) (H H' : Hp) : Prop := ∀ b o, b ≠ a → H b = some o → H' b = some o
theorem but_upd {H : Hp} {p : Addr} {o : HO} : But p H (upd H p o) := fun b x n e => by
  rw [upd_ne n]
  exact e
/-- a fresh object -/
theorem fresh {H : Hp} {o : HO} {Q : Addr → Hp → Prop} (h : ∀ p H', Same H H' → H p = none → H' p = some o → Q p H') : ∀ p, H p = none → Q p (upd H p o) := fun p np => h p _ (same_upd np) np upd_same
/-- an object changed -/
theorem change {H : Hp} {p : Addr} {o : HO} {Q : Hp → Prop} (h : ∀ H', But p H H' → H' p = some o → Q H') : Q (upd H p o) := h _ but_upd upd_same
theorem _root_.L2.Same.mut {H H1 H2 : Hp} {p : Addr} (s : Same H H1) (n : H p = none) (b : But p H1 H2) : Same H H2 := fun c o e => b c o (ne_of_none e n) (s c o e)
theorem _root_.L2.Same.tup {K : PySem.W.Frag} {H H' : Hp} {a : Addr} {xs : List V} (e : Same H H') (h : SqT K H a xs) : SqT K H' a xs := by
  rcases h with (h | ⟨o, h⟩) | h
  · exact .inl (.inl (e _ _ h))
  · exact .inl (.inr ⟨o, e _ _ h⟩)
  · exact .inr h
/-! ### bits -/
theorem bit_shift1 (x : Nat) : (1 : Int) * 2 ^ ((x : Int)).toNat = ((2 ^ x : Nat) : Int) := by
  rw [Int.toNat_natCast, Int.one_mul]
  exact (PySem.W.kbt_cast x).symm
theorem bit_or (a b : Nat) : Builtin.bitOr (a : Int) (b : Int) = ((a ||| b : Nat) : Int) := by
  rw [bitOr_nn (Int.natCast_nonneg _) (Int.natCast_nonneg _), Int.toNat_natCast, Int.toNat_natCast]
theorem bit_orS (a x : Nat) : Builtin.bitOr (a : Int) (1 * 2 ^ ((x : Int)).toNat) = ((a ||| 2 ^ x : Nat) : Int) := by
  rw [bit_shift1, bit_or]
theorem bit_test (a x : Nat) : Builtin.bitAnd ((a : Int) / 2 ^ ((x : Int)).toNat) 1 = ((if a.testBit x then 1 else 0 : Nat) : Int) := by
  have e : (a : Int) / 2 ^ ((x : Int)).toNat = ((a / 2 ^ x : Nat) : Int) := by
    rw [Int.toNat_natCast, ← PySem.W.kbt_cast x]
    exact (Int.natCast_ediv a (2 ^ x)).symm
  rw [e, bitAnd_pp (Int.natCast_nonneg _) (by decide), Int.toNat_natCast]
  have h1 : (1 : Int).toNat = 1 := rfl
  rw [h1, Nat.and_one_is_mod, Nat.testBit_eq_decide_div_mod_eq]
  have h2 := Nat.mod_two_eq_zero_or_one (a / 2 ^ x)
  rcases h2 with h | h
  · rw [h]; rfl
  · rw [h]; rfl
theorem bit_testV (a x : Nat) : decide (V.int (Builtin.bitAnd ((a : Int) / 2 ^ ((x : Int)).toNat) 1) = V.int 1) = a.testBit x := by
  rw [bit_test]
  cases h : a.testBit x
  · rfl
  · rfl
/-! ### what the top has written -/
section
variable {P : Program} {w : World} {K : PySem.W.Frag} {mg : Str → Option Value} {base : Heap}
/-! ### is_integer -/
theorem scInt : FnScope ["value"] ["value"] (defScope sInt) := ⟨rfl, rfl, rfl, by decide +kernel, rfl, by decide +kernel, by decide +kernel⟩
def isI : V → Bool
  | .int _ => true
  | _ => false
def spInt : Sp := fun vs H Q _ => (∃ i, vs = [.int i] ∧ Q (.bl true) H) ∨ (vs = [.non] ∧ Q (.bl false) H)
theorem ok_int {f : Addr} {fd : FuncData} (F : Fun K "is_integer" "is_integer" sInt f fd) (m1 : mg "isinstance" = none) (m2 : mg "int" = none) (m3 : mg "bool" = none) : FnOk P w K mg base CX0 1 f fd ["value"] spInt := by
  refine F.ok scInt (fun vs H Q E h => ?_) (fun cdv A outer s H vs Q E hr h => ?_)
  · rcases h with ⟨i, rfl, _⟩ | ⟨rfl, _⟩ <;> rfl
  · refine ⟨_, pss_one (ps_ret (pe_and (pe_callB call_isi (by rfl) m1 (by decide +kernel) (pa_cons (pv 0) (pa_cons (pe_bltn (v := .ty "int") (by rfl) m2 (by decide +kernel) rfl) pa_nil)))
      (pe_one (pe_not (pe_callB call_isi (by rfl) m1 (by decide +kernel) (pa_cons (pv 0) (pa_cons (pe_bltn (v := .ty "bool") (by rfl) m3 (by decide +kernel) rfl) pa_nil))))))), ?_⟩
    rcases h with ⟨i, rfl, q⟩ | ⟨rfl, q⟩
    · refine ⟨_, rfl, .int i, .ty "int", _, _, true, rfl, .ty _, .base (.int i), kit_ty (by decide +kernel), true, rfl, iteT ?_⟩
      exact ⟨_, rfl, .int i, .ty "bool", _, _, false, rfl, .ty _, .base (.int i), kit_ty (by decide +kernel), false, rfl, q⟩
    · exact ⟨_, rfl, .non, .ty "int", _, _, false, rfl, .ty _, .base .non, kit_ty (by decide +kernel), false, rfl, iteF q⟩
/-! ### has -/
theorem scHas : FnScope ["bits", "x"] ["bits", "x"] (defScope sHas) := ⟨rfl, rfl, rfl, by decide +kernel, rfl, by decide +kernel, by decide +kernel⟩
def spHas : Sp := fun vs H Q _ => ∃ a x : Nat, vs = [nv a, nv x] ∧ Q (.bl (a.testBit x)) H
theorem ok_has {f : Addr} {fd : FuncData} (F : Fun K "has" "has" sHas f fd) : FnOk P w K mg base CX0 1 f fd ["bits", "x"] spHas := by
  refine F.ok scHas (fun vs H Q E h => ?_) (fun cdv A outer s H vs Q E hr h => ?_)
  · obtain ⟨a, x, rfl, _⟩ := h; rfl
  · obtain ⟨a, x, rfl, q⟩ := h
    refine ⟨_, pss_one (ps_ret (pe_cmpR op_eq (pe_op op_and (pe_op op_shr (pv 0) (pv 1)) pe_int) pe_int (nomark _))), ?_⟩
    refine ⟨_, rfl, _, rfl, _, _, rfl, rfl, Int.natCast_nonneg _, _, _, rfl, rfl, rfl, ?_⟩
    rw [bit_testV]
    exact q
/-! ### set_of -/
theorem scSetOf : FnScope ["points", "out", "x"] ["points"] (defScope sSetOf) := ⟨rfl, rfl, rfl, by decide +kernel, rfl, by decide +kernel, by decide +kernel⟩
def spSetOf (K : PySem.W.Frag) : Sp := fun vs H Q _ => ∃ (a : Addr) (l : List Nat), vs = [.ref a] ∧ (∀ x ∈ l, x ≤ 1000) ∧ (SqL K H a (nvs l) ∨ SqT K H a (nvs l)) ∧ Q (nv (OF.setOf l)) H
theorem ok_setOf {f : Addr} {fd : FuncData} (F : Fun K "set_of" "set_of" sSetOf f fd) : FnOk P w K mg base CX0 1 f fd ["points"] (spSetOf K) := by
  refine F.ok scSetOf (fun vs H Q E h => ?_) (fun cdv A outer s H vs Q E hr h => ?_)
  · obtain ⟨a, l, rfl, _⟩ := h; rfl
  · obtain ⟨a, l, rfl, hb, hS, q⟩ := h
    have step : ∀ i x, (nvs l)[i]? = some x → ∃ n : Nat, x = nv n ∧ l[i]? = some n := fun i x hx => by
      rw [List.getElem?_map] at hx
      obtain ⟨n, hn, rfl⟩ := Option.map_eq_some_iff.mp hx
      exact ⟨n, rfl, hn⟩
    have fold : ∀ i n, l[i]? = some n → OF.setOf (l.take (i + 1)) = OF.setOf (l.take i) ||| 2 ^ n := fun i n hn => by
      rw [List.take_add_one, hn, Option.toList_some, OF.setOf_append]
    rcases hS with hS | hS
    · refine ⟨_, pss_cons (ps_set (i := 1) scSetOf.nd rfl (.inl rfl) pe_int)
        (pss_cons (ps_for PassesOwn.never rfl (pi_list (pv 0)) (pg_name (i := 2) scSetOf.nd rfl (.inl rfl))
          (pss_one (ps_set (i := 1) scSetOf.nd rfl (.inl rfl) (pe_op op_or (pv 1) (pe_op op_shl pe_int (pv 2))))))
        (pss_one (ps_ret (pv 1)))), ?_⟩
      refine ⟨_, rfl, a, rfl, ⟨_, hS⟩, for_list (K := K) (a := a) (xs := nvs l) (fun i σ H' => ∃ v, σ = [some (.ref a), some (nv (OF.setOf (l.take i))), v] ∧ H' = H)
        ⟨none, rfl, rfl⟩ (fun i σ H' _ ⟨_, _, e⟩ => by rw [e]; exact hS) ?_ ?_⟩
      · rintro i x σ H' hx ⟨v, rfl, rfl⟩
        obtain ⟨n, rfl, hn⟩ := step i x hx
        have hn1 := hb n (List.mem_of_getElem? hn)
        refine ⟨_, rfl, _, rfl, _, _, rfl, rfl, ⟨Int.natCast_nonneg _, by omega, by decide⟩, _, _, rfl, rfl, ⟨some (nv n), ?_, rfl⟩⟩
        rw [fold i n hn]
        show [some (V.ref a), some (V.int (Builtin.bitOr _ _)), _] = _
        rw [bit_orS]
      · rintro σ H' ⟨v, rfl, rfl⟩
        refine ⟨_, rfl, ?_⟩
        rw [List.length_map, List.take_length]
        exact q
    · refine ⟨_, pss_cons (ps_set (i := 1) scSetOf.nd rfl (.inl rfl) pe_int)
        (pss_cons (ps_for PassesOwn.never rfl (pi_tup (pv 0)) (pg_name (i := 2) scSetOf.nd rfl (.inl rfl))
          (pss_one (ps_set (i := 1) scSetOf.nd rfl (.inl rfl) (pe_op op_or (pv 1) (pe_op op_shl pe_int (pv 2))))))
        (pss_one (ps_ret (pv 1)))), ?_⟩
      refine ⟨_, rfl, a, rfl, ⟨_, hS⟩, for_tup (K := K) (a := a) (xs := nvs l) (fun i σ H' => ∃ v, σ = [some (.ref a), some (nv (OF.setOf (l.take i))), v] ∧ H' = H)
        ⟨none, rfl, rfl⟩ (fun i σ H' _ ⟨_, _, e⟩ => by rw [e]; exact hS) ?_ ?_⟩
      · rintro i x σ H' hx ⟨v, rfl, rfl⟩
        obtain ⟨n, rfl, hn⟩ := step i x hx
        have hn1 := hb n (List.mem_of_getElem? hn)
        refine ⟨_, rfl, _, rfl, _, _, rfl, rfl, ⟨Int.natCast_nonneg _, by omega, by decide⟩, _, _, rfl, rfl, ⟨some (nv n), ?_, rfl⟩⟩
        rw [fold i n hn]
        show [some (V.ref a), some (V.int (Builtin.bitOr _ _)), _] = _
        rw [bit_orS]
      · rintro σ H' ⟨v, rfl, rfl⟩
        refine ⟨_, rfl, ?_⟩
        rw [List.length_map, List.take_length]
        exact q
/-! ### members -/
theorem scMembers : FnScope ["bits", "x"] ["bits"] (defScope sMembers) := ⟨rfl, rfl, rfl, by decide +kernel, rfl, by decide +kernel, by decide +kernel⟩
/-- a new tuple -/
def RetT (xs : List V) (H : Hp) (Q : VK) : Prop := ∀ H' p, Same H H' → H p = none → H' p = some (.tup xs) → Q (.ref p) H'
def RetL (xs : List V) (H : Hp) (Q : VK) : Prop := ∀ H' p, Same H H' → H p = none → H' p = some (.lst xs) → Q (.ref p) H'
def spMembers : Sp := fun vs H Q _ => ∃ m : Nat, vs = [nv m] ∧ m < 2 ^ 1000 ∧ RetT (nvs (OF.mem (Builtin.Int.intBits (m : Int)) m)) H Q
end
end OFW

namespace OFW
open PySem PySem.Spec PyProof.Rows L2
section
variable {P : Program} {w : World} {K : PySem.W.Frag} {mg : Str → Option Value} {base : Heap}
theorem int_bits {m : Nat} : m < 2 ^ Builtin.Int.intBits (m : Int) := by
  unfold Builtin.Int.intBits
  by_cases h : m = 0
  · subst h; decide
  · rw [if_neg (by simpa using h)]
    simp only [Int.natAbs_natCast]
    exact Nat.lt_log2_self
theorem int_bits_le {m n : Nat} (h : m < 2 ^ n) : Builtin.Int.intBits (m : Int) ≤ n := PyProof.Rows.intBits_le (by simpa using h)
theorem take_filter {α : Type} (p : Nat → Bool) (f : Nat → α) (i : Nat) : ((List.range (i + 1)).filter p).map f = ((List.range i).filter p).map f ++ (if p i then [f i] else []) := by
  rw [List.range_succ, List.filter_append, List.map_append]
  congr 1
  cases h : p i <;> simp [h]
def spMembers' : Sp := fun vs H Q _ => ∃ m n : Nat, vs = [nv m] ∧ m < 2 ^ n ∧ n ≤ 1000 ∧ RetT (nvs (OF.mem n m)) H Q
theorem ok_members {f : Addr} {fd : FuncData} (F : Fun K "members" "members" sMembers f fd) (m1 : mg "tuple" = none) (m2 : mg "range" = none) : FnOk P w K mg base CX0 1 f fd ["bits"] spMembers' := by
  refine F.ok scMembers (fun vs H Q E h => ?_) (fun cdv A outer s H vs Q E hr h => ?_)
  · obtain ⟨a, l, rfl, _⟩ := h; rfl
  · obtain ⟨m, n, rfl, hm, hn, q⟩ := h
    refine ⟨_, pss_one (ps_ret (pe_tupleOf (by rfl) m1 (pe_lc (own := [("x", 1)]) (by rfl) scMembers.nd (pi_range1 (by rfl) m2 (pa_cons (pe_bits (pv 0)) pa_nil)) (blkOk_by (own := [("x", 1)]) (N := ["bits", "x"]) (sc := defScope sMembers) (by decide +kernel))
      (fun _ _ _ _ _ => pg_name (i := 1) scMembers.nd rfl (Or.inl rfl)) (fun _ _ _ _ _ => pts_one (pt_cmpR op_eq (pe_op op_and (pe_op op_shr (pv 0) (pv 1)) pe_int) pe_int (nomark _))) (fun _ _ _ _ _ => pv 1)))), ?_⟩
    have hb : Builtin.Int.intBits (m : Int) ≤ n := int_bits_le hm
    refine ⟨_, rfl, _, rfl, _, rfl, by omega, by omega, fun D nD => ?_⟩
    refine lc_range (lo := 0) (n := (Builtin.Int.intBits (m : Int))) (fun i H' => Same H H' ∧ H' D = some (.lst (nvs (OF.mem i m)))) ⟨same_upd nD, upd_same⟩ (fun i H' hi hP => ?_) (fun H' hP => ?_)
    · obtain ⟨s1, e1⟩ := hP
      refine ⟨rfl, _, rfl, _, rfl, _, _, rfl, rfl, by omega, _, _, rfl, rfl, rfl, _, rfl, ?_⟩
      rw [Int.zero_add, bit_testV]
      have tk := take_filter (fun x => m.testBit x) nv i
      cases hb2 : m.testBit i with
      | true =>
        refine iteT ⟨_, rfl, _, e1, ?_, ?_⟩
        · rw [List.length_map]
          exact Nat.lt_of_le_of_lt (Nat.le_trans (List.length_filter_le _ _) (by rw [List.length_range]; omega)) (small1000 (Nat.le_refl _))
        · refine ⟨s1.mut nD but_upd, ?_⟩
          rw [upd_same]
          show some (HO.lst (((List.range i).filter _).map nv ++ [_])) = some (HO.lst (((List.range (i + 1)).filter _).map nv))
          rw [tk, hb2]
          rfl
      | false =>
        refine iteF ⟨s1, ?_⟩
        rw [e1]
        show some (HO.lst (((List.range i).filter _).map nv)) = some (HO.lst (((List.range (i + 1)).filter _).map nv))
        rw [tk, hb2]
        simp
    · obtain ⟨s1, e1⟩ := hP
      refine .inl ⟨D, _, rfl, SqL.of e1, fresh fun p H2 s2 np ep => ?_⟩
      refine q H2 p (s1.trans s2) (s1.free np) ?_
      rw [ep, OF.mem_bits hm int_bits]
end
end OFW

namespace OFW
open PySem PySem.Spec PyProof.Rows L2
/-! ### sorted(t), t a tuple of ints -/
section
variable {prog : Program} {w : World} {A : Around} {E : Value → Shared → Prop} {s : Shared}
theorem collect_tup {l : Addr} {vs : List Value} {Q : List Value → Shared → Prop} (hl : IsTup s.heap l vs.toArray) (hsz : vs.length ≤ 1000)
    (h : Q vs { s with heap := (s.heap.push (seqObj "list" #[] 0)).update s.heap.objs.size (Obj.mapSeq (· ++ vs.toArray)) }) :
    wpAny (model prog w) A (collect (.ref l)) Q E s := by
  obtain ⟨o, ho, hc, n, hd⟩ := id hl
  have hz : vs.length ≤ sizeLine := Nat.le_of_lt (small1000 hsz)
  have hnew : (s.heap.push (seqObj "list" #[] 0)).get? s.heap.objs.size = some (seqObj "list" #[] 0) := Heap.get?_push_size _ rfl
  unfold collect
  refine wpAny_bind (wpAny_runValue (codeAny_builtin PyProof.Rows.entry_proto_collect' ?_))
  show wpAny _ _ (newList [] >>= fun r => again (.builtin "list.__iadd__" ⟨[r, .ref l], []⟩)) _ _ s
  refine wpAny_bind (wpAny_newList (wpAny_pure ⟨Code.quiet_builtin _ (by decide +kernel), codeAny_builtin PyProof.Rows.entry_list_iadd' ?_⟩))
  show wpAny _ _ (Builtin.List.listExtendWith (.ref s.heap.objs.size) (.ref l) (.ref s.heap.objs.size)) _ _ { s with heap := s.heap.push (seqObj "list" #[] 0) }
  unfold Builtin.List.listExtendWith
  have hlo : (s.heap.push (seqObj "list" #[] 0)).get? l = some o := Heap.get?_push_of_some _ ho
  refine wpAny_bind (wpAny_typeOf (T := "tuple") ⟨o, hlo, hc⟩ ?_)
  have tt : (Value.type "tuple" == Value.type "tuple") = true := rfl
  rw [if_pos (by rw [tt, Bool.or_true])]
  refine wpAny_bind (PyProof.Rows.listItems_at hlo hd ?_)
  refine wpAny_bind (PyProof.Rows.listItems_at (xs := #[]) (n := 0) hnew rfl ?_)
  rw [if_neg (by simp)]
  refine wpAny_bind (PyProof.Rows.listUpdate_at (xs := #[]) (n := 0) hnew rfl ?_ (Nat.zero_le _) ?_)
  · refine wpAny_pure ?_
    show wpAny (model prog w) A (load s.heap.objs.size >>= fun o => match o.data with
        | .seq xs _ => pure xs.toList
        | _ => unsupported "internal:collect") Q E { s with heap := (s.heap.push (seqObj "list" #[] 0)).update s.heap.objs.size (Obj.mapSeq (· ++ vs.toArray)) }
    refine wpAny_bind (wpAny_load (PyProof.Rows.get?_update_seq hnew _) ?_)
    show wpAny _ _ (pure ((#[] : Array Value) ++ vs.toArray).toList) Q E _
    have ev : ((#[] : Array Value) ++ vs.toArray).toList = vs := by simp
    rw [ev]
    exact wpAny_pure h
  · show (#[] ++ vs.toArray).size ≤ sizeLine + 1
    have ev : (#[] ++ vs.toArray).size = vs.length := by simp
    rw [ev]
    omega
theorem sorted_tup {l : Addr} {vs : List Value} {ns : List Int} {Q : Value → Shared → Prop} (hl : IsTup s.heap l vs.toArray) (hI : IntsAre vs ns) (h64 : vs.length < 64)
    (h : ∀ (out : Array Value) (ns' : List Int), IntsAre out.toList ns' → ns'.Perm ns → ns'.Pairwise (· ≤ ·) → Q (.ref (s.heap.objs.size + 1)) { s with heap := PyProof.Rows.sortedAll s.heap vs out }) :
    wpAny (model prog w) A (call (.builtin "sorted") [.ref l]) Q E s := by
  refine Calls.call_function_entry PyProof.Rows.kind_sorted PyProof.Rows.plain_sorted PyProof.Rows.entry_sorted (PyProof.Rows.args_sorted1 _) ?_
  unfold Builtin.«sorted»
  refine wpAny_bind (m := checkCount "sorted" 1 1 _) (wpAny_pure ?_)
  refine wpAny_bind (collect_tup hl (by omega) ?_)
  refine wpAny_bind (wpAny_newList ?_)
  have sz : ((s.heap.push (seqObj "list" #[] 0)).update s.heap.objs.size (Obj.mapSeq (· ++ vs.toArray))).objs.size = s.heap.objs.size + 1 := by
    rw [Heap.size_update, PyProof.Rows.size_push']
  have at1 : (((s.heap.push (seqObj "list" #[] 0)).update s.heap.objs.size (Obj.mapSeq (· ++ vs.toArray))).push (seqObj "list" vs.toArray 0)).get? (s.heap.objs.size + 1) = some (seqObj "list" vs.toArray 0) := by
    rw [← sz]
    exact Heap.get?_push_size _ rfl
  show wpAny _ _ _ _ _ { s with heap := ((s.heap.push (seqObj "list" #[] 0)).update s.heap.objs.size (Obj.mapSeq (· ++ vs.toArray))).push (seqObj "list" vs.toArray 0) }
  rw [sz]
  refine wpAny_bind (wpAny_holding (wpAny_call_entry PyProof.Rows.slot_list_sort ⟨_, at1, rfl⟩ PyProof.Rows.entry_list_sort (PyProof.Rows.list_sort_tree at1 hI h64 fun out ns' a1 a2 a3 => ⟨_, rfl, ?_⟩) (PyProof.Rows.args_list_sort _)))
  exact wpAny_pure ⟨_, rfl, h out ns' a1 a2 a3⟩
end
section
variable {X : Cx}
def rSortedU (K : PySem.W.Frag) : List V → Hp → VK → Prop := fun vs H Q => ∃ (a : Addr) (ns : List Int), vs = [V.ref a] ∧ SqT K H a (ns.map V.int) ∧ ns.length < 64 ∧
  ∀ (ns' : List Int) (p : Addr), ns'.Perm ns → ns'.Pairwise (· ≤ ·) → H p = none → Q (.ref p) (upd H p (.lst (ns'.map V.int)))
theorem cr_sortedU : CallR X (.builtin "sorted") (rSortedU X.K) := by
  intro pins s σ H vs us Q I r h
  obtain ⟨a, ns, rfl, hs, h64, q⟩ := h
  obtain ⟨its, rv, hl, _⟩ := I.tuple hs
  obtain ⟨u, rfl, ru⟩ := vals1 r
  cases ru
  have hi : IntsAre its ns := intsAre_of rv
  refine sorted_tup hl hi (by rw [hi.length]; exact h64) fun out ns' h1 h2 h3 => ?_
  obtain ⟨ep, at2⟩ := PyProof.Rows.sortedAll_at s.heap its out
  have hz : (ns'.map V.int).length ≤ sizeLine := by rw [List.length_map, h2.length_eq]; exact Nat.le_of_lt (small1000 (by omega))
  have fr : H (s.heap.objs.size + 1) = none := I.hok.fresh (Nat.le_succ _)
  exact ⟨.ref _, upd H (s.heap.objs.size + 1) (.lst (ns'.map V.int)), I.laid (t' := s.toks) (fun _ _ => PyProof.Rows.sortedAll_old) (Nat.le_succ _) ⟨hz, out.toList, ep, vals_of_ints h1, at2⟩, rfl, q ns' _ h2 h3 fr⟩
end
end OFW

namespace OFR
open PySem PySem.W PySem.Calls PyProof.Rows PySem.HandSPX L2
/-! ### Refused(v): super().__init__('refused: ' + v), then self.reason = v, over the bare heap -/
abbrev sRI : Stmt := L2.inClass (OFW.topS 4) 0
structure RefTxt (P : Program) (K : Frag) (mg : Str → Option Value) (C fI cc cda : Addr) : Prop where
  gC : mg "Refused" = some (.ref C)
  gS : mg "super" = none
  cls : ∃ nm q N bs bm sn sub ab col dd k0 k1 k2 k3 k5, K.lookup C = some (excClassObj nm q C N bs bm true sn sub ab col dd k0 k1 k2 k3 k5 "ValueError.__new__") ∧ refsVE bm = true ∧ alongIn K "__init__" bm = some (some (.builtin "ValueError.__init__"))
  sa : findIn K (.ref C) "__setattr__" = some (some (.builtin "object.__setattr__"))
  ga : findIn K (.ref C) "__getattribute__" = some (some (.builtin "BaseException.__getattribute__"))
  gg : findIn K (.ref C) "__getattr__" = some none
  noN : findIn K (.ref C) "reason" = some none
  iC : findIn K (.ref C) "__init__" = some (some (.ref fI))
  tI : typeIn K (.ref fI) = some (.type "function")
  kC : keepIn K (.ref C) = true
  exC : subIn K (.ref C) (.type "BaseException") = some true
  tyC : typeIn K (.ref C) = some (.type "type")
  hdC : hasDictIn K C = true
  te : exmOne K (.ref C) (.ref C) = some true
  vE : subIn K (.ref C) (.type "ValueError") = some true
  sC : mroIn K C (.ref C) = some true
  third : nsIn K cStatics "thirdparty.any" = some none
  fn : ∃ (oc : Value) (od : Option Addr) (doc pm : Value) (an : Option Addr) (ct : Value) (osl : Array (Option Value)),
    K.lookup fI = some ⟨oc, od, .func (ksFn "__init__" "Refused.__init__" (L2.defArgs sRI) (L2.defBody sRI) (L2.defScope sRI) .none .none doc pm an (.ref cda) ct cc), osl⟩ ∧ codeIn K (.ref cda) "Refused.__init__" = true
  code : ∃ (ccl : Value) (cdd : Option Addr) (vs : Array Value) (ccs : Array (Option Value)) (file : Str) (tf : Tok), K.lookup cda = some ⟨ccl, cdd, .fields vs, ccs⟩ ∧ vs[2]? = some (.str file tf) ∧ ((P.main.file : Str) == file) = true
  cell : ∃ (cl : Value) (cld : Option Addr) (csl : Array (Option Value)), K.lookup cc = some ⟨cl, cld, .cell (some (.ref C)), csl⟩
  top : (P.main.scope.names.lookup ("super" : Str)).isSome = false
theorem line1 {n : Nat} (h : n ≤ 1000) : n ≤ sizeLine := Nat.le_of_lt (L2.small1000 h)
/-- super().__init__(..), the built-in one, called -/
theorem call_mw {M' : Program} {w : World} {A : Around} {E : Value → Shared → Prop} {h : Heap} {g : Array GenState} {d : Drawn} {t : Nat} {os : OsState} {nm q : Str} {C N : Addr} {bs bm : List Value} {hdct : Bool} {sn : List Str} {sub : List Value} {ab : Bool} {col : Option Bool} {dd : Option Addr} {k0 k1 k2 k3 k5 : Option Value}
    {u e t0 : Addr} {rest : List Value} {Q : Value → Shared → Prop}
    (hC : h.get? C = some (excClassObj nm q C N bs bm hdct sn sub ab col dd k0 k1 k2 k3 k5 "ValueError.__new__")) (he : h.get? e = some (excO C t0)) (hu : h.get? u = some (kxs_mw "ValueError.__init__" e)) (hz : rest.length ≤ sizeLine)
    (hq : ∀ h' t1, (∀ b o, b ≠ e → h.get? b = some o → h'.get? b = some o) → h'.get? e = some (excO C t1) → Q .none ⟨h', g, d, t, os⟩) :
    wpAny (model M' w) A (call (.ref u) rest) Q E ⟨h, g, d, t, os⟩ := by
  refine wpAny_call (codeAny_of_tree ?_)
  show wpAny _ A.in1 (callAny (.ref u) ⟨rest, []⟩) _ _ _
  simp only [callAny]
  refine wpAny_bind (wpAny_load hu ?_)
  have y : (Value.type "method-wrapper" == Value.type "method" || Value.type "method-wrapper" == Value.type "builtin_function_or_method" || Value.type "method-wrapper" == Value.type "method-wrapper") = true := by decide
  simp only [kxs_mw, y, if_true]
  refine KFB.if_so (by decide) ?_
  refine wpAny_bind (check_bound_init F.excBase_ValueError.toExcCallFacts hC he rfl (wpAny_bind (wpAny_pure (wpAny_pure ?_))))
  refine ⟨plainId_quiet F.excBase_ValueError.init.plain _, codeAny_builtin F.excBase_ValueError.initEntry ?_⟩
  refine exc_init_tree (cls := .ref C) (t0 := t0) (dv := none) (c2 := .none) (c3 := .none) (b4 := .bool false) he hz fun h' k e' _ => hq h' _ k e'
/-- what __init__ leaves of a fresh exception at x -/
structure InitEnd (h h' : Heap) (x C dx t1 : Addr) (v : Value) : Prop where
  keep : ∀ b o, b ≠ x → h.get? b = some o → h'.get? b = some o
  obj : h'.get? x = some { cls := .ref C, dict := some dx, data := .fields #[.ref t1, .none, .none, .none, .bool false, .none] }
  dbig : h.objs.size ≤ dx
  dne : dx ≠ x
  ns : h'.Ns1 dx (fun y => if y = "reason" then some v else none)
section
variable {P : Program} {w : World} {A : Around} {R : Result → Shared → Prop} {s : Shared} {K : Frag} {mg : Str → Option Value} {C fI cc cda : Addr}
theorem ref_init (T : RefTxt P K mg C fI cc cda) {x t0 : Addr} {v : Str} {tv : Tok} {mb : Str → Option Value} (X : K.In s.heap) (hlim : s.heap.NoLimit) (G : s.heap.Ns mainGlobals mg) (B : s.heap.Ns builtinsNs mb) (hmb : mb "super" = bootBuiltins "super")
    (hx : s.heap.get? x = some (excO C t0)) (hnx : K.lookup x = none) (hroom : A.depth < recursionLimit) (hz : v.length ≤ 900)
    (hq : ∀ h' tk dx t1 tv', InitEnd s.heap h' x C dx t1 (.str v tv') → R (.ok (.ret .none)) { s with heap := h', toks := tk }) :
    codeAny (model P w) A (.call (.ref fI) ⟨[.ref x, .str v tv], []⟩) R s := by
  obtain ⟨oc, od, doc, pm, an, ct, osl, ho, hcd⟩ := T.fn
  obtain ⟨nm, q, N, bs, bm, sn, sub, ab, col, dd, k0, k1, k2, k3, k5, hC, hbm, hal⟩ := T.cls
  obtain ⟨ccl, cdd, vs, ccs, file, tf, hcode, hvs, hfile⟩ := T.code
  obtain ⟨cl, cld, csl, hcell⟩ := T.cell
  have hcl : clsIn K C = some { name := nm, bases := bs, mro := .ref C :: bm, ns := N, qualname := q, hasDict := true, slotNames := sn, subclasses := sub, abstract := ab, collection := col, hasDel := false } := by unfold clsIn; rw [hC] <;> rfl
  refine ks_codeAny_call_defAt (fd := ksFn "__init__" "Refused.__init__" (L2.defArgs sRI) (L2.defBody sRI) (L2.defScope sRI) .none .none doc pm an (.ref cda) ct cc) (body := L2.defBody sRI) (binds := [("self", .ref x), ("reason", .str v tv)])
    hroom (X _ _ ho) rfl hlim (codeRec_of X hcd) rfl (BindsTo.of_eq (by first | rfl | with_unfolding_all rfl)) (by show ∀ y ∈ (L2.defScope sRI).names, y.2 ≠ .cell; decide +kernel) (fun y hy => ?_) (fun h1 hns keep => ?_) rfl rfl rfl
  · rcases List.mem_cons.mp hy with rfl | hy
    · show List.lookup ("self" : Str) (L2.defScope sRI).names = some .local
      decide +kernel
    · obtain rfl : y = (("reason" : Str), Value.str v tv) := List.mem_singleton.mp hy
      show List.lookup ("reason" : Str) (L2.defScope sRI).names = some .local
      decide +kernel
  · have X1 : K.In h1 := X.keeps keep
    have hx1 := keep _ _ hx
    have hxC : x ≠ C := fun z => by
      have e1 := X _ _ hC
      rw [← z, hx] at e1
      injection e1 with e2
      injection e2 with _ _ e3
      cases e3
    show PySem.wpAt (model P w) (A.deeper (ksEnv "Refused.__init__" (L2.defScope sRI) s.heap.objs.size fI (.ref cda) cc)) (.func (L2.defBody sRI) (ksEnv "Refused.__init__" (L2.defScope sRI) s.heap.objs.size fI (.ref cda) cc)) (execs (_ :: _ :: []) (ksEnv "Refused.__init__" (L2.defScope sRI) s.heap.objs.size fI (.ref cda) cc)) _ _ _
    refine ks_wpAt_execs_cons (ks_wpAt_Expr_any ?_)
    refine ks_wpAt_MethodCall ?_
    have I1 : InstAt h1 x (excO C t0) C none := ⟨hx1, rfl, rfl, trivial⟩
    obtain ⟨hp, gg, dr, tk, os⟩ := s
    have cl1 : clsIn K C = some _ := hcl
    refine ks_wpAt_super_base (env := ksEnv "Refused.__init__" (L2.defScope sRI) hp.objs.size fI (.ref cda) cc) rfl rfl (by decide) rfl (X1 _ _ ho) rfl rfl rfl (X1 _ _ hcode) rfl hvs hfile T.top ?_
    refine ks_loadName_global rfl rfl (loadGlobal_builtin (env := ksEnv "Refused.__init__" (L2.defScope sRI) hp.objs.size fI (.ref cda) cc) (G.keeps keep) T.gS (B.keeps keep) (hmb.trans (by with_unfolding_all first | boot_by_name | rfl | kernel_rfl)) ⟨rfl, ?_⟩)
    refine wpAny_loadName_free rfl rfl rfl ⟨_, X1 _ _ hcell, rfl⟩ ?_
    refine wpAny_loadName_local rfl rfl hns (show _ = some (Value.ref x) from (by first | rfl | with_unfolding_all rfl | kernel_rfl)) ?_
    refine ks_wpAny_isType_cls (X1 _ _ hC) rfl ⟨rfl, ?_⟩
    refine ks_wpAny_call_super (X1 _ _ hC) rfl hx1 rfl (fun c e => by cases e) (looks_mroIn X1 T.sC) (fun h2 e2 k2 => ?_)
    have X2 : K.In h2 := X1.keeps k2
    have hx2 := k2 _ _ hx1
    refine kxs_getMethod kxs_ValueError e2 (looks_opaque X2 T.third) (l₀ := .ref C :: bm) (fun A Q E s k q => wpAny_bind ((looks_clsIn X2 hcl) A _ E s k (wpAny_pure q))) (l := bm) (by simp [List.dropWhile_cons]) X2 hal ?_ hxC (by decide) ?_
    · have I2 : InstAt h2 x (excO C t0) C none := ⟨hx2, rfl, rfl, trivial⟩
      exact I2.type.andThen (looks_subIn X2 T.vE)
    refine kxs_callWith (i := "ValueError.__init__") (x := x) (by rfl) ?_
    refine evalArgs_plain ?_
    refine spliced_cons ?_
    have nv3 : (h2.push (kxs_mw "ValueError.__init__" x)).Ns hp.objs.size _ := (hns.keeps k2).keeps fun b o e => Heap.get?_push_of_some _ e
    refine wpAny_BinOp (Calls.Constant_str ?_)
    refine wpAny_Name (wpAny_loadName_local rfl rfl nv3 (show _ = some (Value.str v tv) from (by first | rfl | with_unfolding_all rfl | kernel_rfl)) ?_) (by decide)
    refine PyProof.Rows.add_str (fun t' tk' => ?_) (line1 (by show 9 + v.length ≤ 1000; omega))
    refine spliced_nil ⟨Heap.get?_push_size _ rfl, ?_⟩
    have up3 : ∀ b o, h2.get? b = some o → (h2.push (kxs_mw "ValueError.__init__" x)).get? b = some o := fun b o e => Heap.get?_push_of_some _ e
    refine call_mw (up3 _ _ (X2 _ _ hC)) (up3 _ _ hx2) (Heap.get?_push_size _ rfl) (line1 (by show 1 ≤ 1000; decide)) fun h4 t4 k4 hx4 => ?_
    show PySem.wpAt _ _ _ (execs [_] _) _ _ _
    refine wpAt_of_wpAny (wpAny_execs_cons (plainObj_wpAny_Assign_Attribute ?_))
    have back : ∀ b o, b ≠ x → hp.get? b = some o → h4.get? b = some o := fun b o n e => k4 b o n (up3 _ _ (k2 _ _ (keep _ _ e)))
    have ns4 : h4.Ns hp.objs.size (fun y => List.lookup y [(("self" : Str), Value.ref x), ("reason", Value.str v tv)].reverse) := by
      obtain ⟨oL, es, ep, hL, r⟩ := nv3
      exact ⟨oL, es, ep, k4 _ _ (Nat.ne_of_gt (Heap.lt_size hx)) hL, r⟩
    have X4 : K.In h4 := fun b o e => back b o (fun z => by
      rw [z, hnx] at e
      cases e) (X _ _ e)
    refine wpAny_Name (wpAny_loadName_local rfl rfl ns4 (show _ = some (Value.str v tv) from (by first | rfl | with_unfolding_all rfl | kernel_rfl)) ?_) (by decide)
    refine wpAny_Name (wpAny_loadName_local rfl rfl ns4 (show _ = some (Value.ref x) from (by first | rfl | with_unfolding_all rfl | kernel_rfl)) ?_) (by decide)
    refine set_plain X4 (ox := excO C t4) (od := none) ⟨hx4, rfl, rfl, trivial⟩ T.sa ?_
    refine exc_osa X4 hx4 hcl (show refsVE (.ref C :: bm) = true from hbm) rfl T.noN (fun h5 t5 dx k5 dn dne hx5 hn5 => ?_)
    show wpAny _ _ (execs _ _) _ _ _
    refine wpAny_execs_nil (hq h5 t5 dx t4 tv ⟨fun b o n e => k5 b o n (back b o n e), hx5, ?_, dne, hn5⟩)
    have z1 : hp.objs.size < h4.objs.size := ns4.lt
    exact Nat.le_of_lt (Nat.lt_of_lt_of_le z1 dn)
/-- a made Refused -/
structure OwnMade (h h' : Heap) (e C d : Addr) (v : Value) : Prop where
  keep : ∀ b o, h.get? b = some o → h'.get? b = some o
  new : h.objs.size ≤ e
  obj : ∃ oe vs, h'.get? e = some oe ∧ oe.cls = .ref C ∧ oe.dict = some d ∧ oe.data = .fields vs ∧ vs[1]? = some .none
  dbig : h.objs.size ≤ d
  dne : d ≠ e
  ns : h'.Ns1 d (fun y => if y = "reason" then some v else none)
theorem ref_made (T : RefTxt P K mg C fI cc cda) {v : Str} {tv : Tok} {mb : Str → Option Value} (X : K.In s.heap) (hlim : s.heap.NoLimit) (G : s.heap.Ns mainGlobals mg) (B : s.heap.Ns builtinsNs mb) (hmb : mb "super" = bootBuiltins "super") (hroom : A.depth + 1 < recursionLimit) (hz : v.length ≤ 900)
    (hq : ∀ h' tk e d tv', OwnMade s.heap h' e C d (.str v tv') → R (.ok (.ret (.ref e))) { s with heap := h', toks := tk }) :
    codeAny (model P w) A (.call (.ref C) ⟨[.str v tv], []⟩) R s := by
  obtain ⟨nm, q, N, bs, bm, sn, sub, ab, col, dd, k0, k1, k2, k3, k5, hC, hbm, hal⟩ := T.cls
  obtain ⟨hp, g, dr, tk, os⟩ := s
  have up : ∀ b o, hp.get? b = some o → ((hp.push (kdv_tup [Value.str v tv])).push (excO C hp.objs.size)).get? b = some o := fun b o e => Heap.get?_push_of_some _ (Heap.get?_push_of_some _ e)
  have at1 : ((hp.push (kdv_tup [Value.str v tv])).push (excO C hp.objs.size)).get? (hp.objs.size + 1) = some (excO C hp.objs.size) := by heap_get
  have free1 : K.lookup (hp.objs.size + 1) = none := by
    cases e : K.lookup (hp.objs.size + 1) with
    | none => rfl
    | some o =>
      have z : hp.get? (hp.objs.size + 1) = some o := X _ _ e
      exact absurd (Nat.lt_of_succ_lt (Heap.lt_size z)) (Nat.lt_irrefl _)
  refine call_own F.excBase_ValueError (fun Y => refsVE_contains Y bm hbm) (X _ _ hC) (looks_findIn X T.iC) (fun self => bind_fn X self T.tI) (line1 (by show 1 ≤ 1000; decide)) ?_
  refine ref_init (s := ⟨(hp.push (kdv_tup [Value.str v tv])).push (excO C hp.objs.size), g, dr, tk, os⟩) T (X.keeps up) (hlim.keeps up) (G.keeps up) (B.keeps up) hmb at1 free1 ?_ hz fun h' tk' dx t1 tv' Z => ?_
  · show A.depth + 1 < recursionLimit
    exact hroom
  · obtain ⟨k', hx, dn, dne, hns⟩ := Z
    have old : ∀ b o, hp.get? b = some o → h'.get? b = some o := fun b o e => k' b o (Nat.ne_of_lt (Nat.lt_succ_of_lt (Heap.lt_size e))) (up b o e)
    have z : hp.objs.size + 1 + 1 ≤ dx := by
      first
        | exact dn
        | (have q := dn
           rw [Heap.size_push, Heap.size_push] at q
           exact q)
    exact ⟨rfl, hq h' tk' (hp.objs.size + 1) dx tv' ⟨old, Nat.le_succ _, ⟨_, _, hx, rfl, rfl, rfl, rfl⟩, Nat.le_of_succ_le (Nat.le_of_succ_le z), dne, hns⟩⟩
end
end OFR
namespace OFR
open PySem PySem.Spec PyProof.Rows L2
theorem relO_reason {v : V} {v' : Value} (r : RelV v v') (f : Str) : RelO (List.lookup f [(("reason" : Str), v)]) (if f = "reason" then some v' else none) := by
  rw [lookup_put]
  by_cases h : f = "reason"
  · rw [if_pos h, if_pos h]
    exact r
  · rw [if_neg h, if_neg h]
    exact True.intro
section
variable {X : Cx} {C fI cc cda : Addr}
/-- Refused('..') -/
def tMkRef (C : Addr) (v : Str) : L2.St → Hp → XK → Prop := fun _ H Q => ∀ d, H d = none → Q (.ref C) (some d) (upd H d (.xd [(("reason" : Str), .str v)]))
theorem pmk_ref {v : Str} {j : Nat} {p p2 pos : Pos} {k : Nat} (T : RefTxt X.prog X.K X.mg C fI cc cda) (hr : Room k X.A) (hz : v.length ≤ 900) (hg : Gl X "Refused" := by rfl) :
    PMk X (.Call (.Name "Refused" p) [.Constant (.str v) j p2] [] pos) (tMkRef C v) := by
  intro pins s σ H Q I h
  refine wpAny_Call_Name_kw (ld_glob I hg T.gC ?_)
  have ha : PA X [.Constant (.str v) j p2] (tCons (tC (.str v)) tNil) := pa_cons pe_str pa_nil
  refine PySem.W.callWith_K (h₀ := X.base) I.ok.mod.kin T.kC (thn (ha.run pos pins s σ H (fun vs H1 => vs = [V.str v] ∧ H = H1) I ⟨rfl, rfl⟩) fun us s1 hh => ?_) (by rfl) (by rfl)
  obtain ⟨vs, H1, I1, r1, ev, eH⟩ := hh
  subst ev
  rw [← eH] at I1
  refine ⟨I1.kIn, ?_⟩
  obtain ⟨u, eu, tv, ru⟩ := vals1 r1
  subst ru
  subst eu
  show wpAny _ _ (call (.ref C) [.str v tv]) _ _ _
  have hlim := I1.nolimit
  obtain ⟨mb, hb1, hb2⟩ := I1.mod.blt
  have G1 := I1.mod.glob.keeps I1.bk
  have B1 := hb1.keeps I1.bk
  have kin := I1.kIn
  obtain ⟨hp, g, dr, tk, os⟩ := s1
  have hd := hr.dp
  refine wpAny_call (ref_made T kin hlim G1 B1 (hb2 _ (by decide)) (by omega) hz fun h' tk' e d tv' M => ?_)
  show MkP X pins σ Q (.ref e) ⟨h', g, dr, tk', os⟩
  obtain ⟨oe, fv, hoe, hc, hdd, hdat, h1⟩ := M.obj
  have hns := M.ns
  obtain ⟨G', g1, g2⟩ := restrict h' fun b => decide (b ≠ e)
  have gk : ∀ b, b ≠ e → G'.get? b = h'.get? b := fun b hb => g1 b (decide_eq_true hb)
  have ge : G'.get? e = none := g2 e (by simp)
  have old : ∀ b o, hp.get? b = some o → G'.get? b = some o := fun b o q => (gk b (Nat.ne_of_lt (Nat.lt_of_lt_of_le (Heap.lt_size q) M.new))).trans (M.keep b o q)
  have ob : ObjOk X.prog X.w (upd H d (.xd [(("reason" : Str), .str v)])) G' d (.xd [(("reason" : Str), .str v)]) :=
    ⟨_, hns.at (fun o q => (gk d M.dne).trans q), fun f => relO_reason (v := .str v) ⟨tv', rfl⟩ f⟩
  have J : Inv X pins σ (upd H d (.xd [(("reason" : Str), .str v)])) ⟨G', g, dr, tk', os⟩ := I1.laid (t' := tk') old M.dbig ob
  refine ⟨e, oe, fv, ⟨G', g, dr, tk', os⟩, _, .ref C, some d, rfl, J, fun b o q => ?_, ge, hoe, ⟨hc, hdd⟩, hdat, h1, ?_, rfl, I1.bare, raises_own T.exC T.tyC, h d (I1.hok.fresh M.dbig)⟩
  · by_cases hb : b = e
    · have q' : G'.get? b = some o := q
      rw [hb, ge] at q'
      cases q'
    · exact (gk b hb).symm.trans q
  · rw [upd_ne (Ne.symm M.dne)]
    exact I1.hok.fresh M.new
/-- raise Refused('..') -/
def tRaiseRef (C : Addr) (v : Str) (W : WX) : TS := fun _ σ H => tMkRef C v σ H fun cls d H' => W cls d σ H'
theorem ps_raiseRef {v : Str} {j : Nat} {W : WX} {p p2 pos pos2 : Pos} {k : Nat} (hc : X.calm = true) (T : RefTxt X.prog X.K X.mg C fI cc cda) (hr : Room k X.A) (hz : v.length ≤ 900) (tk : Takes X W) (hg : Gl X "Refused" := by rfl) :
    PS X (.Raise (some (.Call (.Name "Refused" p) [.Constant (.str v) j p2] [] pos)) none pos2) (tRaiseRef C v W) := ps_raise hc tk (pmk_ref T hr hz hg)
end
theorem RefTxt.xf {P : Program} {K : PySem.W.Frag} {mg : Str → Option Value} {C fI cc cda : Addr} (T : RefTxt P K mg C fI cc cda) : XfC K C := ⟨T.ga, T.gg, T.exC, T.hdC⟩
end OFR

namespace OFW
open PySem PySem.Spec PyProof.Rows L2
/-! ### orders -/
theorem na_ : ¬ (("n" : Str) = "above") := by decide +kernel
def ofs (n : Nat) (t : Addr) : List (Str × V) := putF "above" (.ref t) (putF "n" (nv n) [])
theorem ofs_n (n : Nat) (t : Addr) : (ofs n t).lookup ("n" : Str) = some (nv n) := by
  unfold ofs
  rw [lookup_putF, if_neg na_, lookup_putF, if_pos rfl]
theorem ofs_above (n : Nat) (t : Addr) : (ofs n t).lookup ("above" : Str) = some (.ref t) := by
  unfold ofs
  rw [lookup_putF, if_pos rfl]
theorem ofs_no (n : Nat) (t : Addr) {m : Str} (h1 : ¬ m = "above") (h2 : ¬ m = "n") : (ofs n t).lookup m = none := by
  unfold ofs
  rw [lookup_putF, if_neg h1, lookup_putF, if_neg h2]
  rfl
/-- an order of n points stands at o -/
def OrdAt (C o : Addr) (n : Nat) (al : List Nat) (H : Hp) : Prop := ∃ dx t, H o = some (.ins C dx (ofs n t)) ∧ H t = some (.tup (nvs al))
theorem OrdAt.same {C o : Addr} {n : Nat} {al : List Nat} {H H' : Hp} (h : OrdAt C o n al H) (s : Same H H') : OrdAt C o n al H' := by
  obtain ⟨dx, t, h1, h2⟩ := h
  exact ⟨dx, t, s _ _ h1, s _ _ h2⟩
theorem OrdAt.but {C o : Addr} {n : Nat} {al : List Nat} {H H' : Hp} {a : Addr} {xs : List V} (h : OrdAt C o n al H) (ha : H a = some (.lst xs)) (s : But a H H') : OrdAt C o n al H' := by
  obtain ⟨dx, t, h1, h2⟩ := h
  exact ⟨dx, t, s _ _ (ne_of h1 ha (by intro z; cases z)) h1, s _ _ (ne_of h2 ha (by intro z; cases z)) h2⟩
/-- the sets below each point -/
def blw (n : Nat) (al : List Nat) : List Nat := (List.range n).map fun y => OF.setOf ((List.range n).filter fun x => OF.rel al x y)
theorem blw_get {n : Nat} {al : List Nat} {y : Nat} (h : y < n) : (blw n al)[y]? = some (OF.setOf ((List.range n).filter fun x => OF.rel al x y)) := by
  unfold blw
  rw [List.getElem?_map, List.getElem?_range h]
  rfl
theorem nvs_get {l : List Nat} {i x : Nat} (h : l[i]? = some x) : (nvs l)[i]? = some (nv x) := by
  rw [List.getElem?_map, h]
  rfl
theorem al_get {n : Nat} {al : List Nat} (h : al.length = n) {x : Nat} (hx : x < n) : al[x]? = some (al.getD x 0) := by
  have hx' : x < al.length := by omega
  rw [List.getElem?_eq_getElem hx']
  simp [hx']
/-- what the walk asks of the class -/
structure OTxt (K : PySem.W.Frag) (mg : Str → Option Value) (C : Addr) : Prop where
  cl : Cls K C
  nN : NoAttr K C "n"
  nA : NoAttr K C "above"
section
variable {P : Program} {w : World} {K : PySem.W.Frag} {mg : Str → Option Value} {base : Heap}
theorem tYes_if {σ : L2.St} {H : Hp} {F G : Hp → Prop} (h : F H) : tYes σ H (fun b H3 => if b = true then F H3 else G H3) := by
  show if true = true then F H else G H
  exact iteT h
/-! ### size, less -/
theorem scSize : FnScope ["self"] ["self"] (defScope sSize) := ⟨rfl, rfl, rfl, by decide +kernel, rfl, by decide +kernel, by decide +kernel⟩
def spSize (C : Addr) : Sp := fun vs H Q _ => ∃ (o : Addr) (n : Nat) (al : List Nat), vs = [.ref o] ∧ OrdAt C o n al H ∧ Q (nv n) H
theorem ok_size {f C : Addr} {fd : FuncData} (F : Fun K "size" "Order.size" sSize f fd) (T : OTxt K mg C) : FnOk P w K mg base CX0 1 f fd ["self"] (spSize C) := by
  refine F.ok scSize (fun vs H Q E h => ?_) (fun cdv A outer s H vs Q E hr h => ?_)
  · obtain ⟨o, n, al, rfl, _⟩ := h; rfl
  · obtain ⟨o, n, al, rfl, ⟨dx, t, h1, h2⟩, q⟩ := h
    exact ⟨_, pss_one (ps_ret (pe_fld (pv 0) rfl)), ⟨_, rfl, o, C, dx, _, _, rfl, h1, T.cl, T.nN, ofs_n _ _, q⟩⟩
theorem scLess : FnScope ["self", "x", "y"] ["self", "x", "y"] (defScope sLess) := ⟨rfl, rfl, rfl, by decide +kernel, rfl, by decide +kernel, by decide +kernel⟩
def spLess (C : Addr) : Sp := fun vs H Q _ => ∃ (o : Addr) (n : Nat) (al : List Nat) (x y : Nat), vs = [.ref o, nv x, nv y] ∧ OrdAt C o n al H ∧ al.length = n ∧ x < n ∧ Q (.bl (OF.rel al x y)) H
theorem ok_less {f fh C : Addr} {fd fdh : FuncData} (F : Fun K "less" "Order.less" sLess f fd) (T : OTxt K mg C) (FH : Fun K "has" "has" sHas fh fdh) (bH : Binds K fdh ["bits", "x"] []) (gH : mg "has" = some (.ref fh)) :
    FnOk P w K mg base CX0 2 f fd ["self", "x", "y"] (spLess C) := by
  have GH : FnOk P w K mg base CX0 1 fh fdh ["bits", "x"] spHas := ok_has FH
  refine F.ok scLess (fun vs H Q E h => ?_) (fun cdv A outer s H vs Q E hr h => ?_)
  · obtain ⟨o, n, al, x, y, rfl, _⟩ := h; rfl
  · obtain ⟨o, n, al, x, y, rfl, ⟨dx, t, h1, h2⟩, hl, hx, q⟩ := h
    refine ⟨_, pss_one (ps_ret (pe_call GH hr (by rfl) gH FH.kp bH .nil pass0 (pa_cons (pe_ix ix_tup (pe_fld (pv 0) rfl) (pv 1) (fun _ _ => rfl)) (pa_cons (pv 2) pa_nil)))), ?_⟩
    exact ⟨_, rfl, o, C, dx, _, _, rfl, h1, T.cl, T.nA, ofs_above _ _, _, rfl, t, _, _, _, rfl, rfl, SqT.of h2, atI_nat (nvs_get (al_get hl hx)), _, rfl, _, y, rfl, q⟩
/-! ### below -/
theorem scBelow : FnScope ["self", "y", "x"] ["self"] (defScope sBelow) := ⟨rfl, rfl, rfl, by decide +kernel, rfl, by decide +kernel, by decide +kernel⟩
/-- the outer comprehension's block in below -/
def belowB : Scope := { kind := .function, names := [(".0", .local), ("y", .cell), ("set_of", .globalImplicit), ("range", .globalImplicit), ("self", .cell)], isGenerator := false, isCoroutine := false }
def spBelow (C : Addr) : Sp := fun vs H Q _ => ∃ (o : Addr) (n : Nat) (al : List Nat), vs = [.ref o] ∧ OrdAt C o n al H ∧ al.length = n ∧ n ≤ 10 ∧ RetT (nvs (blw n al)) H Q
theorem ok_below {f fh fs C : Addr} {fd fdh fds : FuncData} (F : Fun K "below" "Order.below" sBelow f fd) (T : OTxt K mg C) (m1 : mg "tuple" = none) (m2 : mg "range" = none) (FH : Fun K "has" "has" sHas fh fdh) (bH : Binds K fdh ["bits", "x"] []) (gH : mg "has" = some (.ref fh))
    (FS : Fun K "set_of" "set_of" sSetOf fs fds) (bS : Binds K fds ["points"] []) (gS : mg "set_of" = some (.ref fs)) : FnOk P w K mg base CX0 2 f fd ["self"] (spBelow C) := by
  have GH : FnOk P w K mg base CX0 1 fh fdh ["bits", "x"] spHas := ok_has FH
  have GS : FnOk P w K mg base CX0 1 fs fds ["points"] (spSetOf K) := ok_setOf FS
  refine F.ok scBelow (fun vs H Q E h => ?_) (fun cdv A outer s H vs Q E hr h => ?_)
  · obtain ⟨o, n, al, rfl, _⟩ := h; rfl
  · obtain ⟨o, n, al, rfl, hO, hl, hn, q⟩ := h
    refine ⟨_, pss_one (ps_ret (pe_tupleOf (by rfl) m1 (pe_lc (own := [("y", 1)]) (by rfl) scBelow.nd (pi_range1 (by rfl) m2 (pa_cons (pe_fld (pv 0) rfl) pa_nil)) (blkOk_by (own := [("y", 1)]) (N := ["self", "y", "x"]) (sc := defScope sBelow) (by decide +kernel))
      (fun _ _ _ _ _ => pg_name (i := 1) scBelow.nd rfl (Or.inr rfl)) (fun _ _ _ _ _ => pts_nil)
      (fun _ _ _ _ _ => pe_call GS hr (by rfl) gS FS.kp bS .nil pass0 (pa_cons (pe_lc (own := [("x", 2)]) (by rfl) scBelow.nd (pi_range1 (by rfl) m2 (pa_cons (show PE _ _ (tFld K (tVar 0) "n") from pe_fld (pv 0) rfl) pa_nil)) (show BlkOk ["self", "y", "x"] belowB _ [("x", 2)] from blkOk_by (by decide +kernel))
        (fun _ _ _ _ _ => pg_name (i := 2) scBelow.nd rfl (Or.inl rfl))
        (fun _ _ _ _ _ => pts_one (pt_val (pe_call GH hr (by rfl) gH FH.kp bH .nil pass0 (pa_cons (show PE _ _ (tOp (rIxT K) (tFld K (tVar 0) "above") (tVar 2)) from pe_ix ix_tup (pe_fld (pv 0) rfl) (pv 2) (fun _ _ => rfl)) (pa_cons (pv 1) pa_nil)))))
        (fun _ _ _ _ _ => pv 2)) pa_nil))))), ?_⟩
    obtain ⟨dx, t, h1, h2⟩ := id hO
    refine ⟨_, rfl, o, C, dx, _, _, rfl, h1, T.cl, T.nN, ofs_n _ _, _, rfl, by omega, by omega, fun D nD => ?_⟩
    refine lc_range (lo := 0) (n := n) (fun i H' => Same H H' ∧ H' D = some (.lst (nvs ((List.range i).map fun y => OF.setOf ((List.range n).filter fun x => OF.rel al x y))))) ⟨same_upd nD, upd_same⟩ (fun i H1 hi hP => ?_) (fun H1 hP => ?_)
    · obtain ⟨s1, e1⟩ := hP
      rw [Int.zero_add]
      refine ⟨rfl, tYes_if ?_⟩
      refine ⟨_, rfl, o, C, dx, _, _, rfl, s1 _ _ h1, T.cl, T.nN, ofs_n _ _, _, rfl, by omega, by omega, fun D2 nD2 => ?_⟩
      refine lc_range (lo := 0) (n := n) (fun j H' => Same H1 H' ∧ H' D2 = some (.lst (nvs ((List.range j).filter fun x => OF.rel al x i)))) ⟨same_upd nD2, upd_same⟩ (fun j H2 hj hP => ?_) (fun H2 hP => ?_)
      · obtain ⟨s2, e2⟩ := hP
        rw [Int.zero_add]
        refine ⟨rfl, _, rfl, o, C, dx, _, _, rfl, s2 _ _ (s1 _ _ h1), T.cl, T.nA, ofs_above _ _, _, rfl, t, _, _, _, rfl, rfl, SqT.of (s2 _ _ (s1 _ _ h2)), atI_nat (nvs_get (al_get hl hj)), _, rfl, _, i, rfl, _, rfl, ?_⟩
        have tk := take_filter (fun x => OF.rel al x i) nv j
        show if OF.rel al j i = true then _ else _
        cases hb : OF.rel al j i with
        | true =>
          refine iteT ⟨_, rfl, _, e2, ?_, s2.mut nD2 but_upd, ?_⟩
          · rw [List.length_map]
            exact Nat.lt_of_le_of_lt (Nat.le_trans (List.length_filter_le _ _) (by rw [List.length_range]; omega)) (small1000 (Nat.le_refl _))
          · rw [upd_same]
            show _ = some (HO.lst (((List.range (j + 1)).filter _).map nv))
            rw [tk, hb]
            rfl
        | false =>
          refine iteF ⟨s2, ?_⟩
          rw [e2]
          show _ = some (HO.lst (((List.range (j + 1)).filter _).map nv))
          rw [tk, hb]
          simp [nvs]
      · obtain ⟨s2, e2⟩ := hP
        refine ⟨D2, _, rfl, fun x hx => ?_, .inl (SqL.of e2), _, s2 _ _ e1, ?_, ?_⟩
        · have := List.mem_range.mp (List.mem_filter.mp hx).1
          omega
        · rw [List.length_map, List.length_map, List.length_range]
          exact small1000 (by omega)
        · refine ⟨(s1.trans s2).mut nD but_upd, ?_⟩
          rw [upd_same, List.range_succ, List.map_append]
          simp [nvs]
    · obtain ⟨s1, e1⟩ := hP
      exact .inl ⟨D, _, rfl, SqL.of e1, fresh fun p H2 s2 np ep => q H2 p (s1.trans s2) (s1.free np) ep⟩
end
end OFW

namespace OFW
open PySem PySem.Spec PyProof.Rows L2
/-! ### lists of tuples -/
abbrev TupsAt (H : Hp) (as : List Addr) (rs : List (List V)) : Prop := Paired (fun a xs => H a = some (.tup xs)) as rs
theorem TupsAt.same {H H' : Hp} {as : List Addr} {rs : List (List V)} (h : TupsAt H as rs) (s : Same H H') : TupsAt H' as rs := Paired.mapP h fun _ _ e => s _ _ e
theorem TupsAt.but {H H' : Hp} {as : List Addr} {rs : List (List V)} {D : Addr} {xs : List V} (h : TupsAt H as rs) (hD : H D = some (.lst xs)) (s : But D H H') : TupsAt H' as rs :=
  Paired.mapP h fun _ _ e => s _ _ (ne_of e hD (by intro z; cases z)) e
theorem TupsAt.len {H : Hp} {as : List Addr} {rs : List (List V)} (h : TupsAt H as rs) : as.length = rs.length := Paired.length h
theorem TupsAt.snoc {H : Hp} {p : Addr} {xs : List V} (hp : H p = some (.tup xs)) : ∀ {as : List Addr} {rs : List (List V)}, TupsAt H as rs → TupsAt H (as ++ [p]) (rs ++ [xs])
  | _, _, .nil => .cons hp .nil
  | _, _, .cons r t => .cons r (TupsAt.snoc hp t)
theorem TupsAt.get {H : Hp} : ∀ {as : List Addr} {rs : List (List V)} {i : Nat} {xs : List V}, TupsAt H as rs → rs[i]? = some xs → ∃ a, as[i]? = some a ∧ H a = some (.tup xs)
  | _, _, _, _, .nil, e => by simp at e
  | _, _, 0, xs, .cons r _, e => by
    have : _ = xs := Option.some.inj e
    subst this
    exact ⟨_, rfl, r⟩
  | _, _, i + 1, xs, .cons _ t, e => by
    obtain ⟨a, h1, h2⟩ := TupsAt.get (i := i) (xs := xs) t (by simpa using e)
    exact ⟨a, by simpa using h1, h2⟩
theorem TupsAt.getA {H : Hp} {as : List Addr} {rs : List (List V)} (h : TupsAt H as rs) {i : Nat} {a : Addr} (e : as[i]? = some a) : ∃ xs, rs[i]? = some xs ∧ H a = some (.tup xs) := by
  have hi := (List.getElem?_eq_some_iff.mp e).1
  have hj : i < rs.length := by rw [← h.len]; exact hi
  obtain ⟨b, h1, h2⟩ := h.get (List.getElem?_eq_getElem hj)
  rw [e] at h1
  cases h1
  exact ⟨_, List.getElem?_eq_getElem hj, h2⟩
def refs (as : List Addr) : List V := as.map V.ref
theorem refs_get {as : List Addr} {i : Nat} {v : V} (h : (refs as)[i]? = some v) : ∃ a, as[i]? = some a ∧ v = .ref a := by
  unfold refs at h
  rw [List.getElem?_map] at h
  obtain ⟨a, h1, h2⟩ := Option.map_eq_some_iff.mp h
  exact ⟨a, h1, h2.symm⟩
theorem refs_len (as : List Addr) : (refs as).length = as.length := List.length_map ..
theorem refs_snoc (as : List Addr) (a : Addr) : refs (as ++ [a]) = refs as ++ [.ref a] := by
  unfold refs
  rw [List.map_append]
  rfl
/-- a list of tuples stands at D, made beyond H0 -/
structure Acc (H0 H : Hp) (D : Addr) (as : List Addr) (rs : List (List V)) : Prop where
  same : Same H0 H
  free : H0 D = none
  at_ : H D = some (.lst (refs as))
  tups : TupsAt H as rs
/-- (x, ..) is made and appended -/
theorem Acc.push {H0 H H1 H2 : Hp} {D p : Addr} {as : List Addr} {rs : List (List V)} {xs : List V} (h : Acc H0 H D as rs) (s1 : Same H H1) (np : H p = none) (ep : H1 p = some (.tup xs)) (b : But D H1 H2) (eD : H2 D = some (.lst (refs as ++ [.ref p]))) :
    Acc H0 H2 D (as ++ [p]) (rs ++ [xs]) := by
  have e1 := s1 _ _ h.at_
  have t1 := TupsAt.snoc ep (h.tups.same s1)
  exact ⟨(h.same.trans s1).mut h.free b, h.free, by rw [refs_snoc]; exact eD, t1.but e1 b⟩
/-! ### pairs -/
def prs (n : Nat) (al : List Nat) (i : Nat) : List (Nat × Nat) := (List.range i).flatMap fun x => (OF.mem n (al.getD x 0)).map fun y => (x, y)
def prV (p : Nat × Nat) : List V := [nv p.1, nv p.2]
theorem prs_succ (n : Nat) (al : List Nat) (i : Nat) : prs n al (i + 1) = prs n al i ++ (OF.mem n (al.getD i 0)).map fun y => (i, y) := by
  unfold prs
  rw [List.range_succ, List.flatMap_append]
  simp
theorem mem_len (n m : Nat) : (OF.mem n m).length ≤ n := Nat.le_trans (List.length_filter_le _ _) (by rw [List.length_range]; exact Nat.le_refl _)
theorem prs_len (n : Nat) (al : List Nat) : ∀ i, (prs n al i).length ≤ n * i
  | 0 => Nat.zero_le _
  | i + 1 => by
    rw [prs_succ, List.length_append, List.length_map, Nat.mul_succ]
    exact Nat.add_le_add (prs_len n al i) (mem_len n _)
section
variable {P : Program} {w : World} {K : PySem.W.Frag} {mg : Str → Option Value} {base : Heap}
theorem scPairs : FnScope ["self", "out", "x", "y"] ["self"] (defScope sPairs) := ⟨rfl, rfl, rfl, by decide +kernel, rfl, by decide +kernel, by decide +kernel⟩
/-- a new tuple of new tuples -/
def RetTs (rs : List (List V)) (H : Hp) (Q : VK) : Prop := ∀ H' p as, Same H H' → H p = none → H' p = some (.tup (refs as)) → TupsAt H' as rs → Q (.ref p) H'
def spPairs (C : Addr) : Sp := fun vs H Q _ => ∃ (o : Addr) (n : Nat) (al : List Nat), vs = [.ref o] ∧ OrdAt C o n al H ∧ OF.OrdOk n al ∧ n ≤ 10 ∧ RetTs ((prs n al n).map prV) H Q
theorem take_map_snoc {α β : Type} {l : List α} {f : α → β} {j : Nat} {y : α} (h : l[j]? = some y) : (l.take (j + 1)).map f = (l.take j).map f ++ [f y] := by
  rw [List.take_add_one, h, List.map_append]
  rfl
theorem ok_pairs {f fm C : Addr} {fd fdm : FuncData} (F : Fun K "pairs" "Order.pairs" sPairs f fd) (T : OTxt K mg C) (m1 : mg "tuple" = none) (m2 : mg "range" = none)
    (FM : Fun K "members" "members" sMembers fm fdm) (bM : Binds K fdm ["bits"] []) (gM : mg "members" = some (.ref fm)) : FnOk P w K mg base CX0 2 f fd ["self"] (spPairs C) := by
  have GM : FnOk P w K mg base CX0 1 fm fdm ["bits"] spMembers' := ok_members FM m1 m2
  refine F.ok scPairs (fun vs H Q E h => ?_) (fun cdv A outer s H vs Q E hr h => ?_)
  · obtain ⟨o, n, al, rfl, _⟩ := h; rfl
  · obtain ⟨o, n, al, rfl, hO, hok, hn, q⟩ := h
    refine ⟨_, pss_cons (ps_set (i := 1) scPairs.nd rfl (.inl rfl) (pe_lst pa_nil))
      (pss_cons (ps_for PassesOwn.never rfl (pi_range1 (by rfl) m2 (pa_cons (pe_fld (pv 0) rfl) pa_nil)) (pg_name (i := 2) scPairs.nd rfl (.inl rfl))
        (pss_one (ps_for PassesOwn.never rfl (pi_tup (pe_call GM hr (by rfl) gM FM.kp bM .nil pass0 (pa_cons (pe_ix ix_tup (pe_fld (pv 0) rfl) (pv 2) (fun _ _ => rfl)) pa_nil))) (pg_name (i := 3) scPairs.nd rfl (.inl rfl))
          (pss_one (ps_expr (pe_bm PySem.F.plainAttrs_list PySem.F.slot_list_append PySem.F.type_list_append mt_append (pv 1) (pa_cons (pe_tup (pa_cons (pv 2) (pa_cons (pv 3) pa_nil))) pa_nil)))))))
      (pss_one (ps_ret (pe_tupleOf (by rfl) m1 (pv 1))))), ?_⟩
    refine ⟨Nat.zero_le _, fresh fun D H1 s1 nD eD => ?_⟩
    obtain ⟨dx, t, h1, h2⟩ := hO.same s1
    refine ⟨_, rfl, o, C, dx, _, _, rfl, h1, T.cl, T.nN, ofs_n _ _, _, rfl, by omega, by omega, ?_⟩
    refine for_range (lo := 0) (n := n) (fun i σ H' => ∃ v2 v3 as, σ = [some (.ref o), some (.ref D), v2, v3] ∧ Acc H H' D as ((prs n al i).map prV)) ⟨none, none, [], rfl, ⟨s1, nD, eD, .nil⟩⟩ (fun i σ H2 hi hP => ?_) (fun σ H2 hP => ?_)
    · obtain ⟨v2, v3, as, rfl, hA⟩ := hP
      rw [Int.zero_add]
      obtain ⟨dx2, t2, g1, g2⟩ := hO.same hA.same
      have hal := al_get hok.len hi
      have hlt : al.getD i 0 < 2 ^ n := hok.lt _ (List.mem_of_getElem? hal)
      refine ⟨_, rfl, o, C, dx2, _, _, rfl, g1, T.cl, T.nA, ofs_above _ _, _, rfl, t2, _, _, _, rfl, rfl, SqT.of g2, atI_nat (nvs_get hal), _, n, rfl, hlt, by omega, fun H3 tp s3 ntp etp => ?_⟩
      refine ⟨tp, rfl, ⟨_, SqT.of etp⟩, for_tup (K := K) (a := tp) (xs := nvs (OF.mem n (al.getD i 0))) (fun j σ H' => ∃ v3 as, σ = [some (.ref o), some (.ref D), some (nv i), v3] ∧ H' tp = some (.tup (nvs (OF.mem n (al.getD i 0)))) ∧ Acc H H' D as ((prs n al i).map prV ++ ((OF.mem n (al.getD i 0)).take j).map fun y => prV (i, y)))
        ⟨v3, as, rfl, etp, ?_⟩ (fun j σ H' _ ⟨_, _, _, e, _⟩ => SqT.of e) ?_ ?_⟩
      · rw [List.take_zero, List.map_nil, List.append_nil]
        exact ⟨hA.same.trans s3, hA.free, s3 _ _ hA.at_, hA.tups.same s3⟩
      · rintro j x σ H4 hx ⟨v3', as', rfl, et, hB⟩
        rw [List.getElem?_map] at hx
        obtain ⟨y, hy, rfl⟩ := Option.map_eq_some_iff.mp hx
        have hl1 := hB.tups.len
        rw [List.length_append, List.length_map, List.length_map, List.length_take] at hl1
        have hl2 := prs_len n al i
        have hl3 := mem_len n (al.getD i 0)
        have hl4 : n * i ≤ 10 * 10 := Nat.mul_le_mul hn (by omega)
        refine ⟨_, rfl, .inl ⟨rfl, _, SqL.of hB.at_⟩, _, rfl, _, rfl, by show 2 ≤ sizeLine; decide, fresh fun p H5 s5 np ep => ?_⟩
        refine ⟨D, _, _, rfl, rfl, s5 _ _ hB.at_, by rw [refs_len]; exact small1000 (by omega), change fun H6 b6 e6 => ?_⟩
        have hAcc := hB.push s5 np ep b6 e6
        refine ⟨_, as' ++ [p], rfl, b6 _ _ (ne_of (s5 _ _ et) (s5 _ _ hB.at_) (by intro z; cases z)) (s5 _ _ et), ?_⟩
        rw [take_map_snoc hy, ← List.append_assoc]
        exact hAcc
      · rintro σ H4 ⟨v3', as', rfl, et, hB⟩
        refine ⟨_, _, as', rfl, ?_⟩
        rw [List.length_map, List.take_length] at hB
        rw [prs_succ, List.map_append, List.map_map]
        exact hB
    · obtain ⟨v2, v3, as, rfl, hA⟩ := hP
      refine ⟨_, rfl, .inl ⟨D, _, rfl, SqL.of hA.at_, fresh fun p H3 s3 np ep => ?_⟩⟩
      exact q H3 p as (hA.same.trans s3) (hA.same.free np) ep (hA.tups.same s3)
end
end OFW

namespace OFW
open PySem PySem.Spec PyProof.Rows L2
/-! ### one set without another -/
def andn (a b : Nat) : Nat := a ^^^ (a &&& b)
theorem andn_bit (a b i : Nat) : (andn a b).testBit i = (a.testBit i && !b.testBit i) := by
  unfold andn
  rw [Nat.testBit_xor, Nat.testBit_and]
  cases a.testBit i <;> cases b.testBit i <;> rfl
theorem andn_sub (a b : Nat) : andn a b = a - (a &&& b) := by
  have h := PyProof.Rows.nat_or_add_and (andn a b) (a &&& b)
  have h1 : andn a b ||| (a &&& b) = a := by
    apply Nat.eq_of_testBit_eq
    intro i
    rw [Nat.testBit_or, andn_bit, Nat.testBit_and]
    cases a.testBit i <;> cases b.testBit i <;> rfl
  have h2 : andn a b &&& (a &&& b) = 0 := by
    apply Nat.eq_of_testBit_eq
    intro i
    rw [Nat.testBit_and, andn_bit, Nat.testBit_and, Nat.zero_testBit]
    cases a.testBit i <;> cases b.testBit i <;> rfl
  rw [h1, h2] at h
  omega
theorem bit_andn (a b : Nat) : Builtin.bitAnd (a : Int) (Builtin.bitNot (b : Int)) = ((andn a b : Nat) : Int) := by
  rw [bitAnd_not, bitAnd_pp (Int.natCast_nonneg _) (Int.natCast_nonneg _), Int.toNat_natCast, Int.toNat_natCast, andn_sub]
  have h : a &&& b ≤ a := Nat.and_le_left
  omega
theorem dec_nat (a b : Nat) : decide (V.int (a : Int) = V.int (b : Int)) = decide (a = b) := by
  by_cases h : a = b
  · subst h
    rw [decide_eq_true rfl, decide_eq_true rfl]
  · rw [decide_eq_false h, decide_eq_false (fun e => h (by have e2 := V.int.inj e; omega))]
theorem if_dec {c c' : Bool} {A B : Prop} (e : c = c') (h : if c' = true then A else B) : if c = true then A else B := by
  rw [e]
  exact h
/-! ### following points -/
def wh (n : Nat) : Nat := OF.setOf (List.range n)
theorem wh_bit (n x : Nat) : (wh n).testBit x = decide (x < n) := by
  unfold wh
  rw [OF.testBit_setOf]
  simp only [List.mem_range]
theorem lt_of_bits {n m : Nat} (h : ∀ i, m.testBit i = true → i < n) : m < 2 ^ n := by
  apply Nat.lt_pow_two_of_testBit
  intro i hi
  cases e : m.testBit i with
  | false => rfl
  | true =>
    have := h i e
    omega
theorem bit_lt {n m i : Nat} (h : m < 2 ^ n) (e : m.testBit i = true) : i < n := by
  apply Decidable.byContradiction
  intro hi
  rw [Nat.testBit_lt_two_pow (Nat.lt_of_lt_of_le h (Nat.pow_le_pow_right (by decide) (by omega)))] at e
  cases e
def bset (n : Nat) (al : List Nat) (y : Nat) : Nat := OF.setOf ((List.range n).filter fun x => OF.rel al x y)
def lowOk (al : List Nat) (n F x : Nat) : Bool := (List.range n).all fun z => !OF.rel al z x || F.testBit z
theorem low_dec (al : List Nat) (n F x : Nat) : decide (andn (bset n al x) F = 0) = lowOk al n F x := by
  rw [Bool.eq_iff_iff, decide_eq_true_eq]
  unfold lowOk
  simp only [List.all_eq_true, List.mem_range, Bool.or_eq_true, Bool.not_eq_true']
  have hb : ∀ z, (bset n al x).testBit z = decide (z < n ∧ OF.rel al z x = true) := fun z => by
    unfold bset
    rw [OF.testBit_setOf]
    simp only [List.mem_filter, List.mem_range]
  constructor
  · intro h z hz
    have e : (andn (bset n al x) F).testBit z = false := by rw [h, Nat.zero_testBit]
    rw [andn_bit, hb] at e
    cases hr : OF.rel al z x with
    | false => exact .inl rfl
    | true =>
      rw [hr] at e
      simp only [hz, true_and, decide_true, Bool.true_and, Bool.not_eq_false'] at e
      exact .inr e
  · intro h
    apply Nat.eq_of_testBit_eq
    intro z
    rw [andn_bit, hb, Nat.zero_testBit]
    by_cases hz : z < n
    · rcases h z hz with h | h
      · simp [h]
      · simp [h]
    · simp [hz]
theorem fol_mem (al : List Nat) (n F : Nat) : (OF.mem n (andn (wh n) F)).filter (fun x => lowOk al n F x) = OF.fol (OF.rel al) n F := by
  unfold OF.mem OF.fol
  rw [List.filter_filter]
  apply List.filter_congr
  intro x hx
  rw [andn_bit, wh_bit, decide_eq_true (List.mem_range.mp hx), Bool.true_and, Bool.and_comm]
  rfl
theorem take_filter2 {l : List Nat} {p : Nat → Bool} {i x : Nat} (h : l[i]? = some x) : ((l.take (i + 1)).filter p).map nv = ((l.take i).filter p).map nv ++ (if p x = true then [nv x] else []) := by
  rw [List.take_add_one, h, List.filter_append, List.map_append]
  congr 1
  cases e : p x <;> simp [e]
section
variable {P : Program} {w : World} {K : PySem.W.Frag} {mg : Str → Option Value} {base : Heap}
theorem scFol : FnScope ["below", "whole", "front", "x"] ["below", "whole", "front"] (defScope sFol) := ⟨rfl, rfl, rfl, by decide +kernel, rfl, by decide +kernel, by decide +kernel⟩
def spFol (K : PySem.W.Frag) : Sp := fun vs H Q _ => ∃ (b : Addr) (n : Nat) (al : List Nat) (F : Nat), vs = [.ref b, nv (wh n), nv F] ∧ n ≤ 10 ∧ SqT K H b (nvs (blw n al)) ∧ RetL (nvs (OF.fol (OF.rel al) n F)) H Q
theorem ok_fol {f fm : Addr} {fd fdm : FuncData} (F : Fun K "following_points" "following_points" sFol f fd) (m1 : mg "tuple" = none) (m2 : mg "range" = none)
    (FM : Fun K "members" "members" sMembers fm fdm) (bM : Binds K fdm ["bits"] []) (gM : mg "members" = some (.ref fm)) : FnOk P w K mg base CX0 2 f fd ["below", "whole", "front"] (spFol K) := by
  have GM : FnOk P w K mg base CX0 1 fm fdm ["bits"] spMembers' := ok_members FM m1 m2
  refine F.ok scFol (fun vs H Q E h => ?_) (fun cdv A outer s H vs Q E hr h => ?_)
  · obtain ⟨b, n, al, F, rfl, _⟩ := h; rfl
  · obtain ⟨b, n, al, F, rfl, hn, hB, q⟩ := h
    refine ⟨_, pss_one (ps_ret (pe_lc (own := [("x", 3)]) (by rfl) scFol.nd (pi_tup (pe_call GM hr (by rfl) gM FM.kp bM .nil pass0 (pa_cons (pe_op op_and (pv 1) (pe_un un_inv (pv 2))) pa_nil)))
      (blkOk_by (own := [("x", 3)]) (N := ["below", "whole", "front", "x"]) (sc := defScope sFol) (by decide +kernel))
      (fun _ _ _ _ _ => pg_name (i := 3) scFol.nd rfl (Or.inl rfl))
      (fun _ _ _ _ _ => pts_one (pt_cmpR op_eq (pe_op op_and (show PE _ _ (tOp (rIxT K) (tVar 0) (tVar 3)) from pe_ix ix_tup (pv 0) (pv 3) (fun _ _ => rfl)) (pe_un un_inv (pv 2))) pe_int (nomark _))) (fun _ _ _ _ _ => pv 3))), ?_⟩
    refine ⟨_, rfl, _, rfl, _, rfl, _, _, rfl, rfl, ?_⟩
    refine ⟨andn (wh n) F, n, congrArg (fun z => [V.int z]) (bit_andn _ _), lt_of_bits fun i e => ?_, by omega, fun H1 tp s1 ntp etp => ?_⟩
    · rw [andn_bit, wh_bit] at e
      exact of_decide_eq_true (Bool.and_eq_true_iff.mp e).1
    · refine ⟨tp, rfl, ⟨_, SqT.of etp⟩, fun D nD => ?_⟩
      refine lc_tup (K := K) (a := tp) (xs := nvs (OF.mem n (andn (wh n) F))) (fun i H' => Same H1 H' ∧ H' D = some (.lst (((OF.mem n (andn (wh n) F)).take i).filter (fun x => lowOk al n F x) |>.map nv))) ⟨same_upd nD, upd_same⟩ (fun i H' _ hP => SqT.of (hP.1 _ _ etp)) (fun i x H2 hx hP => ?_) (fun H2 hP => ?_)
      · obtain ⟨s2, e2⟩ := hP
        rw [List.getElem?_map] at hx
        obtain ⟨y, hy, rfl⟩ := Option.map_eq_some_iff.mp hx
        have hyn : y < n := List.mem_range.mp (List.mem_filter.mp (List.mem_of_getElem? hy)).1
        refine ⟨rfl, _, rfl, _, rfl, b, _, _, _, rfl, rfl, s2.tup (s1.tup hB), atI_nat (nvs_get (blw_get hyn)), _, rfl, _, rfl, _, _, rfl, rfl, rfl, _, rfl, ?_⟩
        refine if_dec (c' := lowOk al n F y) ?_ ?_
        · show decide (V.int (Builtin.bitAnd ((bset n al y : Nat) : Int) (Builtin.bitNot (F : Int))) = V.int ((0 : Nat) : Int)) = _
          rw [bit_andn, dec_nat, low_dec]
        have tk := take_filter2 (p := fun x => lowOk al n F x) hy
        cases hb : lowOk al n F y with
        | true =>
          refine iteT ⟨_, rfl, _, e2, ?_, s2.mut nD but_upd, ?_⟩
          · rw [List.length_map]
            refine Nat.lt_of_le_of_lt (Nat.le_trans (List.length_filter_le _ _) (Nat.le_trans (List.length_take_le' _ _) (Nat.le_trans (mem_len n _) hn))) (small1000 (by decide))
          · rw [upd_same, tk, hb]
            rfl
        | false =>
          refine iteF ⟨s2, ?_⟩
          rw [e2, tk, hb]
          simp
      · obtain ⟨s2, e2⟩ := hP
        rw [List.length_map, List.take_length, fol_mem] at e2
        exact q H2 D (s1.trans s2) (s1.free nD) e2
end
end OFW

namespace OFW
open PySem PySem.Spec PyProof.Rows L2
/-! ### pieces -/
theorem Paired.at_ {α β : Type} {F : α → β → Prop} : ∀ {l : List α} {m : List β} {i : Nat} {a : α}, Paired F l m → l[i]? = some a → ∃ b, m[i]? = some b ∧ F a b
  | _, _, _, _, .nil, e => by simp at e
  | _, _, 0, a, .cons r _, e => by
    have h : _ = a := Option.some.inj e
    subst h
    exact ⟨_, rfl, r⟩
  | _, _, i + 1, a, .cons _ t, e => by
    obtain ⟨b, h1, h2⟩ := Paired.at_ (i := i) (a := a) t (by simpa using e)
    exact ⟨b, by simpa using h1, h2⟩
theorem Paired.snoc {α β : Type} {F : α → β → Prop} {a : α} {b : β} (h : F a b) : ∀ {l : List α} {m : List β}, Paired F l m → Paired F (l ++ [a]) (m ++ [b])
  | _, _, .nil => .cons h .nil
  | _, _, .cons r t => .cons r (Paired.snoc h t)
theorem atI_neg1 {α : Type} {xs : List α} {v : α} (h : xs[xs.length - 1]? = some v) : atI xs (-1) = some v := by
  have hl : 0 < xs.length := by
    cases xs with
    | nil => simp at h
    | cons _ _ => simp
  have e : ixN xs.length (-1) = some (xs.length - 1) := by
    unfold ixN
    rw [if_neg (by decide), if_pos (by omega)]
    congr 1
    omega
  unfold atI
  rw [e]
  exact h
theorem cut_last (xs : List V) : cutV xs none (some (-1)) = xs.dropLast := by
  have e : HT.sIx xs.length xs.length (some (-1)) = xs.length - 1 := by
    show (if (-1 : Int) < 0 then ((-1 : Int) + (xs.length : Int)).toNat else min (-1 : Int).toNat xs.length) = _
    rw [if_pos (by decide)]
    omega
  unfold cutV
  rw [e, HT.sIx_none, List.drop_zero, List.dropLast_eq_take]
  rfl
theorem inV_nat (a : Nat) (l : List Nat) : inV (nv a) (nvs l) = decide (a ∈ l) := by
  unfold inV
  induction l with
  | nil => simp
  | cons b l ih =>
    show ((V.int (b : Int) |> fun y => eqV y (nv a)) || (nvs l).any fun y => eqV y (nv a)) = _
    rw [ih]
    have e : eqV (V.int (b : Int)) (nv a) = decide (a = b) := by
      show ((b : Int) == (a : Int)) = _
      rw [Bool.eq_iff_iff, beq_iff_eq, decide_eq_true_eq]
      omega
    show (eqV (V.int (b : Int)) (nv a) || decide (a ∈ l)) = _
    rw [e]
    simp
theorem flat_nvs (l : List Nat) : (nvs l).all flatV = true := by
  rw [List.all_eq_true]
  intro x hx
  obtain ⟨n, _, rfl⟩ := List.mem_map.mp hx
  rfl
abbrev ListsAt (H : Hp) (as : List Addr) (ls : List (List Nat)) : Prop := Paired (fun a l => H a = some (.lst (nvs l))) as ls
theorem ListsAt.same {H H' : Hp} {as : List Addr} {ls : List (List Nat)} (h : ListsAt H as ls) (s : Same H H') : ListsAt H' as ls := Paired.mapP h fun _ _ e => s _ _ e
theorem refs_ne {as : List Addr} {l : List Nat} (h : as ≠ []) : HO.lst (nvs l) ≠ HO.lst (refs as) := fun z => by
  injection z with z
  cases as with
  | nil => exact h rfl
  | cons a as =>
    cases l with
    | nil => cases z
    | cons x l =>
      injection z with z1 _
      cases z1
theorem ListsAt.but {H H' : Hp} {as bs : List Addr} {ls : List (List Nat)} {D : Addr} (h : ListsAt H as ls) (hD : H D = some (.lst (refs bs))) (hb : bs ≠ []) (s : But D H H') : ListsAt H' as ls :=
  Paired.mapP h fun _ _ e => s _ _ (ne_of e hD (refs_ne hb)) e
/-- a layer -/
structure LayOk (al : List Nat) (n s : Nat) (l : List Nat) : Prop where
  nd : l.Nodup
  iff : ∀ F, F ∈ l ↔ OF.Rch (OF.rel al) n s F
theorem LayOk.len {al : List Nat} {n s : Nat} {l : List Nat} (h : LayOk al n s l) : l.length ≤ 2 ^ n := OF.nodup_len h.nd fun x hx => ((h.iff x).mp hx).lt
theorem rch_inv {R : Nat → Nat → Bool} {n t G : Nat} (h : OF.Rch R n (t + 1) G) : ∃ F x, OF.Rch R n t F ∧ x ∈ OF.fol R n F ∧ G = F ||| 2 ^ x := by
  cases h with
  | step h hx => exact ⟨_, _, h, hx, rfl⟩
theorem pow10 {n : Nat} (h : n ≤ 10) : 2 ^ n ≤ 1024 := Nat.le_trans (Nat.pow_le_pow_right (by decide) h) (by decide)
/-- what a layer under way holds: all successors of the fronts in l, and those of F by the points in m -/
structure NextOk (al : List Nat) (n : Nat) (l : List Nat) (F : Nat) (m acc : List Nat) : Prop where
  nd : acc.Nodup
  iff : ∀ G, G ∈ acc ↔ (∃ F' x, F' ∈ l ∧ x ∈ OF.fol (OF.rel al) n F' ∧ G = F' ||| 2 ^ x) ∨ ∃ x, x ∈ m ∧ G = F ||| 2 ^ x
theorem NextOk.start {al : List Nat} {n F : Nat} : NextOk al n [] F [] [] := ⟨List.nodup_nil, fun G => by simp⟩
theorem NextOk.add {al : List Nat} {n F x : Nat} {l m acc : List Nat} (h : NextOk al n l F m acc) (hn : ¬ (F ||| 2 ^ x) ∈ acc) : NextOk al n l F (m ++ [x]) (acc ++ [F ||| 2 ^ x]) := by
  refine ⟨?_, fun G => ?_⟩
  · rw [List.nodup_append]
    exact ⟨h.nd, by simp, fun a ha b hb => by
      have : b = F ||| 2 ^ x := by simpa using hb
      subst this
      rintro rfl
      exact hn ha⟩
  · rw [List.mem_append, h.iff]
    simp only [List.mem_append, List.mem_singleton]
    constructor
    · rintro ((h | ⟨y, h1, h2⟩) | rfl)
      · exact .inl h
      · exact .inr ⟨y, .inl h1, h2⟩
      · exact .inr ⟨x, .inr rfl, rfl⟩
    · rintro (h | ⟨y, h1 | rfl, h2⟩)
      · exact .inl (.inl h)
      · exact .inl (.inr ⟨y, h1, h2⟩)
      · exact .inr h2
theorem NextOk.skip {al : List Nat} {n F x : Nat} {l m acc : List Nat} (h : NextOk al n l F m acc) (hn : (F ||| 2 ^ x) ∈ acc) : NextOk al n l F (m ++ [x]) acc := by
  refine ⟨h.nd, fun G => ?_⟩
  rw [h.iff]
  simp only [List.mem_append, List.mem_singleton]
  constructor
  · rintro (h | ⟨y, h1, h2⟩)
    · exact .inl h
    · exact .inr ⟨y, .inl h1, h2⟩
  · rintro (h | ⟨y, h1 | rfl, h2⟩)
    · exact .inl h
    · exact .inr ⟨y, h1, h2⟩
    · rw [h2]
      exact (h.iff _).mp hn
theorem NextOk.turn {al : List Nat} {n F F2 : Nat} {l acc : List Nat} (h : NextOk al n l F (OF.fol (OF.rel al) n F) acc) : NextOk al n (l ++ [F]) F2 [] acc := by
  refine ⟨h.nd, fun G => ?_⟩
  rw [h.iff]
  simp only [List.mem_append, List.mem_singleton, List.not_mem_nil, false_and, exists_false, or_false]
  constructor
  · rintro (⟨F', x, h1, h2, h3⟩ | ⟨x, h1, h2⟩)
    · exact ⟨F', x, .inl h1, h2, h3⟩
    · exact ⟨F, x, .inr rfl, h1, h2⟩
  · rintro ⟨F', x, h1 | rfl, h2, h3⟩
    · exact .inl ⟨F', x, h1, h2, h3⟩
    · exact .inr ⟨x, h2, h3⟩
theorem NextOk.lt {al : List Nat} {n s F : Nat} {l l' m acc : List Nat} (hl : LayOk al n s l') (h : NextOk al n l F m acc) (h1 : ∀ x ∈ l, x ∈ l') (h2 : F ∈ l') (h3 : ∀ x ∈ m, x ∈ OF.fol (OF.rel al) n F) : acc.length ≤ 2 ^ n := OF.nodup_len h.nd fun G hG => by
  rcases (h.iff G).mp hG with ⟨F', x, a, b, rfl⟩ | ⟨x, a, rfl⟩
  · exact (OF.Rch.step ((hl.iff _).mp (h1 _ a)) b).lt
  · exact (OF.Rch.step ((hl.iff _).mp h2) (h3 _ a)).lt
theorem NextOk.done {al : List Nat} {n s F : Nat} {l acc : List Nat} (hl : LayOk al n s l) (h : NextOk al n l F [] acc) : LayOk al n (s + 1) acc := by
  refine ⟨h.nd, fun G => ?_⟩
  rw [h.iff]
  simp only [List.not_mem_nil, false_and, exists_false, or_false]
  constructor
  · rintro ⟨F', x, a, b, rfl⟩
    exact .step ((hl.iff _).mp a) b
  · intro hG
    obtain ⟨F', x, a, b, rfl⟩ := rch_inv hG
    exact ⟨F', x, (hl.iff _).mpr a, b, rfl⟩
/-- the dict's words: levels from t on, and the fronts S of the level below -/
def DictInv (al : List Nat) (n t : Nat) (S : List Nat) (kvs : List (Key × V)) : Prop :=
  ∀ s F, OF.Rch (OF.rel al) n s F → (t ≤ s ∨ (s + 1 = t ∧ F ∈ S)) → valV kvs (Sum.inl (F : Int)) = some (nv (OF.cnt (OF.rel al) n (n - s) F))
theorem DictInv.put {al : List Nat} {n t F : Nat} {S : List Nat} {kvs : List (Key × V)} (h : DictInv al n (t + 1) S kvs) (hF : OF.Rch (OF.rel al) n t F) :
    DictInv al n (t + 1) (S ++ [F]) (putK kvs (Sum.inl (F : Int)) (nv (OF.cnt (OF.rel al) n (n - t) F))) := fun s G hG hs => by
  rw [valV_put]
  by_cases e : (Sum.inl (G : Int) : Key) = Sum.inl (F : Int)
  · have e2 : F = G := by
      have := Sum.inl.inj e
      omega
    subst e2
    rw [if_pos rfl, hF.level hG]
  · rw [if_neg e]
    refine h s G hG ?_
    rcases hs with hs | ⟨h1, h2⟩
    · exact .inl hs
    · rcases List.mem_append.mp h2 with h2 | h2
      · exact .inr ⟨h1, h2⟩
      · have : G = F := by simpa using h2
        subst this
        exact absurd rfl e
theorem DictInv.turn {al : List Nat} {n t : Nat} {l : List Nat} {kvs : List (Key × V)} (h : DictInv al n (t + 1) l kvs) (hl : LayOk al n t l) : DictInv al n t [] kvs := fun s F hF hs => by
  refine h s F hF ?_
  rcases hs with hs | ⟨h1, h2⟩
  · by_cases e : t + 1 ≤ s
    · exact .inl e
    · have e2 : s = t := by omega
      subst e2
      exact .inr ⟨rfl, (hl.iff F).mpr hF⟩
  · cases h2
def WaysOk (al : List Nat) (n : Nat) (kvs : List (Key × V)) : Prop := ∀ s F, OF.Rch (OF.rel al) n s F → valV kvs (Sum.inl (F : Int)) = some (nv (OF.cnt (OF.rel al) n (n - s) F))
theorem putK_len (kvs : List (Key × V)) (k : Key) (v : V) : (putK kvs k v).length ≤ kvs.length + 1 := by
  unfold putK
  split
  · rw [List.length_map]
    omega
  · rw [List.length_append]
    exact Nat.le_refl _
end OFW

namespace OFW
open PySem PySem.Spec PyProof.Rows L2
section
variable {P : Program} {w : World} {K : PySem.W.Frag} {mg : Str → Option Value} {base : Heap}
/-- the defs that the order's functions call, and where they stand -/
structure Fns (K : PySem.W.Frag) (mg : Str → Option Value) (C fInt fMem fSet fHas fFol fSize fBel fLes fPrs : Addr) (dInt dMem dSet dHas dFol dSize dBel dLes dPrs : FuncData) : Prop where
  o : OTxt K mg C
  mT : mg "tuple" = none
  mR : mg "range" = none
  mL : mg "list" = none
  mI : mg "isinstance" = none
  mi : mg "int" = none
  mB : mg "bool" = none
  mSum : mg "sum" = none
  mLen : mg "len" = none
  mAll : mg "all" = none
  mSo : mg "sorted" = none
  FInt : Fun K "is_integer" "is_integer" sInt fInt dInt
  bInt : Binds K dInt ["value"] []
  gInt : mg "is_integer" = some (.ref fInt)
  FMem : Fun K "members" "members" sMembers fMem dMem
  bMem : Binds K dMem ["bits"] []
  gMem : mg "members" = some (.ref fMem)
  FSet : Fun K "set_of" "set_of" sSetOf fSet dSet
  bSet : Binds K dSet ["points"] []
  gSet : mg "set_of" = some (.ref fSet)
  FHas : Fun K "has" "has" sHas fHas dHas
  bHas : Binds K dHas ["bits", "x"] []
  gHas : mg "has" = some (.ref fHas)
  FFol : Fun K "following_points" "following_points" sFol fFol dFol
  bFol : Binds K dFol ["below", "whole", "front"] []
  gFol : mg "following_points" = some (.ref fFol)
  FSize : Fun K "size" "Order.size" sSize fSize dSize
  bSize : Binds K dSize ["self"] []
  mSize : Meth K C "size" fSize
  FBel : Fun K "below" "Order.below" sBelow fBel dBel
  bBel : Binds K dBel ["self"] []
  mBel : Meth K C "below" fBel
  FLes : Fun K "less" "Order.less" sLess fLes dLes
  bLes : Binds K dLes ["self", "x", "y"] []
  mLes : Meth K C "less" fLes
  FPrs : Fun K "pairs" "Order.pairs" sPairs fPrs dPrs
  bPrs : Binds K dPrs ["self"] []
  mPrs : Meth K C "pairs" fPrs
variable {C fInt fMem fSet fHas fFol fSize fBel fLes fPrs : Addr} {dInt dMem dSet dHas dFol dSize dBel dLes dPrs : FuncData}
theorem no_size : ¬ (("size" : Str) = "above") ∧ ¬ (("size" : Str) = "n") := by decide +kernel
theorem no_below : ¬ (("below" : Str) = "above") ∧ ¬ (("below" : Str) = "n") := by decide +kernel
theorem no_less : ¬ (("less" : Str) = "above") ∧ ¬ (("less" : Str) = "n") := by decide +kernel
theorem no_pairs : ¬ (("pairs" : Str) = "above") ∧ ¬ (("pairs" : Str) = "n") := by decide +kernel
theorem rgV_nat (n : Nat) : rgV 0 (n : Int) = nvs (List.range n) := by
  unfold rgV
  rw [Int.sub_zero, Int.toNat_natCast]
  apply List.map_congr_left
  intro i _
  rw [Int.zero_add]
theorem nvs_snoc (l : List Nat) (x : Nat) : nvs (l ++ [x]) = nvs l ++ [nv x] := List.map_append
/-! ### readings that come again -/
theorem r_size {σ : L2.St} {H : Hp} {Q : VK} {o n : Nat} {al : List Nat} (h0 : σ[0]? = some (some (.ref o))) (hO : OrdAt C o n al H) (k : Q (nv n) H) : tMeth C "size" (spSize C) [] E0 (tVar 0) tNil σ H Q := by
  obtain ⟨dx, t, h1, h2⟩ := id hO
  exact ⟨_, h0, o, dx, _, rfl, h1, ofs_no _ _ no_size.1 no_size.2, o, n, al, rfl, hO, k⟩
theorem r_below {σ : L2.St} {H : Hp} {D : Ends} {i : Nat} {o : Addr} {n : Nat} {al : List Nat} (h0 : σ[0]? = some (some (.ref o))) (hO : OrdAt C o n al H) (hl : al.length = n) (hn : n ≤ 10)
    (k : ∀ H' b, Same H H' → H' b = some (.tup (nvs (blw n al))) → D.nx (σ.set i (some (.ref b))) H') : tAsg (tMeth C "below" (spBelow C) [] E0 (tVar 0) tNil) (gName i) D σ H := by
  obtain ⟨dx, t, h1, h2⟩ := id hO
  exact ⟨_, h0, o, dx, _, rfl, h1, ofs_no _ _ no_below.1 no_below.2, o, n, al, rfl, hO, hl, hn, fun H' b s1 _ eb => k H' b s1 eb⟩
theorem r_whole {σ : L2.St} {H : Hp} {D : Ends} {i : Nat} {o : Addr} {n : Nat} {al : List Nat} (h0 : σ[0]? = some (some (.ref o))) (hO : OrdAt C o n al H) (hn : n ≤ 10)
    (k : ∀ H', Same H H' → D.nx (σ.set i (some (nv (wh n)))) H') : tAsg (tCall (spSetOf K) [] E0 (tCons (tLstRg (tRg1 (tMeth C "size" (spSize C) [] E0 (tVar 0) tNil))) tNil)) (gName i) D σ H := by
  refine r_size h0 hO ⟨_, rfl, RgOk.of_le (by decide) (by omega) (by decide) (by omega), fresh fun p H' s1 np ep => ?_⟩
  rw [rgV_nat] at ep
  exact ⟨p, List.range n, rfl, fun x hx => by have := List.mem_range.mp hx; omega, .inl (SqL.of ep), k H' s1⟩
/-- front | 1 << x -/
theorem r_or {σ : L2.St} {H : Hp} {Q : VK} {i j F x : Nat} (h1 : σ[i]? = some (some (nv F))) (h2 : σ[j]? = some (some (nv x))) (hx : x ≤ 1000) (k : Q (nv (F ||| 2 ^ x)) H) :
    tOp (rI0 fun i j => V.int (Builtin.bitOr i j)) (tVar i) (tOp (rI CPow fun i j => V.int (i * 2 ^ j.toNat)) (tC (V.int 1)) (tVar j)) σ H Q := by
  refine ⟨_, h1, _, h2, _, _, rfl, rfl, ⟨Int.natCast_nonneg _, by omega, by decide⟩, _, _, rfl, rfl, ?_⟩
  show Q (V.int (Builtin.bitOr (F : Int) (1 * 2 ^ ((x : Int)).toNat))) H
  rw [bit_orS]
  exact k
/-- following_points(below, whole, front) -/
theorem r_fol {σ : L2.St} {H : Hp} {Q : VK} {i j l n F : Nat} {b : Addr} {al : List Nat} (h1 : σ[i]? = some (some (.ref b))) (h2 : σ[j]? = some (some (nv (wh n)))) (h3 : σ[l]? = some (some (nv F))) (hn : n ≤ 10) (hB : H b = some (.tup (nvs (blw n al))))
    (k : ∀ H' p, Same H H' → H p = none → H' p = some (.lst (nvs (OF.fol (OF.rel al) n F))) → Q (.ref p) H') : tCall (spFol K) [] E0 (tCons (tVar i) (tCons (tVar j) (tCons (tVar l) tNil))) σ H Q :=
  ⟨_, h1, _, h2, _, h3, b, n, al, F, rfl, hn, SqT.of hB, k⟩
theorem fol_lt {R : Nat → Nat → Bool} {n F x : Nat} (h : x ∈ OF.fol R n F) : x < n := (OF.mem_fol.mp h).1
theorem scWays : FnScope ["order", "below", "whole", "layers", "_", "following", "front", "x", "ways", "layer"] ["order"] (defScope sWays) := ⟨rfl, rfl, rfl, by decide +kernel, rfl, by decide +kernel, by decide +kernel⟩
def RetW (al : List Nat) (n : Nat) (H : Hp) (Q : VK) : Prop := ∀ H' p kvs, Same H H' → H p = none → H' p = some (.dK kvs) → WaysOk al n kvs → Q (.ref p) H'
def spWays (C : Addr) : Sp := fun vs H Q _ => ∃ (o : Addr) (n : Nat) (al : List Nat), vs = [.ref o] ∧ OrdAt C o n al H ∧ OF.OrdOk n al ∧ n ≤ 10 ∧ RetW al n H Q
theorem ok_ways {f : Addr} {fd : FuncData} (F : Fun K "ways_on" "ways_on" sWays f fd) (T : Fns K mg C fInt fMem fSet fHas fFol fSize fBel fLes fPrs dInt dMem dSet dHas dFol dSize dBel dLes dPrs) : FnOk P w K mg base CX0 3 f fd ["order"] (spWays C) := by
  have GSize : FnOk P w K mg base CX0 2 fSize dSize ["self"] (spSize C) := (ok_size T.FSize T.o).mono (by decide)
  have GBel : FnOk P w K mg base CX0 2 fBel dBel ["self"] (spBelow C) := ok_below T.FBel T.o T.mT T.mR T.FHas T.bHas T.gHas T.FSet T.bSet T.gSet
  have GSet : FnOk P w K mg base CX0 2 fSet dSet ["points"] (spSetOf K) := (ok_setOf T.FSet).mono (by decide)
  have GFol : FnOk P w K mg base CX0 2 fFol dFol ["below", "whole", "front"] (spFol K) := ok_fol T.FFol T.mT T.mR T.FMem T.bMem T.gMem
  refine F.ok scWays (fun vs H Q E h => ?_) (fun cdv A outer s H vs Q E hr h => ?_)
  · obtain ⟨o, n, al, rfl, _⟩ := h; rfl
  · obtain ⟨o, n, al, rfl, hO, hok, hn, q⟩ := h
    have hu := hu_of hr
    refine ⟨_, pss_cons (ps_set (i := 1) scWays.nd rfl (.inl rfl) (pe_meth0 (pv 0) T.o.cl T.mBel GBel hr T.bBel .nil pass0))
      (pss_cons (ps_set (i := 2) scWays.nd rfl (.inl rfl) (pe_call GSet hr (by rfl) T.gSet T.FSet.kp T.bSet .nil pass0 (pa_cons (pe_listRg rfl (by rfl) T.mL (prg_1 (by rfl) T.mR (pe_meth0 (pv 0) T.o.cl T.mSize GSize hr T.bSize .nil pass0))) pa_nil)))
      (pss_cons (ps_set (i := 3) scWays.nd rfl (.inl rfl) (pe_lst (pa_cons (pe_lst (pa_cons pe_int pa_nil)) pa_nil)))
      (pss_cons (ps_for PassesOwn.never rfl (pi_range1 (by rfl) T.mR (pa_cons (pe_meth0 (pv 0) T.o.cl T.mSize GSize hr T.bSize .nil pass0) pa_nil)) (pg_name (i := 4) scWays.nd rfl (.inl rfl))
        (pss_cons (ps_set (i := 5) scWays.nd rfl (.inl rfl) (pe_lst pa_nil))
        (pss_cons (ps_for PassesOwn.never rfl (pi_list (pe_ix ix_list (pv 3) (pe_un un_neg pe_int) (fun _ _ => rfl))) (pg_name (i := 6) scWays.nd rfl (.inr rfl))
          (pss_one (ps_for PassesOwn.never rfl (pi_list (pe_call GFol hr (by rfl) T.gFol T.FFol.kp T.bFol .nil pass0 (pa_cons (pv 1) (pa_cons (pv 2) (pa_cons (pv 6) pa_nil))))) (pg_name (i := 7) scWays.nd rfl (.inl rfl))
            (pss_one (ps_if (pt_cmpR op_notIn_seq (pe_op op_or (pv 6) (pe_op op_shl pe_int (pv 7))) (pv 5) (by rfl))
              (pss_one (ps_expr (pe_bm PySem.F.plainAttrs_list PySem.F.slot_list_append PySem.F.type_list_append mt_append (pv 5) (pa_cons (pe_op op_or (pv 6) (pe_op op_shl pe_int (pv 7))) pa_nil)))) pss_nil)))))
        (pss_one (ps_expr (pe_bm PySem.F.plainAttrs_list PySem.F.slot_list_append PySem.F.type_list_append mt_append (pv 3) (pa_cons (pv 5) pa_nil)))))))
      (pss_cons (ps_set (i := 8) scWays.nd rfl (.inr rfl) (pe_disp (pps_cons (pv 2) pe_int pps_nil) (by rfl) (by rfl) (fun z => by cases z) (by decide)))
      (pss_cons (ps_for PassesOwn.never rfl (pi_list (pe_revL (pe_slice sl_list (pv 3) po_none (po_some (pe_un un_neg pe_int))))) (pg_name (i := 9) scWays.nd rfl (.inl rfl))
        (pss_one (ps_for PassesOwn.never rfl (pi_list (pv 9)) (pg_name (i := 6) scWays.nd rfl (.inr rfl))
          (pss_one (ps_dput hu (pv 8) (pv 6) (pe_callB (cr_sum rfl) (by rfl) T.mSum (by decide +kernel) (pa_cons (pe_lc (own := [("x", 7)]) (by rfl) scWays.nd (pi_list (pe_call GFol hr (by rfl) T.gFol T.FFol.kp T.bFol .nil pass0 (pa_cons (pv 1) (pa_cons (pv 2) (pa_cons (pv 6) pa_nil)))))
            (blkOk_by (own := [("x", 7)]) (N := ["order", "below", "whole", "layers", "_", "following", "front", "x", "ways", "layer"]) (sc := defScope sWays) (by decide +kernel))
            (fun _ _ _ _ _ => pg_name (i := 7) scWays.nd rfl (Or.inl rfl)) (fun _ _ _ _ _ => pts_nil)
            (fun _ _ _ _ _ => pe_dget hu (pv 8) (pe_op op_or (pv 6) (pe_op op_shl pe_int (pv 7))) (fun _ _ => rfl))) pa_nil)) rfl)))))
      (pss_one (ps_ret (pv 8)))))))), ?_⟩
    -- below, whole
    refine r_below rfl hO hok.len hn fun H1 b s1 eb => ?_
    refine r_whole rfl (hO.same s1) hn fun H2 s2 => ?_
    have eb2 := s2 _ _ eb
    have hO2 := (hO.same s1).same s2
    -- layers
    refine ⟨by show 1 ≤ sizeLine; decide, fresh fun a0 H3 s3 na0 ea0 => ?_⟩
    refine ⟨by show 1 ≤ sizeLine; decide, fresh fun L H4 s4 nL eL => ?_⟩
    have hO4 := (hO2.same s3).same s4
    refine r_size rfl hO4 ⟨_, rfl, by omega, by omega, ?_⟩
    refine for_range (lo := 0) (n := n) (fun t σ H' => ∃ v4 v5 v6 v7 ls lss, σ = [some (.ref o), some (.ref b), some (nv (wh n)), some (.ref L), v4, v5, v6, v7, none, none] ∧ Same H3 H' ∧ H' L = some (.lst (refs ls)) ∧ ListsAt H' ls lss ∧ lss.length = t + 1 ∧
      (∀ s l, lss[s]? = some l → LayOk al n s l)) ⟨none, none, none, none, [a0], [[0]], rfl, s4, eL, .cons (s4 _ _ ea0) .nil, rfl, fun s l hs => ?_⟩ (fun t σ H5 ht hP => ?_) (fun σ H5 hP => ?_)
    · cases s with
      | zero =>
        have : l = [0] := (Option.some.inj hs).symm
        subst this
        refine ⟨by simp, fun F => ?_⟩
        constructor
        · intro h
          have : F = 0 := by simpa using h
          subst this
          exact .zero
        · intro h
          cases h
          simp
      | succ s => simp at hs
    · -- one more layer
      obtain ⟨v4, v5, v6, v7, ls, lss, rfl, s5, eL5, hA, hlen, hlay⟩ := hP
      rw [Int.zero_add]
      have nls : ls ≠ [] := fun z => by
        have := Paired.length hA
        rw [z, hlen] at this
        cases this
      have lenls : ls.length = t + 1 := (Paired.length hA).trans hlen
      obtain ⟨la, hla⟩ : ∃ la, ls[t]? = some la := ⟨ls[t]'(by omega), List.getElem?_eq_getElem (by omega)⟩
      obtain ⟨l, hl, el⟩ := Paired.at_ hA hla
      have hLay := hlay t l hl
      refine ⟨Nat.zero_le _, fresh fun D H6 s6 nD eD => ?_⟩
      have eL6 := s6 _ _ eL5
      have el6 := s6 _ _ el
      have nDL : D ≠ L := fun z => by rw [z, eL5] at nD; cases nD
      refine ⟨_, rfl, _, rfl, L, refs ls, -1, .ref la, rfl, rfl, SqL.of eL6, atI_neg1 ?_, la, rfl, ⟨_, SqL.of el6⟩, ?_⟩
      · rw [refs_len, lenls]
        show (ls.map V.ref)[t]? = _
        rw [List.getElem?_map, hla]
        rfl
      refine for_list (K := K) (a := la) (xs := nvs l) (fun i σ H' => ∃ v6 v7 acc, σ = [some (.ref o), some (.ref b), some (nv (wh n)), some (.ref L), some (nv t), some (.ref D), v6, v7, none, none] ∧ Same H5 H' ∧ H' D = some (.lst (nvs acc)) ∧ NextOk al n (l.take i) 0 [] acc)
        ⟨v6, v7, [], rfl, s6, eD, .start⟩ (fun i σ H' _ ⟨_, _, _, _, s7, _⟩ => SqL.of (s7 _ _ el)) ?_ ?_
      · rintro i x σ H7 hx ⟨v6', v7', acc, rfl, s7, eD7, hN⟩
        rw [List.getElem?_map] at hx
        obtain ⟨F, hF, rfl⟩ := Option.map_eq_some_iff.mp hx
        have hFl : F ∈ l := List.mem_of_getElem? hF
        refine r_fol (b := b) (F := F) rfl rfl rfl hn (s7 _ _ (s5 _ _ (s3 _ _ eb2))) fun H8 tp s8 ntp etp => ?_
        have ntD : tp ≠ D := fun z => by rw [z, eD7] at ntp; cases ntp
        refine ⟨tp, rfl, ⟨_, SqL.of etp⟩, for_list (K := K) (a := tp) (xs := nvs (OF.fol (OF.rel al) n F)) (fun j σ H' => ∃ v7 acc, σ = [some (.ref o), some (.ref b), some (nv (wh n)), some (.ref L), some (nv t), some (.ref D), some (nv F), v7, none, none] ∧ Same H5 H' ∧ H' D = some (.lst (nvs acc)) ∧ H' tp = some (.lst (nvs (OF.fol (OF.rel al) n F))) ∧ NextOk al n (l.take i) F ((OF.fol (OF.rel al) n F).take j) acc)
          ⟨v7', acc, rfl, s7.trans s8, s8 _ _ eD7, etp, ⟨hN.nd, fun G => (hN.iff G).trans (by simp)⟩⟩ (fun j σ H' _ ⟨_, _, _, _, _, e, _⟩ => SqL.of e) ?_ ?_⟩
        · rintro j x σ H9 hx ⟨v7'', acc', rfl, s9, eD9, et9, hM⟩
          rw [List.getElem?_map] at hx
          obtain ⟨y, hy, rfl⟩ := Option.map_eq_some_iff.mp hx
          have hyf : y ∈ OF.fol (OF.rel al) n F := List.mem_of_getElem? hy
          have hyn := fol_lt hyf
          have tk : (OF.fol (OF.rel al) n F).take (j + 1) = (OF.fol (OF.rel al) n F).take j ++ [y] := by rw [List.take_add_one, hy]; rfl
          have hlen2 := NextOk.lt hLay hM (fun x h => List.mem_of_mem_take h) hFl (fun x h => List.mem_of_mem_take h)
          have hp10 := pow10 hn
          refine r_or (F := F) (x := y) rfl rfl (by omega) ⟨_, rfl, D, _, rfl, .inl (SqL.of eD9), rfl, flat_nvs _, _, rfl, ?_⟩
          refine if_dec (c' := !decide ((F ||| 2 ^ y) ∈ acc')) ?_ ?_
          · show (if true = true then !inV (nv (F ||| 2 ^ y)) (nvs acc') else inV (nv (F ||| 2 ^ y)) (nvs acc')) = _
            rw [if_pos rfl, inV_nat]
          · by_cases hm : (F ||| 2 ^ y) ∈ acc'
            · rw [decide_eq_true hm]
              refine iteF ⟨some (nv y), acc', rfl, s9, eD9, et9, ?_⟩
              rw [tk]
              exact hM.skip hm
            · rw [decide_eq_false hm]
              refine iteT ⟨_, rfl, .inl ⟨rfl, _, SqL.of eD9⟩, ?_⟩
              refine r_or (F := F) (x := y) rfl rfl (by omega) ⟨D, _, _, rfl, rfl, eD9, by rw [List.length_map]; exact Nat.lt_of_le_of_lt hlen2 (Nat.lt_of_le_of_lt hp10 (by decide)), change fun H10 b10 e10 => ?_⟩
              refine ⟨some (nv y), acc' ++ [F ||| 2 ^ y], rfl, s9.mut nD b10, ?_, b10 _ _ ntD et9, ?_⟩
              · rw [e10, nvs_snoc]
              · rw [tk]
                exact hM.add hm
        · rintro σ H9 ⟨v7'', acc', rfl, s9, eD9, et9, hM⟩
          refine ⟨_, _, acc', rfl, s9, eD9, ?_⟩
          rw [List.length_map, List.take_length] at hM
          rw [List.take_add_one, hF]
          exact hM.turn
      · rintro σ H7 ⟨v6', v7', acc, rfl, s7, eD7, hN⟩
        rw [List.length_map, List.take_length] at hN
        have hNew : LayOk al n (t + 1) acc := hN.done hLay
        have eL7 := s7 _ _ eL5
        refine ⟨_, rfl, .inl ⟨rfl, _, SqL.of eL7⟩, _, rfl, L, _, _, rfl, rfl, eL7, by rw [refs_len, lenls]; exact small1000 (by omega), change fun H8 b8 e8 => ?_⟩
        have hA8 : ListsAt H8 ls lss := (hA.same s7).but eL7 nls b8
        refine ⟨_, _, _, _, ls ++ [D], lss ++ [acc], rfl, (s5.trans s7).mut nL b8, by rw [e8, refs_snoc], Paired.snoc (F := fun a l => H8 a = some (.lst (nvs l))) (b8 _ _ nDL eD7) hA8, by rw [List.length_append, hlen]; rfl, fun s l' hs => ?_⟩
        by_cases hlt : s < lss.length
        · rw [List.getElem?_append_left hlt] at hs
          exact hlay s l' hs
        · rw [List.getElem?_append_right (by omega)] at hs
          have hs0 : s - lss.length = 0 := by
            have := (List.getElem?_eq_some_iff.mp hs).1
            simp at this
            omega
          rw [hs0] at hs
          have e1 : acc = l' := Option.some.inj hs
          have e2 : s = t + 1 := by omega
          subst e1 e2
          exact hNew
    · obtain ⟨v4, v5, v6, v7, ls, lss, rfl, s5, eL5, hA, hlen, hlay⟩ := hP
      intro W nW
      refine ⟨_, rfl, upd_same, [(Sum.inl ((wh n : Nat) : Int), nv 1)], rfl, (by show 1 ≤ 15; decide), ?_⟩
      rw [upd_upd]
      have s6 : Same H5 (upd H5 W (.dK (mergeK [] [(Sum.inl ((wh n : Nat) : Int), nv 1)]))) := same_upd nW
      have eW : (upd H5 W (.dK (mergeK [] [(Sum.inl ((wh n : Nat) : Int), nv 1)]))) W = some (.dK (mergeK [] [(Sum.inl ((wh n : Nat) : Int), nv 1)])) := upd_same
      generalize upd H5 W (.dK (mergeK [] [(Sum.inl ((wh n : Nat) : Int), nv 1)])) = H6 at s6 eW ⊢
      have hK0 : DictInv al n n [] (mergeK [] [(Sum.inl ((wh n : Nat) : Int), nv 1)]) := fun s F hF hs => by
        have hsn := hF.ge
        have e1 : s = n := by
          rcases hs with hs | ⟨_, hs⟩
          · omega
          · cases hs
        subst e1
        have e2 : F = wh s := by
          apply Nat.eq_of_testBit_eq
          intro i
          rw [wh_bit]
          by_cases hi : i < s
          · rw [hF.full hi, decide_eq_true hi]
          · rw [decide_eq_false hi]
            cases e : F.testBit i with
            | false => rfl
            | true => exact absurd (hF.bits i e) hi
        subst e2
        show valV (putK [] (Sum.inl ((wh s : Nat) : Int)) (nv 1)) _ = _
        rw [valV_put, if_pos rfl, Nat.sub_self]
        rfl
      have lenls : ls.length = n + 1 := (Paired.length hA).trans hlen
      -- the layers, last but one first
      refine ⟨_, rfl, 1, rfl, -1, rfl, L, _, rfl, SqL.of (s6 _ _ eL5), ?_⟩
      refine fun p1 np1 => ?_
      generalize h7 : upd H6 p1 _ = H7
      have s7 : Same H6 H7 := h7 ▸ same_upd np1
      have ep1 : H7 p1 = _ := h7 ▸ upd_same
      refine ⟨p1, _, rfl, SqL.of ep1, ?_⟩
      refine fun p2 np2 => ?_
      generalize h8 : upd H7 p2 _ = H8
      have s8 : Same H7 H8 := h8 ▸ same_upd np2
      have ep2 : H8 p2 = _ := h8 ▸ upd_same
      rw [cut_last] at ep2
      have s58 : Same H5 H8 := (s6.trans s7).trans s8
      have eW8 := s8 _ _ (s7 _ _ eW)
      have eb5 := s5 _ _ (s3 _ _ eb2)
      have lenp : (refs ls).dropLast.reverse.length = n := by rw [List.length_reverse, List.length_dropLast, refs_len, lenls]; rfl
      refine ⟨p2, rfl, ⟨_, SqL.of ep2⟩, for_list (K := K) (a := p2) (xs := (refs ls).dropLast.reverse) (fun i σ H' => ∃ v6 v9 kvs, σ = [some (.ref o), some (.ref b), some (nv (wh n)), some (.ref L), v4, v5, v6, v7, some (.ref W), v9] ∧ Same H5 H' ∧ H' W = some (.dK kvs) ∧ H' p2 = some (.lst (refs ls).dropLast.reverse) ∧ DictInv al n (n - i) [] kvs ∧ kvs.length ≤ 1 + i * 1024)
        ⟨v6, none, _, rfl, s58, eW8, ep2, by rw [Nat.sub_zero]; exact hK0, by show 1 ≤ 1 + 0 * 1024; decide⟩ (fun i σ H' _ ⟨_, _, _, _, _, _, e, _⟩ => SqL.of e) ?_ ?_⟩
      · rintro i x σ H9 hx ⟨v6', v9, kvs, rfl, s9, eW9, ep9, hD, hkl⟩
        have hi : i < n := by
          have := (List.getElem?_eq_some_iff.mp hx).1
          omega
        obtain ⟨la, hla, rfl⟩ : ∃ la, ls[n - 1 - i]? = some la ∧ x = .ref la := by
          rw [List.getElem?_reverse (by rw [← List.length_reverse, lenp]; exact hi), List.getElem?_dropLast] at hx
          have e1 : (refs ls).dropLast.length = n := by rw [← List.length_reverse, lenp]
          rw [e1] at hx
          rw [if_pos (by rw [refs_len, lenls]; omega)] at hx
          obtain ⟨la, h1, h2⟩ := refs_get hx
          exact ⟨la, h1, h2⟩
        obtain ⟨l, hl, el⟩ := Paired.at_ hA hla
        have hLay := hlay _ l hl
        have ht : n - i = (n - 1 - i) + 1 := by omega
        generalize htt : n - 1 - i = t at hLay ht hl hla
        rw [ht] at hD
        have el9 := s9 _ _ el
        have hp10 := pow10 hn
        have hll := hLay.len
        refine ⟨_, rfl, la, rfl, ⟨_, SqL.of el9⟩, for_list (K := K) (a := la) (xs := nvs l) (fun j σ H' => ∃ v6 kvs, σ = [some (.ref o), some (.ref b), some (nv (wh n)), some (.ref L), v4, v5, v6, v7, some (.ref W), some (.ref la)] ∧ Same H5 H' ∧ H' W = some (.dK kvs) ∧ H' p2 = some (.lst (refs ls).dropLast.reverse) ∧ DictInv al n (t + 1) (l.take j) kvs ∧ kvs.length ≤ 1 + i * 1024 + j)
          ⟨v6', kvs, rfl, s9, eW9, ep9, hD, hkl⟩ (fun j σ H' _ ⟨_, _, _, e, _⟩ => SqL.of (e _ _ el)) ?_ ?_⟩
        · rintro j x σ H10 hx ⟨v6'', kvs', rfl, s10, eW10, ep10, hE, hkl'⟩
          have hj : j < l.length := by
            have := (List.getElem?_eq_some_iff.mp hx).1
            rw [List.length_map] at this
            exact this
          rw [List.getElem?_map] at hx
          obtain ⟨F, hF, rfl⟩ := Option.map_eq_some_iff.mp hx
          have hFr := (hLay.iff F).mp (List.mem_of_getElem? hF)
          refine r_fol (b := b) (F := F) rfl rfl rfl hn (s10 _ _ eb5) fun H11 tp s11 ntp etp => ?_
          refine ⟨tp, rfl, ⟨_, SqL.of etp⟩, fun D nD => ?_⟩
          refine lc_list (K := K) (a := tp) (xs := nvs (OF.fol (OF.rel al) n F)) (fun k H' => Same H11 H' ∧ H' D = some (.lst (((OF.fol (OF.rel al) n F).take k).map fun x => nv (OF.cnt (OF.rel al) n (n - (t + 1)) (F ||| 2 ^ x))))) ⟨same_upd nD, upd_same⟩ (fun k H' _ hP => SqL.of (hP.1 _ _ etp)) (fun k x H12 hx hP => ?_) (fun H12 hP => ?_)
          · obtain ⟨s12, e12⟩ := hP
            rw [List.getElem?_map] at hx
            obtain ⟨y, hy, rfl⟩ := Option.map_eq_some_iff.mp hx
            have hyf : y ∈ OF.fol (OF.rel al) n F := List.mem_of_getElem? hy
            have hyn := fol_lt hyf
            have hv := hE (t + 1) (F ||| 2 ^ y) (.step hFr hyf) (.inl (Nat.le_refl _))
            refine ⟨rfl, tYes_if ⟨_, rfl, ?_⟩⟩
            refine r_or (F := F) (x := y) rfl rfl (by omega) ⟨W, nv (OF.cnt (OF.rel al) n (n - (t + 1)) (F ||| 2 ^ y)), rfl, ?_, _, e12, ?_, s12.mut nD but_upd, ?_⟩
            · rw [← hv]
              exact DGet.k (k := Sum.inl ((F ||| 2 ^ y : Nat) : Int)) (s12 _ _ (s11 _ _ eW10))
            · rw [List.length_map]
              exact Nat.lt_of_le_of_lt (Nat.le_trans (List.length_take_le' _ _) (Nat.le_trans (List.length_filter_le _ _) (by rw [List.length_range]; exact hn))) (small1000 (by decide))
            · rw [upd_same, take_map_snoc hy]
          · obtain ⟨s12, e12⟩ := hP
            rw [List.length_map, List.take_length] at e12
            have e12' : H12 D = some (.lst (((OF.fol (OF.rel al) n F).map fun x => ((OF.cnt (OF.rel al) n (n - (t + 1)) (F ||| 2 ^ x) : Nat) : Int)).map V.int)) := by
              rw [e12, List.map_map]
              rfl
            refine ⟨D, _, rfl, SqL.of e12', ?_⟩
            have esum : ((OF.fol (OF.rel al) n F).map fun x => ((OF.cnt (OF.rel al) n (n - (t + 1)) (F ||| 2 ^ x) : Nat) : Int)).sum = ((OF.cnt (OF.rel al) n (n - t) F : Nat) : Int) := by
              have e : n - t = (n - (t + 1)) + 1 := by omega
              rw [e]
              show _ = (((OF.fol (OF.rel al) n F).map fun x => OF.cnt (OF.rel al) n (n - (t + 1)) (F ||| 2 ^ x)).sum : Int)
              generalize OF.fol (OF.rel al) n F = m
              induction m with
              | nil => rfl
              | cons x m ih =>
                rw [List.map_cons, List.sum_cons, ih, List.map_cons, List.sum_cons]
                omega
            have eW12 := s12 _ _ (s11 _ _ eW10)
            refine ⟨_, rfl, _, rfl, W, _, rfl, DPut.k (k := Sum.inl ((F : Nat) : Int)) eW12 (Nat.lt_of_le_of_lt hkl' ?_), ?_⟩
            · have h1 : i * 1024 ≤ 10 * 1024 := Nat.mul_le_mul_right _ (by omega)
              exact Nat.lt_of_le_of_lt (by omega : 1 + i * 1024 + j ≤ 20000) (by decide)
            · refine ⟨some (nv F), _, rfl, ((s10.trans s11).trans s12).mut nW but_upd, upd_same, ?_, ?_, ?_⟩
              · have eq2 := s12 _ _ (s11 _ _ ep10)
                exact but_upd _ _ (ne_of eq2 eW12 (by intro z; cases z)) eq2
              · rw [List.take_add_one, hF]
                show DictInv al n (t + 1) (l.take j ++ [F]) (putK kvs' (Sum.inl ((F : Nat) : Int)) (V.int _))
                rw [esum]
                exact hE.put hFr
              · have := putK_len kvs' (Sum.inl ((F : Nat) : Int)) (V.int (((OF.fol (OF.rel al) n F).map fun x => ((OF.cnt (OF.rel al) n (n - (t + 1)) (F ||| 2 ^ x) : Nat) : Int)).sum))
                exact Nat.le_trans this (by omega)
        · rintro σ H10 ⟨v6'', kvs', rfl, s10, eW10, ep10, hE, hkl'⟩
          rw [List.length_map] at hE hkl'
          rw [List.take_length] at hE
          refine ⟨v6'', _, kvs', rfl, s10, eW10, ep10, ?_, by omega⟩
          have e : n - (i + 1) = t := by omega
          rw [e]
          exact hE.turn hLay
      · rintro σ H9 ⟨v6', v9, kvs, rfl, s9, eW9, ep9, hD, hkl⟩
        rw [lenp, Nat.sub_self] at hD
        have sH5 : Same H H5 := (((s1.trans s2).trans s3).trans s5)
        exact ⟨_, rfl, q H9 W kvs (sH5.trans s9) (sH5.free nW) eW9 fun s F hF => hD s F hF (.inl (Nat.zero_le _))⟩
end
end OFW

namespace OFW
open PySem PySem.Spec PyProof.Rows L2
/-! ### values that are no rows -/
def ov : Option Nat → V
  | some x => nv x
  | none => .non
abbrev ci (x : Nat) : Int := (x : Int)
def BadRow (n : Nat) (v : V) (H : Hp) : Prop :=
  v = .non ∨ (∃ a xs, v = .ref a ∧ H a = some (.lst xs)) ∨ (∃ a xs, v = .ref a ∧ H a = some (.tup xs) ∧ xs.length ≠ n) ∨ ∃ (a : Addr) (l : List (Option Nat)), v = .ref a ∧ H a = some (.tup (l.map ov)) ∧ l.length = n ∧ n ≤ 10 ∧ (none ∈ l ∨ ∃ x, some x ∈ l ∧ n ≤ x)
def GoodRow (n : Nat) (l : List Nat) (v : V) (H : Hp) : Prop := ∃ a, v = .ref a ∧ H a = some (.tup (nvs l)) ∧ l.Perm (List.range n) ∧ n ≤ 10
theorem BadRow.same {n : Nat} {v : V} {H H' : Hp} (h : BadRow n v H) (s : Same H H') : BadRow n v H' := by
  rcases h with h | ⟨a, xs, h1, h2⟩ | ⟨a, xs, h1, h2, h3⟩ | ⟨a, l, h1, h2, h3⟩
  · exact .inl h
  · exact .inr (.inl ⟨a, xs, h1, s _ _ h2⟩)
  · exact .inr (.inr (.inl ⟨a, xs, h1, s _ _ h2, h3⟩))
  · exact .inr (.inr (.inr ⟨a, l, h1, s _ _ h2, h3⟩))
theorem GoodRow.same {n : Nat} {l : List Nat} {v : V} {H H' : Hp} (h : GoodRow n l v H) (s : Same H H') : GoodRow n l v H' := by
  obtain ⟨a, h1, h2, h3⟩ := h
  exact ⟨a, h1, s _ _ h2, h3⟩
theorem ov_some (l : List Nat) : (l.map some).map ov = nvs l := by
  rw [List.map_map]
  rfl
def RetB (b : Bool) (H : Hp) (Q : VK) : Prop := ∀ H', Same H H' → Q (.bl b) H'
def spIsRow : Sp := fun vs H Q _ => ∃ (v : V) (n : Nat), vs = [v, nv n] ∧ ((BadRow n v H ∧ RetB false H Q) ∨ ∃ l, GoodRow n l v H ∧ RetB true H Q)
theorem scIsRow : FnScope ["value", "size", "x"] ["value", "size"] (defScope sIsRow) := ⟨rfl, rfl, rfl, by decide +kernel, rfl, by decide +kernel, by decide +kernel⟩
/-! ### data -/
section
variable {K : PySem.W.Frag} {H : Hp}
theorem dp_ints : ∀ (l : List Int), DpAll K H (l.map V.int) (l.map PyData.int)
  | [] => .nil
  | x :: l => .cons (.int x) (dp_ints l)
theorem eqv_ints : ∀ (l m : List Int), PyData.eqvAll (l.map PyData.int) (m.map PyData.int) = decide (l = m)
  | [], [] => rfl
  | [], _ :: _ => rfl
  | _ :: _, [] => rfl
  | x :: l, y :: m => by
    have e : PyData.eqvAll ((x :: l).map PyData.int) ((y :: m).map PyData.int) = ((x == y) && PyData.eqvAll (l.map PyData.int) (m.map PyData.int)) := by
      simp only [List.map_cons, PyData.eqvAll, PyData.eqv]
    rw [e, eqv_ints l m]
    by_cases h : x = y
    · by_cases h2 : l = m <;> simp [h, h2]
    · simp [h]
theorem lay_ints : ∀ l : List Int, PyData.canLayAll0 (l.map PyData.int) = true
  | [] => by simp [PyData.canLayAll0]
  | x :: l => by simp [PyData.canLayAll0, PyData.canLay0, lay_ints l]
theorem depth_ints : ∀ l : List Int, PyData.depthAll (l.map PyData.int) = 0
  | [] => by simp [PyData.depthAll]
  | x :: l => by simp [PyData.depthAll, PyData.depth, depth_ints l]
theorem shaped_mk {d : PyData} (h1 : d.canLay0 = true) (h2 : d.depth ≤ 64) : SeqAt.shaped d = true := by
  show (d.canLay0 && decide (d.depth ≤ 64)) = true
  rw [Bool.and_eq_true]
  exact ⟨h1, decide_eq_true h2⟩
theorem shaped_listI (l : List Int) : SeqAt.shaped (.list (l.map PyData.int)) = true := shaped_mk (by simp only [PyData.canLay0]; exact lay_ints l) (by simp only [PyData.depth, depth_ints]; omega)
theorem shaped_tupI (l : List Int) : SeqAt.shaped (.tuple (l.map PyData.int)) = true := shaped_mk (by simp only [PyData.canLay0]; exact lay_ints l) (by simp only [PyData.depth, depth_ints]; omega)
end
theorem ints_nv (l : List Nat) : (l.map ci).map V.int = nvs l := by
  rw [List.map_map]
  rfl
theorem perm_sorted {l : List Int} {n : Nat} (h : l.Perm ((List.range n).map ci)) (hs : l.Pairwise (· ≤ ·)) : l = (List.range n).map ci := by
  refine h.eq_of_pairwise (fun a b _ _ h1 h2 => by omega) hs ?_
  rw [List.pairwise_map]
  exact List.Pairwise.imp (fun h => by unfold ci; omega) List.pairwise_lt_range
theorem perm_castP {l m : List Nat} (h : l.Perm m) : (l.map ci).Perm (m.map ci) := h.map _
section
variable {P : Program} {w : World} {K : PySem.W.Frag} {mg : Str → Option Value} {base : Heap}
variable {C fInt fMem fSet fHas fFol fSize fBel fLes fPrs : Addr} {dInt dMem dSet dHas dFol dSize dBel dLes dPrs : FuncData}
theorem ov_get {l : List (Option Nat)} {i : Nat} {x : V} (h : (l.map ov)[i]? = some x) : ∃ y, l[i]? = some y ∧ x = ov y := by
  rw [List.getElem?_map] at h
  obtain ⟨y, h1, h2⟩ := Option.map_eq_some_iff.mp h
  exact ⟨y, h1, h2.symm⟩
theorem all_some : ∀ {l : List (Option Nat)}, ¬ none ∈ l → ∃ l' : List Nat, l = l'.map some
  | [], _ => ⟨[], rfl⟩
  | none :: l, h => absurd (List.mem_cons_self) h
  | some x :: l, h => by
    obtain ⟨l', e⟩ := all_some (l := l) fun z => h (List.mem_cons_of_mem _ z)
    exact ⟨x :: l', by rw [e]; rfl⟩
theorem row_cases {v : V} {n : Nat} {H : Hp} {Q : VK} (h : (BadRow n v H ∧ RetB false H Q) ∨ ∃ l, GoodRow n l v H ∧ RetB true H Q) :
    (RetB false H Q ∧ (v = .non ∨ (∃ a xs, v = .ref a ∧ H a = some (.lst xs)) ∨ (∃ a xs, v = .ref a ∧ H a = some (.tup xs) ∧ xs.length ≠ n))) ∨
    ∃ (a : Addr) (l : List (Option Nat)) (res : Bool), v = .ref a ∧ H a = some (.tup (l.map ov)) ∧ l.length = n ∧ n ≤ 10 ∧ (none ∈ l → res = false) ∧
        (∀ l' : List Nat, l = l'.map some → ∀ ns : List Int, ns.Perm (l'.map ci) → ns.Pairwise (· ≤ ·) → decide (ns = (List.range n).map ci) = res) ∧ RetB res H Q := by
  rcases h with ⟨h | h | h | ⟨a, l, h1, h2, h3, h4, h5⟩, q⟩ | ⟨l, ⟨a, h1, h2, h3, h4⟩, q⟩
  · exact .inl ⟨q, .inl h⟩
  · exact .inl ⟨q, .inr (.inl h)⟩
  · exact .inl ⟨q, .inr (.inr h)⟩
  · refine .inr ⟨a, l, false, h1, h2, h3, h4, fun _ => rfl, fun l' e ns hp hs => ?_, q⟩
    refine decide_eq_false fun z => ?_
    subst e
    rcases h5 with h5 | ⟨x, h5, h6⟩
    · obtain ⟨_, _, e⟩ := List.mem_map.mp h5
      cases e
    · have hx : x ∈ l' := by
        obtain ⟨y, hy, e⟩ := List.mem_map.mp h5
        cases e
        exact hy
      have hi : ci x ∈ ns := hp.mem_iff.mpr (List.mem_map.mpr ⟨x, hx, rfl⟩)
      rw [z] at hi
      obtain ⟨y, hy, e⟩ := List.mem_map.mp hi
      have := List.mem_range.mp hy
      unfold ci at e
      omega
  · refine .inr ⟨a, l.map some, true, h1, by rw [ov_some]; exact h2, by rw [List.length_map, h3.length_eq, List.length_range], h4, fun z => ?_, fun l' e ns hp hs => ?_, q⟩
    · obtain ⟨_, _, e⟩ := List.mem_map.mp z
      cases e
    · have e2 : l = l' := by
        have := congrArg (List.filterMap id) e
        simpa using this
      subst e2
      exact decide_eq_true (perm_sorted (hp.trans (perm_castP h3)) hs)
theorem ok_isRow {f : Addr} {fd : FuncData} (F : Fun K "is_row" "is_row" sIsRow f fd) (T : Fns K mg C fInt fMem fSet fHas fFol fSize fBel fLes fPrs dInt dMem dSet dHas dFol dSize dBel dLes dPrs) : FnOk P w K mg base CX0 2 f fd ["value", "size"] spIsRow := by
  have GI : FnOk P w K mg base CX0 1 fInt dInt ["value"] spInt := ok_int T.FInt T.mI T.mi T.mB
  refine F.ok scIsRow (fun vs H Q E h => ?_) (fun cdv A outer s H vs Q E hr h => ?_)
  · obtain ⟨v, n, rfl, _⟩ := h; rfl
  · obtain ⟨v, n, rfl, h⟩ := h
    refine ⟨_, pss_cons (ps_if (PW.pt (pw_or (pt_not (pt_val (pe_callB call_isi (by rfl) T.mI (by decide +kernel) (pa_cons (pv 0) (pa_cons (pe_bltn (v := .ty "tuple") (by rfl) T.mT (by decide +kernel) rfl) pa_nil)))))
        (pw_or1 (pt_cmpR op_ne (pe_callB call_len_seq (by rfl) T.mLen (by decide +kernel) (pa_cons (pv 0) pa_nil)) (pv 1) (nomark _))))) (pss_one (ps_ret pe_bl)) pss_nil)
      (pss_one (ps_ret (pe_and (pe_callB (cr_all rfl) (by rfl) T.mAll (by decide +kernel) (pa_cons (pe_lc (own := [("x", 2)]) (by rfl) scIsRow.nd (pi_tup (pv 0)) (blkOk_by (own := [("x", 2)]) (N := ["value", "size", "x"]) (sc := defScope sIsRow) (by decide +kernel))
          (fun _ _ _ _ _ => pg_name (i := 2) scIsRow.nd rfl (Or.inl rfl)) (fun _ _ _ _ _ => pts_nil)
          (fun _ _ _ _ _ => pe_call GI hr (by rfl) T.gInt T.FInt.kp T.bInt .nil pass0 (pa_cons (pv 2) pa_nil))) pa_nil))
        (pe_one (pe_cmpR (op_eqD hr.units) (pe_callB cr_sortedU (by rfl) T.mSo (by decide +kernel) (pa_cons (pv 0) pa_nil)) (pe_listRg rfl (by rfl) T.mL (prg_1 (by rfl) T.mR (pv 1))) (nomark _)))))), ?_⟩
    rcases row_cases h with ⟨q, rfl | ⟨a, xs, rfl, ea⟩ | ⟨a, xs, rfl, ea, hne⟩⟩ | ⟨a, l, res, rfl, ea, hl, hn, h1, h2, q⟩
    · exact ⟨_, rfl, .non, .ty "tuple", _, _, false, rfl, .ty _, .base .non, kit_ty (by decide +kernel), false, rfl, iteT (iteT (q H (fun _ _ e => e)))⟩
    · exact ⟨_, rfl, .ref a, .ty "tuple", _, _, false, rfl, .ty _, .base (.lst ea), kit_ty (by decide +kernel), false, rfl, iteT (iteT (q H (fun _ _ e => e)))⟩
    · refine ⟨_, rfl, .ref a, .ty "tuple", _, _, true, rfl, .ty _, .base (.tup ea), kit_ty (by decide +kernel), true, rfl, iteF ⟨_, rfl, a, xs, rfl, .inr (SqT.of ea), _, rfl, rfl, _, rfl, ?_⟩⟩
      refine if_dec (c' := true) ?_ (iteT (q H (fun _ _ e => e)))
      show (!decide (V.int (xs.length : Int) = V.int (n : Int))) = true
      rw [dec_nat, decide_eq_false hne]
      rfl
    · refine ⟨_, rfl, .ref a, .ty "tuple", _, _, true, rfl, .ty _, .base (.tup ea), kit_ty (by decide +kernel), true, rfl, iteF ⟨_, rfl, a, l.map ov, rfl, .inr (SqT.of ea), _, rfl, rfl, _, rfl, ?_⟩⟩
      refine if_dec (c' := false) ?_ (iteF ?_)
      · show (!decide (V.int ((l.map ov).length : Int) = V.int (n : Int))) = false
        rw [dec_nat, List.length_map, decide_eq_true hl]
        rfl
      refine ⟨_, rfl, a, rfl, ⟨_, SqT.of ea⟩, fun D nD => ?_⟩
      refine lc_tup (K := K) (a := a) (xs := l.map ov) (fun i H' => Same H H' ∧ H' D = some (.lst (((l.map Option.isSome).take i).map V.bl))) ⟨same_upd nD, upd_same⟩ (fun i H' _ hP => SqT.of (hP.1 _ _ ea)) (fun i x H1 hx hP => ?_) (fun H1 hP => ?_)
      · obtain ⟨s1, e1⟩ := hP
        obtain ⟨y, hy, rfl⟩ := ov_get hx
        have hz : (((l.map Option.isSome).take i).map V.bl).length < sizeLine := by
          rw [List.length_map, List.length_take, List.length_map]
          exact small1000 (by omega)
        have hb : (l.map Option.isSome)[i]? = some y.isSome := by rw [List.getElem?_map, hy]; rfl
        refine ⟨rfl, tYes_if ⟨_, rfl, ?_⟩⟩
        cases y with
        | none =>
          refine .inr ⟨rfl, _, e1, hz, s1.mut nD but_upd, ?_⟩
          rw [upd_same, take_map_snoc hb]
          rfl
        | some y =>
          refine .inl ⟨_, rfl, _, e1, hz, s1.mut nD but_upd, ?_⟩
          rw [upd_same, take_map_snoc hb]
          rfl
      · obtain ⟨s1, e1⟩ := hP
        rw [List.length_map, ← List.length_map (f := Option.isSome), List.take_length] at e1
        refine ⟨D, _, rfl, SqL.of e1, _, rfl, ?_⟩
        by_cases hno : none ∈ l
        · refine if_dec (c' := false) ?_ (iteF ?_)
          · cases e : (l.map Option.isSome).all id with
            | false => rfl
            | true =>
              have := List.all_eq_true.mp e false (List.mem_map.mpr ⟨none, hno, rfl⟩)
              cases this
          · have := h1 hno
            subst this
            exact q H1 s1
        · obtain ⟨l', rfl⟩ : ∃ l' : List Nat, l = l'.map some := all_some hno
          refine if_dec (c' := true) ?_ (iteT ?_)
          · rw [List.all_eq_true]
            intro b hb
            rw [List.map_map] at hb
            obtain ⟨y, _, rfl⟩ := List.mem_map.mp hb
            rfl
          rw [ov_some] at ea
          have ea1 := s1 _ _ ea
          refine ⟨_, rfl, a, l'.map ci, rfl, by rw [ints_nv]; exact SqT.of ea1, by rw [List.length_map] at hl ⊢; omega, fun ns p hp hs np => ?_⟩
          refine ⟨_, rfl, _, rfl, RgOk.of_le (by decide) (by omega) (by decide) (by omega), ?_⟩
          generalize h2' : upd H1 p _ = H2
          have s2 : Same H1 H2 := h2' ▸ same_upd np
          have e2 : H2 p = _ := h2' ▸ upd_same
          refine fun r nr => ?_
          generalize h3' : upd H2 r _ = H3
          have s3 : Same H2 H3 := h3' ▸ same_upd nr
          have e3 : H3 r = _ := h3' ▸ upd_same
          rw [rgV_nat, ← ints_nv] at e3
          refine ⟨.list (ns.map PyData.int), .list (((List.range n).map ci).map PyData.int), .lst (SqL.of (s3 _ _ e2)) (dp_ints _), .lst (SqL.of e3) (dp_ints _), shaped_listI _, shaped_listI _, ?_⟩
          have er : PyData.eqv (.list (ns.map PyData.int)) (.list (((List.range n).map ci).map PyData.int)) = res := by
            have e : PyData.eqv (.list (ns.map PyData.int)) (.list (((List.range n).map ci).map PyData.int)) = PyData.eqvAll (ns.map PyData.int) (((List.range n).map ci).map PyData.int) := by simp only [PyData.eqv]
            rw [e, eqv_ints]
            exact h2 l' rfl ns hp hs
          rw [er]
          exact q H3 ((s1.trans s2).trans s3)
end
end OFW

namespace OFW
open PySem PySem.Spec PyProof.Rows L2
section
variable {P : Program} {w : World} {K : PySem.W.Frag} {mg : Str → Option Value} {base : Heap}
variable {C fInt fMem fSet fHas fFol fSize fBel fLes fPrs : Addr} {dInt dMem dSet dHas dFol dSize dBel dLes dPrs : FuncData}
/-! ### count_linear -/
def RetN (x : Nat) (H : Hp) (Q : VK) : Prop := ∀ H', Same H H' → Q (nv x) H'
def spCount (C : Addr) : Sp := fun vs H Q _ => ∃ (o : Addr) (n : Nat) (al : List Nat), vs = [.ref o] ∧ OrdAt C o n al H ∧ OF.OrdOk n al ∧ n ≤ 10 ∧ RetN (OF.cnt (OF.rel al) n n 0) H Q
theorem scCount : FnScope ["order"] ["order"] (defScope sCount) := ⟨rfl, rfl, rfl, by decide +kernel, rfl, by decide +kernel, by decide +kernel⟩
theorem ok_count {f fW : Addr} {fd dW : FuncData} (F : Fun K "count_linear" "count_linear" sCount f fd) (T : Fns K mg C fInt fMem fSet fHas fFol fSize fBel fLes fPrs dInt dMem dSet dHas dFol dSize dBel dLes dPrs)
    (FW : Fun K "ways_on" "ways_on" sWays fW dW) (bW : Binds K dW ["order"] []) (gW : mg "ways_on" = some (.ref fW)) : FnOk P w K mg base CX0 4 f fd ["order"] (spCount C) := by
  have GW : FnOk P w K mg base CX0 3 fW dW ["order"] (spWays C) := ok_ways FW T
  refine F.ok scCount (fun vs H Q E h => ?_) (fun cdv A outer s H vs Q E hr h => ?_)
  · obtain ⟨o, n, al, rfl, _⟩ := h; rfl
  · obtain ⟨o, n, al, rfl, hO, hok, hn, q⟩ := h
    have hu := hu_of hr
    refine ⟨_, pss_one (ps_ret (pe_dget hu (pe_call GW hr (by rfl) gW FW.kp bW .nil pass0 (pa_cons (pv 0) pa_nil)) pe_int (fun _ _ => rfl))), ?_⟩
    refine ⟨_, rfl, o, n, al, rfl, hO, hok, hn, fun H1 W kvs s1 nW eW hW => ?_⟩
    have hv := hW 0 0 .zero
    refine ⟨W, nv (OF.cnt (OF.rel al) n n 0), rfl, ?_, q H1 s1⟩
    have := DGet.k (k := Sum.inl ((0 : Nat) : Int)) eW
    rw [hv] at this
    exact this
/-! ### is_linear -/
def spIsLin (C : Addr) : Sp := fun vs H Q _ => ∃ (o : Addr) (n : Nat) (al : List Nat) (v : V), vs = [.ref o, v] ∧ OrdAt C o n al H ∧ al.length = n ∧ ((BadRow n v H ∧ RetB false H Q) ∨ ∃ l, GoodRow n l v H ∧ RetB (OF.fits (OF.rel al) l) H Q)
theorem scIsLin : FnScope ["order", "row", "i", "j"] ["order", "row"] (defScope sIsLinear) := ⟨rfl, rfl, rfl, by decide +kernel, rfl, by decide +kernel, by decide +kernel⟩
/-- the first i places hold no pair, the i-th none with the first j -/
def FitTo (R : Nat → Nat → Bool) (l : List Nat) (i j : Nat) : Prop := (∀ i' j', i' < i → j' < i' → R (l.getD i' 0) (l.getD j' 0) = false) ∧ ∀ j', j' < j → R (l.getD i 0) (l.getD j' 0) = false
theorem FitTo.turn {R : Nat → Nat → Bool} {l : List Nat} {i : Nat} (h : FitTo R l i i) : FitTo R l (i + 1) 0 := ⟨fun i' j' h1 h2 => by
  by_cases e : i' < i
  · exact h.1 i' j' e h2
  · have : i' = i := by omega
    subst this
    exact h.2 j' h2, fun j' h => absurd h (Nat.not_lt_zero _)⟩
theorem FitTo.next {R : Nat → Nat → Bool} {l : List Nat} {i j : Nat} (h : FitTo R l i j) (e : R (l.getD i 0) (l.getD j 0) = false) : FitTo R l i (j + 1) := ⟨h.1, fun j' hj => by
  by_cases e2 : j' < j
  · exact h.2 j' e2
  · have : j' = j := by omega
    subst this
    exact e⟩
theorem FitTo.zero {R : Nat → Nat → Bool} {l : List Nat} : FitTo R l 0 0 := ⟨fun _ _ h => absurd h (Nat.not_lt_zero _), fun _ h => absurd h (Nat.not_lt_zero _)⟩
theorem FitTo.all {R : Nat → Nat → Bool} {l : List Nat} (h : FitTo R l l.length 0) : OF.fits R l = true := by
  unfold OF.fits
  rw [List.all_eq_true]
  intro i hi
  rw [List.all_eq_true]
  intro j hj
  rw [h.1 i j (List.mem_range.mp hi) (List.mem_range.mp hj)]
  rfl
theorem fits_not {R : Nat → Nat → Bool} {l : List Nat} {i j : Nat} (hi : i < l.length) (hj : j < i) (e : R (l.getD i 0) (l.getD j 0) = true) : OF.fits R l = false := by
  cases h : OF.fits R l with
  | false => rfl
  | true =>
    unfold OF.fits at h
    have h1 := List.all_eq_true.mp (List.all_eq_true.mp h i (List.mem_range.mpr hi)) j (List.mem_range.mpr hj)
    rw [e] at h1
    cases h1
theorem get_of {l : List Nat} {i : Nat} (h : i < l.length) : l[i]? = some (l.getD i 0) := by
  rw [List.getElem?_eq_getElem h]
  simp [h]
theorem ok_isLin {f fR : Addr} {fd dR : FuncData} (F : Fun K "is_linear" "is_linear" sIsLinear f fd) (T : Fns K mg C fInt fMem fSet fHas fFol fSize fBel fLes fPrs dInt dMem dSet dHas dFol dSize dBel dLes dPrs)
    (FR : Fun K "is_row" "is_row" sIsRow fR dR) (bR : Binds K dR ["value", "size"] []) (gR : mg "is_row" = some (.ref fR)) : FnOk P w K mg base CX0 3 f fd ["order", "row"] (spIsLin C) := by
  have GR : FnOk P w K mg base CX0 2 fR dR ["value", "size"] spIsRow := ok_isRow FR T
  have GSize : FnOk P w K mg base CX0 2 fSize dSize ["self"] (spSize C) := (ok_size T.FSize T.o).mono (by decide)
  have GLes : FnOk P w K mg base CX0 2 fLes dLes ["self", "x", "y"] (spLess C) := ok_less T.FLes T.o T.FHas T.bHas T.gHas
  refine F.ok scIsLin (fun vs H Q E h => ?_) (fun cdv A outer s H vs Q E hr h => ?_)
  · obtain ⟨o, n, al, v, rfl, _⟩ := h; rfl
  · obtain ⟨o, n, al, v, rfl, hO, hl, h⟩ := h
    refine ⟨_, pss_cons (ps_if (pt_not (pt_val (pe_call GR hr (by rfl) gR FR.kp bR .nil pass0 (pa_cons (pv 1) (pa_cons (pe_meth0 (pv 0) T.o.cl T.mSize GSize hr T.bSize .nil pass0) pa_nil))))) (pss_one (ps_ret pe_bl)) pss_nil)
      (pss_cons (ps_for PassesOwn.never rfl (pi_range1 (by rfl) T.mR (pa_cons (pe_callB call_len_seq (by rfl) T.mLen (by decide +kernel) (pa_cons (pv 1) pa_nil)) pa_nil)) (pg_name (i := 2) scIsLin.nd rfl (.inl rfl))
        (pss_one (ps_for PassesOwn.never rfl (pi_range1 (by rfl) T.mR (pa_cons (pv 2) pa_nil)) (pg_name (i := 3) scIsLin.nd rfl (.inl rfl))
          (pss_one (ps_if (pt_val (pe_meth (pv 0) T.o.cl T.mLes GLes hr T.bLes .nil pass0 (pa_cons (pe_ix ix_tup (pv 1) (pv 2) (fun _ _ => rfl)) (pa_cons (pe_ix ix_tup (pv 1) (pv 3) (fun _ _ => rfl)) pa_nil)))) (pss_one (ps_ret pe_bl)) pss_nil)))))
      (pss_one (ps_ret pe_bl))), ?_⟩
    refine ⟨_, rfl, ?_⟩
    refine r_size rfl hO ?_
    rcases h with ⟨hb, q⟩ | ⟨l, hg, q⟩
    · exact ⟨v, n, rfl, .inl ⟨hb, fun H1 s1 => ⟨_, rfl, iteT (q H1 s1)⟩⟩⟩
    · refine ⟨v, n, rfl, .inr ⟨l, hg, fun H1 s1 => ⟨_, rfl, iteF ?_⟩⟩⟩
      obtain ⟨a, rfl, ea, hp, hn⟩ := hg
      have hll : l.length = n := by rw [hp.length_eq, List.length_range]
      have hlt : ∀ x ∈ l, x < n := fun x hx => List.mem_range.mp (hp.mem_iff.mp hx)
      have hO1 := hO.same s1
      have ea1 := s1 _ _ ea
      refine ⟨_, rfl, a, _, rfl, .inr (SqT.of ea1), _, rfl, by rw [List.length_map]; omega, by rw [List.length_map]; omega, ?_⟩
      rw [List.length_map]
      refine for_range (lo := 0) (n := l.length) (fun i σ H' => ∃ v2 v3, σ = [some (.ref o), some (.ref a), v2, v3] ∧ H' = H1 ∧ FitTo (OF.rel al) l i 0) ⟨none, none, rfl, rfl, .zero⟩ (fun i σ H2 hi hP => ?_) (fun σ H2 hP => ?_)
      · obtain ⟨v2, v3, rfl, rfl, hF⟩ := hP
        rw [Int.zero_add]
        refine ⟨_, rfl, _, rfl, by omega, by omega, ?_⟩
        refine for_range (lo := 0) (n := i) (fun j σ H' => ∃ v3, σ = [some (.ref o), some (.ref a), some (nv i), v3] ∧ H' = H2 ∧ FitTo (OF.rel al) l i j) ⟨v3, rfl, rfl, hF⟩ (fun j σ H3 hj hP => ?_) (fun σ H3 hP => ?_)
        · obtain ⟨v3', rfl, rfl, hG⟩ := hP
          rw [Int.zero_add]
          have gi := get_of hi
          have gj := get_of (Nat.lt_trans hj hi)
          obtain ⟨dx, t, k1, k2⟩ := id hO1
          refine ⟨_, rfl, o, dx, _, rfl, k1, ofs_no _ _ no_less.1 no_less.2, _, rfl, _, rfl, a, _, _, _, rfl, rfl, SqT.of ea1, atI_nat (nvs_get gi), _, rfl, _, rfl, a, _, _, _, rfl, rfl, SqT.of ea1, atI_nat (nvs_get gj), ?_⟩
          refine ⟨o, n, al, _, _, rfl, hO1, hl, hlt _ (List.mem_of_getElem? gi), _, rfl, ?_⟩
          cases e : OF.rel al (l.getD i 0) (l.getD j 0) with
          | true =>
            have hz := fits_not hi hj e
            rw [hz] at q
            exact iteT (q H3 s1)
          | false => exact iteF ⟨some (nv j), rfl, rfl, hG.next e⟩
        · obtain ⟨v3', rfl, rfl, hG⟩ := hP
          exact ⟨_, _, rfl, rfl, hG.turn⟩
      · obtain ⟨v2, v3, rfl, rfl, hF⟩ := hP
        have hz := hF.all
        rw [hz] at q
        exact q H2 s1
end
end OFW

namespace OFW
open PySem PySem.Spec PyProof.Rows L2
/-! ### rows grow -/
theorem grow_len {f : List Nat → List (List Nat)} {n : Nat} (hf : ∀ r, (f r).length ≤ n) : ∀ l : List (List Nat), (l.flatMap f).length ≤ l.length * n
  | [] => by simp
  | r :: l => by
    have h1 := grow_len hf l
    have h2 := hf r
    rw [List.flatMap_cons, List.length_append, List.length_cons, Nat.add_mul, Nat.one_mul]
    omega
theorem pre_len {f : List Nat → List (List Nat)} {l : List (List Nat)} {i : Nat} {r : List Nat} (h : l[i]? = some r) : ((l.take i).flatMap f).length + (f r).length ≤ (l.flatMap f).length := by
  have e : l = l.take i ++ r :: l.drop (i + 1) := by
    obtain ⟨hi, rfl⟩ := List.getElem?_eq_some_iff.mp h
    rw [← List.drop_eq_getElem_cons hi, List.take_append_drop]
  have e2 : (l.flatMap f).length = ((l.take i ++ r :: l.drop (i + 1)).flatMap f).length := by rw [← e]
  rw [e2, List.flatMap_append, List.flatMap_cons, List.length_append, List.length_append]
  omega
theorem flat_take {f : List Nat → List (List Nat)} {l : List (List Nat)} {i : Nat} {r : List Nat} (h : l[i]? = some r) : (l.take (i + 1)).flatMap f = (l.take i).flatMap f ++ f r := by
  rw [List.take_add_one, h, List.flatMap_append]
  simp
/-- the rows that follow a row -/
def linF (al : List Nat) (n : Nat) (row : List Nat) : List (List Nat) := (OF.fol (OF.rel al) n (OF.setOf row)).map fun x => row ++ [x]
theorem linF_len (al : List Nat) (n : Nat) (row : List Nat) : (linF al n row).length ≤ n := by
  unfold linF
  rw [List.length_map]
  exact Nat.le_trans (List.length_filter_le _ _) (by rw [List.length_range]; exact Nat.le_refl _)
theorem lin_succ (al : List Nat) (n t : Nat) : OF.lin (OF.rel al) n (t + 1) = (OF.lin (OF.rel al) n t).flatMap (linF al n) := rfl
theorem lin_size (al : List Nat) (n : Nat) : ∀ t, (OF.lin (OF.rel al) n t).length ≤ n ^ t
  | 0 => Nat.le_refl _
  | t + 1 => by
    rw [lin_succ, Nat.pow_succ]
    exact Nat.le_trans (grow_len (linF_len al n) _) (Nat.mul_le_mul_right _ (lin_size al n t))
theorem pow5 {n t : Nat} (hn : n ≤ 5) (ht : t ≤ n) : n ^ t ≤ 3125 := by
  have h1 : n ^ t ≤ 5 ^ t := Nat.pow_le_pow_left hn t
  have h2 : 5 ^ t ≤ 5 ^ 5 := Nat.pow_le_pow_right (by decide) (by omega)
  exact Nat.le_trans h1 (Nat.le_trans h2 (by decide))
theorem line5000 {n : Nat} (h : n ≤ 5000) : n < sizeLine := Nat.lt_of_le_of_lt h (by decide)
def RetTn (rs : List (List Nat)) (H : Hp) (Q : VK) : Prop := RetTs (rs.map nvs) H Q
section
variable {P : Program} {w : World} {K : PySem.W.Frag} {mg : Str → Option Value} {base : Heap}
variable {C fInt fMem fSet fHas fFol fSize fBel fLes fPrs : Addr} {dInt dMem dSet dHas dFol dSize dBel dLes dPrs : FuncData}
/-- row + (x,) -/
theorem r_snoc {σ : L2.St} {H : Hp} {Q : VK} {i j : Nat} {a : Addr} {xs : List V} {v : V} (h1 : σ[i]? = some (some (.ref a))) (h2 : σ[j]? = some (some v)) (ea : H a = some (.tup xs)) (hz : xs.length ≤ 999)
    (k : ∀ H' p, Same H H' → H p = none → H' p = some (.tup (xs ++ [v])) → Q (.ref p) H') : tOp (rCatA K) (tVar i) (tTup (tCons (tVar j) tNil)) σ H Q := by
  refine ⟨_, h1, _, h2, by show 1 ≤ sizeLine; decide, fun p np => ?_⟩
  generalize h3 : upd H p _ = H2
  have s2 : Same H H2 := h3 ▸ same_upd np
  have e2 : H2 p = _ := h3 ▸ upd_same
  refine ⟨a, p, xs, [v], rfl, rfl, SqT.of (s2 _ _ ea), SqT.of e2, by show xs.length + 1 ≤ sizeLine; exact Nat.le_of_lt (small1000 (by omega)), fun e => ?_, (fun _ e => by cases e), fun _ _ r nr => ?_⟩
  · subst e
    exact k H2 p s2 np e2
  · generalize h4 : upd H2 r _ = H3
    have s3 : Same H2 H3 := h4 ▸ same_upd nr
    have e3 : H3 r = _ := h4 ▸ upd_same
    exact k H3 r (s2.trans s3) (s2.free nr) e3
/-! ### all_linear -/
def spAll (C : Addr) : Sp := fun vs H Q _ => ∃ (o : Addr) (n : Nat) (al : List Nat), vs = [.ref o] ∧ OrdAt C o n al H ∧ OF.OrdOk n al ∧ n ≤ 5 ∧ RetTn (OF.lin (OF.rel al) n n) H Q
theorem scAll : FnScope ["order", "total", "below", "whole", "found", "_", "longer", "row", "x"] ["order"] (defScope sAll) := ⟨rfl, rfl, rfl, by decide +kernel, rfl, by decide +kernel, by decide +kernel⟩
theorem ok_all {f fC fW : Addr} {fd dC dW : FuncData} (F : Fun K "all_linear" "all_linear" sAll f fd) (T : Fns K mg C fInt fMem fSet fHas fFol fSize fBel fLes fPrs dInt dMem dSet dHas dFol dSize dBel dLes dPrs)
    (FC : Fun K "count_linear" "count_linear" sCount fC dC) (bC : Binds K dC ["order"] []) (gC : mg "count_linear" = some (.ref fC))
    (FW : Fun K "ways_on" "ways_on" sWays fW dW) (bW : Binds K dW ["order"] []) (gW : mg "ways_on" = some (.ref fW)) : FnOk P w K mg base CX0 5 f fd ["order"] (spAll C) := by
  have GC : FnOk P w K mg base CX0 4 fC dC ["order"] (spCount C) := ok_count FC T FW bW gW
  have GSize : FnOk P w K mg base CX0 4 fSize dSize ["self"] (spSize C) := (ok_size T.FSize T.o).mono (by decide)
  have GBel : FnOk P w K mg base CX0 4 fBel dBel ["self"] (spBelow C) := (ok_below T.FBel T.o T.mT T.mR T.FHas T.bHas T.gHas T.FSet T.bSet T.gSet).mono (by decide)
  have GSet : FnOk P w K mg base CX0 4 fSet dSet ["points"] (spSetOf K) := (ok_setOf T.FSet).mono (by decide)
  have GFol : FnOk P w K mg base CX0 4 fFol dFol ["below", "whole", "front"] (spFol K) := (ok_fol T.FFol T.mT T.mR T.FMem T.bMem T.gMem).mono (by decide)
  refine F.ok scAll (fun vs H Q E h => ?_) (fun cdv A outer s H vs Q E hr h => ?_)
  · obtain ⟨o, n, al, rfl, _⟩ := h; rfl
  · obtain ⟨o, n, al, rfl, hO, hok, hn, q⟩ := h
    refine ⟨_, pss_cons (ps_set (i := 1) scAll.nd rfl (.inl rfl) (pe_call GC hr (by rfl) gC FC.kp bC .nil pass0 (pa_cons (pv 0) pa_nil)))
      (pss_cons (ps_if (pt_cmpR op_gt (pv 1) pe_int (nomark _)) pss_never pss_nil)
      (pss_cons (ps_set (i := 2) scAll.nd rfl (.inl rfl) (pe_meth0 (pv 0) T.o.cl T.mBel GBel hr T.bBel .nil pass0))
      (pss_cons (ps_set (i := 3) scAll.nd rfl (.inl rfl) (pe_call GSet hr (by rfl) T.gSet T.FSet.kp T.bSet .nil pass0 (pa_cons (pe_listRg rfl (by rfl) T.mL (prg_1 (by rfl) T.mR (pe_meth0 (pv 0) T.o.cl T.mSize GSize hr T.bSize .nil pass0))) pa_nil)))
      (pss_cons (ps_set (i := 4) scAll.nd rfl (.inl rfl) (pe_lst (pa_cons (pe_tup pa_nil) pa_nil)))
      (pss_cons (ps_for PassesOwn.never rfl (pi_range1 (by rfl) T.mR (pa_cons (pe_meth0 (pv 0) T.o.cl T.mSize GSize hr T.bSize .nil pass0) pa_nil)) (pg_name (i := 5) scAll.nd rfl (.inl rfl))
        (pss_cons (ps_set (i := 6) scAll.nd rfl (.inl rfl) (pe_lst pa_nil))
        (pss_cons (ps_for PassesOwn.never rfl (pi_list (pe_callTy call_list_of (by rfl) T.mL (by decide +kernel) (pa_cons (pv 4) pa_nil))) (pg_name (i := 7) scAll.nd rfl (.inl rfl))
          (pss_one (ps_for PassesOwn.never rfl (pi_list (pe_call GFol hr (by rfl) T.gFol T.FFol.kp T.bFol .nil pass0 (pa_cons (pv 2) (pa_cons (pv 3) (pa_cons (pe_call GSet hr (by rfl) T.gSet T.FSet.kp T.bSet .nil pass0 (pa_cons (pv 7) pa_nil)) pa_nil))))) (pg_name (i := 8) scAll.nd rfl (.inl rfl))
            (pss_one (ps_expr (pe_bm PySem.F.plainAttrs_list PySem.F.slot_list_append PySem.F.type_list_append mt_append (pv 6) (pa_cons (pe_op op_catA (pv 7) (pe_tup (pa_cons (pv 8) pa_nil))) pa_nil)))))))
        (pss_one (ps_set (i := 4) scAll.nd rfl (.inl rfl) (pv 6))))))
      (pss_one (ps_ret (pe_tupleOf (by rfl) T.mT (pv 4))))))))), ?_⟩
    refine ⟨_, rfl, o, n, al, rfl, hO, hok, by omega, fun H0 s0 => ?_⟩
    have hO0 := hO.same s0
    refine ⟨_, rfl, _, _, rfl, rfl, _, rfl, ?_⟩
    refine if_dec (c' := false) ?_ (iteF ?_)
    · refine decide_eq_false ?_
      have h1 := OF.cnt_le (R := OF.rel al) (n := n) n 0
      have h2 := pow5 hn (Nat.le_refl n)
      omega
    refine r_below rfl hO0 hok.len (by omega) fun H1 b s1 eb => ?_
    refine r_whole rfl (hO0.same s1) (by omega) fun H2 s2 => ?_
    have eb2 := s2 _ _ eb
    have hO2 := (hO0.same s1).same s2
    refine ⟨Nat.zero_le _, fun e np => ?_⟩
    generalize h3 : upd H2 e _ = H3
    have s3 : Same H2 H3 := h3 ▸ same_upd np
    have ee3 : H3 e = _ := h3 ▸ upd_same
    refine ⟨by show 1 ≤ sizeLine; decide, fun L nL => ?_⟩
    generalize h4 : upd H3 L _ = H4
    have s4 : Same H3 H4 := h4 ▸ same_upd nL
    have eL : H4 L = _ := h4 ▸ upd_same
    have s04 : Same H H4 := (((s0.trans s1).trans s2).trans s3).trans s4
    have eb4 := s4 _ _ (s3 _ _ eb2)
    refine r_size rfl ((hO2.same s3).same s4) ⟨_, rfl, by omega, by omega, ?_⟩
    refine for_range (lo := 0) (n := n) (fun t σ H' => ∃ L v5 v6 v7 v8 as, σ = [some (.ref o), some (nv (OF.cnt (OF.rel al) n n 0)), some (.ref b), some (nv (wh n)), some (.ref L), v5, v6, v7, v8] ∧ Same H4 H' ∧ H' L = some (.lst (refs as)) ∧ TupsAt H' as ((OF.lin (OF.rel al) n t).map nvs))
      ⟨L, none, none, none, none, [e], rfl, fun _ _ e => e, eL, .cons (s4 _ _ ee3) .nil⟩ (fun t σ H5 ht hP => ?_) (fun σ H5 hP => ?_)
    · obtain ⟨L', v5, v6, v7, v8, as, rfl, s5, eL5, hT⟩ := hP
      rw [Int.zero_add]
      have hsz := lin_size al n t
      have hsz5 := pow5 hn (Nat.le_of_lt ht)
      have hsz' := lin_size al n (t + 1)
      have hsz5' := pow5 hn (show t + 1 ≤ n from ht)
      rw [lin_succ] at hsz'
      refine ⟨Nat.zero_le _, fun D nD => ?_⟩
      generalize h6 : upd H5 D _ = H6
      have s6 : Same H5 H6 := h6 ▸ same_upd nD
      have eD : H6 D = _ := h6 ▸ upd_same
      refine ⟨_, rfl, L', _, rfl, .inl (SqL.of (s6 _ _ eL5)), fun c nc => ?_⟩
      generalize h7 : upd H6 c _ = H7
      have s7 : Same H6 H7 := h7 ▸ same_upd nc
      have ec : H7 c = _ := h7 ▸ upd_same
      have hA7 : Acc H5 H7 D [] [] := ⟨s6.trans s7, nD, s7 _ _ eD, .nil⟩
      have ncD : c ≠ D := fun z => by rw [z, eD] at nc; cases nc
      refine ⟨c, rfl, ⟨_, SqL.of ec⟩, for_list (K := K) (a := c) (xs := refs as) (fun i σ H' => ∃ v7 v8 bs, σ = [some (.ref o), some (nv (OF.cnt (OF.rel al) n n 0)), some (.ref b), some (nv (wh n)), some (.ref L'), some (nv t), some (.ref D), v7, v8] ∧ H' c = some (.lst (refs as)) ∧ Acc H5 H' D bs ((((OF.lin (OF.rel al) n t).take i).flatMap (linF al n)).map nvs))
        ⟨v7, v8, [], rfl, ec, hA7⟩ (fun i σ H' _ ⟨_, _, _, _, e, _⟩ => SqL.of e) ?_ ?_⟩
      · rintro i x σ H8 hx ⟨v7', v8', bs, rfl, ec8, hA⟩
        obtain ⟨ra, hra, rfl⟩ := refs_get hx
        obtain ⟨rv, hrv, era⟩ := (hT.same hA.same).getA hra
        rw [List.getElem?_map] at hrv
        obtain ⟨row, hrow, rfl⟩ := Option.map_eq_some_iff.mp hrv
        have hmem := List.mem_of_getElem? hrow
        have hrl := OF.lin_len hmem
        have hrb := (OF.row_rch hmem)
        have hpl := pre_len (f := linF al n) hrow
        have hlin := Nat.le_trans hpl hsz'
        refine ⟨_, rfl, _, rfl, _, rfl, ra, row, rfl, fun x hx => ?_, .inr (SqT.of era), ?_⟩
        · have hb2 := hrb.bits x (by rw [OF.testBit_setOf]; exact decide_eq_true hx)
          omega
        refine ⟨b, n, al, OF.setOf row, rfl, by omega, SqT.of (hA.same _ _ (s5 _ _ eb4)), fun H9 tp s9 ntp etp => ?_⟩
        have ntD : tp ≠ D := fun z => by rw [z, hA.at_] at ntp; cases ntp
        have ntc : tp ≠ c := fun z => by rw [z, ec8] at ntp; cases ntp
        refine ⟨tp, rfl, ⟨_, SqL.of etp⟩, for_list (K := K) (a := tp) (xs := nvs (OF.fol (OF.rel al) n (OF.setOf row))) (fun j σ H' => ∃ v8 bs, σ = [some (.ref o), some (nv (OF.cnt (OF.rel al) n n 0)), some (.ref b), some (nv (wh n)), some (.ref L'), some (nv t), some (.ref D), some (.ref ra), v8] ∧ H' c = some (.lst (refs as)) ∧ H' tp = some (.lst (nvs (OF.fol (OF.rel al) n (OF.setOf row)))) ∧
          Acc H5 H' D bs ((((OF.lin (OF.rel al) n t).take i).flatMap (linF al n)).map nvs ++ ((OF.fol (OF.rel al) n (OF.setOf row)).take j).map fun x => nvs (row ++ [x]))) ⟨v8', bs, rfl, s9 _ _ ec8, etp, ?_⟩ (fun j σ H' _ ⟨_, _, _, _, e, _⟩ => SqL.of e) ?_ ?_⟩
        · rw [List.take_zero, List.map_nil, List.append_nil]
          exact ⟨hA.same.trans s9, hA.free, s9 _ _ hA.at_, hA.tups.same s9⟩
        · rintro j x σ H10 hx ⟨v8'', bs', rfl, ec10, et10, hB⟩
          rw [List.getElem?_map] at hx
          obtain ⟨y, hy, rfl⟩ := Option.map_eq_some_iff.mp hx
          obtain ⟨rv2, hrv2, era2⟩ := (hT.same hB.same).getA hra
          rw [List.getElem?_map, hrow] at hrv2
          obtain rfl : nvs row = rv2 := Option.some.inj hrv2
          have hbl := hB.tups.len
          rw [List.length_append, List.length_map, List.length_map] at hbl
          have htk : ((OF.fol (OF.rel al) n (OF.setOf row)).take j).length ≤ (linF al n row).length := by
            unfold linF
            rw [List.length_map]
            exact List.length_take_le' _ _
          refine ⟨_, rfl, .inl ⟨rfl, _, SqL.of hB.at_⟩, ?_⟩
          refine r_snoc (i := 7) (j := 8) rfl rfl era2 (by rw [List.length_map]; omega) fun H11 p s11 np ep => ?_
          refine ⟨D, _, _, rfl, rfl, s11 _ _ hB.at_, by rw [refs_len]; exact line5000 (by omega), change fun H12 b12 e12 => ?_⟩
          have hAcc := hB.push s11 np ep b12 e12
          have t10 : tp ≠ D := ntD
          refine ⟨_, bs' ++ [p], rfl, b12 _ _ ncD (s11 _ _ ec10), b12 _ _ ntD (s11 _ _ et10), ?_⟩
          rw [take_map_snoc hy, ← List.append_assoc, nvs_snoc]
          exact hAcc
        · rintro σ H10 ⟨v8'', bs', rfl, ec10, et10, hB⟩
          refine ⟨_, _, bs', rfl, ec10, ?_⟩
          rw [List.length_map, List.take_length] at hB
          rw [flat_take hrow, List.map_append]
          show Acc H5 H10 D bs' (_ ++ (((OF.fol (OF.rel al) n (OF.setOf row)).map fun x => row ++ [x]).map nvs))
          rw [List.map_map]
          exact hB
      · rintro σ H8 ⟨v7', v8', bs, rfl, ec8, hA⟩
        have hl0 := hT.len
        rw [List.length_map] at hl0
        rw [refs_len, hl0, List.take_length] at hA
        refine ⟨_, rfl, D, _, _, _, _, bs, rfl, s5.trans hA.same, hA.at_, hA.tups⟩
    · obtain ⟨L', v5, v6, v7, v8, as, rfl, s5, eL5, hT⟩ := hP
      refine ⟨_, rfl, .inl ⟨L', _, rfl, SqL.of eL5, fun p np => ?_⟩⟩
      generalize h6 : upd H5 p _ = H6
      have s6 : Same H5 H6 := h6 ▸ same_upd np
      have ep : H6 p = _ := h6 ▸ upd_same
      exact q H6 p as ((s04.trans s5).trans s6) ((s04.trans s5).free np) ep (hT.same s6)
end
end OFW

namespace OFW
open PySem PySem.Spec PyProof.Rows L2
/-! ### linear_at -/
/-- what is left of the completions when some first points are passed over -/
def tails (al : List Nat) (n k F : Nat) (xs : List Nat) : List (List Nat) := xs.flatMap fun x => (OF.ext (OF.rel al) n k (F ||| 2 ^ x)).map (x :: ·)
theorem tails_hit {al : List Nat} {n k F x j : Nat} {xs : List Nat} {s : List Nat} (h : (tails al n k F (x :: xs))[j]? = some s) (hj : j < OF.cnt (OF.rel al) n k (F ||| 2 ^ x)) : ∃ s', (OF.ext (OF.rel al) n k (F ||| 2 ^ x))[j]? = some s' ∧ s = x :: s' := by
  unfold tails at h
  rw [List.flatMap_cons, List.getElem?_append_left (by rw [List.length_map, OF.cnt_ext]; exact hj), List.getElem?_map] at h
  obtain ⟨s', h1, h2⟩ := Option.map_eq_some_iff.mp h
  exact ⟨s', h1, h2.symm⟩
theorem tails_miss {al : List Nat} {n k F x j : Nat} {xs : List Nat} {s : List Nat} (h : (tails al n k F (x :: xs))[j]? = some s) (hj : ¬ j < OF.cnt (OF.rel al) n k (F ||| 2 ^ x)) : (tails al n k F xs)[j - OF.cnt (OF.rel al) n k (F ||| 2 ^ x)]? = some s := by
  unfold tails at h
  rw [List.flatMap_cons, List.getElem?_append_right (by rw [List.length_map, OF.cnt_ext]; omega), List.length_map, OF.cnt_ext] at h
  exact h
/-- a row under way -/
structure Under (al : List Nat) (n : Nat) (r pre : List Nat) (F k : Nat) : Prop where
  rch : OF.Rch (OF.rel al) n pre.length F
  left : ∃ s, (OF.ext (OF.rel al) n (n - pre.length) F)[k]? = some s ∧ pre ++ s = r
theorem Under.done {al : List Nat} {n F k : Nat} {r pre : List Nat} (h : Under al n r pre F k) (hn : pre.length = n) : pre = r := by
  obtain ⟨s, h1, h2⟩ := h.left
  rw [hn, Nat.sub_self] at h1
  have e : s = [] := by
    cases k with
    | zero => exact (Option.some.inj h1).symm
    | succ k => cases h1
  rw [e, List.append_nil] at h2
  exact h2
theorem Under.go {al : List Nat} {n F k : Nat} {r pre : List Nat} (h : Under al n r pre F k) (hn : pre.length < n) : ∃ s, (tails al n (n - (pre.length + 1)) F ((OF.fol (OF.rel al) n F).drop 0))[k]? = some s ∧ pre ++ s = r := by
  obtain ⟨s, h1, h2⟩ := h.left
  have e : n - pre.length = (n - (pre.length + 1)) + 1 := by omega
  rw [e] at h1
  exact ⟨s, h1, h2⟩
theorem fol_small {al : List Nat} {n F x : Nat} (hn : n ≤ 10) (h : x ∈ OF.fol (OF.rel al) n F) : x ≤ 1000 := by
  have := fol_lt h
  omega
section
variable {P : Program} {w : World} {K : PySem.W.Frag} {mg : Str → Option Value} {base : Heap}
variable {C fInt fMem fSet fHas fFol fSize fBel fLes fPrs : Addr} {dInt dMem dSet dHas dFol dSize dBel dLes dPrs : FuncData}
/-- ways[front | 1 << x] -/
theorem r_ways {σ : L2.St} {H : Hp} {Q : VK} {i j l F x n t : Nat} {W : Addr} {al : List Nat} {kvs : List (Key × V)} (h1 : σ[i]? = some (some (.ref W))) (h2 : σ[j]? = some (some (nv F))) (h3 : σ[l]? = some (some (nv x))) (hn : n ≤ 10) (eW : H W = some (.dK kvs)) (hW : WaysOk al n kvs)
    (hF : OF.Rch (OF.rel al) n t F) (hx : x ∈ OF.fol (OF.rel al) n F) (k : Q (nv (OF.cnt (OF.rel al) n (n - (t + 1)) (F ||| 2 ^ x))) H) :
    tDGet (tVar i) (tOp (rI0 fun i j => V.int (Builtin.bitOr i j)) (tVar j) (tOp (rI CPow fun i j => V.int (i * 2 ^ j.toNat)) (tC (V.int 1)) (tVar l))) σ H Q := by
  have hv := hW (t + 1) (F ||| 2 ^ x) (.step hF hx)
  refine ⟨_, h1, ?_⟩
  refine r_or h2 h3 (fol_small hn hx) ⟨W, nv (OF.cnt (OF.rel al) n (n - (t + 1)) (F ||| 2 ^ x)), rfl, ?_, k⟩
  rw [← hv]
  exact DGet.k (k := Sum.inl ((F ||| 2 ^ x : Nat) : Int)) eW
/-- between two turns of the loop -/
def LinW (o W b : Addr) (al : List Nat) (n : Nat) (r : List Nat) (H H1 : Hp) (m : Nat) (σ : L2.St) (H' : Hp) : Prop :=
  ∃ (pre : List Nat) (F k : Nat) (rp : Addr) (v7 v8 : Option V), m = n - pre.length ∧ pre.length ≤ n ∧ σ = [some (.ref o), some (nv k), some (.ref W), some (.ref b), some (nv (wh n)), some (.ref rp), some (nv F), v7, v8] ∧ Same H1 H' ∧ H rp = none ∧ H' rp = some (.tup (nvs pre)) ∧ Under al n r pre F k
def spLinAt (C CR : Addr) : Sp := fun vs H Q E => ∃ (o : Addr) (n : Nat) (al : List Nat) (k : Int), vs = [.ref o, .int k] ∧ OrdAt C o n al H ∧ OF.OrdOk n al ∧ n ≤ 10 ∧
  ((k < 0 ∨ ((OF.cnt (OF.rel al) n n 0 : Nat) : Int) ≤ k) → ∀ H' d, Same H H' → H' d = none → E (.ref CR) (some d) (upd H' d (.xd [(("reason" : Str), .str "rank")]))) ∧
  (∀ j : Nat, k = (j : Int) → ∀ r, (OF.ext (OF.rel al) n n 0)[j]? = some r → RetT (nvs r) H Q)
theorem scLinAt : FnScope ["order", "k", "ways", "below", "whole", "row", "front", "x", "share"] ["order", "k"] (defScope sLinAt) := ⟨rfl, rfl, rfl, by decide +kernel, rfl, by decide +kernel, by decide +kernel⟩
theorem ok_linAt {f fW CR fI cc cda : Addr} {fd dW : FuncData} (F : Fun K "linear_at" "linear_at" sLinAt f fd) (T : Fns K mg C fInt fMem fSet fHas fFol fSize fBel fLes fPrs dInt dMem dSet dHas dFol dSize dBel dLes dPrs) (TR : OFR.RefTxt P K mg CR fI cc cda)
    (FW : Fun K "ways_on" "ways_on" sWays fW dW) (bW : Binds K dW ["order"] []) (gW : mg "ways_on" = some (.ref fW)) : FnOk P w K mg base (L2.CX P w) 5 f fd ["order", "k"] (spLinAt C CR) := by
  have GI : FnOk P w K mg base CX0 4 fInt dInt ["value"] spInt := (ok_int T.FInt T.mI T.mi T.mB).mono (by decide)
  have GW : FnOk P w K mg base CX0 4 fW dW ["order"] (spWays C) := (ok_ways FW T).mono (by decide)
  have GSize : FnOk P w K mg base CX0 4 fSize dSize ["self"] (spSize C) := (ok_size T.FSize T.o).mono (by decide)
  have GBel : FnOk P w K mg base CX0 4 fBel dBel ["self"] (spBelow C) := (ok_below T.FBel T.o T.mT T.mR T.FHas T.bHas T.gHas T.FSet T.bSet T.gSet).mono (by decide)
  have GSet : FnOk P w K mg base CX0 4 fSet dSet ["points"] (spSetOf K) := (ok_setOf T.FSet).mono (by decide)
  have GFol : FnOk P w K mg base CX0 4 fFol dFol ["below", "whole", "front"] (spFol K) := (ok_fol T.FFol T.mT T.mR T.FMem T.bMem T.gMem).mono (by decide)
  refine F.okX scLinAt (fun vs H Q E h => ?_) (fun cdv A outer s H vs Q E hr h => ?_)
  · obtain ⟨o, n, al, k, rfl, _⟩ := h; rfl
  · obtain ⟨o, n, al, k, rfl, hO, hok, hn, qE, q⟩ := h
    have hu := hu_of hr
    refine ⟨_, pss_cons (ps_set (i := 2) scLinAt.nd rfl (.inl rfl) (pe_call GW hr (by rfl) gW FW.kp bW .nil pass0 (pa_cons (pv 0) pa_nil)))
      (pss_cons (ps_if (PW.pt (pw_or (pt_not (pt_val (pe_call GI hr (by rfl) T.gInt T.FInt.kp T.bInt .nil pass0 (pa_cons (pv 1) pa_nil)))) (pw_or (pt_cmpR op_lt (pv 1) pe_int (nomark _)) (pw_or1 (pt_cmpR op_ge (pv 1) (pe_dget hu (pv 2) pe_int (fun _ _ => rfl)) (by rfl))))))
        (pss_one (OFR.ps_raiseRef rfl TR hr (by decide) (takes_of rfl rfl rfl rfl))) pss_nil)
      (pss_cons (ps_set (i := 3) scLinAt.nd rfl (.inl rfl) (pe_meth0 (pv 0) T.o.cl T.mBel GBel hr T.bBel .nil pass0))
      (pss_cons (ps_set (i := 4) scLinAt.nd rfl (.inl rfl) (pe_call GSet hr (by rfl) T.gSet T.FSet.kp T.bSet .nil pass0 (pa_cons (pe_listRg rfl (by rfl) T.mL (prg_1 (by rfl) T.mR (pe_meth0 (pv 0) T.o.cl T.mSize GSize hr T.bSize .nil pass0))) pa_nil)))
      (pss_cons (ps_set (i := 5) scLinAt.nd rfl (.inl rfl) (pe_tup pa_nil))
      (pss_cons (ps_set (i := 6) scLinAt.nd rfl (.inl rfl) pe_int)
      (pss_cons (ps_while PassesOwn.leaving (pt_cmpR op_lt (pe_callB call_len_seq (by rfl) T.mLen (by decide +kernel) (pa_cons (pv 5) pa_nil)) (pe_meth0 (pv 0) T.o.cl T.mSize GSize hr T.bSize .nil pass0) (by rfl))
        (pss_one (ps_for PassesOwn.leaving rfl (pi_list (pe_call GFol hr (by rfl) T.gFol T.FFol.kp T.bFol .nil pass0 (pa_cons (pv 3) (pa_cons (pv 4) (pa_cons (pv 6) pa_nil))))) (pg_name (i := 7) scLinAt.nd rfl (.inl rfl))
          (pss_cons (ps_set (i := 8) scLinAt.nd rfl (.inl rfl) (pe_dget hu (pv 2) (pe_op op_or (pv 6) (pe_op op_shl pe_int (pv 7))) (fun _ _ => rfl)))
          (pss_cons (ps_if (pt_cmpR op_lt (pv 1) (pv 8) (nomark _))
            (pss_cons (ps_set (i := 5) scLinAt.nd rfl (.inl rfl) (pe_op op_catA (pv 5) (pe_tup (pa_cons (pv 7) pa_nil))))
            (pss_cons (ps_set (i := 6) scLinAt.nd rfl (.inl rfl) (pe_op op_or (pv 6) (pe_op op_shl pe_int (pv 7))))
            (pss_one ps_break))) pss_nil)
          (pss_one (ps_set (i := 1) scLinAt.nd rfl (.inl rfl) (pe_op op_sub (pv 1) (pv 8)))))))))
      (pss_one (ps_ret (pv 5))))))))), ?_⟩
    refine ⟨_, rfl, o, n, al, rfl, hO, hok, hn, fun H1 W kvs s1 nW eW hW => ?_⟩
    refine ⟨_, rfl, .inl ⟨k, rfl, _, rfl, iteF ?_⟩⟩
    refine ⟨_, rfl, _, _, rfl, rfl, _, rfl, ?_⟩
    by_cases hk0 : k < 0
    · exact if_dec (decide_eq_true hk0) (iteT (iteT fun d nd => qE (.inl hk0) _ d s1 nd))
    refine if_dec (decide_eq_false hk0) (iteF ?_)
    have hv := hW 0 0 .zero
    rw [Nat.sub_zero] at hv
    refine ⟨_, rfl, _, rfl, W, nv (OF.cnt (OF.rel al) n n 0), rfl, ?_, _, _, rfl, rfl, _, rfl, ?_⟩
    · have := DGet.k (k := Sum.inl ((0 : Nat) : Int)) eW
      rw [hv] at this
      exact this
    by_cases hk1 : ((OF.cnt (OF.rel al) n n 0 : Nat) : Int) ≤ k
    · exact if_dec (decide_eq_true hk1) (iteT fun d nd => qE (.inr hk1) _ d s1 nd)
    refine if_dec (decide_eq_false hk1) (iteF ?_)
    obtain ⟨j, rfl⟩ : ∃ j : Nat, k = (j : Int) := ⟨k.toNat, by omega⟩
    have hj : j < (OF.ext (OF.rel al) n n 0).length := by rw [OF.cnt_ext]; omega
    obtain ⟨r, hr0⟩ : ∃ r, (OF.ext (OF.rel al) n n 0)[j]? = some r := ⟨_, List.getElem?_eq_getElem hj⟩
    have qr := q j rfl r hr0
    have hO1 := hO.same s1
    refine r_below rfl hO1 hok.len hn fun H2 b s2 eb => ?_
    refine r_whole rfl (hO1.same s2) hn fun H3 s3 => ?_
    have eb3 := s3 _ _ eb
    have eW3 := s3 _ _ (s2 _ _ eW)
    have s03 := (s1.trans s2).trans s3
    refine ⟨Nat.zero_le _, fun e ne => ?_⟩
    generalize h4 : upd H3 e _ = H4
    have s4 : Same H3 H4 := h4 ▸ same_upd ne
    have ee : H4 e = _ := h4 ▸ upd_same
    refine ⟨LinW o W b al n r H H4, ⟨n - 0, [], 0, j, e, none, none, rfl, Nat.zero_le _, rfl, fun _ _ z => z, s03.free ne, ee, ⟨.zero, r, hr0, rfl⟩⟩, ?_⟩
    rintro m σ H5 ⟨pre, F, k, rp, v7, v8, rfl, hpl, rfl, s5, nrp, erp, hU⟩
    have hO5 := hO.same ((s03.trans s4).trans s5)
    refine ⟨_, rfl, rp, _, rfl, .inr (SqT.of erp), ?_⟩
    refine r_size rfl hO5 ⟨_, _, rfl, rfl, _, rfl, ?_⟩
    rw [List.length_map]
    by_cases hlt : pre.length < n
    · refine if_dec (decide_eq_true (by omega)) (iteT ?_)
      refine ⟨fun σ' H' => ∃ m', m' < n - pre.length ∧ LinW o W b al n r H H4 m' σ' H', fun _ _ z => z, ?_⟩
      refine r_fol (b := b) (F := F) (n := n) (al := al) rfl rfl rfl hn (s5 _ _ (s4 _ _ eb3)) fun H6 tp s6 ntp etp => ?_
      obtain ⟨s0, hs0, es0⟩ := hU.go hlt
      have eW6 := s6 _ _ (s5 _ _ (s4 _ _ eW3))
      refine ⟨tp, rfl, ⟨_, SqL.of etp⟩, for_list (K := K) (a := tp) (xs := nvs (OF.fol (OF.rel al) n F)) (fun i σ H' => ∃ k' v7 v8, σ = [some (.ref o), some (nv k'), some (.ref W), some (.ref b), some (nv (wh n)), some (.ref rp), some (nv F), v7, v8] ∧ H' = H6 ∧
          ∃ s, (tails al n (n - (pre.length + 1)) F ((OF.fol (OF.rel al) n F).drop i))[k']? = some s ∧ pre ++ s = r)
        ⟨k, v7, v8, rfl, rfl, s0, hs0, es0⟩ (fun i σ H' _ ⟨_, _, _, _, e, _⟩ => by rw [e]; exact SqL.of etp) ?_ ?_⟩
      · rintro i x σ H' hx ⟨k', v7', v8', rfl, rfl, s, hs, es⟩
        rw [List.getElem?_map] at hx
        obtain ⟨y, hy, rfl⟩ := Option.map_eq_some_iff.mp hx
        have hyf : y ∈ OF.fol (OF.rel al) n F := List.mem_of_getElem? hy
        have hdrop : (OF.fol (OF.rel al) n F).drop i = y :: (OF.fol (OF.rel al) n F).drop (i + 1) := by
          obtain ⟨hi, e⟩ := List.getElem?_eq_some_iff.mp hy
          rw [List.drop_eq_getElem_cons hi, e]
        rw [hdrop] at hs
        refine r_ways (i := 2) (j := 6) (l := 7) (W := W) (F := F) (x := y) (n := n) (t := pre.length) (al := al) rfl rfl rfl hn eW6 hW hU.rch hyf ?_
        refine ⟨_, rfl, _, rfl, _, _, rfl, rfl, _, rfl, ?_⟩
        by_cases hk : k' < OF.cnt (OF.rel al) n (n - (pre.length + 1)) (F ||| 2 ^ y)
        · refine if_dec (decide_eq_true (by omega)) (iteT ?_)
          obtain ⟨s', hs', rfl⟩ := tails_hit hs hk
          refine r_snoc (i := 5) (j := 7) rfl rfl (s6 _ _ erp) (by rw [List.length_map]; omega) fun H7 p s7 np ep => ?_
          refine r_or (i := 6) (j := 7) (F := F) (x := y) rfl rfl (fol_small hn hyf) ?_
          refine ⟨n - (pre ++ [y]).length, ?_, pre ++ [y], F ||| 2 ^ y, k', p, some (nv y), some (nv (OF.cnt (OF.rel al) n (n - (pre.length + 1)) (F ||| 2 ^ y))), rfl, ?_, rfl, (s5.trans s6).trans s7, (((s03.trans s4).trans s5).trans s6).free np, by rw [nvs_snoc]; exact ep, ?_⟩
          · rw [List.length_append]
            show n - (pre.length + 1) < n - pre.length
            omega
          · rw [List.length_append]
            show pre.length + 1 ≤ n
            omega
          · have el : (pre ++ [y]).length = pre.length + 1 := by rw [List.length_append]; rfl
            refine ⟨by rw [el]; exact .step hU.rch hyf, s', by rw [el]; exact hs', ?_⟩
            rw [List.append_assoc]
            exact es
        · refine if_dec (decide_eq_false (by omega)) (iteF ?_)
          refine ⟨_, rfl, _, rfl, _, _, rfl, rfl, ?_⟩
          refine ⟨k' - OF.cnt (OF.rel al) n (n - (pre.length + 1)) (F ||| 2 ^ y), some (nv y), some (nv (OF.cnt (OF.rel al) n (n - (pre.length + 1)) (F ||| 2 ^ y))), ?_, rfl, s, tails_miss hs hk, es⟩
          have e : ((k' : Nat) : Int) - ((OF.cnt (OF.rel al) n (n - (pre.length + 1)) (F ||| 2 ^ y) : Nat) : Int) = ((k' - OF.cnt (OF.rel al) n (n - (pre.length + 1)) (F ||| 2 ^ y) : Nat) : Int) := by omega
          show [_, some (V.int (((k' : Nat) : Int) - ((OF.cnt (OF.rel al) n (n - (pre.length + 1)) (F ||| 2 ^ y) : Nat) : Int))), _, _, _, _, _, _, _] = _
          rw [e]
      · rintro σ H' ⟨k', v7', v8', rfl, rfl, s, hs, es⟩
        rw [List.length_map, List.drop_length] at hs
        cases hs
    · refine if_dec (decide_eq_false (by omega)) (iteF ?_)
      have hz := hU.done (by omega)
      subst hz
      exact ⟨_, rfl, qr H5 rp ((s03.trans s4).trans s5) nrp erp⟩
end
end OFW

namespace OFW
open PySem PySem.Spec PyProof.Rows L2
/-! ### rank_of_linear -/
/-- what the walk asks of Malformed -/
structure MalTxt (K : PySem.W.Frag) (mg : Str → Option Value) (CM : Addr) : Prop where
  gM : mg "Malformed" = some (.ref CM)
  xM : PySem.W.excIn K CM [.type "ValueError", .type "Exception", .type "BaseException", .type "object"] "ValueError.__new__" = true
  kM : PySem.W.keepIn K (.ref CM) = true
  bM : PySem.W.subIn K (.ref CM) (.type "BaseException") = some true
  tM : PySem.W.typeIn K (.ref CM) = some (.type "type")
  eM : PySem.W.exmOne K (.ref CM) (.ref CM) = some true
/-- the first i points are walked -/
structure Walked (al : List Nat) (n : Nat) (l : List Nat) (idx i F tot : Nat) : Prop where
  rch : OF.Rch (OF.rel al) n i F
  left : ∃ k, (OF.ext (OF.rel al) n (n - i) F)[k]? = some (l.drop i) ∧ tot + k = idx
theorem Walked.done {al : List Nat} {n idx F tot : Nat} {l : List Nat} (h : Walked al n l idx n F tot) : tot = idx := by
  obtain ⟨k, h1, h2⟩ := h.left
  rw [Nat.sub_self] at h1
  have : k < 1 := (List.getElem?_eq_some_iff.mp h1).1
  omega
def partSum (al : List Nat) (k F y : Nat) (n : Nat) (xs : List Nat) : Nat := ((xs.filter fun x => decide (x < y)).map fun x => OF.cnt (OF.rel al) n k (F ||| 2 ^ x)).sum
theorem part_snoc {al : List Nat} {k F y n x j : Nat} {xs : List Nat} (h : xs[j]? = some x) : partSum al k F y n (xs.take (j + 1)) = partSum al k F y n (xs.take j) + (if x < y then OF.cnt (OF.rel al) n k (F ||| 2 ^ x) else 0) := by
  unfold partSum
  rw [List.take_add_one, h, List.filter_append, List.map_append, List.sum_append]
  congr 1
  by_cases e : x < y <;> simp [e]
theorem Walked.go {al : List Nat} {n idx i F tot y : Nat} {l : List Nat} (h : Walked al n l idx i F tot) (hi : i < n) (hy : l[i]? = some y) : y ∈ OF.fol (OF.rel al) n F ∧ Walked al n l idx (i + 1) (F ||| 2 ^ y) (tot + partSum al (n - (i + 1)) F y n (OF.fol (OF.rel al) n F)) := by
  obtain ⟨k, h1, h2⟩ := h.left
  have e : n - i = (n - (i + 1)) + 1 := by omega
  have ed : l.drop i = y :: l.drop (i + 1) := by
    obtain ⟨hi, e⟩ := List.getElem?_eq_some_iff.mp hy
    rw [List.drop_eq_getElem_cons hi, e]
  rw [e, ed] at h1
  obtain ⟨x, _, _, _, _, e3, hm⟩ := OF.flat_pick (g := fun x => OF.ext (OF.rel al) n (n - (i + 1)) (F ||| 2 ^ x)) _ _ _ h1
  injection e3 with e3 _
  subst e3
  obtain ⟨j, h3, h4⟩ := OF.flat_rank (g := fun x => OF.ext (OF.rel al) n (n - (i + 1)) (F ||| 2 ^ x)) _ _ (OF.fol_sorted F) h1
  refine ⟨hm, .step h.rch hm, j, h3, ?_⟩
  simp only [OF.cnt_ext] at h4
  unfold partSum
  omega
section
variable {P : Program} {w : World} {K : PySem.W.Frag} {mg : Str → Option Value} {base : Heap}
variable {C fInt fMem fSet fHas fFol fSize fBel fLes fPrs : Addr} {dInt dMem dSet dHas dFol dSize dBel dLes dPrs : FuncData}
def spRank (C CM : Addr) : Sp := fun vs H Q E => ∃ (o : Addr) (n : Nat) (al : List Nat) (v : V), vs = [.ref o, v] ∧ OrdAt C o n al H ∧ OF.OrdOk n al ∧ n ≤ 10 ∧
  ((BadRow n v H ∧ ∀ H', Same H H' → E (.ref CM) none H') ∨ ∃ l idx, GoodRow n l v H ∧ OF.fits (OF.rel al) l = true ∧ (OF.ext (OF.rel al) n n 0)[idx]? = some l ∧ RetN idx H Q)
theorem scRank : FnScope ["order", "row", "ways", "below", "whole", "total", "front", "y", "x"] ["order", "row"] (defScope sRank) := ⟨rfl, rfl, rfl, by decide +kernel, rfl, by decide +kernel, by decide +kernel⟩
theorem ok_rank {f fW fR fL CM : Addr} {fd dW dR dL : FuncData} (F : Fun K "rank_of_linear" "rank_of_linear" sRank f fd) (T : Fns K mg C fInt fMem fSet fHas fFol fSize fBel fLes fPrs dInt dMem dSet dHas dFol dSize dBel dLes dPrs) (TM : MalTxt K mg CM)
    (FW : Fun K "ways_on" "ways_on" sWays fW dW) (bW : Binds K dW ["order"] []) (gW : mg "ways_on" = some (.ref fW))
    (FR : Fun K "is_row" "is_row" sIsRow fR dR) (bR : Binds K dR ["value", "size"] []) (gR : mg "is_row" = some (.ref fR))
    (FL : Fun K "is_linear" "is_linear" sIsLinear fL dL) (bL : Binds K dL ["order", "row"] []) (gL : mg "is_linear" = some (.ref fL)) : FnOk P w K mg base (L2.CX P w) 5 f fd ["order", "row"] (spRank C CM) := by
  have GW : FnOk P w K mg base CX0 4 fW dW ["order"] (spWays C) := (ok_ways FW T).mono (by decide)
  have GL : FnOk P w K mg base CX0 4 fL dL ["order", "row"] (spIsLin C) := (ok_isLin FL T FR bR gR).mono (by decide)
  have GSize : FnOk P w K mg base CX0 4 fSize dSize ["self"] (spSize C) := (ok_size T.FSize T.o).mono (by decide)
  have GBel : FnOk P w K mg base CX0 4 fBel dBel ["self"] (spBelow C) := (ok_below T.FBel T.o T.mT T.mR T.FHas T.bHas T.gHas T.FSet T.bSet T.gSet).mono (by decide)
  have GSet : FnOk P w K mg base CX0 4 fSet dSet ["points"] (spSetOf K) := (ok_setOf T.FSet).mono (by decide)
  have GFol : FnOk P w K mg base CX0 4 fFol dFol ["below", "whole", "front"] (spFol K) := (ok_fol T.FFol T.mT T.mR T.FMem T.bMem T.gMem).mono (by decide)
  refine F.okX scRank (fun vs H Q E h => ?_) (fun cdv A outer s H vs Q E hr h => ?_)
  · obtain ⟨o, n, al, v, rfl, _⟩ := h; rfl
  · obtain ⟨o, n, al, v, rfl, hO, hok, hn, h⟩ := h
    have hu := hu_of hr
    refine ⟨_, pss_cons (ps_if (pt_not (pt_val (pe_call GL hr (by rfl) gL FL.kp bL .nil pass0 (pa_cons (pv 0) (pa_cons (pv 1) pa_nil)))))
        (pss_one (ps_raise rfl (takes_of rfl rfl rfl rfl) (pmk_own PySem.F.excBase_ValueError TM.xM TM.gM TM.kM (raises_own TM.bM TM.tM) (by rfl)))) pss_nil)
      (pss_cons (ps_set (i := 2) scRank.nd rfl (.inl rfl) (pe_call GW hr (by rfl) gW FW.kp bW .nil pass0 (pa_cons (pv 0) pa_nil)))
      (pss_cons (ps_set (i := 3) scRank.nd rfl (.inl rfl) (pe_meth0 (pv 0) T.o.cl T.mBel GBel hr T.bBel .nil pass0))
      (pss_cons (ps_set (i := 4) scRank.nd rfl (.inl rfl) (pe_call GSet hr (by rfl) T.gSet T.FSet.kp T.bSet .nil pass0 (pa_cons (pe_listRg rfl (by rfl) T.mL (prg_1 (by rfl) T.mR (pe_meth0 (pv 0) T.o.cl T.mSize GSize hr T.bSize .nil pass0))) pa_nil)))
      (pss_cons (ps_set (i := 5) scRank.nd rfl (.inl rfl) pe_int)
      (pss_cons (ps_set (i := 6) scRank.nd rfl (.inl rfl) pe_int)
      (pss_cons (ps_for PassesOwn.leaving rfl (pi_tup (pv 1)) (pg_name (i := 7) scRank.nd rfl (.inl rfl))
        (pss_cons (ps_for PassesOwn.leaving rfl (pi_list (pe_call GFol hr (by rfl) T.gFol T.FFol.kp T.bFol .nil pass0 (pa_cons (pv 3) (pa_cons (pv 4) (pa_cons (pv 6) pa_nil))))) (pg_name (i := 8) scRank.nd rfl (.inl rfl))
          (pss_one (ps_if (pt_cmpR op_lt (pv 8) (pv 7) (nomark _)) (pss_one (ps_aug (i := 5) scRank.nd rfl (.inl rfl) (pe_dget hu (pv 2) (pe_op op_or (pv 6) (pe_op op_shl pe_int (pv 8))) (fun _ _ => rfl)) ip_add)) pss_nil)))
        (pss_one (ps_set (i := 6) scRank.nd rfl (.inl rfl) (pe_op op_or (pv 6) (pe_op op_shl pe_int (pv 7)))))))
      (pss_one (ps_ret (pv 5))))))))), ?_⟩
    refine ⟨_, rfl, _, rfl, ?_⟩
    rcases h with ⟨hb, qE⟩ | ⟨l, idx, hg, hf, hx, q⟩
    · exact ⟨o, n, al, v, rfl, hO, hok.len, .inl ⟨hb, fun H1 s1 => ⟨_, rfl, iteT (qE H1 s1)⟩⟩⟩
    refine ⟨o, n, al, v, rfl, hO, hok.len, .inr ⟨l, hg, fun H1 s1 => ⟨_, rfl, ?_⟩⟩⟩
    rw [hf]
    refine iteF ?_
    have hg1 := hg.same s1
    have hO1 := hO.same s1
    refine ⟨_, rfl, o, n, al, rfl, hO1, hok, hn, fun H2 W kvs s2 nW eW hW => ?_⟩
    have hO2 := hO1.same s2
    refine r_below rfl hO2 hok.len hn fun H3 b s3 eb => ?_
    refine r_whole rfl (hO2.same s3) hn fun H4 s4 => ?_
    obtain ⟨a, rfl, ea, hp, _⟩ := (((hg1.same s2).same s3).same s4)
    have eW4 := s4 _ _ (s3 _ _ eW)
    have eb4 := s4 _ _ eb
    have s04 := ((s1.trans s2).trans s3).trans s4
    have hll : l.length = n := by rw [hp.length_eq, List.length_range]
    refine ⟨_, rfl, a, rfl, ⟨_, SqT.of ea⟩, for_tup (K := K) (a := a) (xs := nvs l) (fun i σ H' => ∃ tot F v7 v8, σ = [some (.ref o), some (.ref a), some (.ref W), some (.ref b), some (nv (wh n)), some (nv tot), some (nv F), v7, v8] ∧ Same H4 H' ∧ Walked al n l idx i F tot)
      ⟨0, 0, none, none, rfl, fun _ _ z => z, .zero, idx, hx, Nat.zero_add _⟩ (fun i σ H' _ ⟨_, _, _, _, _, s5, _⟩ => SqT.of (s5 _ _ ea)) ?_ ?_⟩
    · rintro i x σ H5 hx ⟨tot, F, v7, v8, rfl, s5, hWk⟩
      rw [List.getElem?_map] at hx
      obtain ⟨y, hy, rfl⟩ := Option.map_eq_some_iff.mp hx
      have hi : i < n := by
        have := (List.getElem?_eq_some_iff.mp hy).1
        omega
      obtain ⟨hyf, hWn⟩ := hWk.go hi hy
      have hyn := fol_lt hyf
      refine r_fol (b := b) (F := F) (n := n) (al := al) rfl rfl rfl hn (s5 _ _ eb4) fun H6 tp s6 ntp etp => ?_
      have eW6 := s6 _ _ (s5 _ _ eW4)
      refine ⟨tp, rfl, ⟨_, SqL.of etp⟩, for_list (K := K) (a := tp) (xs := nvs (OF.fol (OF.rel al) n F)) (fun j σ H' => ∃ v8, σ = [some (.ref o), some (.ref a), some (.ref W), some (.ref b), some (nv (wh n)), some (nv (tot + partSum al (n - (i + 1)) F y n ((OF.fol (OF.rel al) n F).take j))), some (nv F), some (nv y), v8] ∧ H' = H6)
        ⟨v8, rfl, rfl⟩ (fun i σ H' _ ⟨_, _, e⟩ => by rw [e]; exact SqL.of etp) ?_ ?_⟩
      · rintro j x σ H' hx2 ⟨v8', rfl, rfl⟩
        rw [List.getElem?_map] at hx2
        obtain ⟨z, hz, rfl⟩ := Option.map_eq_some_iff.mp hx2
        have hzf : z ∈ OF.fol (OF.rel al) n F := List.mem_of_getElem? hz
        have hps := part_snoc (al := al) (k := n - (i + 1)) (F := F) (y := y) (n := n) hz
        refine ⟨_, rfl, _, rfl, _, _, rfl, rfl, _, rfl, ?_⟩
        by_cases hlt : z < y
        · refine if_dec (decide_eq_true (by omega)) (iteT ?_)
          refine ⟨_, rfl, ?_⟩
          refine r_ways (i := 2) (j := 6) (l := 8) (W := W) (F := F) (x := z) (n := n) (t := i) (al := al) rfl rfl rfl hn eW6 hW hWk.rch hzf ?_
          refine ⟨_, _, rfl, rfl, some (nv z), ?_, rfl⟩
          rw [hps, if_pos hlt, ← Nat.add_assoc]
          rfl
        · refine if_dec (decide_eq_false (by omega)) (iteF ⟨some (nv z), ?_, rfl⟩)
          rw [hps, if_neg hlt]
          rfl
      · rintro σ H' ⟨v8', rfl, rfl⟩
        rw [List.length_map, List.take_length]
        refine r_or (i := 6) (j := 7) (F := F) (x := y) rfl rfl (by omega) ?_
        exact ⟨_, _, _, _, rfl, s5.trans s6, hWn⟩
    · rintro σ H5 ⟨tot, F, v7, v8, rfl, s5, hWk⟩
      rw [List.length_map, hll] at hWk
      have e := hWk.done
      subst e
      exact ⟨_, rfl, q H5 (s04.trans s5)⟩
end
end OFW

namespace OF
/-! ### the transitive closure -/
/-- a relation on n points that climbs in pos -/
structure Pre (n : Nat) (pos : Nat → Nat) (al : List Nat) : Prop where
  len : al.length = n
  up : ∀ x z, rel al x z = true → z < n ∧ pos x < pos z
theorem rel_off {al : List Nat} {x z : Nat} (h : al.length ≤ x) : rel al x z = false := by
  unfold rel
  rw [List.getD_eq_getElem?_getD, List.getElem?_eq_none h]
  exact Nat.zero_testBit z
theorem Pre.irr {n : Nat} {pos : Nat → Nat} {al : List Nat} (h : Pre n pos al) (x : Nat) : rel al x x = false := by
  cases e : rel al x x with
  | false => rfl
  | true =>
    have := (h.up x x e).2
    omega
theorem rel_set {al : List Nat} {i v x z : Nat} (hi : i < al.length) : rel (al.set i v) x z = if x = i then v.testBit z else rel al x z := by
  unfold rel
  rw [List.getD_eq_getElem?_getD, List.getElem?_set]
  by_cases h : i = x
  · subst h
    rw [if_pos rfl, if_pos rfl, if_pos hi]
    rfl
  · rw [if_neg h, if_neg (fun z => h z.symm), List.getD_eq_getElem?_getD]
theorem rel_get {al : List Nat} {i z : Nat} : (al.getD i 0).testBit z = rel al i z := rfl
theorem pre_nil (n : Nat) (pos : Nat → Nat) : Pre n pos (List.replicate n 0) := by
  refine ⟨List.length_replicate, fun x z h => ?_⟩
  unfold rel at h
  rw [List.getD_eq_getElem?_getD, List.getElem?_replicate] at h
  by_cases e : x < n
  · rw [if_pos e] at h
    rw [show (some 0 : Option Nat).getD 0 = 0 from rfl, Nat.zero_testBit] at h
    cases h
  · rw [if_neg e] at h
    rw [show (none : Option Nat).getD 0 = 0 from rfl, Nat.zero_testBit] at h
    cases h
theorem Pre.add {n : Nat} {pos : Nat → Nat} {al : List Nat} (h : Pre n pos al) {x y : Nat} (hx : x < n) (hy : y < n) (hp : pos x < pos y) : Pre n pos (al.set x (al.getD x 0 ||| 2 ^ y)) := by
  refine ⟨by rw [List.length_set, h.len], fun a z e => ?_⟩
  rw [rel_set (by rw [h.len]; exact hx)] at e
  by_cases ha : a = x
  · subst ha
    rw [if_pos rfl, or_bit] at e
    rcases Bool.or_eq_true_iff.mp e with e | e
    · exact h.up a z e
    · have : y = z := of_decide_eq_true e
      subst this
      exact ⟨hy, hp⟩
  · rw [if_neg ha] at e
    exact h.up a z e
/-- the first i points have taken over what stands above k -/
structure Inner (n : Nat) (al : List Nat) (k i : Nat) (al' : List Nat) : Prop where
  len : al'.length = n
  eq : ∀ x z, rel al' x z = (rel al x z || (decide (x < i) && rel al x k && rel al k z))
theorem Inner.zero {n : Nat} {pos : Nat → Nat} {al : List Nat} {k : Nat} (h : Pre n pos al) : Inner n al k 0 al := ⟨h.len, fun x z => by simp⟩
theorem Inner.test {n : Nat} {al al' : List Nat} {k i : Nat} (h : Inner n al k i al') : rel al' i k = rel al i k := by
  rw [h.eq]
  simp
theorem Inner.step {n : Nat} {pos : Nat → Nat} {al al' : List Nat} {k i : Nat} (hp : Pre n pos al) (h : Inner n al k i al') (hi : i < n) (e : rel al i k = true) : Inner n al k (i + 1) (al'.set i (al'.getD i 0 ||| al'.getD k 0)) := by
  refine ⟨by rw [List.length_set, h.len], fun x z => ?_⟩
  rw [rel_set (by rw [h.len]; exact hi)]
  by_cases hx : x = i
  · subst hx
    rw [if_pos rfl, Nat.testBit_or, rel_get, rel_get, h.eq, h.eq, hp.irr k, e]
    simp
  · rw [if_neg hx, h.eq]
    have e1 : decide (x < i) = decide (x < i + 1) := by
      apply decide_eq_decide.mpr
      omega
    rw [e1]
theorem Inner.skip {n : Nat} {al al' : List Nat} {k i : Nat} (h : Inner n al k i al') (e : rel al i k = false) : Inner n al k (i + 1) al' := by
  refine ⟨h.len, fun x z => ?_⟩
  rw [h.eq]
  by_cases hx : x = i
  · subst hx
    simp [e]
  · have e1 : decide (x < i) = decide (x < i + 1) := by
      apply decide_eq_decide.mpr
      omega
    rw [e1]
/-- transitive through the first k points -/
structure Outer (n : Nat) (pos : Nat → Nat) (k : Nat) (al : List Nat) : Prop where
  pre : Pre n pos al
  tr : ∀ m, m < k → ∀ x z, rel al x m = true → rel al m z = true → rel al x z = true
theorem Outer.zero {n : Nat} {pos : Nat → Nat} {al : List Nat} (h : Pre n pos al) : Outer n pos 0 al := ⟨h, fun m hm => absurd hm (Nat.not_lt_zero _)⟩
theorem Inner.all {n : Nat} {al al' : List Nat} {k : Nat} (hl : al.length = n) (h : Inner n al k n al') (x z : Nat) : rel al' x z = true ↔ rel al x z = true ∨ (rel al x k = true ∧ rel al k z = true) := by
  rw [h.eq]
  by_cases hx : x < n
  · simp [hx]
  · have e1 : rel al x z = false := rel_off (by omega)
    have e2 : rel al x k = false := rel_off (by omega)
    simp [e1, e2]
theorem Outer.turn {n : Nat} {pos : Nat → Nat} {k : Nat} {al al' : List Nat} (h : Outer n pos k al) (hi : Inner n al k n al') : Outer n pos (k + 1) al' := by
  have hl := h.pre.len
  have hp : Pre n pos al' := ⟨hi.len, fun x z e => by
    rcases (hi.all hl x z).mp e with e | ⟨e1, e2⟩
    · exact h.pre.up x z e
    · have h1 := h.pre.up x k e1
      have h2 := h.pre.up k z e2
      exact ⟨h2.1, by omega⟩⟩
  refine ⟨hp, fun m hm x z e1 e2 => ?_⟩
  have a1 := (hi.all hl x m).mp e1
  have a2 := (hi.all hl m z).mp e2
  refine (hi.all hl x z).mpr ?_
  by_cases hmk : m < k
  · rcases a1 with a1 | ⟨a1, b1⟩
    · rcases a2 with a2 | ⟨a2, b2⟩
      · exact .inl (h.tr m hmk x z a1 a2)
      · exact .inr ⟨h.tr m hmk x k a1 a2, b2⟩
    · rcases a2 with a2 | ⟨a2, b2⟩
      · exact .inr ⟨a1, h.tr m hmk k z b1 a2⟩
      · exact .inr ⟨a1, b2⟩
  · have : m = k := by omega
    subst this
    have ir := h.pre.irr m
    rcases a1 with a1 | ⟨a1, b1⟩
    · rcases a2 with a2 | ⟨a2, b2⟩
      · exact .inr ⟨a1, a2⟩
      · rw [ir] at a2
        cases a2
    · rw [ir] at b1
      cases b1
theorem Outer.ok {n : Nat} {pos : Nat → Nat} {al : List Nat} (h : Outer n pos n al) : OrdOk n al := by
  have bnd : ∀ {x z}, rel al x z = true → x < n := fun {x z} e => by
    by_cases hx : x < n
    · exact hx
    · rw [rel_off (by have := h.pre.len; omega)] at e
      cases e
  refine { len := h.pre.len, lt := ?_, irr := ?_, tr := ?_ }
  · intro m hm
    obtain ⟨i, hi, rfl⟩ := List.mem_iff_getElem.mp hm
    apply Nat.lt_pow_two_of_testBit
    intro j hj
    cases e : (al[i]).testBit j with
    | false => rfl
    | true =>
      have e2 : rel al i j = true := by
        unfold rel
        rw [List.getD_eq_getElem?_getD, List.getElem?_eq_getElem hi]
        exact e
      have := (h.pre.up i j e2).1
      omega
  · exact fun x => h.pre.irr x
  · intro x y z e1 e2
    exact h.tr y (h.pre.up x y e1).1 x z e1 e2
end OF

namespace OFW
open PySem PySem.Spec PyProof.Rows L2
/-- pairs that climb -/
def Climb (n : Nat) (pos : Nat → Nat) (ps : List (Nat × Nat)) : Prop := ∀ p ∈ ps, p.1 < n ∧ p.2 < n ∧ pos p.1 < pos p.2
section
variable {P : Program} {w : World} {K : PySem.W.Frag} {mg : Str → Option Value} {base : Heap}
/-! ### _checked_pairs -/
def spChk : Sp := fun vs H Q _ => ∃ (n : Nat) (a : Addr) (as : List Addr) (ps : List (Nat × Nat)), vs = [nv n, .ref a] ∧ H a = some (.lst (refs as)) ∧ TupsAt H as (ps.map prV) ∧ (∀ p ∈ ps, p.1 < n ∧ p.2 < n) ∧ ps.length ≤ 1000 ∧
  ∀ H' p, Same H H' → H p = none → H' p = some (.lst (refs as)) → Q (.ref p) H'
theorem scChk : FnScope ["n", "pairs", "out", "pair", "x"] ["n", "pairs"] (defScope sChecked) := ⟨rfl, rfl, rfl, by decide +kernel, rfl, by decide +kernel, by decide +kernel⟩
theorem kit_lt {K : PySem.W.Frag} : PySem.W.kitAny K (.type "list") [.type "list", .type "tuple"] = some true := kitAny_cons (b := true) (kit_ty (by decide +kernel)) (fun h => by cases h) (fun _ => rfl)
theorem ok_chk {f fI : Addr} {fd dI : FuncData} (F : Fun K "_checked_pairs" "_checked_pairs" sChecked f fd) (m1 : mg "isinstance" = none) (m2 : mg "int" = none) (m3 : mg "bool" = none) (m4 : mg "list" = none) (m5 : mg "tuple" = none) (m6 : mg "len" = none)
    (FI : Fun K "is_integer" "is_integer" sInt fI dI) (bI : Binds K dI ["value"] []) (gI : mg "is_integer" = some (.ref fI)) : FnOk P w K mg base CX0 2 f fd ["n", "pairs"] spChk := by
  have GI : FnOk P w K mg base CX0 1 fI dI ["value"] spInt := ok_int FI m1 m2 m3
  refine F.ok scChk (fun vs H Q E h => ?_) (fun cdv A outer s H vs Q E hr h => ?_)
  · obtain ⟨n, a, as, ps, rfl, _⟩ := h; rfl
  · obtain ⟨n, a, as, ps, rfl, ea, hT, hb, hlen, q⟩ := h
    refine ⟨_, pss_cons (ps_if (pt_not (pt_val (pe_callB call_isiT (by rfl) m1 (by decide +kernel) (pa_cons (pv 1) (pa_cons (pe_tup (pa_cons (pe_bltn (v := .ty "list") (by rfl) m4 (by decide +kernel) rfl) (pa_cons (pe_bltn (v := .ty "tuple") (by rfl) m5 (by decide +kernel) rfl) pa_nil))) pa_nil))))) pss_never pss_nil)
      (pss_cons (ps_set (i := 2) scChk.nd rfl (.inl rfl) (pe_lst pa_nil))
      (pss_cons (ps_for PassesOwn.never rfl (pi_list (pv 1)) (pg_name (i := 3) scChk.nd rfl (.inl rfl))
        (pss_cons (ps_if (PW.pt (pw_or (pt_not (pt_val (pe_callB call_isi (by rfl) m1 (by decide +kernel) (pa_cons (pv 3) (pa_cons (pe_bltn (v := .ty "tuple") (by rfl) m5 (by decide +kernel) rfl) pa_nil)))))
          (pw_or1 (pt_cmpR op_ne (pe_callB call_len_seq (by rfl) m6 (by decide +kernel) (pa_cons (pv 3) pa_nil)) pe_int (nomark _))))) pss_never pss_nil)
        (pss_cons (ps_for PassesOwn.never rfl (pi_tup (pv 3)) (pg_name (i := 4) scChk.nd rfl (.inl rfl))
          (pss_one (ps_if (PW.pt (pw_or (pt_not (pt_val (pe_call GI hr (by rfl) gI FI.kp bI .nil pass0 (pa_cons (pv 4) pa_nil)))) (pw_or (pt_cmpR op_lt (pv 4) pe_int (nomark _)) (pw_or1 (pt_cmpR op_ge (pv 4) (pv 0) (nomark _)))))) pss_never pss_nil)))
        (pss_one (ps_expr (pe_bm PySem.F.plainAttrs_list PySem.F.slot_list_append PySem.F.type_list_append mt_append (pv 2) (pa_cons (pv 3) pa_nil)))))))
      (pss_one (ps_ret (pv 2))))), ?_⟩
    refine ⟨_, rfl, by show 2 ≤ sizeLine; decide, fun tp ntp => ?_⟩
    generalize h1 : upd H tp _ = H1
    have s1 : Same H H1 := h1 ▸ same_upd ntp
    have et : H1 tp = _ := h1 ▸ upd_same
    refine ⟨.ref a, tp, _, _, _, true, rfl, et, .cons (.ty _) (.cons (.ty _) .nil), .base (.lst (s1 _ _ ea)), kit_lt, true, rfl, iteF ?_⟩
    refine ⟨Nat.zero_le _, fun D nD => ?_⟩
    generalize h2 : upd H1 D _ = H2
    have s2 : Same H1 H2 := h2 ▸ same_upd nD
    have eD : H2 D = _ := h2 ▸ upd_same
    have ea2 := s2 _ _ (s1 _ _ ea)
    have naD : a ≠ D := fun z => by rw [← z, s1 _ _ ea] at nD; cases nD
    have hl := hT.len
    rw [List.length_map] at hl
    refine ⟨_, rfl, a, rfl, ⟨_, SqL.of ea2⟩, for_list (K := K) (a := a) (xs := refs as) (fun i σ H' => ∃ v3 v4, σ = [some (nv n), some (.ref a), some (.ref D), v3, v4] ∧ Same H1 H' ∧ H' D = some (.lst (refs (as.take i)))) ⟨none, none, rfl, s2, eD⟩ (fun i σ H' _ ⟨_, _, _, s3, _⟩ => SqL.of (s3 _ _ (s1 _ _ ea))) ?_ ?_⟩
    · rintro i x σ H3 hx ⟨v3, v4, rfl, s3, eD3⟩
      obtain ⟨ra, hra, rfl⟩ := refs_get hx
      obtain ⟨rv, hrv, era⟩ := ((hT.same s1).same s3).getA hra
      rw [List.getElem?_map] at hrv
      obtain ⟨⟨x, y⟩, hxy, rfl⟩ := Option.map_eq_some_iff.mp hrv
      have hb2 := hb _ (List.mem_of_getElem? hxy)
      refine ⟨_, rfl, .ref ra, .ty "tuple", _, _, true, rfl, .ty _, .base (.tup era), kit_ty (by decide +kernel), true, rfl, iteF ⟨_, rfl, ra, _, rfl, .inr (SqT.of era), rfl, _, rfl, iteF ?_⟩⟩
      refine ⟨_, rfl, ra, rfl, ⟨_, SqT.of era⟩, for_tup (K := K) (a := ra) (xs := prV (x, y)) (fun j σ H' => ∃ v4, σ = [some (nv n), some (.ref a), some (.ref D), some (.ref ra), v4] ∧ H' = H3) ⟨v4, rfl, rfl⟩ (fun i σ H' _ ⟨_, _, e⟩ => by rw [e]; exact SqT.of era) ?_ ?_⟩
      · rintro j z σ H' hz ⟨v4', rfl, rfl⟩
        obtain ⟨c, rfl, hc⟩ : ∃ c : Nat, z = nv c ∧ c < n := by
          match j, hz with
          | 0, hz => exact ⟨x, (Option.some.inj hz).symm, hb2.1⟩
          | 1, hz => exact ⟨y, (Option.some.inj hz).symm, hb2.2⟩
        refine ⟨_, rfl, .inl ⟨_, rfl, _, rfl, iteF ?_⟩⟩
        refine ⟨_, rfl, _, _, rfl, rfl, _, rfl, if_dec (decide_eq_false (by omega)) (iteF ?_)⟩
        refine ⟨_, rfl, _, rfl, _, _, rfl, rfl, _, rfl, if_dec (decide_eq_false (by omega)) (iteF ⟨_, rfl, rfl⟩)⟩
      · rintro σ H' ⟨v4', rfl, rfl⟩
        refine ⟨_, rfl, .inl ⟨rfl, _, SqL.of eD3⟩, _, rfl, D, _, _, rfl, rfl, eD3, by rw [refs_len, List.length_take]; exact small1000 (by omega), change fun H4 b4 e4 => ?_⟩
        refine ⟨_, _, rfl, s3.mut nD b4, ?_⟩
        rw [e4, List.take_add_one, hra]
        exact congrArg (fun z => some (HO.lst z)) (refs_snoc _ _).symm
    · rintro σ H3 ⟨v3, v4, rfl, s3, eD3⟩
      rw [refs_len, List.take_length] at eD3
      exact ⟨_, rfl, q H3 D (s1.trans s3) (s1.free nD) eD3⟩
/-! ### _closed -/
def spClosed : Sp := fun vs H Q _ => ∃ (n : Nat) (a : Addr) (as : List Addr) (ps : List (Nat × Nat)) (pos : Nat → Nat), vs = [nv n, .ref a] ∧ H a = some (.lst (refs as)) ∧ TupsAt H as (ps.map prV) ∧ Climb n pos ps ∧ n ≤ 10 ∧ ∀ al, OF.OrdOk n al → RetT (nvs al) H Q
theorem scClosed : FnScope ["n", "pairs", "above", "x", "y"] ["n", "pairs"] (defScope sClosed) := ⟨rfl, rfl, rfl, by decide +kernel, rfl, by decide +kernel, by decide +kernel⟩
theorem nvs_set (l : List Nat) (i x : Nat) : (nvs l).set i (nv x) = nvs (l.set i x) := (List.map_set ..).symm
theorem flat_zero (n : Nat) : (List.replicate n [V.int 0]).flatten = nvs (List.replicate n 0) := by
  induction n with
  | zero => rfl
  | succ n ih =>
    rw [List.replicate_succ, List.flatten_cons, ih]
    rfl
theorem ixNat {n j : Nat} (hj : j < n) : ixN n (j : Int) = some j := by
  unfold ixN
  rw [if_pos (by omega), if_pos (by omega)]
  simp
theorem ok_closed {f fH : Addr} {fd dH : FuncData} (F : Fun K "_closed" "_closed" sClosed f fd) (m1 : mg "range" = none) (m2 : mg "tuple" = none) (FH : Fun K "has" "has" sHas fH dH) (bH : Binds K dH ["bits", "x"] []) (gH : mg "has" = some (.ref fH)) : FnOk P w K mg base CX0 2 f fd ["n", "pairs"] spClosed := by
  have GH : FnOk P w K mg base CX0 1 fH dH ["bits", "x"] spHas := ok_has FH
  refine F.ok scClosed (fun vs H Q E h => ?_) (fun cdv A outer s H vs Q E hr h => ?_)
  · obtain ⟨n, a, as, ps, pos, rfl, _⟩ := h; rfl
  · obtain ⟨n, a, as, ps, pos, rfl, ea, hT, hC, hn, q⟩ := h
    refine ⟨_, pss_cons (ps_set (i := 2) scClosed.nd rfl (.inl rfl) (pe_op op_rep (pe_lst (pa_cons pe_int pa_nil)) (pv 0)))
      (pss_cons (ps_for PassesOwn.never rfl (pi_list (pv 1)) (pg_tup rfl (pgs_cons (pg_name (i := 3) scClosed.nd rfl (.inl rfl)) (pgs_cons (pg_name (i := 4) scClosed.nd rfl (.inl rfl)) pgs_nil)))
        (pss_one (ps_asg (pe_op op_or (pe_ix ix_list (pv 2) (pv 3) (fun _ _ => rfl)) (pe_op op_shl pe_int (pv 4))) (pg_sub (pv 2) (pv 3) set_list))))
      (pss_cons (ps_for PassesOwn.never rfl (pi_range1 (by rfl) m1 (pa_cons (pv 0) pa_nil)) (pg_name (i := 4) scClosed.nd rfl (.inl rfl))
        (pss_one (ps_for PassesOwn.never rfl (pi_range1 (by rfl) m1 (pa_cons (pv 0) pa_nil)) (pg_name (i := 3) scClosed.nd rfl (.inl rfl))
          (pss_one (ps_if (pt_val (pe_call GH hr (by rfl) gH FH.kp bH .nil pass0 (pa_cons (pe_ix ix_list (pv 2) (pv 3) (fun _ _ => rfl)) (pa_cons (pv 4) pa_nil))))
            (pss_one (ps_asg (pe_op op_or (pe_ix ix_list (pv 2) (pv 3) (fun _ _ => rfl)) (pe_ix ix_list (pv 2) (pv 4) (fun _ _ => rfl))) (pg_sub (pv 2) (pv 3) set_list))) pss_nil)))))
      (pss_cons (ps_for PassesOwn.never rfl (pi_range1 (by rfl) m1 (pa_cons (pv 0) pa_nil)) (pg_name (i := 3) scClosed.nd rfl (.inl rfl))
        (pss_one (ps_if (pt_val (pe_call GH hr (by rfl) gH FH.kp bH .nil pass0 (pa_cons (pe_ix ix_list (pv 2) (pv 3) (fun _ _ => rfl)) (pa_cons (pv 3) pa_nil)))) pss_never pss_nil)))
      (pss_one (ps_ret (pe_tupleOf (by rfl) m2 (pv 2))))))), ?_⟩
    refine ⟨by show 1 ≤ sizeLine; decide, fun z nz => ?_⟩
    generalize h1 : upd H z _ = H1
    have s1 : Same H H1 := h1 ▸ same_upd nz
    have ez : H1 z = _ := h1 ▸ upd_same
    refine ⟨_, rfl, z, _, _, rfl, rfl, ez, by omega, by omega, by show 1 * ((n : Int)).toNat ≤ sizeLine; rw [Int.toNat_natCast, Nat.one_mul]; exact Nat.le_of_lt (small1000 (by omega)), fun D nD => ?_⟩
    rw [Int.toNat_natCast, flat_zero]
    generalize h2 : upd H1 D _ = H2
    have s2 : Same H1 H2 := h2 ▸ same_upd nD
    have eD : H2 D = _ := h2 ▸ upd_same
    have ea1 := s1 _ _ ea
    have naD : a ≠ D := fun z => by rw [← z, ea1] at nD; cases nD
    have hT1 := hT.same s1
    refine ⟨_, rfl, a, rfl, ⟨_, SqL.of (s2 _ _ ea1)⟩, for_list (K := K) (a := a) (xs := refs as) (fun i σ H' => ∃ v3 v4 al, σ = [some (nv n), some (.ref a), some (.ref D), v3, v4] ∧ Same H1 H' ∧ H' D = some (.lst (nvs al)) ∧ OF.Pre n pos al) ⟨none, none, _, rfl, s2, eD, OF.pre_nil n pos⟩ (fun i σ H' _ ⟨_, _, _, _, s3, _⟩ => SqL.of (s3 _ _ ea1)) ?_ ?_⟩
    · rintro i x σ H3 hx ⟨v3, v4, al, rfl, s3, eD3, hP⟩
      obtain ⟨ra, hra, rfl⟩ := refs_get hx
      obtain ⟨rv, hrv, era⟩ := (hT1.same s3).getA hra
      rw [List.getElem?_map] at hrv
      obtain ⟨⟨x, y⟩, hxy, rfl⟩ := Option.map_eq_some_iff.mp hrv
      obtain ⟨hx1, hy1, hxy1⟩ := hC _ (List.mem_of_getElem? hxy)
      have hg := al_get hP.len hx1
      refine ⟨ra, _, rfl, SqT.of era, rfl, _, _, rfl, _, _, rfl, rfl, ?_⟩
      refine ⟨_, rfl, _, rfl, D, _, _, _, rfl, rfl, SqL.of eD3, atI_nat (nvs_get hg), _, rfl, _, _, rfl, rfl, ⟨Int.natCast_nonneg _, by show ((y : Nat) : Int) ≤ 1000000; have h9 : y < n := hy1; omega, by decide⟩, _, _, rfl, rfl, ?_⟩
      refine ⟨_, rfl, _, rfl, D, _, _, x, rfl, rfl, eD3, ixNat (by rw [List.length_map, hP.len]; exact hx1), change fun H4 b4 e4 => ?_⟩
      refine ⟨some (nv x), some (nv y), al.set x (al.getD x 0 ||| 2 ^ y), rfl, s3.mut nD b4, ?_, hP.add hx1 hy1 hxy1⟩
      rw [e4, ← nvs_set]
      show some (HO.lst ((nvs al).set x (V.int (Builtin.bitOr _ _)))) = _
      rw [bit_orS]
    · rintro σ H3 ⟨v3, v4, al0, rfl, s3, eD3, hP0⟩
      refine ⟨_, rfl, _, rfl, by omega, by omega, ?_⟩
      refine for_range (lo := 0) (n := n) (fun k σ H' => ∃ v3 v4 al, σ = [some (nv n), some (.ref a), some (.ref D), v3, v4] ∧ Same H1 H' ∧ H' D = some (.lst (nvs al)) ∧ OF.Outer n pos k al) ⟨v3, v4, al0, rfl, s3, eD3, .zero hP0⟩ (fun k σ H4 hk hP => ?_) (fun σ H4 hP => ?_)
      · obtain ⟨v3', v4', al, rfl, s4, eD4, hO⟩ := hP
        rw [Int.zero_add]
        refine ⟨_, rfl, _, rfl, by omega, by omega, ?_⟩
        refine for_range (lo := 0) (n := n) (fun i σ H' => ∃ v3 al', σ = [some (nv n), some (.ref a), some (.ref D), v3, some (nv k)] ∧ Same H1 H' ∧ H' D = some (.lst (nvs al')) ∧ OF.Inner n al k i al') ⟨v3', al, rfl, s4, eD4, .zero hO.pre⟩ (fun i σ H5 hi hP => ?_) (fun σ H5 hP => ?_)
        · obtain ⟨v3'', al', rfl, s5, eD5, hI⟩ := hP
          rw [Int.zero_add]
          have gi := al_get hI.len hi
          have gk := al_get hI.len hk
          refine ⟨_, rfl, _, rfl, D, _, _, _, rfl, rfl, SqL.of eD5, atI_nat (nvs_get gi), _, rfl, _, k, rfl, _, rfl, ?_⟩
          have et : (al'.getD i 0).testBit k = OF.rel al i k := hI.test
          rw [et]
          cases e : OF.rel al i k with
          | false => exact iteF ⟨some (nv i), al', rfl, s5, eD5, hI.skip e⟩
          | true =>
            refine iteT ?_
            refine ⟨_, rfl, _, rfl, D, _, _, _, rfl, rfl, SqL.of eD5, atI_nat (nvs_get gi), _, rfl, _, rfl, D, _, _, _, rfl, rfl, SqL.of eD5, atI_nat (nvs_get gk), _, _, rfl, rfl, ?_⟩
            refine ⟨_, rfl, _, rfl, D, _, _, i, rfl, rfl, eD5, ixNat (by rw [List.length_map, hI.len]; exact hi), change fun H6 b6 e6 => ?_⟩
            refine ⟨some (nv i), al'.set i (al'.getD i 0 ||| al'.getD k 0), rfl, s5.mut nD b6, ?_, hI.step hO.pre hi e⟩
            rw [e6, ← nvs_set]
            show some (HO.lst ((nvs al').set i (V.int (Builtin.bitOr _ _)))) = _
            rw [bit_or]
        · obtain ⟨v3'', al', rfl, s5, eD5, hI⟩ := hP
          exact ⟨_, _, al', rfl, s5, eD5, hO.turn hI⟩
      · obtain ⟨v3', v4', al, rfl, s4, eD4, hO⟩ := hP
        refine ⟨_, rfl, _, rfl, by omega, by omega, ?_⟩
        refine for_range (lo := 0) (n := n) (fun i σ H' => ∃ v3, σ = [some (nv n), some (.ref a), some (.ref D), v3, v4'] ∧ H' = H4) ⟨v3', rfl, rfl⟩ (fun i σ H5 hi hP => ?_) (fun σ H5 hP => ?_)
        · obtain ⟨v3'', rfl, rfl⟩ := hP
          rw [Int.zero_add]
          have gi := al_get hO.pre.len hi
          refine ⟨_, rfl, _, rfl, D, _, _, _, rfl, rfl, SqL.of eD4, atI_nat (nvs_get gi), _, rfl, _, i, rfl, _, rfl, ?_⟩
          have et : (al.getD i 0).testBit i = false := hO.pre.irr i
          rw [et]
          exact iteF ⟨some (nv i), rfl, rfl⟩
        · obtain ⟨v3'', rfl, rfl⟩ := hP
          refine ⟨_, rfl, .inl ⟨D, _, rfl, SqL.of eD4, fun p np => ?_⟩⟩
          generalize h6 : upd H5 p _ = H6
          have s6 : Same H5 H6 := h6 ▸ same_upd np
          have ep : H6 p = _ := h6 ▸ upd_same
          exact q al hO.ok H6 p ((s1.trans s4).trans s6) ((s1.trans s4).free np) ep
end
end OFW

namespace OFW
open PySem PySem.Spec PyProof.Rows L2
theorem But.mut {H H1 H2 : Hp} {a p : Addr} (s : But a H H1) (n : H p = none) (b : But p H1 H2) : But a H H2 := fun c o hc e => b c o (ne_of_none e n) (s c o hc e)
theorem But.trans {H H1 H2 : Hp} {a : Addr} (s : But a H H1) (b : But a H1 H2) : But a H H2 := fun c o hc e => b c o hc (s c o hc e)
theorem But.same {H H1 H2 : Hp} {a : Addr} (s : But a H H1) (b : Same H1 H2) : But a H H2 := fun c o hc e => b c o (s c o hc e)
theorem _root_.L2.Same.but {H H1 : Hp} {a : Addr} (s : Same H H1) : But a H H1 := fun c o _ e => s c o e
section
variable {P : Program} {w : World} {K : PySem.W.Frag} {mg : Str → Option Value} {base : Heap}
/-! ### Order.__init__ -/
def spInit (C : Addr) : Sp := fun vs H Q _ => ∃ (x : Addr) (dx n : Nat) (a : Addr) (as : List Addr) (ps : List (Nat × Nat)) (pos : Nat → Nat), vs = [.ref x, nv n, .ref a] ∧ H x = some (.ins C dx []) ∧ H a = some (.lst (refs as)) ∧ TupsAt H as (ps.map prV) ∧ Climb n pos ps ∧ n ≤ 10 ∧ ps.length ≤ 1000 ∧
  ∀ H' al, OF.OrdOk n al → OrdAt C x n al H' → But x H H' → Q .non H'
theorem scInit : FnScope ["self", "n", "pairs"] ["self", "n", "pairs"] (defScope sInit) := ⟨rfl, rfl, rfl, by decide +kernel, rfl, by decide +kernel, by decide +kernel⟩
theorem ok_init {C f fI fK fC fH : Addr} {fd dI dK dC dH : FuncData} {tM : Tok} (F : Fun K "__init__" "Order.__init__" sInit f fd) (T : OTxt K mg C) (mM : mg "MOST" = some (.int 10 tM)) (m1 : mg "isinstance" = none) (m2 : mg "int" = none) (m3 : mg "bool" = none) (m4 : mg "list" = none) (m5 : mg "tuple" = none) (m6 : mg "len" = none) (m7 : mg "range" = none)
    (FI : Fun K "is_integer" "is_integer" sInt fI dI) (bI : Binds K dI ["value"] []) (gI : mg "is_integer" = some (.ref fI))
    (FK : Fun K "_checked_pairs" "_checked_pairs" sChecked fK dK) (bK : Binds K dK ["n", "pairs"] []) (gK : mg "_checked_pairs" = some (.ref fK))
    (FC : Fun K "_closed" "_closed" sClosed fC dC) (bC : Binds K dC ["n", "pairs"] []) (gC : mg "_closed" = some (.ref fC))
    (FH : Fun K "has" "has" sHas fH dH) (bH : Binds K dH ["bits", "x"] []) (gH : mg "has" = some (.ref fH)) : FnOk P w K mg base CX0 3 f fd ["self", "n", "pairs"] (spInit C) := by
  have GI : FnOk P w K mg base CX0 2 fI dI ["value"] spInt := (ok_int FI m1 m2 m3).mono (by decide)
  have GK : FnOk P w K mg base CX0 2 fK dK ["n", "pairs"] spChk := ok_chk FK m1 m2 m3 m4 m5 m6 FI bI gI
  have GC : FnOk P w K mg base CX0 2 fC dC ["n", "pairs"] spClosed := ok_closed FC m7 m5 FH bH gH
  refine F.ok scInit (fun vs H Q E h => ?_) (fun cdv A outer s H vs Q E hr h => ?_)
  · obtain ⟨x, dx, n, a, as, ps, pos, rfl, _⟩ := h; rfl
  · obtain ⟨x, dx, n, a, as, ps, pos, rfl, ex, ea, hT, hC, hn, hl, q⟩ := h
    refine ⟨_, pss_cons (ps_if (PW.pt (pw_or (pt_not (pt_val (pe_call GI hr (by rfl) gI FI.kp bI .nil pass0 (pa_cons (pv 1) pa_nil)))) (pw_or1 (pt_cmpR op_lt (pv 1) pe_int (nomark _))))) pss_never pss_nil)
      (pss_cons (ps_if (pt_cmpR op_gt (pv 1) (pe_glob rfl mM (show RelV (.int 10) (.int 10 tM) from ⟨_, rfl⟩)) (nomark _)) pss_never pss_nil)
      (pss_cons (ps_fld (pv 0) (pv 1) rfl)
      (pss_one (ps_fld (pv 0) (pe_call GC hr (by rfl) gC FC.kp bC .nil pass0 (pa_cons (pv 1) (pa_cons (pe_call GK hr (by rfl) gK FK.kp bK .nil pass0 (pa_cons (pv 1) (pa_cons (pv 2) pa_nil))) pa_nil))) rfl)))), ?_⟩
    refine ⟨_, rfl, .inl ⟨_, rfl, _, rfl, iteF ?_⟩⟩
    refine ⟨_, rfl, _, _, rfl, rfl, _, rfl, if_dec (decide_eq_false (by omega)) (iteF ?_)⟩
    refine ⟨_, rfl, _, _, rfl, rfl, _, rfl, if_dec (decide_eq_false (by omega)) (iteF ?_)⟩
    refine ⟨_, rfl, _, rfl, x, C, dx, _, rfl, ex, T.cl, T.nN, by decide, change fun H1 b1 e1 => ?_⟩
    have ea1 := b1 _ _ (ne_of ea ex (by intro z; cases z)) ea
    have hT1 : TupsAt H1 as (ps.map prV) := Paired.mapP hT fun _ _ e => b1 _ _ (ne_of e ex (by intro z; cases z)) e
    refine ⟨_, rfl, _, rfl, _, rfl, ?_⟩
    refine ⟨n, a, as, ps, rfl, ea1, hT1, fun p hp => ⟨(hC p hp).1, (hC p hp).2.1⟩, hl, fun H2 p s2 np ep => ?_⟩
    refine ⟨n, p, as, ps, pos, rfl, ep, hT1.same s2, hC, hn, fun al hok H3 t s3 nt et => ?_⟩
    have e3 := s3 _ _ (s2 _ _ e1)
    refine ⟨_, rfl, x, C, dx, _, rfl, e3, T.cl, T.nA, by show 1 < 1000; decide, change fun H4 b4 e4 => ?_⟩
    refine q H4 al hok ⟨dx, t, e4, b4 _ _ (ne_of et e3 (by intro z; cases z)) et⟩ fun c o hc e => ?_
    exact b4 c o hc (s3 _ _ (s2 _ _ (b1 c o hc e)))
/-! ### _law_next -/
def spNext : Sp := fun vs H Q _ => ∃ (a : Addr) (l : List Nat) (m : Nat), vs = [.ref a, nv m] ∧ H a = some (.lst (nvs l)) ∧ 0 < m ∧ ∀ r H', r < m → But a H H' → H' a = some (.lst (nvs l.tail)) → Q (nv r) H'
theorem scNext : FnScope ["_law_numbers_here", "_law_many"] ["_law_numbers_here", "_law_many"] (defScope sLNext) := ⟨rfl, rfl, rfl, by decide +kernel, rfl, by decide +kernel, by decide +kernel⟩
theorem ok_next {f : Addr} {fd : FuncData} (F : Fun K "_law_next" "_law_next" sLNext f fd) (m1 : mg "len" = none) : FnOk P w K mg base CX0 1 f fd ["_law_numbers_here", "_law_many"] spNext := by
  refine F.ok scNext (fun vs H Q E h => ?_) (fun cdv A outer s H vs Q E hr h => ?_)
  · obtain ⟨a, l, m, rfl, _⟩ := h; rfl
  · obtain ⟨a, l, m, rfl, ea, hm, q⟩ := h
    refine ⟨_, pss_cons (ps_if (pt_cmpR op_eq (pe_callB call_len_seq (by rfl) m1 (by decide +kernel) (pa_cons (pv 0) pa_nil)) pe_int (nomark _)) (pss_one (ps_ret pe_int)) pss_nil)
      (pss_one (ps_ret (pe_op op_mod (pe_bm PySem.F.plainAttrs_list PySem.F.slot_list_pop PySem.F.type_list_pop mt_popAt (pv 0) (pa_cons pe_int pa_nil)) (pv 1)))), ?_⟩
    refine ⟨_, rfl, a, _, rfl, .inl (SqL.of ea), rfl, _, rfl, ?_⟩
    cases l with
    | nil => exact iteT (q 0 H hm (fun _ _ _ e => e) ea)
    | cons x l =>
      refine if_dec (c' := false) ?_ (iteF ?_)
      · show decide (V.int (((nvs (x :: l)).length : Nat) : Int) = V.int ((0 : Nat) : Int)) = false
        rw [dec_nat]
        exact decide_eq_false (by simp)
      · refine ⟨_, rfl, .inl ⟨rfl, _, SqL.of ea⟩, a, _, 0, 0, nv x, rfl, rfl, ea, by decide, by decide, ?_, rfl, ?_⟩
        · exact (ixN_seq (ixNat (n := (nvs (x :: l)).length) (j := 0) (by simp))).1
        · generalize h1 : upd H a _ = H1
          have b1 : But a H H1 := h1 ▸ but_upd
          have e1 : H1 a = some (.lst (nvs l)) := h1 ▸ upd_same
          refine ⟨_, rfl, _, _, rfl, rfl, by show (0 : Int) < (m : Int); omega, ?_⟩
          have e : ((x : Int) % (m : Int)) = ((x % m : Nat) : Int) := (Int.natCast_emod x m).symm
          show Q (V.int ((x : Int) % (m : Int))) H1
          rw [e]
          exact q (x % m) H1 (Nat.mod_lt _ hm) b1 e1
end
end OFW

namespace OFW
open PySem PySem.Spec PyProof.Rows L2
/-! ### drawn places -/
theorem idx_at : ∀ {l : List Nat} {i x : Nat}, l.Nodup → l[i]? = some x → l.idxOf x = i
  | [], i, x, _, h => by simp at h
  | y :: l, 0, x, _, h => by
    have e : y = x := Option.some.inj h
    subst e
    simp
  | y :: l, i + 1, x, hn, h => by
    have hn' := List.nodup_cons.mp hn
    have h' : l[i]? = some x := by simpa using h
    have ih := idx_at hn'.2 h'
    have hne : y ≠ x := fun e => hn'.1 (e ▸ List.mem_of_getElem? h')
    rw [List.idxOf_cons]
    have : (y == x) = false := beq_false_of_ne hne
    rw [this, ih]
    rfl
theorem erase_perm : ∀ {l : List Nat} {r y : Nat}, l[r]? = some y → (y :: l.eraseIdx r).Perm l
  | [], _, _, h => by simp at h
  | x :: l, 0, y, h => by
    have e : x = y := Option.some.inj h
    subst e
    exact List.Perm.refl _
  | x :: l, r + 1, y, h => by
    have h' : l[r]? = some y := by simpa using h
    exact (List.Perm.swap x y (l.eraseIdx r)).trans ((erase_perm h').cons x)
/-- images drawn and the points that are left -/
structure Drawn (n t : Nat) (im rs : List Nat) : Prop where
  len : im.length = t
  perm : (im ++ rs).Perm (List.range n)
theorem Drawn.left {n t : Nat} {im rs : List Nat} (h : Drawn n t im rs) : im.length + rs.length = n := by
  have := h.perm.length_eq
  rw [List.length_append, List.length_range] at this
  exact this
theorem Drawn.step {n t r y : Nat} {im rs : List Nat} (h : Drawn n t im rs) (hy : rs[r]? = some y) : Drawn n (t + 1) (im ++ [y]) (rs.eraseIdx r) := by
  refine ⟨by rw [List.length_append, h.len]; rfl, ?_⟩
  rw [List.append_assoc]
  exact ((List.Perm.append_left im (show ([y] ++ rs.eraseIdx r).Perm rs from erase_perm hy))).trans h.perm
theorem Drawn.climb {n : Nat} {im rs : List Nat} (h : Drawn n n im rs) {i j x y : Nat} (hx : im[j]? = some x) (hy : im[i]? = some y) (hj : j < i) : x < n ∧ y < n ∧ im.idxOf x < im.idxOf y := by
  have hnd : im.Nodup := (List.nodup_append.mp (h.perm.nodup_iff.mpr List.nodup_range)).1
  have hm : ∀ z ∈ im, z < n := fun z hz => List.mem_range.mp (h.perm.mem_iff.mp (List.mem_append_left _ hz))
  rw [idx_at hnd hx, idx_at hnd hy]
  exact ⟨hm _ (List.mem_of_getElem? hx), hm _ (List.mem_of_getElem? hy), hj⟩
theorem Climb.add {n : Nat} {pos : Nat → Nat} {ps : List (Nat × Nat)} {x y : Nat} (h : Climb n pos ps) (hp : x < n ∧ y < n ∧ pos x < pos y) : Climb n pos (ps ++ [(x, y)]) := fun p hm => by
  rcases List.mem_append.mp hm with hm | hm
  · exact h p hm
  · have : p = (x, y) := by simpa using hm
    subst this
    exact hp
theorem nvs_erase : ∀ (l : List Nat) (k : Nat), (nvs l).eraseIdx k = nvs (l.eraseIdx k)
  | [], _ => rfl
  | _ :: _, 0 => rfl
  | x :: l, k + 1 => congrArg (nv x :: ·) (nvs_erase l k)
section
variable {P : Program} {w : World} {K : PySem.W.Frag} {mg : Str → Option Value} {base : Heap}
def spOrder (C : Addr) : Sp := fun vs H Q _ => ∃ (a : Addr) (l : List Nat) (m : Nat), vs = [.ref a, nv m] ∧ H a = some (.lst (nvs l)) ∧ m ≤ 5 ∧ ∀ H' o n al l', n ≤ m → OF.OrdOk n al → OrdAt C o n al H' → H' a = some (.lst (nvs l')) → Q (.ref o) H'
theorem scOrder : FnScope ["_law_numbers_here", "_law_most", "_law_n", "_law_images", "_law_rest", "_law_k", "_law_turn", "_law_thick", "_law_pairs", "_law_i", "_law_j"] ["_law_numbers_here", "_law_most"] (defScope sLOrder) := ⟨rfl, rfl, rfl, by decide +kernel, rfl, by decide +kernel, by decide +kernel⟩
theorem ok_order {C f fN f0 : Addr} {fd dN d0 : FuncData} (F : Fun K "_law_order" "_law_order" sLOrder f fd) (m6 : mg "len" = none) (m7 : mg "range" = none)
    (FN : Fun K "_law_next" "_law_next" sLNext fN dN) (bN : Binds K dN ["_law_numbers_here", "_law_many"] []) (gN : mg "_law_next" = some (.ref fN))
    (M : Mk K C f0) (gO : mg "Order" = some (.ref C)) (b0 : Binds K d0 ["self", "n", "pairs"] []) (G0 : FnOk P w K mg base CX0 3 f0 d0 ["self", "n", "pairs"] (spInit C)) : FnOk P w K mg base CX0 5 f fd ["_law_numbers_here", "_law_most"] (spOrder C) := by
  have GN : FnOk P w K mg base CX0 4 fN dN ["_law_numbers_here", "_law_many"] spNext := (ok_next FN m6).mono (by decide)
  refine F.ok scOrder (fun vs H Q E h => ?_) (fun cdv A outer s H vs Q E hr h => ?_)
  · obtain ⟨a, l, m, rfl, _⟩ := h; rfl
  · obtain ⟨a, l, m, rfl, ea, hm, q⟩ := h
    refine ⟨_, pss_cons (ps_set (i := 2) scOrder.nd rfl (.inl rfl) (pe_call GN hr (by rfl) gN FN.kp bN .nil pass0 (pa_cons (pv 0) (pa_cons (pe_op op_add (pv 1) pe_int) pa_nil))))
      (pss_cons (ps_set (i := 3) scOrder.nd rfl (.inl rfl) (pe_lst pa_nil))
      (pss_cons (ps_setLc (i := 4) (own := [("_law_k", 5)]) (by rfl) scOrder.nd rfl rfl (sw_true rfl rfl rfl (by decide +kernel)) (pi_range1 (by rfl) m7 (pa_cons (pv 2) pa_nil)) (blkOk_by (own := [("_law_k", 5)]) (N := ["_law_numbers_here", "_law_most", "_law_n", "_law_images", "_law_rest", "_law_k", "_law_turn", "_law_thick", "_law_pairs", "_law_i", "_law_j"]) (sc := defScope sLOrder) (by decide +kernel))
          (fun _ _ _ _ _ => pg_name (i := 5) scOrder.nd rfl (Or.inl rfl)) (fun _ _ _ _ _ => pts_nil) (fun _ _ _ _ _ => pv 5))
      (pss_cons (ps_for PassesOwn.never rfl (pi_range1 (by rfl) m7 (pa_cons (pv 2) pa_nil)) (pg_name (i := 6) scOrder.nd rfl (.inl rfl))
        (pss_one (ps_expr (pe_bm PySem.F.plainAttrs_list PySem.F.slot_list_append PySem.F.type_list_append mt_append (pv 3) (pa_cons (pe_bm PySem.F.plainAttrs_list PySem.F.slot_list_pop PySem.F.type_list_pop mt_popAt (pv 4) (pa_cons (pe_call GN hr (by rfl) gN FN.kp bN .nil pass0 (pa_cons (pv 0) (pa_cons (pe_callB call_len_seq (by rfl) m6 (by decide +kernel) (pa_cons (pv 4) pa_nil)) pa_nil))) pa_nil)) pa_nil)))))
      (pss_cons (ps_set (i := 7) scOrder.nd rfl (.inl rfl) (pe_op op_add pe_int (pe_call GN hr (by rfl) gN FN.kp bN .nil pass0 (pa_cons (pv 0) (pa_cons pe_int pa_nil)))))
      (pss_cons (ps_set (i := 8) scOrder.nd rfl (.inl rfl) (pe_lst pa_nil))
      (pss_cons (ps_for PassesOwn.never rfl (pi_range1 (by rfl) m7 (pa_cons (pv 2) pa_nil)) (pg_name (i := 9) scOrder.nd rfl (.inl rfl))
        (pss_one (ps_for PassesOwn.never rfl (pi_range1 (by rfl) m7 (pa_cons (pv 9) pa_nil)) (pg_name (i := 10) scOrder.nd rfl (.inl rfl))
          (pss_one (ps_if (pt_cmpR op_eq (pe_call GN hr (by rfl) gN FN.kp bN .nil pass0 (pa_cons (pv 0) (pa_cons (pv 7) pa_nil))) pe_int (nomark _))
            (pss_one (ps_expr (pe_bm PySem.F.plainAttrs_list PySem.F.slot_list_append PySem.F.type_list_append mt_append (pv 8) (pa_cons (pe_tup (pa_cons (pe_ix ix_list (pv 3) (pv 10) (fun _ _ => rfl)) (pa_cons (pe_ix ix_list (pv 3) (pv 9) (fun _ _ => rfl)) pa_nil))) pa_nil)))) pss_nil)))))
      (pss_one (ps_ret (pe_make M G0 hr (by rfl) gO b0 .nil pass0 (pa_cons (pv 2) (pa_cons (pv 8) pa_nil))))))))))), ?_⟩
    refine ⟨_, rfl, _, rfl, _, _, rfl, rfl, a, l, m + 1, rfl, ea, Nat.succ_pos _, fun n H1 hn b1 ea1 => ?_⟩
    have hn5 : n ≤ m := Nat.le_of_lt_succ hn
    refine ⟨Nat.zero_le _, fun I nI => ?_⟩
    generalize h2 : upd H1 I _ = H2
    have s2 : Same H1 H2 := h2 ▸ same_upd nI
    have eI : H2 I = _ := h2 ▸ upd_same
    have ea2 := s2 _ _ ea1
    have naI : a ≠ I := fun z => by rw [← z, ea1] at nI; cases nI
    refine ⟨_, rfl, _, rfl, by omega, by omega, fun R nR => ?_⟩
    have naR : a ≠ R := fun z => by rw [← z, ea2] at nR; cases nR
    have nIR : I ≠ R := fun z => by rw [← z, eI] at nR; cases nR
    refine lc_range (lo := 0) (n := n) (fun i H' => Same H2 H' ∧ H' R = some (.lst (nvs (List.range i)))) ⟨same_upd nR, upd_same⟩ (fun i H3 hi hP => ?_) (fun H3 hP => ?_)
    · obtain ⟨s3, e3⟩ := hP
      rw [Int.zero_add]
      refine ⟨rfl, tYes_if ⟨_, rfl, _, e3, by rw [List.length_map, List.length_range]; exact small1000 (by omega), s3.mut nR but_upd, ?_⟩⟩
      rw [upd_same, List.range_succ, nvs_snoc]
    · obtain ⟨s3, e3⟩ := hP
      refine ⟨_, rfl, _, rfl, by omega, by omega, ?_⟩
      refine for_range (lo := 0) (n := n) (fun t σ H' => ∃ v6 im rs l', σ = [some (.ref a), some (nv m), some (nv n), some (.ref I), some (.ref R), none, v6, none, none, none, none] ∧ H' a = some (.lst (nvs l')) ∧ H' I = some (.lst (nvs im)) ∧ H' R = some (.lst (nvs rs)) ∧ Drawn n t im rs)
        ⟨none, [], List.range n, l.tail, rfl, s3 _ _ ea2, s3 _ _ eI, e3, ⟨rfl, List.Perm.refl _⟩⟩ (fun t σ H4 ht hP => ?_) (fun σ H4 hP => ?_)
      · obtain ⟨v6, im, rs, l', rfl, ea4, eI4, eR4, hD⟩ := hP
        rw [Int.zero_add]
        have hleft := hD.left
        have hil := hD.len
        refine ⟨_, rfl, .inl ⟨rfl, _, SqL.of eI4⟩, _, rfl, .inl ⟨rfl, _, SqL.of eR4⟩, _, rfl, _, rfl, R, _, rfl, .inl (SqL.of eR4), ?_⟩
        refine ⟨a, l', rs.length, by rw [List.length_map]; rfl, ea4, by omega, fun r H5 hr5 b5 ea5 => ?_⟩
        have eI5 := b5 _ _ naI.symm eI4
        have eR5 := b5 _ _ naR.symm eR4
        obtain ⟨y, hy⟩ : ∃ y, rs[r]? = some y := ⟨_, List.getElem?_eq_getElem hr5⟩
        refine ⟨R, nvs rs, r, r, nv y, rfl, rfl, eR5, by omega, by omega, (ixN_seq (ixNat (by rw [List.length_map]; exact hr5))).1, nvs_get hy, ?_⟩
        generalize h6 : upd H5 R _ = H6
        have b6 : But R H5 H6 := h6 ▸ but_upd
        have e6 : H6 R = _ := h6 ▸ upd_same
        rw [nvs_erase] at e6
        refine ⟨I, _, _, rfl, rfl, b6 _ _ nIR eI5, by rw [List.length_map]; exact small1000 (by omega), change fun H7 b7 e7 => ?_⟩
        exact ⟨_, im ++ [y], rs.eraseIdx r, l'.tail, rfl, b7 _ _ naI (b6 _ _ naR ea5), by rw [e7, nvs_snoc], b7 _ _ nIR.symm e6, hD.step hy⟩
      · obtain ⟨v6, im, rs, l', rfl, ea4, eI4, eR4, hD⟩ := hP
        refine ⟨_, rfl, a, l', 3, rfl, ea4, by decide, fun r H5 hr5 b5 ea5 => ?_⟩
        have eI5 := b5 _ _ naI.symm eI4
        refine ⟨_, _, rfl, rfl, ?_⟩
        refine ⟨Nat.zero_le _, fun D nD => ?_⟩
        generalize h6 : upd H5 D _ = H6
        have s6 : Same H5 H6 := h6 ▸ same_upd nD
        have eD : H6 D = _ := h6 ▸ upd_same
        have naD : a ≠ D := fun z => by rw [← z, ea5] at nD; cases nD
        have nID : I ≠ D := fun z => by rw [← z, eI5] at nD; cases nD
        refine ⟨_, rfl, _, rfl, by omega, by omega, ?_⟩
        refine for_range (lo := 0) (n := n) (fun i σ H' => ∃ v9 v10 as ps l', σ = [some (.ref a), some (nv m), some (nv n), some (.ref I), some (.ref R), none, v6, some (nv (2 + r)), some (.ref D), v9, v10] ∧ H' a = some (.lst (nvs l')) ∧ H' I = some (.lst (nvs im)) ∧ H' D = some (.lst (refs as)) ∧ TupsAt H' as (ps.map prV) ∧ Climb n (fun x => im.idxOf x) ps ∧ ps.length ≤ i * 5)
          ⟨none, none, [], [], l'.tail, rfl, s6 _ _ ea5, s6 _ _ eI5, eD, .nil, (fun _ h => by cases h), Nat.zero_le _⟩ (fun i σ H7 hi hP => ?_) (fun σ H7 hP => ?_)
        · obtain ⟨v9, v10, as, ps, l7, rfl, ea7, eI7, eD7, hT7, hC7, hl7⟩ := hP
          rw [Int.zero_add]
          refine ⟨_, rfl, _, rfl, by omega, by omega, ?_⟩
          refine for_range (lo := 0) (n := i) (fun j σ H' => ∃ v10 as ps l', σ = [some (.ref a), some (nv m), some (nv n), some (.ref I), some (.ref R), none, v6, some (nv (2 + r)), some (.ref D), some (nv i), v10] ∧ H' a = some (.lst (nvs l')) ∧ H' I = some (.lst (nvs im)) ∧ H' D = some (.lst (refs as)) ∧ TupsAt H' as (ps.map prV) ∧ Climb n (fun x => im.idxOf x) ps ∧ ps.length ≤ i * 5 + j)
            ⟨v10, as, ps, l7, rfl, ea7, eI7, eD7, hT7, hC7, hl7⟩ (fun j σ H8 hj hP => ?_) (fun σ H8 hP => ?_)
          · obtain ⟨v10', as', ps', l8, rfl, ea8, eI8, eD8, hT8, hC8, hl8⟩ := hP
            rw [Int.zero_add]
            refine ⟨_, rfl, _, rfl, a, l8, 2 + r, rfl, ea8, by omega, fun g H9 hg b9 ea9 => ?_⟩
            have eI9 := b9 _ _ naI.symm eI8
            have eD9 := b9 _ _ naD.symm eD8
            have hT9 := hT8.but ea8 b9
            refine ⟨rfl, _, rfl, ?_⟩
            by_cases hz : decide (V.int (g : Int) = V.int 0) = true
            · refine if_dec hz (iteT ?_)
              have hil := hD.len
              have gi : im[i]? = some (im.getD i 0) := get_of (by omega)
              have gj : im[j]? = some (im.getD j 0) := get_of (by omega)
              have hlen := hT9.len
              rw [List.length_map] at hlen
              refine ⟨_, rfl, .inl ⟨rfl, _, SqL.of eD9⟩, _, rfl, _, rfl, I, _, _, _, rfl, rfl, SqL.of eI9, atI_nat (nvs_get gj), _, rfl, _, rfl, I, _, _, _, rfl, rfl, SqL.of eI9, atI_nat (nvs_get gi), by show 2 ≤ sizeLine; decide, fun p np => ?_⟩
              generalize h10 : upd H9 p _ = H10
              have s10 : Same H9 H10 := h10 ▸ same_upd np
              have e10 : H10 p = _ := h10 ▸ upd_same
              refine ⟨D, _, _, rfl, rfl, s10 _ _ eD9, by rw [refs_len]; exact small1000 (by omega), change fun H11 b11 e11 => ?_⟩
              refine ⟨_, as' ++ [p], ps' ++ [(im.getD j 0, im.getD i 0)], l8.tail, rfl, b11 _ _ naD (s10 _ _ ea9), b11 _ _ nID (s10 _ _ eI9), by rw [e11, refs_snoc], ?_, hC8.add (hD.climb gj gi hj), ?_⟩
              · rw [List.map_append]
                exact (TupsAt.snoc e10 (hT9.same s10)).but (s10 _ _ eD9) b11
              · rw [List.length_append]
                show ps'.length + 1 ≤ _
                omega
            · refine if_dec (Bool.eq_false_iff.mpr hz) (iteF ?_)
              exact ⟨_, as', ps', l8.tail, rfl, ea9, eI9, eD9, hT9, hC8, by omega⟩
          · obtain ⟨v10', as', ps', l8, rfl, ea8, eI8, eD8, hT8, hC8, hl8⟩ := hP
            exact ⟨_, _, as', ps', l8, rfl, ea8, eI8, eD8, hT8, hC8, by rw [Nat.succ_mul]; omega⟩
        · obtain ⟨v9, v10, as, ps, l7, rfl, ea7, eI7, eD7, hT7, hC7, hl7⟩ := hP
          refine ⟨_, rfl, _, rfl, fun x dx nx ndx hne => ?_⟩
          have nx2 : (upd H7 dx (.own x)) x = none := by rw [upd_ne (Ne.symm hne)]; exact nx
          have s8 : Same H7 (upd (upd H7 dx (.own x)) x (.ins C dx [])) := (same_upd ndx).trans (same_upd nx2)
          have e8 : (upd (upd H7 dx (.own x)) x (.ins C dx [])) x = some (.ins C dx []) := upd_same
          generalize upd (upd H7 dx (.own x)) x (.ins C dx []) = H8 at s8 e8 ⊢
          refine ⟨x, dx, n, D, as, ps, fun x => im.idxOf x, rfl, e8, s8 _ _ eD7, hT7.same s8, hC7, by omega, by omega, fun H9 al hok hO b9 => ⟨rfl, ?_⟩⟩
          have nax : a ≠ x := fun z => by rw [← z, ea7] at nx; cases nx
          exact q H9 x n al l7 hn5 hok hO (b9 _ _ nax (s8 _ _ ea7))
end
end OFW

namespace OFW
open PySem PySem.Spec PyProof.Rows L2
section
variable {P : Program} {w : World} {K : PySem.W.Frag} {mg : Str → Option Value} {base : Heap}
/-! ### _law_numbers -/
def spNums (K : PySem.W.Frag) : Sp := fun vs H Q _ => ∃ (a : Addr) (ns : List Int), vs = [.ref a] ∧ SqL K H a (ns.map V.int) ∧ ns.length ≤ 63 ∧ ∀ H' p l, Same H H' → H p = none → H' p = some (.lst (nvs l)) → Q (.ref p) H'
theorem scNums : FnScope ["_law_script", "_law_found", "_law_k", "_law_cell", "_law_turn", "_law_i", "_law_mixed"] ["_law_script"] (defScope sLNumbers) := ⟨rfl, rfl, rfl, by decide +kernel, rfl, by decide +kernel, by decide +kernel⟩
theorem int_nv {i : Int} (h : 0 ≤ i) : V.int i = nv i.toNat := congrArg V.int (Int.toNat_of_nonneg h).symm
theorem ok_nums {f : Addr} {fd : FuncData} (F : Fun K "_law_numbers" "_law_numbers" sLNumbers f fd) (m1 : mg "range" = none) (m2 : mg "min" = none) (m3 : mg "len" = none) (m4 : mg "abs" = none) : FnOk P w K mg base CX0 1 f fd ["_law_script"] (spNums K) := by
  refine F.ok scNums (fun vs H Q E h => ?_) (fun cdv A outer s H vs Q E hr h => ?_)
  · obtain ⟨a, ns, rfl, _⟩ := h; rfl
  · obtain ⟨a, ns, rfl, hS, hl, q⟩ := h
    refine ⟨_, pss_cons (ps_set (i := 1) scNums.nd rfl (.inl rfl) (pe_lst pa_nil))
      (pss_cons (ps_for PassesOwn.never rfl (pi_range1 (by rfl) m1 (pa_cons (pe_callB (call_min2 rfl) (by rfl) m2 (by decide +kernel) (pa_cons (pe_callB call_len_seq (by rfl) m3 (by decide +kernel) (pa_cons (pv 0) pa_nil)) (pa_cons pe_int pa_nil))) pa_nil)) (pg_name (i := 2) scNums.nd rfl (.inl rfl))
        (pss_cons (ps_set (i := 3) scNums.nd rfl (.inl rfl) (pe_callB call_abs (by rfl) m4 (by decide +kernel) (pa_cons (pe_ix ix_list (pv 0) (pv 2) (fun _ _ => rfl)) pa_nil)))
        (pss_one (ps_if (pt_cmpR op_ge (pv 3) (pe_op op_pow pe_int pe_int) (nomark _))
          (pss_one (ps_for PassesOwn.never rfl (pi_range1 (by rfl) m1 (pa_cons pe_int pa_nil)) (pg_name (i := 4) scNums.nd rfl (.inl rfl))
            (pss_one (ps_if (pt_cmpR op_gt (pv 3) pe_int (nomark _))
              (pss_cons (ps_expr (pe_bm PySem.F.plainAttrs_list PySem.F.slot_list_append PySem.F.type_list_append mt_append (pv 1) (pa_cons (pe_op op_mod (pv 3) pe_int) pa_nil)))
              (pss_one (ps_set (i := 3) scNums.nd rfl (.inl rfl) (pe_op op_fdiv (pv 3) pe_int)))) pss_nil))))
          (pss_one (ps_for PassesOwn.never rfl (pi_range1 (by rfl) m1 (pa_cons pe_int pa_nil)) (pg_name (i := 5) scNums.nd rfl (.inl rfl))
            (pss_cons (ps_set (i := 3) scNums.nd rfl (.inl rfl) (pe_op op_mod (pe_op op_add (pe_op op_add (pe_op op_mul (pv 3) pe_int) (pe_op op_mul pe_int (pe_op op_add (pv 5) (pv 2)))) pe_int) pe_int))
            (pss_cons (ps_set (i := 6) scNums.nd rfl (.inl rfl) (pe_op op_mod (pe_op op_add (pe_op op_mul (pv 3) pe_int) (pe_op op_fdiv (pv 3) pe_int)) pe_int))
            (pss_one (ps_expr (pe_bm PySem.F.plainAttrs_list PySem.F.slot_list_append PySem.F.type_list_append mt_append (pv 1) (pa_cons (pe_op op_mod (pv 6) pe_int) pa_nil))))))))))))
      (pss_one (ps_ret (pv 1)))), ?_⟩
    refine ⟨Nat.zero_le _, fun D nD => ?_⟩
    generalize h1 : upd H D _ = H1
    have s1 : Same H H1 := h1 ▸ same_upd nD
    have eD : H1 D = _ := h1 ▸ upd_same
    refine ⟨_, rfl, a, _, rfl, .inl (s1.seq hS), _, _, rfl, ?_⟩
    have emin : (if (63 : Int) < (((ns.map V.int).length : Nat) : Int) then (63 : Int) else (((ns.map V.int).length : Nat) : Int)) = ((ns.length : Nat) : Int) := by
      rw [List.length_map, if_neg (by omega)]
    rw [emin]
    refine ⟨_, rfl, by omega, by omega, ?_⟩
    refine for_range (lo := 0) (n := ns.length) (fun k σ H' => ∃ v2 v3 v4 v5 v6 l, σ = [some (.ref a), some (.ref D), v2, v3, v4, v5, v6] ∧ Same H H' ∧ H' D = some (.lst (nvs l)) ∧ l.length ≤ k * 60) ⟨none, none, none, none, none, [], rfl, s1, eD, Nat.zero_le _⟩ (fun k σ H2 hk hP => ?_) (fun σ H2 hP => ?_)
    · obtain ⟨v2, v3, v4, v5, v6, l, rfl, s2, eD2, hl2⟩ := hP
      rw [Int.zero_add]
      have hx : (ns.map V.int)[k]? = some (V.int ns[k]) := by rw [List.getElem?_map, List.getElem?_eq_getElem hk]; rfl
      refine ⟨_, rfl, _, rfl, a, _, _, _, rfl, rfl, s2.seq hS, atI_nat hx, _, rfl, ?_⟩
      have habs : (0 : Int) ≤ (if ns[k] < 0 then -ns[k] else ns[k]) := by split <;> omega
      generalize (if ns[k] < 0 then -ns[k] else ns[k]) = c at habs
      refine ⟨_, rfl, _, _, rfl, rfl, ⟨by decide, by decide, by decide⟩, _, _, rfl, rfl, _, rfl, ?_⟩
      have e18 : (10 : Int) ^ ((18 : Int)).toNat = 1000000000000000000 := by decide
      rw [e18]
      by_cases hc : (1000000000000000000 : Int) ≤ c
      · refine if_dec (decide_eq_true hc) (iteT ?_)
        refine ⟨60, rfl, by decide, by decide, ?_⟩
        refine for_range (lo := 0) (n := 60) (fun t σ H' => ∃ c v4 l, σ = [some (.ref a), some (.ref D), some (nv k), some (.int c), v4, v5, v6] ∧ 0 ≤ c ∧ Same H H' ∧ H' D = some (.lst (nvs l)) ∧ l.length ≤ k * 60 + t) ⟨c, v4, l, rfl, habs, s2, eD2, hl2⟩ (fun t σ H3 ht hP => ?_) (fun σ H3 hP => ?_)
        · obtain ⟨c', v4', l', rfl, hc', s3, eD3, hl3⟩ := hP
          refine ⟨_, rfl, _, _, rfl, rfl, _, rfl, ?_⟩
          by_cases hz : 0 < c'
          · refine if_dec (decide_eq_true hz) (iteT ?_)
            refine ⟨_, rfl, .inl ⟨rfl, _, SqL.of eD3⟩, _, rfl, _, _, rfl, rfl, (by show (0 : Int) < 1009; decide), D, _, _, rfl, rfl, eD3, by rw [List.length_map]; exact line5000 (by omega), ?_⟩
            generalize h4 : upd H3 D _ = H4
            have b4 : But D H3 H4 := h4 ▸ but_upd
            have e4 : H4 D = _ := h4 ▸ upd_same
            refine ⟨_, rfl, _, _, rfl, rfl, ⟨by decide, by decide⟩, ?_⟩
            refine ⟨c' / 1009, _, l' ++ [(c' % 1009).toNat], rfl, Int.ediv_nonneg hc' (by decide), s3.mut nD b4, ?_, by rw [List.length_append]; show l'.length + 1 ≤ _; omega⟩
            rw [e4, nvs_snoc, ← int_nv (Int.emod_nonneg _ (by decide))]
          · exact if_dec (decide_eq_false hz) (iteF ⟨c', _, l', rfl, hc', s3, eD3, by omega⟩)
        · obtain ⟨c', v4', l', rfl, hc', s3, eD3, hl3⟩ := hP
          exact ⟨_, _, _, _, _, l', rfl, s3, eD3, by omega⟩
      · refine if_dec (decide_eq_false hc) (iteF ?_)
        refine ⟨5, rfl, by decide, by decide, ?_⟩
        refine for_range (lo := 0) (n := 5) (fun t σ H' => ∃ c v5 v6 l, σ = [some (.ref a), some (.ref D), some (nv k), some (.int c), v4, v5, v6] ∧ 0 ≤ c ∧ Same H H' ∧ H' D = some (.lst (nvs l)) ∧ l.length ≤ k * 60 + t) ⟨c, v5, v6, l, rfl, habs, s2, eD2, hl2⟩ (fun t σ H3 ht hP => ?_) (fun σ H3 hP => ?_)
        · obtain ⟨c', v5', v6', l', rfl, hc', s3, eD3, hl3⟩ := hP
          refine ⟨_, rfl, _, _, rfl, rfl, .inr ⟨by decide, by decide⟩, _, rfl, _, rfl, _, _, rfl, rfl, _, _, rfl, rfl, .inl ⟨by decide, by decide⟩, _, _, rfl, rfl, _, _, rfl, rfl, _, _, rfl, rfl, (by show (0 : Int) < 2147483647; decide), ?_⟩
          generalize hd : (c' * 48271 + 69621 * ((0 + (t : Int)) + (k : Int)) + 11) % 2147483647 = d
          have hd0 : 0 ≤ d := hd ▸ Int.emod_nonneg _ (by decide)
          refine ⟨_, rfl, _, _, rfl, rfl, .inr ⟨by decide, by decide⟩, _, rfl, _, _, rfl, rfl, ⟨by decide, by decide⟩, _, _, rfl, rfl, _, _, rfl, rfl, (by show (0 : Int) < 2147483629; decide), ?_⟩
          refine ⟨_, rfl, .inl ⟨rfl, _, SqL.of eD3⟩, _, rfl, _, _, rfl, rfl, (by show (0 : Int) < 1009; decide), D, _, _, rfl, rfl, eD3, by rw [List.length_map]; exact line5000 (by omega), ?_⟩
          generalize h4 : upd H3 D _ = H4
          have b4 : But D H3 H4 := h4 ▸ but_upd
          have e4 : H4 D = _ := h4 ▸ upd_same
          refine ⟨d, some (.int (0 + (t : Int))), some (.int ((d * 16807 + d / 65536) % 2147483629)), l' ++ [(((d * 16807 + d / 65536) % 2147483629) % 1009).toNat], by subst hd; rfl, hd0, s3.mut nD b4, ?_, by rw [List.length_append]; show l'.length + 1 ≤ _; omega⟩
          rw [e4, nvs_snoc, ← int_nv (Int.emod_nonneg _ (by decide))]
          subst hd
          rfl
        · obtain ⟨c', v5', v6', l', rfl, hc', s3, eD3, hl3⟩ := hP
          exact ⟨_, _, _, _, _, l', rfl, s3, eD3, by omega⟩
    · obtain ⟨v2, v3, v4, v5, v6, l, rfl, s2, eD2, hl2⟩ := hP
      exact ⟨_, rfl, q H2 D l s2 nD eD2⟩
/-! ### _law_rows -/
def rowsF (n : Nat) (row : List Nat) : List (List Nat) := ((List.range n).filter fun x => !row.contains x).map fun x => row ++ [x]
theorem rowsF_len (n : Nat) (row : List Nat) : (rowsF n row).length ≤ n := by
  unfold rowsF
  rw [List.length_map]
  exact Nat.le_trans (List.length_filter_le _ _) (by rw [List.length_range]; exact Nat.le_refl _)
theorem rows_succ (n t : Nat) : OF.rows n (t + 1) = (OF.rows n t).flatMap (rowsF n) := rfl
theorem rows_size (n : Nat) : ∀ t, (OF.rows n t).length ≤ n ^ t
  | 0 => Nat.le_refl _
  | t + 1 => by
    rw [rows_succ, Nat.pow_succ]
    exact Nat.le_trans (grow_len (rowsF_len n) _) (Nat.mul_le_mul_right _ (rows_size n t))
/-- the rows that follow by the first j points -/
def rowsJ (row : List Nat) (j : Nat) : List (List Nat) := ((List.range j).filter fun x => !row.contains x).map fun x => row ++ [x]
theorem rowsJ_succ (row : List Nat) (j : Nat) : rowsJ row (j + 1) = rowsJ row j ++ (if row.contains j then [] else [row ++ [j]]) := by
  unfold rowsJ
  rw [List.range_succ, List.filter_append, List.map_append]
  congr 1
  cases h : row.contains j <;> simp_all
def spRows : Sp := fun vs H Q _ => ∃ n : Nat, vs = [nv n] ∧ n ≤ 5 ∧ ∀ H' p as, Same H H' → H p = none → H' p = some (.lst (refs as)) → TupsAt H' as ((OF.rows n n).map nvs) → Q (.ref p) H'
theorem scRows : FnScope ["_law_n", "_law_found", "_law_turn", "_law_longer", "_law_row", "_law_x"] ["_law_n"] (defScope sLRows) := ⟨rfl, rfl, rfl, by decide +kernel, rfl, by decide +kernel, by decide +kernel⟩
theorem ok_rows {f : Addr} {fd : FuncData} (F : Fun K "_law_rows" "_law_rows" sLRows f fd) (m1 : mg "range" = none) (m2 : mg "list" = none) : FnOk P w K mg base CX0 1 f fd ["_law_n"] spRows := by
  refine F.ok scRows (fun vs H Q E h => ?_) (fun cdv A outer s H vs Q E hr h => ?_)
  · obtain ⟨n, rfl, _⟩ := h; rfl
  · obtain ⟨n, rfl, hn, q⟩ := h
    refine ⟨_, pss_cons (ps_set (i := 1) scRows.nd rfl (.inl rfl) (pe_lst (pa_cons (pe_tup pa_nil) pa_nil)))
      (pss_cons (ps_for PassesOwn.never rfl (pi_range1 (by rfl) m1 (pa_cons (pv 0) pa_nil)) (pg_name (i := 2) scRows.nd rfl (.inl rfl))
        (pss_cons (ps_set (i := 3) scRows.nd rfl (.inl rfl) (pe_lst pa_nil))
        (pss_cons (ps_for PassesOwn.never rfl (pi_list (pe_callTy call_list_of (by rfl) m2 (by decide +kernel) (pa_cons (pv 1) pa_nil))) (pg_name (i := 4) scRows.nd rfl (.inl rfl))
          (pss_one (ps_for PassesOwn.never rfl (pi_range1 (by rfl) m1 (pa_cons (pv 0) pa_nil)) (pg_name (i := 5) scRows.nd rfl (.inl rfl))
            (pss_one (ps_if (pt_cmpR op_notIn_seq (pv 5) (pv 4) (by rfl))
              (pss_one (ps_expr (pe_bm PySem.F.plainAttrs_list PySem.F.slot_list_append PySem.F.type_list_append mt_append (pv 3) (pa_cons (pe_op op_catA (pv 4) (pe_tup (pa_cons (pv 5) pa_nil))) pa_nil)))) pss_nil)))))
        (pss_one (ps_set (i := 1) scRows.nd rfl (.inl rfl) (pv 3))))))
      (pss_one (ps_ret (pv 1)))), ?_⟩
    refine ⟨Nat.zero_le _, fun e np => ?_⟩
    generalize h3 : upd H e _ = H3
    have s3 : Same H H3 := h3 ▸ same_upd np
    have ee3 : H3 e = _ := h3 ▸ upd_same
    refine ⟨by show 1 ≤ sizeLine; decide, fun L nL => ?_⟩
    generalize h4 : upd H3 L _ = H4
    have s4 : Same H3 H4 := h4 ▸ same_upd nL
    have eL : H4 L = _ := h4 ▸ upd_same
    have s04 : Same H H4 := s3.trans s4
    refine ⟨_, rfl, _, rfl, by omega, by omega, ?_⟩
    refine for_range (lo := 0) (n := n) (fun t σ H' => ∃ L v2 v3 v4 v5 as, σ = [some (nv n), some (.ref L), v2, v3, v4, v5] ∧ Same H H' ∧ H L = none ∧ H' L = some (.lst (refs as)) ∧ TupsAt H' as ((OF.rows n t).map nvs))
      ⟨L, none, none, none, none, [e], rfl, s04, s3.free nL, eL, .cons (s4 _ _ ee3) .nil⟩ (fun t σ H5 ht hP => ?_) (fun σ H5 hP => ?_)
    · obtain ⟨L', v2, v3, v4, v5, as, rfl, s5, nL5, eL5, hT⟩ := hP
      rw [Int.zero_add]
      have hsz := rows_size n t
      have hsz' := rows_size n (t + 1)
      have hsz5' := pow5 hn (show t + 1 ≤ n from ht)
      rw [rows_succ] at hsz'
      refine ⟨Nat.zero_le _, fun D nD => ?_⟩
      generalize h6 : upd H5 D _ = H6
      have s6 : Same H5 H6 := h6 ▸ same_upd nD
      have eD : H6 D = _ := h6 ▸ upd_same
      refine ⟨_, rfl, L', _, rfl, .inl (SqL.of (s6 _ _ eL5)), fun c nc => ?_⟩
      generalize h7 : upd H6 c _ = H7
      have s7 : Same H6 H7 := h7 ▸ same_upd nc
      have ec : H7 c = _ := h7 ▸ upd_same
      have hA7 : Acc H5 H7 D [] [] := ⟨s6.trans s7, nD, s7 _ _ eD, .nil⟩
      have ncD : c ≠ D := fun z => by rw [z, eD] at nc; cases nc
      refine ⟨c, rfl, ⟨_, SqL.of ec⟩, for_list (K := K) (a := c) (xs := refs as) (fun i σ H' => ∃ v4 v5 bs, σ = [some (nv n), some (.ref L'), some (nv t), some (.ref D), v4, v5] ∧ H' c = some (.lst (refs as)) ∧ Acc H5 H' D bs ((((OF.rows n t).take i).flatMap (rowsF n)).map nvs))
        ⟨v4, v5, [], rfl, ec, hA7⟩ (fun i σ H' _ ⟨_, _, _, _, e, _⟩ => SqL.of e) ?_ ?_⟩
      · rintro i x σ H8 hx ⟨v4', v5', bs, rfl, ec8, hA⟩
        obtain ⟨ra, hra, rfl⟩ := refs_get hx
        obtain ⟨rv, hrv, era⟩ := (hT.same hA.same).getA hra
        rw [List.getElem?_map] at hrv
        obtain ⟨row, hrow, rfl⟩ := Option.map_eq_some_iff.mp hrv
        have hmem := List.mem_of_getElem? hrow
        have hrl := (OF.rows_ok hmem).1
        have hpl := pre_len (f := rowsF n) hrow
        have hlin := Nat.le_trans hpl hsz'
        refine ⟨_, rfl, _, rfl, by omega, by omega, ?_⟩
        refine for_range (lo := 0) (n := n) (fun j σ H' => ∃ v5 bs, σ = [some (nv n), some (.ref L'), some (nv t), some (.ref D), some (.ref ra), v5] ∧ H' c = some (.lst (refs as)) ∧ Acc H5 H' D bs ((((OF.rows n t).take i).flatMap (rowsF n)).map nvs ++ (rowsJ row j).map nvs)) ⟨v5', bs, rfl, ec8, ?_⟩ (fun j σ H9 hj hP => ?_) (fun σ H9 hP => ?_)
        · have : rowsJ row 0 = [] := rfl
          rw [this, List.map_nil, List.append_nil]
          exact hA
        · obtain ⟨v5'', bs', rfl, ec9, hB⟩ := hP
          rw [Int.zero_add]
          obtain ⟨rv2, hrv2, era2⟩ := (hT.same hB.same).getA hra
          rw [List.getElem?_map, hrow] at hrv2
          obtain rfl : nvs row = rv2 := Option.some.inj hrv2
          refine ⟨_, rfl, _, rfl, ra, _, rfl, .inr (SqT.of era2), rfl, flat_nvs _, _, rfl, ?_⟩
          have ein : inV (nv j) (nvs row) = row.contains j := by
            rw [inV_nat, Bool.eq_iff_iff, decide_eq_true_eq, List.contains_iff_mem]
          refine if_dec (c' := !row.contains j) ?_ ?_
          · show (if true = true then !inV (nv j) (nvs row) else inV (nv j) (nvs row)) = _
            rw [if_pos rfl, ein]
          have hju := rowsJ_succ row j
          cases hc : row.contains j with
          | true =>
            rw [hc] at hju
            refine iteF ⟨_, bs', rfl, ec9, ?_⟩
            rw [hju, if_pos rfl, List.append_nil]
            exact hB
          | false =>
            rw [hc, if_neg (by decide)] at hju
            have hbl := hB.tups.len
            rw [List.length_append, List.length_map, List.length_map] at hbl
            have htk : (rowsJ row j).length ≤ (rowsF n row).length := by
              unfold rowsJ rowsF
              rw [List.length_map, List.length_map]
              have hpre : (List.range j).Sublist (List.range n) := List.range_sublist.mpr (Nat.le_of_lt hj)
              exact (hpre.filter _).length_le
            refine iteT ⟨_, rfl, .inl ⟨rfl, _, SqL.of hB.at_⟩, ?_⟩
            refine r_snoc (i := 4) (j := 5) rfl rfl era2 (by rw [List.length_map]; omega) fun H11 p s11 np ep => ?_
            refine ⟨D, _, _, rfl, rfl, s11 _ _ hB.at_, by rw [refs_len]; exact line5000 (by omega), change fun H12 b12 e12 => ?_⟩
            have hAcc := hB.push s11 np ep b12 e12
            refine ⟨_, bs' ++ [p], rfl, b12 _ _ ncD (s11 _ _ ec9), ?_⟩
            rw [hju, List.map_append, ← List.append_assoc]
            show Acc H5 H12 D (bs' ++ [p]) (_ ++ [nvs (row ++ [j])])
            rw [nvs_snoc]
            exact hAcc
        · obtain ⟨v5'', bs', rfl, ec9, hB⟩ := hP
          refine ⟨_, _, bs', rfl, ec9, ?_⟩
          rw [flat_take hrow, List.map_append]
          exact hB
      · rintro σ H8 ⟨v4', v5', bs, rfl, ec8, hA⟩
        have hl0 := hT.len
        rw [List.length_map] at hl0
        rw [refs_len, hl0, List.take_length] at hA
        exact ⟨_, rfl, D, _, _, _, _, bs, rfl, s5.trans hA.same, s5.free hA.free, hA.at_, hA.tups⟩
    · obtain ⟨L', v2, v3, v4, v5, as, rfl, s5, nL5, eL5, hT⟩ := hP
      exact ⟨_, rfl, q H5 L' as s5 nL5 eL5 hT⟩
end
end OFW

namespace OFW
open PySem PySem.Spec PyProof.Rows L2
/-! ### a table of bools -/
def bls (n : Nat) (f : Nat → Bool) : List V := (List.range n).map fun y => V.bl (f y)
structure TabAt (H : Hp) (p : Addr) (n : Nat) (T : Nat → Nat → Bool) (ts : List Addr) : Prop where
  at_ : H p = some (.lst (refs ts))
  len : ts.length = n
  nd : ts.Nodup
  out : p ∉ ts
  rows : ∀ x a, ts[x]? = some a → H a = some (.lst (bls n (T x)))
theorem bls_len (n : Nat) (f : Nat → Bool) : (bls n f).length = n := by
  unfold bls
  rw [List.length_map, List.length_range]
theorem bls_get {n y : Nat} {f : Nat → Bool} (h : y < n) : (bls n f)[y]? = some (.bl (f y)) := by
  unfold bls
  rw [List.getElem?_map, List.getElem?_range h]
  rfl
theorem bls_set {n y : Nat} {f : Nat → Bool} (h : y < n) : (bls n f).set y (.bl true) = bls n fun z => f z || decide (z = y) := by
  apply List.ext_getElem?
  intro z
  rw [List.getElem?_set]
  by_cases e : y = z
  · subst e
    rw [if_pos rfl, if_pos (by rw [bls_len]; exact h), bls_get h]
    simp
  · rw [if_neg e]
    by_cases hz : z < n
    · rw [bls_get hz, bls_get hz, decide_eq_false (fun q => e q.symm), Bool.or_false]
    · rw [List.getElem?_eq_none (by rw [bls_len]; omega), List.getElem?_eq_none (by rw [bls_len]; omega)]
theorem TabAt.same {H H' : Hp} {p : Addr} {n : Nat} {T : Nat → Nat → Bool} {ts : List Addr} (h : TabAt H p n T ts) (s : Same H H') : TabAt H' p n T ts := ⟨s _ _ h.at_, h.len, h.nd, h.out, fun x a e => s _ _ (h.rows x a e)⟩
theorem TabAt.but {H H' : Hp} {p b : Addr} {n : Nat} {T : Nat → Nat → Bool} {ts : List Addr} (h : TabAt H p n T ts) (s : But b H H') (h1 : p ≠ b) (h2 : b ∉ ts) : TabAt H' p n T ts :=
  ⟨s _ _ h1 h.at_, h.len, h.nd, h.out, fun x a e => s _ _ (fun z => h2 (z ▸ List.mem_of_getElem? e)) (h.rows x a e)⟩
theorem TabAt.put {H H' : Hp} {p a : Addr} {n x y : Nat} {T : Nat → Nat → Bool} {ts : List Addr} (h : TabAt H p n T ts) (hx : ts[x]? = some a) (s : But a H H') (e : H' a = some (.lst (bls n fun z => T x z || decide (z = y)))) :
    TabAt H' p n (fun x' y' => T x' y' || decide ((x', y') = (x, y))) ts := by
  refine ⟨s _ _ (fun z => h.out (z ▸ List.mem_of_getElem? hx)) h.at_, h.len, h.nd, h.out, fun x' a' e' => ?_⟩
  by_cases hxx : x' = x
  · subst hxx
    rw [hx] at e'
    cases e'
    rw [e]
    congr 2
    unfold bls
    apply List.map_congr_left
    intro z _
    simp
  · have hne : a' ≠ a := fun z => by
      subst z
      exact hxx ((idx_at h.nd e').symm.trans (idx_at h.nd hx))
    rw [s _ _ hne (h.rows x' a' e')]
    congr 2
    unfold bls
    apply List.map_congr_left
    intro z _
    simp [hxx]
theorem TabAt.congr {H : Hp} {p : Addr} {n : Nat} {T T' : Nat → Nat → Bool} {ts : List Addr} (h : TabAt H p n T ts) (e : ∀ x y, x < n → y < n → T x y = T' x y) : TabAt H p n T' ts := by
  refine ⟨h.at_, h.len, h.nd, h.out, fun x a hx => ?_⟩
  have hxn : x < n := by
    have := (List.getElem?_eq_some_iff.mp hx).1
    have := h.len
    omega
  rw [h.rows x a hx]
  congr 2
  unfold bls
  apply List.map_congr_left
  intro y hy
  rw [e x y hxn (List.mem_range.mp hy)]
/-- the pairs of an order are its relation -/
theorem prs_mem {n : Nat} {al : List Nat} {x y : Nat} (hx : x < n) (hy : y < n) : decide ((x, y) ∈ prs n al n) = OF.rel al x y := by
  rw [Bool.eq_iff_iff, decide_eq_true_eq]
  unfold prs
  rw [List.mem_flatMap]
  constructor
  · rintro ⟨x', hx', h⟩
    obtain ⟨y', hy', e⟩ := List.mem_map.mp h
    cases e
    exact (List.mem_filter.mp hy').2
  · intro h
    refine ⟨x, List.mem_range.mpr hx, List.mem_map.mpr ⟨y, ?_, rfl⟩⟩
    exact List.mem_filter.mpr ⟨List.mem_range.mpr hy, h⟩
section
variable {P : Program} {w : World} {K : PySem.W.Frag} {mg : Str → Option Value} {base : Heap}
variable {C fInt fMem fSet fHas fFol fSize fBel fLes fPrs : Addr} {dInt dMem dSet dHas dFol dSize dBel dLes dPrs : FuncData}
/-! ### _law_table -/
def tableB : Scope := { kind := .function, names := [(".0", .local), ("_law_x", .local), ("range", .globalImplicit), ("_law_n", .cell)], isGenerator := false, isCoroutine := false }
def spTable (C : Addr) : Sp := fun vs H Q _ => ∃ (o : Addr) (n : Nat) (al : List Nat), vs = [.ref o] ∧ OrdAt C o n al H ∧ OF.OrdOk n al ∧ n ≤ 10 ∧ ∀ H' p ts, Same H H' → H p = none → (∀ a ∈ ts, H a = none) → TabAt H' p n (OF.rel al) ts → Q (.ref p) H'
theorem scTable : FnScope ["_law_order_here", "_law_n", "_law_table_here", "_law_x", "_law_y"] ["_law_order_here"] (defScope sLTable) := ⟨rfl, rfl, rfl, by decide +kernel, rfl, by decide +kernel, by decide +kernel⟩
theorem ok_table {f : Addr} {fd : FuncData} (F : Fun K "_law_table" "_law_table" sLTable f fd) (T : Fns K mg C fInt fMem fSet fHas fFol fSize fBel fLes fPrs dInt dMem dSet dHas dFol dSize dBel dLes dPrs) : FnOk P w K mg base CX0 3 f fd ["_law_order_here"] (spTable C) := by
  have GSize : FnOk P w K mg base CX0 2 fSize dSize ["self"] (spSize C) := (ok_size T.FSize T.o).mono (by decide)
  have GPrs : FnOk P w K mg base CX0 2 fPrs dPrs ["self"] (spPairs C) := ok_pairs T.FPrs T.o T.mT T.mR T.FMem T.bMem T.gMem
  refine F.ok scTable (fun vs H Q E h => ?_) (fun cdv A outer s H vs Q E hr h => ?_)
  · obtain ⟨o, n, al, rfl, _⟩ := h; rfl
  · obtain ⟨o, n, al, rfl, hO, hok, hn, q⟩ := h
    refine ⟨_, pss_cons (ps_set (i := 1) scTable.nd rfl (.inr rfl) (pe_meth0 (pv 0) T.o.cl T.mSize GSize hr T.bSize .nil pass0))
      (pss_cons (ps_setLc (i := 2) (own := [("_law_x", 3)]) (by rfl) scTable.nd rfl rfl (sw_true rfl rfl rfl (by decide +kernel)) (pi_range1 (by rfl) T.mR (pa_cons (pv 1) pa_nil)) (blkOk_by (own := [("_law_x", 3)]) (N := ["_law_order_here", "_law_n", "_law_table_here", "_law_x", "_law_y"]) (sc := defScope sLTable) (by decide +kernel))
          (fun _ _ _ _ _ => pg_name (i := 3) scTable.nd rfl (Or.inl rfl)) (fun _ _ _ _ _ => pts_nil)
          (fun _ _ _ _ _ => pe_lc (own := [("_law_y", 4)]) (by rfl) scTable.nd (pi_range1 (by rfl) T.mR (pa_cons (pv 1) pa_nil)) (show BlkOk ["_law_order_here", "_law_n", "_law_table_here", "_law_x", "_law_y"] tableB _ [("_law_y", 4)] from blkOk_by (by decide +kernel))
            (fun _ _ _ _ _ => pg_name (i := 4) scTable.nd rfl (Or.inl rfl)) (fun _ _ _ _ _ => pts_nil) (fun _ _ _ _ _ => pe_bl)))
      (pss_cons (ps_for PassesOwn.never rfl (pi_tup (pe_meth0 (pv 0) T.o.cl T.mPrs GPrs hr T.bPrs .nil pass0)) (pg_tup rfl (pgs_cons (pg_name (i := 3) scTable.nd rfl (.inl rfl)) (pgs_cons (pg_name (i := 4) scTable.nd rfl (.inl rfl)) pgs_nil)))
        (pss_one (ps_asg pe_bl (pg_sub (pe_ix ix_list (pv 2) (pv 3) (fun _ _ => rfl)) (pv 4) set_list))))
      (pss_one (ps_ret (pv 2))))), ?_⟩
    refine r_size rfl hO ?_
    refine ⟨_, rfl, _, rfl, by omega, by omega, fun D nD => ?_⟩
    refine lc_range (lo := 0) (n := n) (fun i H' => ∃ ts : List Addr, Same H H' ∧ H' D = some (.lst (refs ts)) ∧ ts.length = i ∧ ts.Nodup ∧ D ∉ ts ∧ (∀ a ∈ ts, H a = none) ∧ ∀ a ∈ ts, H' a = some (.lst (bls n fun _ => false))) ⟨[], same_upd nD, upd_same, rfl, List.nodup_nil, (by simp), (fun _ h => by cases h), (fun _ h => by cases h)⟩ (fun i H1 hi hP => ?_) (fun H1 hP => ?_)
    · obtain ⟨ts, s1, e1, hl, hnd, hout, hnew, hrow⟩ := hP
      rw [Int.zero_add]
      refine ⟨rfl, tYes_if ?_⟩
      refine ⟨_, rfl, _, rfl, by omega, by omega, fun D2 nD2 => ?_⟩
      refine lc_range (lo := 0) (n := n) (fun j H' => Same H1 H' ∧ H' D2 = some (.lst (bls j fun _ => false))) ⟨same_upd nD2, upd_same⟩ (fun j H2 hj hP => ?_) (fun H2 hP => ?_)
      · obtain ⟨s2, e2⟩ := hP
        refine ⟨rfl, tYes_if ⟨_, e2, by rw [bls_len]; exact small1000 (by omega), s2.mut nD2 but_upd, ?_⟩⟩
        rw [upd_same]
        unfold bls
        rw [List.range_succ, List.map_append]
        rfl
      · obtain ⟨s2, e2⟩ := hP
        have nD2D : D2 ≠ D := fun z => by rw [z, e1] at nD2; cases nD2
        refine ⟨_, s2 _ _ e1, by rw [refs_len]; exact small1000 (by omega), ?_⟩
        generalize h3 : upd H2 D _ = H3
        have b3 : But D H2 H3 := h3 ▸ but_upd
        have e3 : H3 D = _ := h3 ▸ upd_same
        have nin : D2 ∉ ts := fun z => by rw [hrow _ z] at nD2; cases nD2
        refine ⟨ts ++ [D2], (s1.trans s2).mut nD b3, by rw [e3, refs_snoc], by rw [List.length_append, hl]; rfl, ?_, ?_, ?_, ?_⟩
        · rw [List.nodup_append]
          exact ⟨hnd, by simp, fun a ha b hb => by
            have : b = D2 := by simpa using hb
            subst this
            rintro rfl
            exact nin ha⟩
        · intro z
          rcases List.mem_append.mp z with z | z
          · exact hout z
          · exact nD2D (List.mem_singleton.mp z).symm
        · intro a ha
          rcases List.mem_append.mp ha with ha | ha
          · exact hnew a ha
          · have : a = D2 := by simpa using ha
            subst this
            exact s1.free nD2
        · intro a ha
          rcases List.mem_append.mp ha with ha | ha
          · exact b3 _ _ (fun z => hout (z ▸ ha)) (s2 _ _ (hrow a ha))
          · have : a = D2 := by simpa using ha
            subst this
            exact b3 _ _ nD2D e2
    · obtain ⟨ts, s1, e1, hl, hnd, hout, hnew, hrow⟩ := hP
      have hTab : TabAt H1 D n (fun _ _ => false) ts := ⟨e1, hl, hnd, hout, fun x a e => hrow a (List.mem_of_getElem? e)⟩
      obtain ⟨dx, t, k1, k2⟩ := id (hO.same s1)
      refine ⟨_, rfl, o, dx, _, rfl, k1, ofs_no _ _ no_pairs.1 no_pairs.2, o, n, al, rfl, hO.same s1, hok, hn, fun H2 p as s2 np ep hT => ?_⟩
      have hTab2 := hTab.same s2
      have hlt : ∀ q ∈ prs n al n, q.1 < n ∧ q.2 < n := fun q hq => by
        unfold prs at hq
        obtain ⟨x, hx, h⟩ := List.mem_flatMap.mp hq
        obtain ⟨y, hy, rfl⟩ := List.mem_map.mp h
        exact ⟨List.mem_range.mp hx, List.mem_range.mp (List.mem_filter.mp hy).1⟩
      refine ⟨p, rfl, ⟨_, SqT.of ep⟩, for_tup (K := K) (a := p) (xs := refs as) (fun i σ H' => ∃ v3 v4, σ = [some (.ref o), some (nv n), some (.ref D), v3, v4] ∧ Same H H' ∧ H' p = some (.tup (refs as)) ∧ TupsAt H' as ((prs n al n).map prV) ∧ TabAt H' D n (fun x y => decide ((x, y) ∈ (prs n al n).take i)) ts)
        ⟨none, none, rfl, s1.trans s2, ep, hT, hTab2.congr fun _ _ _ _ => by simp⟩ (fun i σ H' _ ⟨_, _, _, _, e, _⟩ => SqT.of e) ?_ ?_⟩
      · rintro i x σ H3 hx ⟨v3, v4, rfl, s3, ep3, hT3, hTab3⟩
        obtain ⟨ra, hra, rfl⟩ := refs_get hx
        obtain ⟨rv, hrv, era⟩ := hT3.getA hra
        rw [List.getElem?_map] at hrv
        obtain ⟨⟨x, y⟩, hxy, rfl⟩ := Option.map_eq_some_iff.mp hrv
        obtain ⟨hx1, hy1⟩ := hlt _ (List.mem_of_getElem? hxy)
        obtain ⟨a, ha⟩ : ∃ a, ts[x]? = some a := ⟨_, List.getElem?_eq_getElem (by rw [hl]; exact hx1)⟩
        have ea := hTab3.rows x a ha
        have hax : (refs ts)[x]? = some (.ref a) := by unfold refs; rw [List.getElem?_map, ha]; rfl
        refine ⟨ra, _, rfl, SqT.of era, rfl, _, _, rfl, _, _, rfl, rfl, ?_⟩
        refine ⟨_, rfl, _, rfl, D, _, _, _, rfl, rfl, SqL.of hTab3.at_, atI_nat hax, _, rfl, a, _, _, y, rfl, rfl, ea, ixNat (by rw [bls_len]; exact hy1), ?_⟩
        generalize h4 : upd H3 a _ = H4
        have b4 : But a H3 H4 := h4 ▸ but_upd
        have e4 : H4 a = _ := h4 ▸ upd_same
        rw [bls_set hy1] at e4
        have hna : H a = none := hnew a (List.mem_of_getElem? ha)
        refine ⟨_, _, rfl, s3.mut hna b4, b4 _ _ (ne_of ep3 ea (by intro z; cases z)) ep3, hT3.but ea b4, (hTab3.put ha b4 e4).congr fun x' y' _ _ => ?_⟩
        rw [List.take_add_one, hxy]
        simp [List.mem_append]
      · rintro σ H3 ⟨v3, v4, rfl, s3, ep3, hT3, hTab3⟩
        have hlen := hT.len
        rw [List.length_map] at hlen
        rw [refs_len, hlen, List.take_length] at hTab3
        exact ⟨_, rfl, q H3 D ts s3 nD hnew (hTab3.congr fun x y hx hy => prs_mem hx hy)⟩
/-! ### _law_fits -/
def spFits : Sp := fun vs H Q _ => ∃ (p a : Addr) (n : Nat) (al : List Nat) (ts : List Addr) (l : List Nat), vs = [.ref p, .ref a] ∧ TabAt H p n (OF.rel al) ts ∧ H a = some (.tup (nvs l)) ∧ (∀ x ∈ l, x < n) ∧ l.length ≤ 1000 ∧ Q (.bl (OF.fits (OF.rel al) l)) H
theorem scFits : FnScope ["_law_table_here", "_law_row", "_law_i", "_law_j"] ["_law_table_here", "_law_row"] (defScope sLFits) := ⟨rfl, rfl, rfl, by decide +kernel, rfl, by decide +kernel, by decide +kernel⟩
theorem ok_fits {f : Addr} {fd : FuncData} (F : Fun K "_law_fits" "_law_fits" sLFits f fd) (m1 : mg "range" = none) (m2 : mg "len" = none) : FnOk P w K mg base CX0 1 f fd ["_law_table_here", "_law_row"] spFits := by
  refine F.ok scFits (fun vs H Q E h => ?_) (fun cdv A outer s H vs Q E hr h => ?_)
  · obtain ⟨p, a, n, al, ts, l, rfl, _⟩ := h; rfl
  · obtain ⟨p, a, n, al, ts, l, rfl, hT, ea, hlt, hz, q⟩ := h
    refine ⟨_, pss_cons (ps_for PassesOwn.never rfl (pi_range1 (by rfl) m1 (pa_cons (pe_callB call_len_seq (by rfl) m2 (by decide +kernel) (pa_cons (pv 1) pa_nil)) pa_nil)) (pg_name (i := 2) scFits.nd rfl (.inl rfl))
        (pss_one (ps_for PassesOwn.never rfl (pi_range1 (by rfl) m1 (pa_cons (pv 2) pa_nil)) (pg_name (i := 3) scFits.nd rfl (.inl rfl))
          (pss_one (ps_if (pt_val (pe_ix ix_list (pe_ix ix_list (pv 0) (pe_ix ix_tup (pv 1) (pv 2) (fun _ _ => rfl)) (fun _ _ => rfl)) (pe_ix ix_tup (pv 1) (pv 3) (fun _ _ => rfl)) (fun _ _ => rfl))) (pss_one (ps_ret pe_bl)) pss_nil)))))
      (pss_one (ps_ret pe_bl)), ?_⟩
    refine ⟨_, rfl, a, _, rfl, .inr (SqT.of ea), _, rfl, by rw [List.length_map]; omega, by rw [List.length_map]; omega, ?_⟩
    rw [List.length_map]
    refine for_range (lo := 0) (n := l.length) (fun i σ H' => ∃ v2 v3, σ = [some (.ref p), some (.ref a), v2, v3] ∧ H' = H ∧ FitTo (OF.rel al) l i 0) ⟨none, none, rfl, rfl, .zero⟩ (fun i σ H2 hi hP => ?_) (fun σ H2 hP => ?_)
    · obtain ⟨v2, v3, rfl, rfl, hF⟩ := hP
      rw [Int.zero_add]
      refine ⟨_, rfl, _, rfl, by omega, by omega, ?_⟩
      refine for_range (lo := 0) (n := i) (fun j σ H' => ∃ v3, σ = [some (.ref p), some (.ref a), some (nv i), v3] ∧ H' = H2 ∧ FitTo (OF.rel al) l i j) ⟨v3, rfl, rfl, hF⟩ (fun j σ H3 hj hP => ?_) (fun σ H3 hP => ?_)
      · obtain ⟨v3', rfl, rfl, hG⟩ := hP
        rw [Int.zero_add]
        have gi := get_of hi
        have gj := get_of (Nat.lt_trans hj hi)
        have hi1 := hlt _ (List.mem_of_getElem? gi)
        have hj1 := hlt _ (List.mem_of_getElem? gj)
        obtain ⟨b, hb⟩ : ∃ b, ts[l.getD i 0]? = some b := ⟨_, List.getElem?_eq_getElem (by rw [hT.len]; exact hi1)⟩
        have hbx : (refs ts)[l.getD i 0]? = some (.ref b) := by unfold refs; rw [List.getElem?_map, hb]; rfl
        refine ⟨_, rfl, _, rfl, _, rfl, a, _, _, _, rfl, rfl, SqT.of ea, atI_nat (nvs_get gi), p, _, _, _, rfl, rfl, SqL.of hT.at_, atI_nat hbx, _, rfl, _, rfl, a, _, _, _, rfl, rfl, SqT.of ea, atI_nat (nvs_get gj), b, _, _, _, rfl, rfl, SqL.of (hT.rows _ _ hb), atI_nat (bls_get hj1), _, rfl, ?_⟩
        cases e : OF.rel al (l.getD i 0) (l.getD j 0) with
        | true =>
          have hz := fits_not hi hj e
          rw [hz] at q
          exact iteT q
        | false => exact iteF ⟨some (nv j), rfl, rfl, hG.next e⟩
      · obtain ⟨v3', rfl, rfl, hG⟩ := hP
        exact ⟨_, _, rfl, rfl, hG.turn⟩
    · obtain ⟨v2, v3, rfl, rfl, hF⟩ := hP
      have hz := hF.all
      rw [hz] at q
      exact q
end
end OFW

namespace OFW
open PySem PySem.Spec PyProof.Rows L2
section
variable {P : Program} {w : World} {K : PySem.W.Frag} {mg : Str → Option Value} {base : Heap}
variable {C fInt fMem fSet fHas fFol fSize fBel fLes fPrs : Addr} {dInt dMem dSet dHas dFol dSize dBel dLes dPrs : FuncData}
/-! ### _law_reason -/
def spReason (C : Addr) : Sp := fun vs H Q _ => ∃ (o : Addr) (n : Nat) (al : List Nat) (k : Int), vs = [.ref o, .int k] ∧ OrdAt C o n al H ∧ OF.OrdOk n al ∧ n ≤ 10 ∧ (k < 0 ∨ ((OF.cnt (OF.rel al) n n 0 : Nat) : Int) ≤ k) ∧ ∀ H', Same H H' → Q (.str "rank") H'
theorem scReason : FnScope ["_law_order_here", "_law_k", "e"] ["_law_order_here", "_law_k"] (defScope sLReason) := ⟨rfl, rfl, rfl, by decide +kernel, rfl, by decide +kernel, by decide +kernel⟩
theorem ok_reason {f fL CR fI cc cda : Addr} {fd dL : FuncData} (F : Fun K "_law_reason" "_law_reason" sLReason f fd) (TR : OFR.RefTxt P K mg CR fI cc cda)
    (FL : Fun K "linear_at" "linear_at" sLinAt fL dL) (bL : Binds K dL ["order", "k"] []) (gL : mg "linear_at" = some (.ref fL)) (GL : FnOk P w K mg base (L2.CX P w) 5 fL dL ["order", "k"] (spLinAt C CR)) : FnOk P w K mg base CX0 6 f fd ["_law_order_here", "_law_k"] (spReason C) := by
  refine F.ok scReason (fun vs H Q E h => ?_) (fun cdv A outer s H vs Q E hr h => ?_)
  · obtain ⟨o, n, al, k, rfl, _⟩ := h; rfl
  · obtain ⟨o, n, al, k, rfl, hO, hok, hn, hk, q⟩ := h
    refine ⟨_, pss_one (ps_try_as (i := 2) (tb := fun W => tSeq (tDrop (tCallS (spLinAt C CR) (WE W) (tCons (tVar 0) (tCons (tVar 1) tNil)))) (tRet (tC (.str "none")))) (ts := fun a cls d => tRet (tXf a cls d CR "reason" (tVar 2))) (Wout := fun _ _ _ _ => False) rfl rfl scReason.nd rfl rfl ⟨rfl, by decide, Or.inl TR.gC⟩ takes0
        (fun W pn xe tk _ => pss_cons (ps_expr (by exact (pe_callS GL hr rfl gL FL.kp bL (fun σ => passAt tk σ) (by exact (pa_cons (pv 0) (pa_cons (pv 1) pa_nil)))))) (pss_one (ps_ret (by exact pe_str))))
        (fun a oe cls d pn hz hf => pss_one (ps_ret (by exact (pe_xf TR.xf TR.noN hz hf (pv 2)))))), ?_⟩
    refine ⟨_, rfl, _, rfl, o, n, al, k, rfl, hO, hok, hn, fun _ H1 d s1 nd => ⟨true, TR.te, fun _ a0 _ => ?_, fun z => nomatch z⟩, fun j ej r hr => ?_⟩
    · refine ⟨_, rfl, rfl, rfl, d, _, _, rfl, upd_same, ?_, q _ (s1.trans (same_upd nd))⟩
      simp [List.lookup]
    · have := (List.getElem?_eq_some_iff.mp hr).1
      rw [OF.cnt_ext] at this
      omega
end
end OFW

namespace OF
/-! ### there is a linear order -/
/-- the number of the points below -/
def prd (n : Nat) (al : List Nat) (x : Nat) : Nat := ((List.range n).filter fun z => rel al z x).length
theorem prd_up {n : Nat} {al : List Nat} (h : OrdOk n al) {z x : Nat} (e : rel al z x = true) : prd n al z < prd n al x := by
  unfold prd
  have e1 : (List.range n).filter (fun y => rel al y z) = ((List.range n).filter fun y => rel al y x).filter fun y => rel al y z := by
    rw [List.filter_filter]
    apply List.filter_congr
    intro y _
    cases hy : rel al y z with
    | false => rfl
    | true => rw [h.tr y z x hy e]; rfl
  have hs : (((List.range n).filter fun y => rel al y x).filter fun y => rel al y z).Sublist ((List.range n).filter fun y => rel al y x) := List.filter_sublist
  rw [e1]
  rcases Nat.lt_or_ge (((List.range n).filter fun y => rel al y x).filter fun y => rel al y z).length ((List.range n).filter fun y => rel al y x).length with hlt | hge
  · exact hlt
  · have heq := hs.eq_of_length (Nat.le_antisymm hs.length_le hge)
    have hm : z ∈ (List.range n).filter fun y => rel al y x := List.mem_filter.mpr ⟨List.mem_range.mpr (h.bnd e).1, e⟩
    rw [← heq] at hm
    have := (List.mem_filter.mp hm).2
    rw [h.irr z] at this
    cases this
theorem fol_some {n : Nat} {al : List Nat} (h : OrdOk n al) (F : Nat) : ∀ (m x : Nat), x < n → F.testBit x = false → prd n al x ≤ m → ∃ y, y ∈ fol (rel al) n F := by
  intro m
  induction m with
  | zero =>
    intro x hx hb hm
    refine ⟨x, mem_fol.mpr ⟨hx, hb, fun z hz e => ?_⟩⟩
    have := prd_up h e
    omega
  | succ m ih =>
    intro x hx hb hm
    by_cases hall : ∀ z, z < n → rel al z x = true → F.testBit z = true
    · exact ⟨x, mem_fol.mpr ⟨hx, hb, hall⟩⟩
    · obtain ⟨z, hz⟩ := Classical.not_forall.mp hall
      obtain ⟨hzn, hz2⟩ := Classical.not_imp.mp hz
      obtain ⟨e, hbz⟩ := Classical.not_imp.mp hz2
      have := prd_up h e
      exact ih z hzn (Bool.eq_false_iff.mpr hbz) (by omega)
theorem pc_full {n F : Nat} (h : ∀ x, x < n → F.testBit x = true) : pc n F = n := by
  unfold pc
  rw [List.filter_eq_self.mpr fun x hx => h x (List.mem_range.mp hx), List.length_range]
theorem sum_pos {α : Type} {f : α → Nat} : ∀ {l : List α} {x : α}, x ∈ l → 0 < f x → 0 < (l.map f).sum
  | y :: l, x, h, hp => by
    rw [List.map_cons, List.sum_cons]
    rcases List.mem_cons.mp h with rfl | h
    · omega
    · have := sum_pos h hp
      omega
theorem cnt_pos {n : Nat} {al : List Nat} (h : OrdOk n al) : ∀ (k t F : Nat), Rch (rel al) n t F → t + k = n → 0 < cnt (rel al) n k F
  | 0, _, _, _, _ => Nat.one_pos
  | k + 1, t, F, hr, e => by
    show 0 < ((fol (rel al) n F).map fun x => cnt (rel al) n k (F ||| 2 ^ x)).sum
    have hx : ∃ x, x < n ∧ F.testBit x = false := by
      apply Classical.byContradiction
      intro hno
      have hall : ∀ x, x < n → F.testBit x = true := fun x hx => by
        cases hb : F.testBit x with
        | true => rfl
        | false => exact absurd ⟨x, hx, hb⟩ hno
      have h1 := pc_full hall
      have h2 := hr.pc_eq
      omega
    obtain ⟨x, hxn, hxb⟩ := hx
    obtain ⟨y, hy⟩ := fol_some h F _ x hxn hxb (Nat.le_refl _)
    exact sum_pos hy (cnt_pos h k (t + 1) (F ||| 2 ^ y) (.step hr hy) (by omega))
/-- the linear orders, three ways -/
theorem due_ext {n : Nat} {al : List Nat} (h : OrdOk n al) : (rows n n).filter (fits (rel al)) = ext (rel al) n n 0 := by
  rw [due_lin h.irr (fun x y e => ?_) (fun x y e => (h.bnd e).1), lin_all]
  cases e2 : rel al y x with
  | false => rfl
  | true =>
    have := h.tr x y x e e2
    rw [h.irr] at this
    cases this
theorem rows_perm {n : Nat} {row : List Nat} (h : row ∈ rows n n) : row.Perm (List.range n) := by
  obtain ⟨h1, h2, h3⟩ := rows_ok h
  refine (List.perm_ext_iff_of_nodup h2 List.nodup_range).mpr fun x => ⟨fun hx => List.mem_range.mpr (h3 x hx), fun hx => ?_⟩
  exact rows_full h1 h2 h3 x (List.mem_range.mp hx)
end OF

namespace OFW
open PySem PySem.Spec PyProof.Rows L2
/-! ### rows as data -/
def rd (r : List Nat) : PyData := .tuple ((r.map ci).map PyData.int)
section
variable {K : PySem.W.Frag} {H : Hp}
theorem dp_row {a : Addr} {r : List Nat} (e : H a = some (.tup (nvs r))) : Dp K H (.ref a) (rd r) := .tup (SqT.of (by rw [ints_nv]; exact e)) (dp_ints _)
theorem dp_rows : ∀ {as : List Addr} {rs : List (List Nat)}, TupsAt H as (rs.map nvs) → DpAll K H (refs as) (rs.map rd)
  | [], [], .nil => .nil
  | _ :: _, _ :: _, .cons r t => .cons (dp_row r) (dp_rows t)
end
theorem ci_inj {a b : List Nat} (h : a.map ci = b.map ci) : a = b := (List.map_inj_right fun x y e => by unfold ci at e; omega).mp h
theorem eqv_rd (a b : List Nat) : PyData.eqv (rd a) (rd b) = decide (a = b) := by
  have e : PyData.eqv (rd a) (rd b) = PyData.eqvAll ((a.map ci).map PyData.int) ((b.map ci).map PyData.int) := by
    unfold rd
    simp only [PyData.eqv]
  rw [e, eqv_ints]
  by_cases h : a = b
  · subst h
    rw [decide_eq_true rfl, decide_eq_true rfl]
  · rw [decide_eq_false h, decide_eq_false fun q => h (ci_inj q)]
theorem eqv_rds : ∀ l : List (List Nat), PyData.eqvAll (l.map rd) (l.map rd) = true
  | [] => by simp [PyData.eqvAll]
  | r :: l => by
    have h1 := eqv_rd r r
    rw [decide_eq_true rfl] at h1
    simp [PyData.eqvAll, h1, eqv_rds l]
theorem any_rd (l : List (List Nat)) (r : List Nat) : ((l.map rd).any fun z => PyData.eqv z (rd r)) = decide (r ∈ l) := by
  rw [List.any_map, Bool.eq_iff_iff, List.any_eq_true, decide_eq_true_eq]
  constructor
  · rintro ⟨x, hx, e⟩
    have e' : PyData.eqv (rd x) (rd r) = true := e
    rw [eqv_rd] at e'
    exact of_decide_eq_true e' ▸ hx
  · intro h
    refine ⟨r, h, ?_⟩
    show PyData.eqv (rd r) (rd r) = true
    rw [eqv_rd]
    exact decide_eq_true rfl
theorem lay_rd (r : List Nat) : (rd r).canLay0 = true := by
  unfold rd
  simp only [PyData.canLay0]
  exact lay_ints _
theorem depth_rd (r : List Nat) : (rd r).depth ≤ 1 := by
  unfold rd
  simp only [PyData.depth, depth_ints]
  omega
theorem lay_rds : ∀ l : List (List Nat), PyData.canLayAll0 (l.map rd) = true
  | [] => by simp [PyData.canLayAll0]
  | r :: l => by simp [PyData.canLayAll0, lay_rd r, lay_rds l]
theorem depth_rds : ∀ l : List (List Nat), PyData.depthAll (l.map rd) ≤ 1
  | [] => by simp [PyData.depthAll]
  | r :: l => by
    have h1 := depth_rds l
    have h2 := depth_rd r
    simp only [List.map_cons, PyData.depthAll]
    omega
theorem shaped_rd (r : List Nat) : SeqAt.shaped (rd r) = true := shaped_mk (lay_rd r) (by have := depth_rd r; omega)
theorem shaped_rds (l : List (List Nat)) : SeqAt.shaped (.list (l.map rd)) = true := shaped_mk (by simp only [PyData.canLay0]; exact lay_rds l) (by have := depth_rds l; simp only [PyData.depth]; omega)
theorem eqv_rdL (l : List (List Nat)) : PyData.eqv (.list (l.map rd)) (.list (l.map rd)) = true := by
  have e : PyData.eqv (.list (l.map rd)) (.list (l.map rd)) = PyData.eqvAll (l.map rd) (l.map rd) := by simp only [PyData.eqv]
  rw [e, eqv_rds]
section
variable {P : Program} {w : World} {K : PySem.W.Frag} {mg : Str → Option Value} {base : Heap}
/-- t + (v,) -/
theorem r_cat {ta tb : TE} {σ : L2.St} {H : Hp} {Q : VK} {xs : List V} {v : V} (ha : ∀ Q' : VK, (∀ H' a, Same H H' → H' a = some (.tup xs) → Q' (.ref a) H') → ta σ H Q') (hb : ∀ (H' : Hp) (Q' : VK), Q' v H' → tb σ H' Q') (hz : xs.length ≤ 999)
    (k : ∀ H' p, Same H H' → H' p = some (.tup (xs ++ [v])) → Q (.ref p) H') : tOp (rCatA K) ta (tTup (tCons tb tNil)) σ H Q := by
  refine ha _ fun H1 a s1 ea => hb _ _ ⟨by show 1 ≤ sizeLine; decide, fun p np => ?_⟩
  generalize h3 : upd H1 p _ = H2
  have s2 : Same H1 H2 := h3 ▸ same_upd np
  have e2 : H2 p = _ := h3 ▸ upd_same
  refine ⟨a, p, xs, [v], rfl, rfl, SqT.of (s2 _ _ ea), SqT.of e2, by show xs.length + 1 ≤ sizeLine; exact Nat.le_of_lt (small1000 (by omega)), fun e => ?_, (fun _ e => by cases e), fun _ _ r nr => ?_⟩
  · subst e
    exact k H2 p (s1.trans s2) e2
  · generalize h4 : upd H2 r _ = H3
    have s3 : Same H2 H3 := h4 ▸ same_upd nr
    have e3 : H3 r = _ := h4 ▸ upd_same
    exact k H3 r ((s1.trans s2).trans s3) e3
end
end OFW

namespace OFW
open PySem PySem.Spec PyProof.Rows L2
section
variable {P : Program} {w : World} {K : PySem.W.Frag} {mg : Str → Option Value} {base : Heap}
variable {C fInt fMem fSet fHas fFol fSize fBel fLes fPrs : Addr} {dInt dMem dSet dHas dFol dSize dBel dLes dPrs : FuncData}
def spLaw (K : PySem.W.Frag) : Sp := fun vs H Q _ => ∃ (a : Addr) (ns : List Int), vs = [.ref a] ∧ SqL K H a (ns.map V.int) ∧ ns.length ≤ 63 ∧ ∀ H', Q (.bl true) H'
theorem scLaw : FnScope ["_law_script", "_law_numbers_here", "_law_order_here", "_law_n", "_law_table_here", "_law_rows_here", "_law_row", "_law_due", "_law_k", "_law_value"] ["_law_script"] (defScope sLaw) := ⟨rfl, rfl, rfl, by decide +kernel, rfl, by decide +kernel, by decide +kernel⟩
/-- what the law calls -/
structure Calls (P : Program) (w : World) (K : PySem.W.Frag) (mg : Str → Option Value) (base : Heap) (C CR CM gN gO gT gR gF gA gC gX gL gK gV gI : Addr) (dN dO dT dR dF dA dC dX dL dK dV dI : FuncData) : Prop where
  GN : FnOk P w K mg base CX0 6 gN dN ["_law_script"] (spNums K)
  mN : mg "_law_numbers" = some (.ref gN)
  kN : PySem.W.keepIn K (.ref gN) = true
  bN : Binds K dN ["_law_script"] []
  GO : FnOk P w K mg base CX0 6 gO dO ["_law_numbers_here", "_law_most"] (spOrder C)
  mO : mg "_law_order" = some (.ref gO)
  kO : PySem.W.keepIn K (.ref gO) = true
  bO : Binds K dO ["_law_numbers_here", "_law_most"] []
  GT : FnOk P w K mg base CX0 6 gT dT ["_law_order_here"] (spTable C)
  mT : mg "_law_table" = some (.ref gT)
  kT : PySem.W.keepIn K (.ref gT) = true
  bT : Binds K dT ["_law_order_here"] []
  GR : FnOk P w K mg base CX0 6 gR dR ["_law_n"] spRows
  mR : mg "_law_rows" = some (.ref gR)
  kR : PySem.W.keepIn K (.ref gR) = true
  bR : Binds K dR ["_law_n"] []
  GF : FnOk P w K mg base CX0 6 gF dF ["_law_table_here", "_law_row"] spFits
  mF : mg "_law_fits" = some (.ref gF)
  kF : PySem.W.keepIn K (.ref gF) = true
  bF : Binds K dF ["_law_table_here", "_law_row"] []
  GA : FnOk P w K mg base CX0 6 gA dA ["order"] (spAll C)
  mA : mg "all_linear" = some (.ref gA)
  kA : PySem.W.keepIn K (.ref gA) = true
  bA : Binds K dA ["order"] []
  GC : FnOk P w K mg base CX0 6 gC dC ["order"] (spCount C)
  mC : mg "count_linear" = some (.ref gC)
  kC : PySem.W.keepIn K (.ref gC) = true
  bC : Binds K dC ["order"] []
  GX : FnOk P w K mg base CX0 6 gX dX ["_law_numbers_here", "_law_many"] spNext
  mX : mg "_law_next" = some (.ref gX)
  kX : PySem.W.keepIn K (.ref gX) = true
  bX : Binds K dX ["_law_numbers_here", "_law_many"] []
  GL : FnOk P w K mg base (L2.CX P w) 6 gL dL ["order", "k"] (spLinAt C CR)
  mL : mg "linear_at" = some (.ref gL)
  kL : PySem.W.keepIn K (.ref gL) = true
  bL : Binds K dL ["order", "k"] []
  GK : FnOk P w K mg base (L2.CX P w) 6 gK dK ["order", "row"] (spRank C CM)
  mK : mg "rank_of_linear" = some (.ref gK)
  kK : PySem.W.keepIn K (.ref gK) = true
  bK : Binds K dK ["order", "row"] []
  GV : FnOk P w K mg base CX0 6 gV dV ["_law_order_here", "_law_k"] (spReason C)
  mV : mg "_law_reason" = some (.ref gV)
  kV : PySem.W.keepIn K (.ref gV) = true
  bV : Binds K dV ["_law_order_here", "_law_k"] []
  GI : FnOk P w K mg base CX0 6 gI dI ["order", "row"] (spIsLin C)
  mI : mg "is_linear" = some (.ref gI)
  kI : PySem.W.keepIn K (.ref gI) = true
  bI : Binds K dI ["order", "row"] []
abbrev lawN : List Str := ["_law_script", "_law_numbers_here", "_law_order_here", "_law_n", "_law_table_here", "_law_rows_here", "_law_row", "_law_due", "_law_k", "_law_value"]
theorem passE {X : Cx} : Passes (L2.CX X.prog X.w) X E0 := passes_call takes0 fun _ _ _ _ h => h
theorem u65 {k : Nat} {A : Around} (r : Room k A) : A.units + 65 < cLine := by
  have := r.un
  omega
theorem len_ne {n : Nat} (xs : List V) (h : xs.length = n + 1) : xs.length ≠ n := by omega
theorem ov_nvs (l : List Nat) : nvs l = (l.map some).map ov := (ov_some l).symm
/-- the row without its last point, and something else -/
theorem bad_cut {n : Nat} {row : List Nat} {o : Option Nat} {p : Addr} {H : Hp} (hl : row.length = n) (hn : n ≤ 10) (ho : o = none ∨ o = some n) (e : H p = some (.tup ((nvs row).dropLast ++ [ov o]))) : BadRow n (.ref p) H := by
  have ed : (nvs row).dropLast ++ [ov o] = ((row.dropLast.map some) ++ [o]).map ov := by
    rw [List.map_append, ov_some]
    show (row.map nv).dropLast ++ _ = (row.dropLast.map nv) ++ _
    rw [List.map_dropLast]
    rfl
  rw [ed] at e
  by_cases h0 : n = 0
  · refine .inr (.inr (.inl ⟨p, _, rfl, e, ?_⟩))
    rw [List.length_map, List.length_append, h0]
    simp
  · refine .inr (.inr (.inr ⟨p, _, rfl, e, ?_, hn, ?_⟩))
    · rw [List.length_append, List.length_map, List.length_dropLast, hl]
      show n - 1 + 1 = n
      omega
    · rcases ho with rfl | rfl
      · exact .inl (List.mem_append_right _ (by simp))
      · exact .inr ⟨n, List.mem_append_right _ (by simp), Nat.le_refl _⟩
theorem ok_law {f CR CM gN gO gT gR gF gA gC gX gL gK gV gI : Addr} {fd dN dO dT dR dF dA dC dX dL dK dV dI : FuncData} (F : Fun K "law" "law" sLaw f fd) (T : Fns K mg C fInt fMem fSet fHas fFol fSize fBel fLes fPrs dInt dMem dSet dHas dFol dSize dBel dLes dPrs)
    (TM : MalTxt K mg CM) (L : Calls P w K mg base C CR CM gN gO gT gR gF gA gC gX gL gK gV gI dN dO dT dR dF dA dC dX dL dK dV dI) : FnOk P w K mg base CX0 7 f fd ["_law_script"] (spLaw K) := by
  have GSize : FnOk P w K mg base CX0 6 fSize dSize ["self"] (spSize C) := (ok_size T.FSize T.o).mono (by decide)
  refine F.ok scLaw (fun vs H Q E h => ?_) (fun cdv A outer s H vs Q E hr h => ?_)
  · obtain ⟨a, ns, rfl, _⟩ := h; rfl
  · obtain ⟨a, ns, rfl, hS, hl, q⟩ := h
    refine ⟨_, pss_cons (ps_set (i := 1) scLaw.nd rfl (.inl rfl) (pe_call L.GN hr (by rfl) L.mN L.kN L.bN .nil pass0 (pa_cons (pv 0) pa_nil)))
      (pss_cons (ps_set (i := 2) scLaw.nd rfl (.inl rfl) (pe_call L.GO hr (by rfl) L.mO L.kO L.bO .nil pass0 (pa_cons (pv 1) (pa_cons pe_int pa_nil))))
      (pss_cons (ps_set (i := 3) scLaw.nd rfl (.inl rfl) (pe_meth0 (pv 2) T.o.cl T.mSize GSize hr T.bSize .nil pass0))
      (pss_cons (ps_set (i := 4) scLaw.nd rfl (.inr rfl) (pe_call L.GT hr (by rfl) L.mT L.kT L.bT .nil pass0 (pa_cons (pv 2) pa_nil)))
      (pss_cons (ps_set (i := 5) scLaw.nd rfl (.inl rfl) (pe_call L.GR hr (by rfl) L.mR L.kR L.bR .nil pass0 (pa_cons (pv 3) pa_nil)))
      (pss_cons (ps_setLc (i := 7) (own := [("_law_row", 6)]) (by rfl) scLaw.nd rfl rfl (sw_true rfl rfl rfl (by decide +kernel)) (pi_list (pv 5)) (blkOk_by (own := [("_law_row", 6)]) (N := lawN) (sc := defScope sLaw) (by decide +kernel))
          (fun _ _ _ _ _ => pg_name (i := 6) scLaw.nd rfl (Or.inl rfl))
          (fun _ _ _ _ _ => pts_one (pt_val (pe_call L.GF hr (by rfl) L.mF L.kF L.bF .nil pass0 (pa_cons (pv 4) (pa_cons (pv 6) pa_nil))))) (fun _ _ _ _ _ => pv 6))
      (pss_cons (ps_if (PW.pt (pw_or (pt_cmpR (op_neD hr.units) (pe_callTy call_list_of (by rfl) T.mL (by decide +kernel) (pa_cons (pe_call L.GA hr (by rfl) L.mA L.kA L.bA .nil pass0 (pa_cons (pv 2) pa_nil)) pa_nil)) (pv 7) (nomark _))
          (pw_or1 (pt_cmpR op_ne (pe_call L.GC hr (by rfl) L.mC L.kC L.bC .nil pass0 (pa_cons (pv 2) pa_nil)) (pe_callB call_len_seq (by rfl) T.mLen (by decide +kernel) (pa_cons (pv 7) pa_nil)) (by rfl))))) (pss_one (ps_ret pe_bl)) pss_nil)
      (pss_cons (ps_set (i := 8) scLaw.nd rfl (.inl rfl) (pe_call L.GX hr (by rfl) L.mX L.kX L.bX .nil pass0 (pa_cons (pv 1) (pa_cons (pe_callB call_len_seq (by rfl) T.mLen (by decide +kernel) (pa_cons (pv 7) pa_nil)) pa_nil))))
      (pss_cons (ps_if (PW.pt (pw_or (pt_cmpR (op_neD hr.units) (pe_call L.GL hr (by rfl) L.mL L.kL L.bL .nil passE (pa_cons (pv 2) (pa_cons (pv 8) pa_nil))) (pe_ix ix_list (pv 7) (pv 8) (fun _ _ => rfl)) (by rfl))
          (pw_or1 (pt_cmpR op_ne (pe_call L.GK hr (by rfl) L.mK L.kK L.bK .nil passE (pa_cons (pv 2) (pa_cons (pe_ix ix_list (pv 7) (pv 8) (fun _ _ => rfl)) pa_nil))) (pv 8) (nomark _))))) (pss_one (ps_ret pe_bl)) pss_nil)
      (pss_cons (ps_if (PW.pt (pw_or (pt_cmpR op_ne (pe_call L.GV hr (by rfl) L.mV L.kV L.bV .nil pass0 (pa_cons (pv 2) (pa_cons (pe_callB call_len_seq (by rfl) T.mLen (by decide +kernel) (pa_cons (pv 7) pa_nil)) pa_nil))) pe_str (nomark _))
          (pw_or1 (pt_cmpR op_ne (pe_call L.GV hr (by rfl) L.mV L.kV L.bV .nil pass0 (pa_cons (pv 2) (pa_cons (pe_un un_neg pe_int) pa_nil))) pe_str (nomark _))))) (pss_one (ps_ret pe_bl)) pss_nil)
      (pss_cons (ps_set (i := 6) scLaw.nd rfl (.inl rfl) (pe_ix ix_list (pv 5) (pe_call L.GX hr (by rfl) L.mX L.kX L.bX .nil pass0 (pa_cons (pv 1) (pa_cons (pe_callB call_len_seq (by rfl) T.mLen (by decide +kernel) (pa_cons (pv 5) pa_nil)) pa_nil))) (fun _ _ => rfl)))
      (pss_cons (ps_if (pt_cmpR op_ne (pe_call L.GI hr (by rfl) L.mI L.kI L.bI .nil pass0 (pa_cons (pv 2) (pa_cons (pv 6) pa_nil))) (pe_cmpR (op_inD (u65 hr)) (pv 6) (pv 7) (by rfl)) (by rfl)) (pss_one (ps_ret pe_bl)) pss_nil)
      (pss_cons (ps_for PassesOwn.never rfl (pi_list (pe_lst (pa_cons (pe_callTy call_list_of (by rfl) T.mL (by decide +kernel) (pa_cons (pv 6) pa_nil)) (pa_cons (pe_op op_catA (pv 6) (pe_tup (pa_cons (pv 3) pa_nil))) (pa_cons pe_non
            (pa_cons (pe_op op_catA (pe_slice sl_tupA (pv 6) po_none (po_some (pe_un un_neg pe_int))) (pe_tup (pa_cons pe_non pa_nil))) (pa_cons (pe_op op_catA (pe_slice sl_tupA (pv 6) po_none (po_some (pe_un un_neg pe_int))) (pe_tup (pa_cons (pv 3) pa_nil))) pa_nil))))))) (pg_name (i := 9) scLaw.nd rfl (.inl rfl))
        (pss_one (ps_if (pt_cmpR op_notBl (pe_call L.GI hr (by rfl) L.mI L.kI L.bI .nil pass0 (pa_cons (pv 2) (pa_cons (pv 9) pa_nil))) pe_bl (by rfl)) (pss_one (ps_ret pe_bl)) pss_nil)))
      (pss_one (ps_try_only (tb := fun W => tSeq (tDrop (tCallS (spRank C CM) (WE W) (tCons (tVar 2) (tCons (tOp (rCatA K) (tVar 6) (tTup (tCons (tC (.int 0)) tNil))) tNil)))) (tRet (tC (.bl false)))) (ts := fun _ _ _ => tRet (tC (.bl true))) (Wout := fun _ _ _ _ => False) rfl rfl ⟨rfl, by decide, Or.inl TM.gM⟩ takes0
        (fun W pn xe tk _ => pss_cons (ps_expr (by exact (pe_callS L.GK hr rfl L.mK L.kK L.bK (fun σ => passAt tk σ) (by exact (pa_cons (pv 2) (pa_cons (pe_op op_catA (pv 6) (pe_tup (pa_cons pe_int pa_nil))) pa_nil)))))) (pss_one (ps_ret (by exact pe_bl))))
        (fun a oe cls d pn _ _ => pss_one (ps_ret (by exact pe_bl))))))))))))))))), ?_⟩
    refine ⟨_, rfl, a, ns, rfl, hS, hl, fun H1 N l1 s1 nN eN => ?_⟩
    refine ⟨_, rfl, N, l1, 5, rfl, eN, Nat.le_refl _, fun H2 o n al l2 hn hok hO eN2 => ?_⟩
    have hn10 : n ≤ 10 := by omega
    refine r_size rfl hO ?_
    refine ⟨_, rfl, o, n, al, rfl, hO, hok, hn10, fun H3 tp ts s3 ntp ntsn hTab => ?_⟩
    have hO3 := hO.same s3
    have eN3 := s3 _ _ eN2
    have ntpN : tp ≠ N := fun z => by rw [z, eN2] at ntp; cases ntp
    refine ⟨_, rfl, n, rfl, hn, fun H4 R as s4 nR eR hT4 => ?_⟩
    have hTab4 := hTab.same s4
    have hO4 := hO3.same s4
    have eN4 := s4 _ _ eN3
    have nRN : R ≠ N := fun z => by rw [z, eN3] at nR; cases nR
    -- the due rows
    refine ⟨_, rfl, R, rfl, ⟨_, SqL.of eR⟩, fun D nD => ?_⟩
    have nDN : D ≠ N := fun z => by rw [z, eN4] at nD; cases nD
    have nRD : R ≠ D := fun z => by rw [← z, eR] at nD; cases nD
    refine lc_list (K := K) (a := R) (xs := refs as) (fun i H' => ∃ ds, Acc H4 H' D ds ((((OF.rows n n).take i).filter (OF.fits (OF.rel al))).map nvs)) ⟨[], same_upd nD, nD, upd_same, .nil⟩ (fun i H' _ hP => by obtain ⟨_, hA⟩ := hP; exact SqL.of (hA.same _ _ eR)) (fun i x H5 hx hP => ?_) (fun H5 hP => ?_)
    · obtain ⟨ds, hA⟩ := hP
      obtain ⟨ra, hra, rfl⟩ := refs_get hx
      obtain ⟨rv, hrv, era⟩ := (hT4.same hA.same).getA hra
      rw [List.getElem?_map] at hrv
      obtain ⟨row, hrow, rfl⟩ := Option.map_eq_some_iff.mp hrv
      have hmem := List.mem_of_getElem? hrow
      obtain ⟨hrl, _, hrb⟩ := OF.rows_ok hmem
      have htk : (OF.rows n n).take (i + 1) = (OF.rows n n).take i ++ [row] := by rw [List.take_add_one, hrow]; rfl
      refine ⟨rfl, _, rfl, _, rfl, tp, ra, n, al, ts, row, rfl, hTab4.same hA.same, era, hrb, by omega, _, rfl, ?_⟩
      cases hf : OF.fits (OF.rel al) row with
      | true =>
        have hlen := hA.tups.len
        rw [List.length_map] at hlen
        have h1 := List.length_filter_le (OF.fits (OF.rel al)) ((OF.rows n n).take i)
        have h2 := List.length_take_le' i (OF.rows n n)
        have h3 := rows_size n n
        have h4 := pow5 hn (Nat.le_refl n)
        refine iteT ⟨_, rfl, _, hA.at_, by rw [refs_len]; exact line5000 (by omega), ds ++ [ra], ?_⟩
        rw [htk, List.filter_append, List.map_append]
        have e1 : ([row].filter (OF.fits (OF.rel al))).map nvs = [nvs row] := by simp [hf]
        rw [e1]
        generalize h6 : upd H5 D _ = H6
        have b6 : But D H5 H6 := h6 ▸ but_upd
        have e6 : H6 D = _ := h6 ▸ upd_same
        exact ⟨hA.same.mut nD b6, nD, by rw [e6, refs_snoc], (TupsAt.snoc era hA.tups).but hA.at_ b6⟩
      | false =>
        refine iteF ⟨ds, ?_⟩
        rw [htk, List.filter_append, List.map_append]
        have e1 : ([row].filter (OF.fits (OF.rel al))).map nvs = [] := by simp [hf]
        rw [e1, List.append_nil]
        exact hA
    obtain ⟨ds, hA⟩ := hP
    have hTl := hT4.len
    rw [List.length_map] at hTl
    rw [refs_len, hTl, List.take_length] at hA
    have hdue := OF.due_ext hok
    have hlin : OF.lin (OF.rel al) n n = OF.ext (OF.rel al) n n 0 := OF.lin_all
    rw [hdue] at hA
    have hcnt : (OF.ext (OF.rel al) n n 0).length = OF.cnt (OF.rel al) n n 0 := OF.cnt_ext n 0
    have hpos := OF.cnt_pos hok n 0 0 .zero (Nat.zero_add n)
    have hdl := hA.tups.len
    rw [List.length_map] at hdl
    obtain ⟨s5, _, eD5, hT5⟩ := hA
    have hTR5 := hT4.same s5
    have hO5 := hO4.same s5
    have eN5 := s5 _ _ eN4
    have eR5 := s5 _ _ eR
    generalize hdd : OF.ext (OF.rel al) n n 0 = due at hdue hlin hcnt hdl hT5
    -- all_linear, count_linear
    refine ⟨_, rfl, o, n, al, rfl, hO5, hok, hn, fun H6 qa bs s6 nq eq hT6 => ?_⟩
    rw [hlin] at hT6
    refine ⟨qa, refs bs, rfl, .inr (SqT.of eq), fun la nla => ?_⟩
    generalize h7 : upd H6 la _ = H7
    have s7 : Same H6 H7 := h7 ▸ same_upd nla
    have e7 : H7 la = _ := h7 ▸ upd_same
    have s57 := s6.trans s7
    refine ⟨_, rfl, _, _, .lst (SqL.of e7) (dp_rows (hT6.same s7)), .lst (SqL.of (s57 _ _ eD5)) (dp_rows (hT5.same s57)), shaped_rds _, shaped_rds _, _, rfl, ?_⟩
    refine if_dec (c' := false) (by rw [eqv_rdL]; rfl) (iteF ?_)
    refine ⟨_, rfl, o, n, al, rfl, hO5.same s57, hok, hn10, fun H8 s8 => ?_⟩
    have s58 := s57.trans s8
    refine ⟨_, rfl, D, _, rfl, .inl (SqL.of (s58 _ _ eD5)), rfl, _, rfl, ?_⟩
    have edl : (refs ds).length = OF.cnt (OF.rel al) n n 0 := by rw [refs_len, hdl, hcnt]
    rw [edl]
    refine if_dec (c' := false) ?_ (iteF ?_)
    · rw [decide_eq_true rfl]
      rfl
    -- k
    refine ⟨_, rfl, _, rfl, D, _, rfl, .inl (SqL.of (s58 _ _ eD5)), N, l2, OF.cnt (OF.rel al) n n 0, by rw [edl]; rfl, s58 _ _ eN5, hpos, fun k H9 hk b9 eN9 => ?_⟩
    have hO9 := (hO5.same s58).but (s58 _ _ eN5) b9
    have eD9 := b9 _ _ nDN (s58 _ _ eD5)
    have eR9 := b9 _ _ nRN (s58 _ _ eR5)
    have hT9 := (hT5.same s58).but (s58 _ _ eN5) b9
    have hTR9 := (hTR5.same s58).but (s58 _ _ eN5) b9
    obtain ⟨r, hr1⟩ : ∃ r, due[k]? = some r := ⟨_, List.getElem?_eq_getElem (by omega)⟩
    obtain ⟨da, hda, eda⟩ := hT9.get (i := k) (xs := nvs r) (by rw [List.getElem?_map, hr1]; rfl)
    have hdk : (refs ds)[k]? = some (.ref da) := by unfold refs; rw [List.getElem?_map, hda]; rfl
    have hrm : r ∈ (OF.rows n n).filter (OF.fits (OF.rel al)) := hdue ▸ List.mem_of_getElem? hr1
    obtain ⟨hrm1, hrm2⟩ := List.mem_filter.mp hrm
    refine ⟨_, rfl, _, rfl, o, n, al, (k : Int), rfl, hO9, hok, hn10, fun z => absurd z (by omega), fun j ej r' hr' => ?_⟩
    have ejk : k = j := by omega
    subst ejk
    rw [hdd, hr1] at hr'
    cases hr'
    refine fun H10 pr s10 npr epr => ?_
    refine ⟨_, rfl, _, rfl, D, _, _, _, rfl, rfl, SqL.of (s10 _ _ eD9), atI_nat hdk, ?_⟩
    refine ⟨rd r, rd r, dp_row epr, dp_row (s10 _ _ eda), shaped_rd _, shaped_rd _, _, rfl, ?_⟩
    refine if_dec (c' := false) (by rw [eqv_rd, decide_eq_true rfl]; rfl) (iteF ?_)
    refine ⟨_, rfl, _, rfl, _, rfl, D, _, _, _, rfl, rfl, SqL.of (s10 _ _ eD9), atI_nat hdk, ?_⟩
    refine ⟨o, n, al, .ref da, rfl, hO9.same s10, hok, hn10, .inr ⟨r, k, ⟨da, rfl, s10 _ _ eda, OF.rows_perm hrm1, hn10⟩, hrm2, by rw [hdd]; exact hr1, fun H11 s11 => ?_⟩⟩
    refine ⟨_, rfl, rfl, _, rfl, ?_⟩
    refine if_dec (c' := false) ?_ (iteF ?_)
    · rw [decide_eq_true rfl]
      rfl
    -- reasons
    have s911 := s10.trans s11
    refine ⟨_, rfl, _, rfl, D, _, rfl, .inl (SqL.of (s911 _ _ eD9)), o, n, al, _, rfl, hO9.same s911, hok, hn10, .inr (by rw [edl]; exact Int.le_refl _), fun H12 s12 => ?_⟩
    refine ⟨rfl, _, rfl, if_dec (c' := false) (by rw [decide_eq_true rfl]; rfl) (iteF ?_)⟩
    have s912 := s911.trans s12
    refine ⟨_, rfl, 1, rfl, o, n, al, -1, rfl, hO9.same s912, hok, hn10, .inl (by decide), fun H13 s13 => ?_⟩
    refine ⟨rfl, _, rfl, if_dec (c' := false) (by rw [decide_eq_true rfl]; rfl) (iteF ?_)⟩
    have s913 := s912.trans s13
    -- a row
    have hrows : 0 < (OF.rows n n).length := by
      have h1 := List.length_filter_le (OF.fits (OF.rel al)) (OF.rows n n)
      rw [hdue] at h1
      omega
    have erl : (refs as).length = (OF.rows n n).length := by rw [refs_len, hTl]
    refine ⟨_, rfl, _, rfl, _, rfl, R, _, rfl, .inl (SqL.of (s913 _ _ eR9)), N, l2.tail, (OF.rows n n).length, by rw [erl]; rfl, s913 _ _ eN9, hrows, fun g H14 hg b14 eN14 => ?_⟩
    have hO14 := (hO9.same s913).but (s913 _ _ eN9) b14
    have eD14 := b14 _ _ nDN (s913 _ _ eD9)
    have eR14 := b14 _ _ nRN (s913 _ _ eR9)
    have hT14 := (hT9.same s913).but (s913 _ _ eN9) b14
    have hTR14 := (hTR9.same s913).but (s913 _ _ eN9) b14
    obtain ⟨row, hrow⟩ : ∃ row, (OF.rows n n)[g]? = some row := ⟨_, List.getElem?_eq_getElem hg⟩
    obtain ⟨ra, hra, era⟩ := hTR14.get (i := g) (xs := nvs row) (by rw [List.getElem?_map, hrow]; rfl)
    have hrg : (refs as)[g]? = some (.ref ra) := by unfold refs; rw [List.getElem?_map, hra]; rfl
    have hmem := List.mem_of_getElem? hrow
    obtain ⟨hrl, _, hrb⟩ := OF.rows_ok hmem
    have hperm := OF.rows_perm hmem
    refine ⟨R, _, _, _, rfl, rfl, SqL.of eR14, atI_nat hrg, ?_⟩
    -- is_linear of it
    refine ⟨_, rfl, _, rfl, o, n, al, .ref ra, rfl, hO14, hok.len, .inr ⟨row, ⟨ra, rfl, era, hperm, hn10⟩, fun H15 s15 => ?_⟩⟩
    refine ⟨_, rfl, _, rfl, rd row, _, dp_row (s15 _ _ era), .lst (SqL.of (s15 _ _ eD14)) (dp_rows (hT14.same s15)), shaped_rd _, shaped_rds _, rfl, _, rfl, ?_⟩
    have hin : OF.fits (OF.rel al) row = decide (row ∈ due) := by
      rw [← hdue, Bool.eq_iff_iff, decide_eq_true_eq, List.mem_filter]
      exact ⟨fun z => ⟨hmem, z⟩, fun z => z.2⟩
    refine if_dec (c' := false) (by rw [any_rd, hin, decide_eq_true rfl]; rfl) (iteF ?_)
    have era15 := s15 _ _ era
    have hO15 := hO14.same s15
    -- five values that are no rows
    refine ⟨_, rfl, ra, _, rfl, .inr (SqT.of era15), fun p1 np1 => ?_⟩
    generalize h16 : upd H15 p1 _ = H16
    have s16 : Same H15 H16 := h16 ▸ same_upd np1
    have e16 : H16 p1 = _ := h16 ▸ upd_same
    refine r_cat (xs := nvs row) (v := nv n) (fun Q' k => ⟨_, rfl, k H16 ra (fun _ _ z => z) (s16 _ _ era15)⟩) (fun H' Q' k => ⟨_, rfl, k⟩) (by rw [List.length_map]; omega) fun H17 p2 s17 e17 => ?_
    have era17 := s17 _ _ (s16 _ _ era15)
    have cut : ∀ (Hc : Hp) (Q' : VK), Hc ra = some (.tup (nvs row)) → (∀ H' a, Same Hc H' → H' a = some (.tup ((nvs row).dropLast)) → Q' (.ref a) H') → rSlA K (.ref ra) none (some (-1)) Hc Q' := fun Hc Q' ec k => by
      refine ⟨ra, _, rfl, SqT.of ec, fun hw => ?_, fun _ p np => ?_⟩
      · have h1 := hw.2
        have e : HT.sIx (nvs row).length (nvs row).length (some (-1)) = (nvs row).length - 1 := by
          show (if (-1 : Int) < 0 then ((-1 : Int) + ((nvs row).length : Int)).toNat else min (-1 : Int).toNat (nvs row).length) = _
          rw [if_pos (by decide)]
          omega
        rw [e] at h1
        have h0 : (nvs row).length = 0 := by omega
        have hnil : nvs row = [] := List.eq_nil_of_length_eq_zero h0
        refine k Hc ra (fun _ _ z => z) ?_
        rw [ec, hnil]
        rfl
      · rw [cut_last]
        exact k _ p (same_upd np) upd_same
    refine r_cat (xs := (nvs row).dropLast) (v := V.non) (fun Q' k => ⟨_, rfl, 1, rfl, -1, rfl, cut H17 Q' era17 k⟩) (fun H' Q' k => k) (by rw [List.length_dropLast, List.length_map]; omega) fun H18 p4 s18 e18 => ?_
    refine r_cat (xs := (nvs row).dropLast) (v := nv n) (fun Q' k => ⟨_, rfl, 1, rfl, -1, rfl, cut H18 Q' (s18 _ _ era17) k⟩) (fun H' Q' k => ⟨_, rfl, k⟩) (by rw [List.length_dropLast, List.length_map]; omega) fun H19 p5 s19 e19 => ?_
    refine ⟨by show 5 ≤ sizeLine; decide, fun pl npl => ?_⟩
    generalize h20 : upd H19 pl _ = H20
    have s20 : Same H19 H20 := h20 ▸ same_upd npl
    have e20 : H20 pl = _ := h20 ▸ upd_same
    have s1620 := ((s17.trans s18).trans s19).trans s20
    have bads : ∀ x ∈ [V.ref p1, .ref p2, .non, .ref p4, .ref p5], BadRow n x H20 := fun x hx => by
      simp only [List.mem_cons, List.not_mem_nil, or_false] at hx
      rcases hx with rfl | rfl | rfl | rfl | rfl
      · exact .inr (.inl ⟨_, _, rfl, s1620 _ _ e16⟩)
      · refine .inr (.inr (.inl ⟨_, _, rfl, ((s18.trans s19).trans s20) _ _ e17, ?_⟩))
        rw [List.length_append, List.length_map, hrl]
        show n + 1 ≠ n
        omega
      · exact .inl rfl
      · exact bad_cut hrl hn10 (.inl rfl) ((s19.trans s20) _ _ e18)
      · exact bad_cut hrl hn10 (.inr rfl) (s20 _ _ e19)
    have hO20 := (hO15.same s16).same s1620
    have era20 := s1620 _ _ (s16 _ _ era15)
    refine ⟨pl, rfl, ⟨_, SqL.of e20⟩, for_list (K := K) (a := pl) (xs := [V.ref p1, .ref p2, .non, .ref p4, .ref p5]) (fun i σ H' => ∃ v9, σ = [some (.ref a), some (.ref N), some (.ref o), some (nv n), some (.ref tp), some (.ref R), some (.ref ra), some (.ref D), some (nv k), v9] ∧ Same H20 H')
      ⟨none, rfl, fun _ _ z => z⟩ (fun i σ H' _ ⟨_, _, s'⟩ => SqL.of (s' _ _ e20)) ?_ ?_⟩
    · rintro i x σ H21 hx ⟨v9, rfl, s21⟩
      have hb := (bads x (List.mem_of_getElem? hx)).same s21
      refine ⟨_, rfl, _, rfl, o, n, al, x, rfl, hO20.same s21, hok.len, .inl ⟨hb, fun H22 s22 => ?_⟩⟩
      exact ⟨_, _, rfl, rfl, _, rfl, iteF ⟨_, rfl, s21.trans s22⟩⟩
    · rintro σ H21 ⟨v9, rfl, s21⟩
      refine ⟨_, rfl, ?_⟩
      refine r_cat (xs := nvs row) (v := V.int 0) (fun Q' k => ⟨_, rfl, k H21 ra (fun _ _ z => z) (s21 _ _ era20)⟩) (fun H' Q' k => k) (by rw [List.length_map]; omega) fun H22 p6 s22 e22 => ?_
      refine ⟨o, n, al, .ref p6, rfl, (hO20.same s21).same s22, hok, hn10, .inl ⟨.inr (.inr (.inl ⟨_, _, rfl, e22, ?_⟩)), fun H23 s23 => ⟨true, TM.eM, fun _ a0 _ => q H23, fun z => nomatch z⟩⟩⟩
      rw [List.length_append, List.length_map, hrl]
      show n + 1 ≠ n
      omega
end
end OFW

namespace OFW
open PySem PySem.Spec PyProof.Rows L2
/-! ### what the top has written -/
/-- an error of the class at S is what «except S» names -/
theorem exmSelf {K : PySem.W.Frag} {S : Addr} (h1 : PySem.W.subIn K (.ref S) (.type "BaseException") = some true) (h2 : PySem.W.isClsIn K S = true) (h3 : PySem.W.typeIn K (.ref S) = some (.type "type")) (h4 : PySem.W.subIn K (.ref S) (.ref S) = some true) :
    PySem.W.exmOne K (.ref S) (.ref S) = some true := by
  have e1 : (PySem.W.subIn K (.ref S) (.type "BaseException") == some true) = true := by rw [h1] <;> rfl
  have e2 : ((PySem.W.clsIn K S).isSome && PySem.W.typeIn K (.ref S) == some (.type "type")) = true := by
    have h2' : (PySem.W.clsIn K S).isSome = true := h2
    rw [h2', h3] <;> rfl
  show (if (PySem.W.subIn K (.ref S) (.type "BaseException") == some true) = true then (if ((PySem.W.clsIn K S).isSome && PySem.W.typeIn K (.ref S) == some (.type "type")) = true then PySem.W.subIn K (.ref S) (.ref S) else none) else none) = some true
  rw [if_pos e1, if_pos e2]
  exact h4
theorem all_mk {l : PySem.W.OpenLaw} {w : World} {K : PySem.W.Frag} {h : Heap} {mg : Str → Option Value} {fa C CM CR fI cc cda f1 f2 f3 f4 f5 f6 f7 f8 f9 f10 f11 f12 f13 f14 f15 f16 f17 f18 f19 f20 f21 f22 f23 f24 f25 f26 f27 : Addr} (X : K.In h) (G : h.Ns mainGlobals mg) (hfa : mg "law" = some (.ref fa))
    {od1 an1 od2 an2 od3 an3 od4 an4 od5 an5 od6 an6 od7 an7 od8 an8 od9 an9 od10 an10 od11 an11 od12 an12 od13 an13 od14 an14 od15 an15 od16 an16 od17 an17 od18 an18 od19 an19 od20 an20 od21 an21 od22 an22 od23 an23 od24 an24 od25 an25 od26 an26 od27 an27 odR anR : Option Addr} {sl1 sl2 sl3 sl4 sl5 sl6 sl7 sl8 sl9 sl10 sl11 sl12 sl13 sl14 sl15 sl16 sl17 sl18 sl19 sl20 sl21 sl22 sl23 sl24 sl25 sl26 sl27 slR ccs csl : Array (Option Value)} {oc1 kV1 dc1 pm1 cd1 ct1 oc2 kV2 dc2 pm2 cd2 ct2 oc3 kV3 dc3 pm3 cd3 ct3 oc4 kV4 dc4 pm4 cd4 ct4 oc5 kV5 dc5 pm5 cd5 ct5 oc6 kV6 dc6 pm6 cd6 ct6 oc7 kV7 dc7 pm7 cd7 ct7 oc8 kV8 dc8 pm8 cd8 ct8 oc9 kV9 dc9 pm9 cd9 ct9 oc10 kV10 dc10 pm10 cd10 ct10 oc11 kV11 dc11 pm11 cd11 ct11 oc12 kV12 dc12 pm12 cd12 ct12 oc13 kV13 dc13 pm13 cd13 ct13 oc14 kV14 dc14 pm14 cd14 ct14 oc15 kV15 dc15 pm15 cd15 ct15 oc16 kV16 dc16 pm16 cd16 ct16 oc17 kV17 dc17 pm17 cd17 ct17 oc18 kV18 dc18 pm18 cd18 ct18 oc19 kV19 dc19 pm19 cd19 ct19 oc20 kV20 dc20 pm20 cd20 ct20 oc21 kV21 dc21 pm21 cd21 ct21 oc22 kV22 dc22 pm22 cd22 ct22 oc23 kV23 dc23 pm23 cd23 ct23 oc24 kV24 dc24 pm24 cd24 ct24 oc25 kV25 dc25 pm25 cd25 ct25 oc26 kV26 dc26 pm26 cd26 ct26 oc27 kV27 dc27 pm27 cd27 ct27 ocR dcR pmR ctR ccl clc : Value}
    {nmR qR : Str} {NR : Addr} {bsR bmR : List Value} {snR : List Str} {subR : List Value} {abR : Bool} {colR : Option Bool} {ddR cdd cld : Option Addr} {r0 r1 r2 r3 r5 : Option Value} {vsR : Array Value} {fileR : Str} {tfR tMost : Tok}
    (a1 : PySem.W.nsIn K mainGlobals "is_integer" = some (some (.ref f1)))
    (l1 : K.lookup f1 = some ⟨oc1, od1, .func (PySem.W.fnOf "is_integer" "is_integer" (defArgs sInt) (defBody sInt) (defScope sInt) .none kV1 dc1 pm1 an1 cd1 ct1), sl1⟩)
    (c1 : PySem.W.codeIn K cd1 "is_integer" = true)
    (k1 : PySem.W.keepIn K (.ref f1) = true)
    (a2 : PySem.W.nsIn K mainGlobals "members" = some (some (.ref f2)))
    (l2 : K.lookup f2 = some ⟨oc2, od2, .func (PySem.W.fnOf "members" "members" (defArgs sMembers) (defBody sMembers) (defScope sMembers) .none kV2 dc2 pm2 an2 cd2 ct2), sl2⟩)
    (c2 : PySem.W.codeIn K cd2 "members" = true)
    (k2 : PySem.W.keepIn K (.ref f2) = true)
    (a3 : PySem.W.nsIn K mainGlobals "set_of" = some (some (.ref f3)))
    (l3 : K.lookup f3 = some ⟨oc3, od3, .func (PySem.W.fnOf "set_of" "set_of" (defArgs sSetOf) (defBody sSetOf) (defScope sSetOf) .none kV3 dc3 pm3 an3 cd3 ct3), sl3⟩)
    (c3 : PySem.W.codeIn K cd3 "set_of" = true)
    (k3 : PySem.W.keepIn K (.ref f3) = true)
    (a4 : PySem.W.nsIn K mainGlobals "has" = some (some (.ref f4)))
    (l4 : K.lookup f4 = some ⟨oc4, od4, .func (PySem.W.fnOf "has" "has" (defArgs sHas) (defBody sHas) (defScope sHas) .none kV4 dc4 pm4 an4 cd4 ct4), sl4⟩)
    (c4 : PySem.W.codeIn K cd4 "has" = true)
    (k4 : PySem.W.keepIn K (.ref f4) = true)
    (a5 : PySem.W.nsIn K mainGlobals "_checked_pairs" = some (some (.ref f5)))
    (l5 : K.lookup f5 = some ⟨oc5, od5, .func (PySem.W.fnOf "_checked_pairs" "_checked_pairs" (defArgs sChecked) (defBody sChecked) (defScope sChecked) .none kV5 dc5 pm5 an5 cd5 ct5), sl5⟩)
    (c5 : PySem.W.codeIn K cd5 "_checked_pairs" = true)
    (k5 : PySem.W.keepIn K (.ref f5) = true)
    (a6 : PySem.W.nsIn K mainGlobals "_closed" = some (some (.ref f6)))
    (l6 : K.lookup f6 = some ⟨oc6, od6, .func (PySem.W.fnOf "_closed" "_closed" (defArgs sClosed) (defBody sClosed) (defScope sClosed) .none kV6 dc6 pm6 an6 cd6 ct6), sl6⟩)
    (c6 : PySem.W.codeIn K cd6 "_closed" = true)
    (k6 : PySem.W.keepIn K (.ref f6) = true)
    (a7 : PySem.W.nsIn K mainGlobals "is_row" = some (some (.ref f7)))
    (l7 : K.lookup f7 = some ⟨oc7, od7, .func (PySem.W.fnOf "is_row" "is_row" (defArgs sIsRow) (defBody sIsRow) (defScope sIsRow) .none kV7 dc7 pm7 an7 cd7 ct7), sl7⟩)
    (c7 : PySem.W.codeIn K cd7 "is_row" = true)
    (k7 : PySem.W.keepIn K (.ref f7) = true)
    (a8 : PySem.W.nsIn K mainGlobals "is_linear" = some (some (.ref f8)))
    (l8 : K.lookup f8 = some ⟨oc8, od8, .func (PySem.W.fnOf "is_linear" "is_linear" (defArgs sIsLinear) (defBody sIsLinear) (defScope sIsLinear) .none kV8 dc8 pm8 an8 cd8 ct8), sl8⟩)
    (c8 : PySem.W.codeIn K cd8 "is_linear" = true)
    (k8 : PySem.W.keepIn K (.ref f8) = true)
    (a9 : PySem.W.nsIn K mainGlobals "ways_on" = some (some (.ref f9)))
    (l9 : K.lookup f9 = some ⟨oc9, od9, .func (PySem.W.fnOf "ways_on" "ways_on" (defArgs sWays) (defBody sWays) (defScope sWays) .none kV9 dc9 pm9 an9 cd9 ct9), sl9⟩)
    (c9 : PySem.W.codeIn K cd9 "ways_on" = true)
    (k9 : PySem.W.keepIn K (.ref f9) = true)
    (a10 : PySem.W.nsIn K mainGlobals "following_points" = some (some (.ref f10)))
    (l10 : K.lookup f10 = some ⟨oc10, od10, .func (PySem.W.fnOf "following_points" "following_points" (defArgs sFol) (defBody sFol) (defScope sFol) .none kV10 dc10 pm10 an10 cd10 ct10), sl10⟩)
    (c10 : PySem.W.codeIn K cd10 "following_points" = true)
    (k10 : PySem.W.keepIn K (.ref f10) = true)
    (a11 : PySem.W.nsIn K mainGlobals "count_linear" = some (some (.ref f11)))
    (l11 : K.lookup f11 = some ⟨oc11, od11, .func (PySem.W.fnOf "count_linear" "count_linear" (defArgs sCount) (defBody sCount) (defScope sCount) .none kV11 dc11 pm11 an11 cd11 ct11), sl11⟩)
    (c11 : PySem.W.codeIn K cd11 "count_linear" = true)
    (k11 : PySem.W.keepIn K (.ref f11) = true)
    (a12 : PySem.W.nsIn K mainGlobals "linear_at" = some (some (.ref f12)))
    (l12 : K.lookup f12 = some ⟨oc12, od12, .func (PySem.W.fnOf "linear_at" "linear_at" (defArgs sLinAt) (defBody sLinAt) (defScope sLinAt) .none kV12 dc12 pm12 an12 cd12 ct12), sl12⟩)
    (c12 : PySem.W.codeIn K cd12 "linear_at" = true)
    (k12 : PySem.W.keepIn K (.ref f12) = true)
    (a13 : PySem.W.nsIn K mainGlobals "rank_of_linear" = some (some (.ref f13)))
    (l13 : K.lookup f13 = some ⟨oc13, od13, .func (PySem.W.fnOf "rank_of_linear" "rank_of_linear" (defArgs sRank) (defBody sRank) (defScope sRank) .none kV13 dc13 pm13 an13 cd13 ct13), sl13⟩)
    (c13 : PySem.W.codeIn K cd13 "rank_of_linear" = true)
    (k13 : PySem.W.keepIn K (.ref f13) = true)
    (a14 : PySem.W.nsIn K mainGlobals "all_linear" = some (some (.ref f14)))
    (l14 : K.lookup f14 = some ⟨oc14, od14, .func (PySem.W.fnOf "all_linear" "all_linear" (defArgs sAll) (defBody sAll) (defScope sAll) .none kV14 dc14 pm14 an14 cd14 ct14), sl14⟩)
    (c14 : PySem.W.codeIn K cd14 "all_linear" = true)
    (k14 : PySem.W.keepIn K (.ref f14) = true)
    (a15 : PySem.W.nsIn K mainGlobals "_law_numbers" = some (some (.ref f15)))
    (l15 : K.lookup f15 = some ⟨oc15, od15, .func (PySem.W.fnOf "_law_numbers" "_law_numbers" (defArgs sLNumbers) (defBody sLNumbers) (defScope sLNumbers) .none kV15 dc15 pm15 an15 cd15 ct15), sl15⟩)
    (c15 : PySem.W.codeIn K cd15 "_law_numbers" = true)
    (k15 : PySem.W.keepIn K (.ref f15) = true)
    (a16 : PySem.W.nsIn K mainGlobals "_law_next" = some (some (.ref f16)))
    (l16 : K.lookup f16 = some ⟨oc16, od16, .func (PySem.W.fnOf "_law_next" "_law_next" (defArgs sLNext) (defBody sLNext) (defScope sLNext) .none kV16 dc16 pm16 an16 cd16 ct16), sl16⟩)
    (c16 : PySem.W.codeIn K cd16 "_law_next" = true)
    (k16 : PySem.W.keepIn K (.ref f16) = true)
    (a17 : PySem.W.nsIn K mainGlobals "_law_order" = some (some (.ref f17)))
    (l17 : K.lookup f17 = some ⟨oc17, od17, .func (PySem.W.fnOf "_law_order" "_law_order" (defArgs sLOrder) (defBody sLOrder) (defScope sLOrder) .none kV17 dc17 pm17 an17 cd17 ct17), sl17⟩)
    (c17 : PySem.W.codeIn K cd17 "_law_order" = true)
    (k17 : PySem.W.keepIn K (.ref f17) = true)
    (a18 : PySem.W.nsIn K mainGlobals "_law_table" = some (some (.ref f18)))
    (l18 : K.lookup f18 = some ⟨oc18, od18, .func (PySem.W.fnOf "_law_table" "_law_table" (defArgs sLTable) (defBody sLTable) (defScope sLTable) .none kV18 dc18 pm18 an18 cd18 ct18), sl18⟩)
    (c18 : PySem.W.codeIn K cd18 "_law_table" = true)
    (k18 : PySem.W.keepIn K (.ref f18) = true)
    (a19 : PySem.W.nsIn K mainGlobals "_law_rows" = some (some (.ref f19)))
    (l19 : K.lookup f19 = some ⟨oc19, od19, .func (PySem.W.fnOf "_law_rows" "_law_rows" (defArgs sLRows) (defBody sLRows) (defScope sLRows) .none kV19 dc19 pm19 an19 cd19 ct19), sl19⟩)
    (c19 : PySem.W.codeIn K cd19 "_law_rows" = true)
    (k19 : PySem.W.keepIn K (.ref f19) = true)
    (a20 : PySem.W.nsIn K mainGlobals "_law_fits" = some (some (.ref f20)))
    (l20 : K.lookup f20 = some ⟨oc20, od20, .func (PySem.W.fnOf "_law_fits" "_law_fits" (defArgs sLFits) (defBody sLFits) (defScope sLFits) .none kV20 dc20 pm20 an20 cd20 ct20), sl20⟩)
    (c20 : PySem.W.codeIn K cd20 "_law_fits" = true)
    (k20 : PySem.W.keepIn K (.ref f20) = true)
    (a21 : PySem.W.nsIn K mainGlobals "_law_reason" = some (some (.ref f21)))
    (l21 : K.lookup f21 = some ⟨oc21, od21, .func (PySem.W.fnOf "_law_reason" "_law_reason" (defArgs sLReason) (defBody sLReason) (defScope sLReason) .none kV21 dc21 pm21 an21 cd21 ct21), sl21⟩)
    (c21 : PySem.W.codeIn K cd21 "_law_reason" = true)
    (k21 : PySem.W.keepIn K (.ref f21) = true)
    (a22 : PySem.W.nsIn K mainGlobals "law" = some (some (.ref f22)))
    (l22 : K.lookup f22 = some ⟨oc22, od22, .func (PySem.W.fnOf "law" "law" (defArgs sLaw) (defBody sLaw) (defScope sLaw) .none kV22 dc22 pm22 an22 cd22 ct22), sl22⟩)
    (c22 : PySem.W.codeIn K cd22 "law" = true)
    (k22 : PySem.W.keepIn K (.ref f22) = true)
    (a23 : PySem.W.findIn K (.ref C) "__init__" = some (some (.ref f23)))
    (i23 : PySem.W.isFn K (.ref f23) = true)
    (l23 : K.lookup f23 = some ⟨oc23, od23, .func (PySem.W.fnOf "__init__" "Order.__init__" (defArgs sInit) (defBody sInit) (defScope sInit) .none kV23 dc23 pm23 an23 cd23 ct23), sl23⟩)
    (c23 : PySem.W.codeIn K cd23 "Order.__init__" = true)
    (k23 : PySem.W.keepIn K (.ref f23) = true)
    (a24 : PySem.W.findIn K (.ref C) "size" = some (some (.ref f24)))
    (i24 : PySem.W.isFn K (.ref f24) = true)
    (l24 : K.lookup f24 = some ⟨oc24, od24, .func (PySem.W.fnOf "size" "Order.size" (defArgs sSize) (defBody sSize) (defScope sSize) .none kV24 dc24 pm24 an24 cd24 ct24), sl24⟩)
    (c24 : PySem.W.codeIn K cd24 "Order.size" = true)
    (k24 : PySem.W.keepIn K (.ref f24) = true)
    (a25 : PySem.W.findIn K (.ref C) "below" = some (some (.ref f25)))
    (i25 : PySem.W.isFn K (.ref f25) = true)
    (l25 : K.lookup f25 = some ⟨oc25, od25, .func (PySem.W.fnOf "below" "Order.below" (defArgs sBelow) (defBody sBelow) (defScope sBelow) .none kV25 dc25 pm25 an25 cd25 ct25), sl25⟩)
    (c25 : PySem.W.codeIn K cd25 "Order.below" = true)
    (k25 : PySem.W.keepIn K (.ref f25) = true)
    (a26 : PySem.W.findIn K (.ref C) "less" = some (some (.ref f26)))
    (i26 : PySem.W.isFn K (.ref f26) = true)
    (l26 : K.lookup f26 = some ⟨oc26, od26, .func (PySem.W.fnOf "less" "Order.less" (defArgs sLess) (defBody sLess) (defScope sLess) .none kV26 dc26 pm26 an26 cd26 ct26), sl26⟩)
    (c26 : PySem.W.codeIn K cd26 "Order.less" = true)
    (k26 : PySem.W.keepIn K (.ref f26) = true)
    (a27 : PySem.W.findIn K (.ref C) "pairs" = some (some (.ref f27)))
    (i27 : PySem.W.isFn K (.ref f27) = true)
    (l27 : K.lookup f27 = some ⟨oc27, od27, .func (PySem.W.fnOf "pairs" "Order.pairs" (defArgs sPairs) (defBody sPairs) (defScope sPairs) .none kV27 dc27 pm27 an27 cd27 ct27), sl27⟩)
    (c27 : PySem.W.codeIn K cd27 "Order.pairs" = true)
    (k27 : PySem.W.keepIn K (.ref f27) = true)
    (aC : PySem.W.nsIn K mainGlobals "Order" = some (some (.ref C)))
    (pg : PySem.W.plainGet K C Str.empty = true)
    (hd : PySem.W.hasDictIn K C = true)
    (po : PySem.W.plainOver K C = true)
    (sa : PySem.W.findIn K (.ref C) "__setattr__" = some (some (.builtin "object.__setattr__")))
    (mk : PySem.W.makesIn K C = true)
    (kc : PySem.W.keepIn K (.ref C) = true)
    (nN : PySem.W.findIn K (.ref C) "n" = some none)
    (nA : PySem.W.findIn K (.ref C) "above" = some none)
    (gM : PySem.W.nsIn K mainGlobals "Malformed" = some (some (.ref CM)))
    (xM : PySem.W.excIn K CM [.type "ValueError", .type "Exception", .type "BaseException", .type "object"] "ValueError.__new__" = true)
    (kM : PySem.W.keepIn K (.ref CM) = true)
    (bM : PySem.W.subIn K (.ref CM) (.type "BaseException") = some true)
    (tM : PySem.W.typeIn K (.ref CM) = some (.type "type"))
    (iM : PySem.W.isClsIn K CM = true)
    (sM : PySem.W.subIn K (.ref CM) (.ref CM) = some true)
    (gR : PySem.W.nsIn K mainGlobals "Refused" = some (some (.ref CR)))
    (xR : K.lookup CR = some (excClassObj nmR qR CR NR bsR bmR true snR subR abR colR ddR r0 r1 r2 r3 r5 "ValueError.__new__"))
    (rR : PySem.HandSPX.refsVE bmR = true)
    (alR : PySem.W.alongIn K "__init__" bmR = some (some (.builtin "ValueError.__init__")))
    (saR : PySem.W.findIn K (.ref CR) "__setattr__" = some (some (.builtin "object.__setattr__")))
    (gaR : PySem.W.findIn K (.ref CR) "__getattribute__" = some (some (.builtin "BaseException.__getattribute__")))
    (ggR : PySem.W.findIn K (.ref CR) "__getattr__" = some none)
    (noR : PySem.W.findIn K (.ref CR) "reason" = some none)
    (iRi : PySem.W.findIn K (.ref CR) "__init__" = some (some (.ref fI)))
    (tRi : PySem.W.typeIn K (.ref fI) = some (.type "function"))
    (kR : PySem.W.keepIn K (.ref CR) = true)
    (eR : PySem.W.subIn K (.ref CR) (.type "BaseException") = some true)
    (tR : PySem.W.typeIn K (.ref CR) = some (.type "type"))
    (hR : PySem.W.hasDictIn K CR = true)
    (clR : PySem.W.isClsIn K CR = true)
    (suR : PySem.W.subIn K (.ref CR) (.ref CR) = some true)
    (vR : PySem.W.subIn K (.ref CR) (.type "ValueError") = some true)
    (mR : PySem.W.mroIn K CR (.ref CR) = some true)
    (thR : PySem.W.nsIn K cStatics "thirdparty.any" = some none)
    (lR : K.lookup fI = some ⟨ocR, odR, .func (PySem.W.ksFn "__init__" "Refused.__init__" (defArgs OFR.sRI) (defBody OFR.sRI) (defScope OFR.sRI) .none .none dcR pmR anR (.ref cda) ctR cc), slR⟩)
    (cR : PySem.W.codeIn K (.ref cda) "Refused.__init__" = true)
    (coR : K.lookup cda = some ⟨ccl, cdd, .fields vsR, ccs⟩)
    (v2R : vsR[2]? = some (.str fileR tfR))
    (flR : ((l.prog.main.file : Str) == fileR) = true)
    (ceR : K.lookup cc = some ⟨clc, cld, .cell (some (.ref CR)), csl⟩)
    (toR : (l.prog.main.scope.names.lookup ("super" : Str)).isSome = false)
    (gMost : PySem.W.nsIn K mainGlobals "MOST" = some (some (.int 10 tMost)))
    (z_tuple : PySem.W.nsIn K mainGlobals "tuple" = some none)
    (z_range : PySem.W.nsIn K mainGlobals "range" = some none)
    (z_list : PySem.W.nsIn K mainGlobals "list" = some none)
    (z_isinstance : PySem.W.nsIn K mainGlobals "isinstance" = some none)
    (z_int : PySem.W.nsIn K mainGlobals "int" = some none)
    (z_bool : PySem.W.nsIn K mainGlobals "bool" = some none)
    (z_sum : PySem.W.nsIn K mainGlobals "sum" = some none)
    (z_len : PySem.W.nsIn K mainGlobals "len" = some none)
    (z_all : PySem.W.nsIn K mainGlobals "all" = some none)
    (z_sorted : PySem.W.nsIn K mainGlobals "sorted" = some none)
    (z_min : PySem.W.nsIn K mainGlobals "min" = some none)
    (z_abs : PySem.W.nsIn K mainGlobals "abs" = some none)
    (z_super : PySem.W.nsIn K mainGlobals "super" = some none)
    : ∃ fd : FuncData, (∀ (s : Shared) (v : Value), BindsTo s fd ⟨[v], []⟩ [("_law_script", v)]) ∧ ∀ base : Heap, K.In base → base.Ns mainGlobals mg → FnOk l.prog w K mg base CX0 7 fa fd ["_law_script"] (spLaw K) := by
  have e := hfa.symm.trans (PySem.W.mg_of X G a22)
  cases e
  have F1 := fun_mk (st := sInt) l1 c1 k1
  have b1 := F1.binds (ps := ["value"]) fun _ _ _ _ _ _ us hl => match us, hl with | [_], _ => rfl
  have g1 := PySem.W.mg_of X G a1
  have F2 := fun_mk (st := sMembers) l2 c2 k2
  have b2 := F2.binds (ps := ["bits"]) fun _ _ _ _ _ _ us hl => match us, hl with | [_], _ => rfl
  have g2 := PySem.W.mg_of X G a2
  have F3 := fun_mk (st := sSetOf) l3 c3 k3
  have b3 := F3.binds (ps := ["points"]) fun _ _ _ _ _ _ us hl => match us, hl with | [_], _ => rfl
  have g3 := PySem.W.mg_of X G a3
  have F4 := fun_mk (st := sHas) l4 c4 k4
  have b4 := F4.binds (ps := ["bits", "x"]) fun _ _ _ _ _ _ us hl => match us, hl with | [_, _], _ => rfl
  have g4 := PySem.W.mg_of X G a4
  have F5 := fun_mk (st := sChecked) l5 c5 k5
  have b5 := F5.binds (ps := ["n", "pairs"]) fun _ _ _ _ _ _ us hl => match us, hl with | [_, _], _ => rfl
  have g5 := PySem.W.mg_of X G a5
  have F6 := fun_mk (st := sClosed) l6 c6 k6
  have b6 := F6.binds (ps := ["n", "pairs"]) fun _ _ _ _ _ _ us hl => match us, hl with | [_, _], _ => rfl
  have g6 := PySem.W.mg_of X G a6
  have F7 := fun_mk (st := sIsRow) l7 c7 k7
  have b7 := F7.binds (ps := ["value", "size"]) fun _ _ _ _ _ _ us hl => match us, hl with | [_, _], _ => rfl
  have g7 := PySem.W.mg_of X G a7
  have F8 := fun_mk (st := sIsLinear) l8 c8 k8
  have b8 := F8.binds (ps := ["order", "row"]) fun _ _ _ _ _ _ us hl => match us, hl with | [_, _], _ => rfl
  have g8 := PySem.W.mg_of X G a8
  have F9 := fun_mk (st := sWays) l9 c9 k9
  have b9 := F9.binds (ps := ["order"]) fun _ _ _ _ _ _ us hl => match us, hl with | [_], _ => rfl
  have g9 := PySem.W.mg_of X G a9
  have F10 := fun_mk (st := sFol) l10 c10 k10
  have b10 := F10.binds (ps := ["below", "whole", "front"]) fun _ _ _ _ _ _ us hl => match us, hl with | [_, _, _], _ => rfl
  have g10 := PySem.W.mg_of X G a10
  have F11 := fun_mk (st := sCount) l11 c11 k11
  have b11 := F11.binds (ps := ["order"]) fun _ _ _ _ _ _ us hl => match us, hl with | [_], _ => rfl
  have g11 := PySem.W.mg_of X G a11
  have F12 := fun_mk (st := sLinAt) l12 c12 k12
  have b12 := F12.binds (ps := ["order", "k"]) fun _ _ _ _ _ _ us hl => match us, hl with | [_, _], _ => rfl
  have g12 := PySem.W.mg_of X G a12
  have F13 := fun_mk (st := sRank) l13 c13 k13
  have b13 := F13.binds (ps := ["order", "row"]) fun _ _ _ _ _ _ us hl => match us, hl with | [_, _], _ => rfl
  have g13 := PySem.W.mg_of X G a13
  have F14 := fun_mk (st := sAll) l14 c14 k14
  have b14 := F14.binds (ps := ["order"]) fun _ _ _ _ _ _ us hl => match us, hl with | [_], _ => rfl
  have g14 := PySem.W.mg_of X G a14
  have F15 := fun_mk (st := sLNumbers) l15 c15 k15
  have b15 := F15.binds (ps := ["_law_script"]) fun _ _ _ _ _ _ us hl => match us, hl with | [_], _ => rfl
  have g15 := PySem.W.mg_of X G a15
  have F16 := fun_mk (st := sLNext) l16 c16 k16
  have b16 := F16.binds (ps := ["_law_numbers_here", "_law_many"]) fun _ _ _ _ _ _ us hl => match us, hl with | [_, _], _ => rfl
  have g16 := PySem.W.mg_of X G a16
  have F17 := fun_mk (st := sLOrder) l17 c17 k17
  have b17 := F17.binds (ps := ["_law_numbers_here", "_law_most"]) fun _ _ _ _ _ _ us hl => match us, hl with | [_, _], _ => rfl
  have g17 := PySem.W.mg_of X G a17
  have F18 := fun_mk (st := sLTable) l18 c18 k18
  have b18 := F18.binds (ps := ["_law_order_here"]) fun _ _ _ _ _ _ us hl => match us, hl with | [_], _ => rfl
  have g18 := PySem.W.mg_of X G a18
  have F19 := fun_mk (st := sLRows) l19 c19 k19
  have b19 := F19.binds (ps := ["_law_n"]) fun _ _ _ _ _ _ us hl => match us, hl with | [_], _ => rfl
  have g19 := PySem.W.mg_of X G a19
  have F20 := fun_mk (st := sLFits) l20 c20 k20
  have b20 := F20.binds (ps := ["_law_table_here", "_law_row"]) fun _ _ _ _ _ _ us hl => match us, hl with | [_, _], _ => rfl
  have g20 := PySem.W.mg_of X G a20
  have F21 := fun_mk (st := sLReason) l21 c21 k21
  have b21 := F21.binds (ps := ["_law_order_here", "_law_k"]) fun _ _ _ _ _ _ us hl => match us, hl with | [_, _], _ => rfl
  have g21 := PySem.W.mg_of X G a21
  have F22 := fun_mk (st := sLaw) l22 c22 k22
  have g22 := PySem.W.mg_of X G a22
  have F23 := fun_mk (st := sInit) l23 c23 k23
  have b23 := F23.binds (ps := ["self", "n", "pairs"]) fun _ _ _ _ _ _ us hl => match us, hl with | [_, _, _], _ => rfl
  have F24 := fun_mk (st := sSize) l24 c24 k24
  have b24 := F24.binds (ps := ["self"]) fun _ _ _ _ _ _ us hl => match us, hl with | [_], _ => rfl
  have F25 := fun_mk (st := sBelow) l25 c25 k25
  have b25 := F25.binds (ps := ["self"]) fun _ _ _ _ _ _ us hl => match us, hl with | [_], _ => rfl
  have F26 := fun_mk (st := sLess) l26 c26 k26
  have b26 := F26.binds (ps := ["self", "x", "y"]) fun _ _ _ _ _ _ us hl => match us, hl with | [_, _, _], _ => rfl
  have F27 := fun_mk (st := sPairs) l27 c27 k27
  have b27 := F27.binds (ps := ["self"]) fun _ _ _ _ _ _ us hl => match us, hl with | [_], _ => rfl
  have m_tuple := PySem.W.mg_none_of X G z_tuple
  have m_range := PySem.W.mg_none_of X G z_range
  have m_list := PySem.W.mg_none_of X G z_list
  have m_isinstance := PySem.W.mg_none_of X G z_isinstance
  have m_int := PySem.W.mg_none_of X G z_int
  have m_bool := PySem.W.mg_none_of X G z_bool
  have m_sum := PySem.W.mg_none_of X G z_sum
  have m_len := PySem.W.mg_none_of X G z_len
  have m_all := PySem.W.mg_none_of X G z_all
  have m_sorted := PySem.W.mg_none_of X G z_sorted
  have m_min := PySem.W.mg_none_of X G z_min
  have m_abs := PySem.W.mg_none_of X G z_abs
  have m_super := PySem.W.mg_none_of X G z_super
  have O : OTxt K mg C := ⟨⟨pg, hd, po, sa⟩, nN, nA⟩
  have TM : MalTxt K mg CM := ⟨PySem.W.mg_of X G gM, xM, kM, bM, tM, exmSelf bM iM tM sM⟩
  have TR : OFR.RefTxt l.prog K mg CR fI cc cda := { gC := PySem.W.mg_of X G gR, gS := m_super, cls := ⟨nmR, qR, NR, bsR, bmR, snR, subR, abR, colR, ddR, r0, r1, r2, r3, r5, xR, rR, alR⟩, sa := saR, ga := gaR, gg := ggR, noN := noR, iC := iRi, tI := tRi, kC := kR, exC := eR, tyC := tR, hdC := hR, te := exmSelf eR clR tR suR, vE := vR, sC := mR, third := thR, fn := ⟨ocR, odR, dcR, pmR, anR, ctR, slR, lR, cR⟩, code := ⟨ccl, cdd, vsR, ccs, fileR, tfR, coR, v2R, flR⟩, cell := ⟨clc, cld, csl, ceR⟩, top := toR }
  have T := (show Fns K mg C f1 f2 f3 f4 f10 f24 f25 f26 f27 _ _ _ _ _ _ _ _ _ from { o := O, mT := m_tuple, mR := m_range, mL := m_list, mI := m_isinstance, mi := m_int, mB := m_bool, mSum := m_sum, mLen := m_len, mAll := m_all, mSo := m_sorted, FInt := F1, bInt := b1, gInt := g1, FMem := F2, bMem := b2, gMem := g2, FSet := F3, bSet := b3, gSet := g3, FHas := F4, bHas := b4, gHas := g4, FFol := F10, bFol := b10, gFol := g10, FSize := F24, bSize := b24, mSize := ⟨a24, i24, k24⟩, FBel := F25, bBel := b25, mBel := ⟨a25, i25, k25⟩, FLes := F26, bLes := b26, mLes := ⟨a26, i26, k26⟩, FPrs := F27, bPrs := b27, mPrs := ⟨a27, i27, k27⟩ })
  have Gi : ∀ base : Heap, FnOk l.prog w K mg base CX0 3 f23 _ ["self", "n", "pairs"] (spInit C) := fun base => ok_init F23 O (PySem.W.mg_of X G gMost) m_isinstance m_int m_bool m_list m_tuple m_len m_range F1 b1 g1 F5 b5 g5 F6 b6 g6 F4 b4 g4
  refine ⟨PySem.W.fnOf "law" "law" (defArgs sLaw) (defBody sLaw) (defScope sLaw) .none kV22 dc22 pm22 an22 cd22 ct22, fun s v => .of_eq rfl, fun base _ _ => ?_⟩
  exact ok_law F22 T TM { GN := (ok_nums F15 m_range m_min m_len m_abs).mono (by decide), mN := g15, kN := k15, bN := b15, GO := (ok_order F17 m_len m_range F16 b16 g16 ⟨mk, a23, i23, kc⟩ (PySem.W.mg_of X G aC) b23 (Gi base)).mono (by decide), mO := g17, kO := k17, bO := b17, GT := (ok_table F18 T).mono (by decide), mT := g18, kT := k18, bT := b18, GR := (ok_rows F19 m_range m_list).mono (by decide), mR := g19, kR := k19, bR := b19, GF := (ok_fits F20 m_range m_len).mono (by decide), mF := g20, kF := k20, bF := b20, GA := (ok_all F14 T F11 b11 g11 F9 b9 g9).mono (by decide), mA := g14, kA := k14, bA := b14, GC := (ok_count F11 T F9 b9 g9).mono (by decide), mC := g11, kC := k11, bC := b11, GX := (ok_next F16 m_len).mono (by decide), mX := g16, kX := k16, bX := b16, GL := (ok_linAt F12 T TR F9 b9 g9).mono (by decide), mL := g12, kL := k12, bL := b12, GK := (ok_rank F13 T TM F9 b9 g9 F7 b7 g7 F8 b8 g8).mono (by decide), mK := g13, kK := k13, bK := b13, GV := ok_reason F21 TR F12 b12 g12 (ok_linAt F12 T TR F9 b9 g9), mV := g21, kV := k21, bV := b21, GI := (ok_isLin F8 T F7 b7 g7).mono (by decide), mI := g8, kI := k8, bI := b8 }
end OFW

open PySem PySem.W PyProof.Rows in
set_option maxRecDepth 100000 in
set_option maxHeartbeats 0 in
theorem PySem.Challenge.cw_orderforms_k32_whole_linear_orders_holds : PySem.Challenge.rw_orderforms_k32_whole_linear_orders.Holds := by
  w_on; o_law; k_head; (case hw => w_witness2)
  k_fill
  refine L2.walk_of (l := PySem.Challenge.rw_orderforms_k32_whole_linear_orders) (n := 63) (k := 7) (x := "_law_script") (CX := fun _ => L2.CX0) (sp := fun w => OFW.spLaw _) rfl (by decide) rfl ⟨rfl, by decide, by decide⟩ (fun w h Y => PySem.W.kIn_of Y) ?F (fun _ _ a ns hl _ hS => ⟨a, ns, rfl, hS, hl, fun _ => rfl⟩) fun _ _ _ _ _ z => z
  case F =>
    intro w mg fa h KX G hmg
    refine' OFW.all_mk KX G hmg ?a1 ?l1 ?c1 ?k1 ?a2 ?l2 ?c2 ?k2 ?a3 ?l3 ?c3 ?k3 ?a4 ?l4 ?c4 ?k4 ?a5 ?l5 ?c5 ?k5 ?a6 ?l6 ?c6 ?k6 ?a7 ?l7 ?c7 ?k7 ?a8 ?l8 ?c8 ?k8 ?a9 ?l9 ?c9 ?k9 ?a10 ?l10 ?c10 ?k10 ?a11 ?l11 ?c11 ?k11 ?a12 ?l12 ?c12 ?k12 ?a13 ?l13 ?c13 ?k13 ?a14 ?l14 ?c14 ?k14 ?a15 ?l15 ?c15 ?k15 ?a16 ?l16 ?c16 ?k16 ?a17 ?l17 ?c17 ?k17 ?a18 ?l18 ?c18 ?k18 ?a19 ?l19 ?c19 ?k19 ?a20 ?l20 ?c20 ?k20 ?a21 ?l21 ?c21 ?k21 ?a22 ?l22 ?c22 ?k22 ?a23 ?i23 ?l23 ?c23 ?k23 ?a24 ?i24 ?l24 ?c24 ?k24 ?a25 ?i25 ?l25 ?c25 ?k25 ?a26 ?i26 ?l26 ?c26 ?k26 ?a27 ?i27 ?l27 ?c27 ?k27 ?aC ?pg ?hd ?po ?sa ?mk ?kc ?nN ?nA ?gM ?xM ?kM ?bM ?tM ?iM ?sM ?gR ?xR ?rR ?alR ?saR ?gaR ?ggR ?noR ?iRi ?tRi ?kR ?eR ?tR ?hR ?clR ?suR ?vR ?mR ?thR ?lR ?cR ?coR ?v2R ?flR ?ceR ?toR ?gMost ?z_tuple ?z_range ?z_list ?z_isinstance ?z_int ?z_bool ?z_sum ?z_len ?z_all ?z_sorted ?z_min ?z_abs ?z_super
    (case aC => k_is)
    (case a1 => k_is)
    (case l1 => k_is)
    (case c1 => k_is)
    (case k1 => k_is)
    (case a2 => k_is)
    (case l2 => k_is)
    (case c2 => k_is)
    (case k2 => k_is)
    (case a3 => k_is)
    (case l3 => k_is)
    (case c3 => k_is)
    (case k3 => k_is)
    (case a4 => k_is)
    (case l4 => k_is)
    (case c4 => k_is)
    (case k4 => k_is)
    (case a5 => k_is)
    (case l5 => k_is)
    (case c5 => k_is)
    (case k5 => k_is)
    (case a6 => k_is)
    (case l6 => k_is)
    (case c6 => k_is)
    (case k6 => k_is)
    (case a7 => k_is)
    (case l7 => k_is)
    (case c7 => k_is)
    (case k7 => k_is)
    (case a8 => k_is)
    (case l8 => k_is)
    (case c8 => k_is)
    (case k8 => k_is)
    (case a9 => k_is)
    (case l9 => k_is)
    (case c9 => k_is)
    (case k9 => k_is)
    (case a10 => k_is)
    (case l10 => k_is)
    (case c10 => k_is)
    (case k10 => k_is)
    (case a11 => k_is)
    (case l11 => k_is)
    (case c11 => k_is)
    (case k11 => k_is)
    (case a12 => k_is)
    (case l12 => k_is)
    (case c12 => k_is)
    (case k12 => k_is)
    (case a13 => k_is)
    (case l13 => k_is)
    (case c13 => k_is)
    (case k13 => k_is)
    (case a14 => k_is)
    (case l14 => k_is)
    (case c14 => k_is)
    (case k14 => k_is)
    (case a15 => k_is)
    (case l15 => k_is)
    (case c15 => k_is)
    (case k15 => k_is)
    (case a16 => k_is)
    (case l16 => k_is)
    (case c16 => k_is)
    (case k16 => k_is)
    (case a17 => k_is)
    (case l17 => k_is)
    (case c17 => k_is)
    (case k17 => k_is)
    (case a18 => k_is)
    (case l18 => k_is)
    (case c18 => k_is)
    (case k18 => k_is)
    (case a19 => k_is)
    (case l19 => k_is)
    (case c19 => k_is)
    (case k19 => k_is)
    (case a20 => k_is)
    (case l20 => k_is)
    (case c20 => k_is)
    (case k20 => k_is)
    (case a21 => k_is)
    (case l21 => k_is)
    (case c21 => k_is)
    (case k21 => k_is)
    (case a22 => k_is)
    (case l22 => k_is)
    (case c22 => k_is)
    (case k22 => k_is)
    (case a23 => k_is)
    (case i23 => k_is)
    (case l23 => k_is)
    (case c23 => k_is)
    (case k23 => k_is)
    (case a24 => k_is)
    (case i24 => k_is)
    (case l24 => k_is)
    (case c24 => k_is)
    (case k24 => k_is)
    (case a25 => k_is)
    (case i25 => k_is)
    (case l25 => k_is)
    (case c25 => k_is)
    (case k25 => k_is)
    (case a26 => k_is)
    (case i26 => k_is)
    (case l26 => k_is)
    (case c26 => k_is)
    (case k26 => k_is)
    (case a27 => k_is)
    (case i27 => k_is)
    (case l27 => k_is)
    (case c27 => k_is)
    (case k27 => k_is)
    (case pg => k_is)
    (case hd => k_is)
    (case po => k_is)
    (case sa => k_is)
    (case mk => k_is)
    (case kc => k_is)
    (case nN => k_is)
    (case nA => k_is)
    (case gM => k_is)
    (case xM => k_exc)
    (case kM => k_is)
    (case bM => k_is)
    (case tM => k_is)
    (case iM => k_is)
    (case sM => first | rfl | k_is)
    (case gR => k_is)
    (case xR => k_is)
    (case rR => decide +kernel)
    (case alR => kernel_rfl)
    (case saR => k_is)
    (case gaR => k_is)
    (case ggR => k_is)
    (case noR => k_is)
    (case iRi => k_is)
    (case tRi => k_is)
    (case kR => k_is)
    (case eR => k_is)
    (case tR => k_is)
    (case hR => k_is)
    (case clR => k_is)
    (case suR => first | rfl | k_is)
    (case vR => k_is)
    (case mR => k_is)
    (case thR => k_is)
    (case lR => k_is)
    (case cR => k_is)
    (case coR => k_is)
    (case v2R => rfl)
    (case flR => decide +kernel)
    (case ceR => k_is)
    (case toR => decide +kernel)
    (case gMost => k_is)
    (case z_tuple => k_is)
    (case z_range => k_is)
    (case z_list => k_is)
    (case z_isinstance => k_is)
    (case z_int => k_is)
    (case z_bool => k_is)
    (case z_sum => k_is)
    (case z_len => k_is)
    (case z_all => k_is)
    (case z_sorted => k_is)
    (case z_min => k_is)
    (case z_abs => k_is)
    (case z_super => k_is)
