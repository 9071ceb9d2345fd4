import PyProof.Rows.All
import Wide.All
import OpenK.AllK
import Wide.FinOn
import HandS.ForMost
import HandS.TupAny
import HandS.IsInst
import HandS.Style
import HandS.Conv
import HandS.Zip
import HandS.Evl
import PyProof.ReprRoads
import PySem.Challenge.RW_codenests_k52_whole_prices_of_greater_or
set_option Elab.async false
set_option linter.all false
set_option maxRecDepth 100000
set_option maxHeartbeats 8000000
namespace K52
/-! ### orders as lists of ints: steps (0-based positions), swaps, inversions -/
def gd (w : List Int) (i : Nat) : Int := w.getD i 0
def stp (w : List Int) (i : Nat) : Bool := decide (gd w (i + 1) < gd w i)
def stepsN (w : List Int) : List Nat := (List.range (w.length - 1)).filter (stp w)
def sw (w : List Int) (i : Nat) : List Int := w.take i ++ (gd w (i + 1) :: gd w i :: w.drop (i + 2))
def cntLt (x : Int) (r : List Int) : Nat := (r.filter fun y => decide (y < x)).length
def inv : List Int → Nat
  | [] => 0
  | x :: r => cntLt x r + inv r

theorem gd_zero (x : Int) (r : List Int) : gd (x :: r) 0 = x := rfl
theorem gd_succ (x : Int) (r : List Int) (i : Nat) : gd (x :: r) (i + 1) = gd r i := by simp [gd]
theorem gd_get {w : List Int} {i : Nat} (h : i < w.length) : w[i]? = some (gd w i) := by
  simp [gd, List.getD_eq_getElem?_getD, List.getElem?_eq_getElem h]
theorem gd_out {w : List Int} {i : Nat} (h : w.length ≤ i) : gd w i = 0 := by
  simp [gd, List.getD_eq_getElem?_getD, List.getElem?_eq_none h]
theorem gd_map {f : Int → Int} (h0 : f 0 = 0) (w : List Int) (i : Nat) : gd (w.map f) i = f (gd w i) := by
  by_cases h : i < w.length
  · have a := gd_get (w := w.map f) (i := i) (by simpa using h)
    rw [List.getElem?_map, gd_get h] at a
    exact (Option.some.inj a).symm
  · rw [gd_out (by simpa using h), gd_out (by omega), h0]

theorem mem_stepsN {w : List Int} {i : Nat} : i ∈ stepsN w ↔ i + 1 < w.length ∧ gd w (i + 1) < gd w i := by
  unfold stepsN stp
  rw [List.mem_filter, List.mem_range]
  simp only [decide_eq_true_eq]
  constructor
  · rintro ⟨a, b⟩; exact ⟨by omega, b⟩
  · rintro ⟨a, b⟩; exact ⟨by omega, b⟩

theorem sw_zero (x y : Int) (r : List Int) : sw (x :: y :: r) 0 = y :: x :: r := by simp [sw, gd]
theorem sw_succ (x : Int) (r : List Int) (i : Nat) : sw (x :: r) (i + 1) = x :: sw r i := by simp [sw, gd]
theorem sw_len : ∀ {w : List Int} {i : Nat}, i + 1 < w.length → (sw w i).length = w.length := by
  intro w i h
  simp only [sw, List.length_append, List.length_take, List.length_cons, List.length_drop]
  omega
theorem sw_perm : ∀ {w : List Int} {i : Nat}, i + 1 < w.length → (sw w i).Perm w
  | [], _, h => by simp at h
  | [_], _, h => by simp at h
  | x :: y :: r, 0, _ => by rw [sw_zero]; exact List.Perm.swap x y r
  | x :: r, i + 1, h => by rw [sw_succ]; exact (sw_perm (by simpa using h)).cons x
theorem gd_sw {w : List Int} {i : Nat} (h : i + 1 < w.length) (k : Nat) : gd (sw w i) k = if k = i then gd w (i + 1) else if k = i + 1 then gd w i else gd w k := by
  induction i generalizing w k with
  | zero =>
    match w, h with
    | x :: y :: r, _ =>
      rw [sw_zero]
      match k with
      | 0 => rfl
      | 1 => rfl
      | k + 2 => simp [gd]
  | succ i ih =>
    match w, h with
    | x :: r, h =>
      rw [sw_succ]
      match k with
      | 0 => simp [gd]
      | k + 1 =>
        rw [gd_succ, ih (by simpa using h) k]
        simp only [gd_succ, Nat.add_right_cancel_iff]

theorem cnt_perm {x : Int} {a b : List Int} (h : a.Perm b) : cntLt x a = cntLt x b := (h.filter _).length_eq
theorem inv_sw : ∀ {w : List Int} {i : Nat}, i + 1 < w.length → gd w (i + 1) < gd w i → inv (sw w i) + 1 = inv w
  | [], _, h, _ => by simp at h
  | [_], _, h, _ => by simp at h
  | x :: y :: r, 0, _, h => by
    have h : y < x := h
    rw [sw_zero]
    simp only [inv, cntLt, List.filter_cons]
    rw [if_neg (by simp; omega), if_pos (by simpa using h)]
    simp only [List.length_cons]
    omega
  | x :: r, i + 1, h, hd => by
    rw [sw_succ]
    have h' : i + 1 < r.length := by simpa using h
    have ih := inv_sw (w := r) (i := i) h' (by simpa [gd_succ] using hd)
    simp only [inv]
    rw [cnt_perm (sw_perm h')]
    omega
theorem inv_step {w : List Int} {i : Nat} (h : i ∈ stepsN w) : inv (sw w i) + 1 = inv w := inv_sw (mem_stepsN.mp h).1 (mem_stepsN.mp h).2
theorem no_steps_cons {x : Int} {r : List Int} (h : stepsN (x :: r) = []) : stepsN r = [] := by
  apply List.eq_nil_iff_forall_not_mem.mpr
  intro i hi
  have m := mem_stepsN.mp hi
  have : i + 1 ∈ stepsN (x :: r) := mem_stepsN.mpr ⟨by simp; omega, by rw [gd_succ, gd_succ]; exact m.2⟩
  rw [h] at this
  cases this
theorem no_steps_le : ∀ {x : Int} {r : List Int}, stepsN (x :: r) = [] → ∀ y ∈ r, x ≤ y
  | x, [], _, y, hy => by cases hy
  | x, z :: r, h, y, hy => by
    have hz : x ≤ z := by
      apply Int.not_lt.mp
      intro lt
      have : 0 ∈ stepsN (x :: z :: r) := mem_stepsN.mpr ⟨by simp, lt⟩
      rw [h] at this
      cases this
    rcases List.mem_cons.mp hy with rfl | hy
    · exact hz
    · exact Int.le_trans hz (no_steps_le (no_steps_cons h) y hy)
theorem inv_zero : ∀ {w : List Int}, stepsN w = [] → inv w = 0
  | [], _ => rfl
  | x :: r, h => by
    have a := no_steps_le h
    have b := inv_zero (no_steps_cons h)
    have c : cntLt x r = 0 := by
      unfold cntLt
      rw [List.filter_eq_nil_iff.mpr]
      · rfl
      · intro y hy
        have := a y hy
        simp; omega
    simp only [inv]
    omega
theorem inv_le : ∀ w : List Int, inv w ≤ w.length * w.length
  | [] => Nat.le_refl _
  | x :: r => by
    have a := inv_le r
    have b : cntLt x r ≤ r.length := List.length_filter_le _ _
    simp only [inv, List.length_cons]
    have : (r.length + 1) * (r.length + 1) = r.length * r.length + 2 * r.length + 1 := by
      rw [Nat.add_mul, Nat.mul_add]; omega
    omega

/-! ### the least member of a list -/
def minL : List Int → Int
  | [] => 0
  | x :: r => r.foldl min x
theorem foldl_min_le : ∀ (r : List Int) (x : Int), r.foldl min x ≤ x ∧ ∀ y ∈ r, r.foldl min x ≤ y
  | [], x => ⟨Int.le_refl _, fun _ h => nomatch h⟩
  | z :: r, x => by
    obtain ⟨a, b⟩ := foldl_min_le r (min x z)
    refine ⟨Int.le_trans a (Int.min_le_left _ _), fun y hy => ?_⟩
    rcases List.mem_cons.mp hy with rfl | hy
    · exact Int.le_trans a (Int.min_le_right _ _)
    · exact b y hy
theorem foldl_min_mem : ∀ (r : List Int) (x : Int), r.foldl min x = x ∨ r.foldl min x ∈ r
  | [], x => .inl rfl
  | z :: r, x => by
    rcases foldl_min_mem r (min x z) with h | h
    · show r.foldl min (min x z) = x ∨ r.foldl min (min x z) ∈ z :: r
      rw [h]
      by_cases q : x ≤ z
      · exact .inl (Int.min_eq_left q)
      · right; rw [Int.min_eq_right (by omega)]; exact List.mem_cons_self
    · exact .inr (List.mem_cons_of_mem _ h)
theorem minL_le {l : List Int} {y : Int} (h : y ∈ l) : minL l ≤ y := by
  match l, h with
  | x :: r, h =>
    rcases List.mem_cons.mp h with rfl | h
    · exact (foldl_min_le r _).1
    · exact (foldl_min_le r x).2 y h
theorem minL_mem {l : List Int} (h : l ≠ []) : minL l ∈ l := by
  match l, h with
  | x :: r, _ =>
    rcases foldl_min_mem r x with e | e
    · show r.foldl min x ∈ x :: r
      rw [e]; exact List.mem_cons_self
    · exact List.mem_cons_of_mem _ e
theorem minL_uniq {l : List Int} {m : Int} (h : m ∈ l) (hm : ∀ y ∈ l, m ≤ y) : m = minL l :=
  Int.le_antisymm (hm _ (minL_mem (fun e => by rw [e] at h; cases h))) (minL_le h)

/-! ### the least price -/
def best (p : List Int) : Nat → List Int → Int
  | 0, _ => 0
  | k + 1, w => minL ((stepsN w).map fun i => gd p i + best p k (sw w i))
def L (p : List Int) (w : List Int) : Int := best p (inv w) w
theorem best_fuel (p : List Int) : ∀ (k : Nat) (w : List Int), inv w ≤ k → best p k w = L p w
  | 0, w, h => by unfold L; rw [Nat.le_zero.mp h]
  | k + 1, w, h => by
    by_cases e : inv w = k + 1
    · unfold L; rw [e]
    · have ih := best_fuel p k w (by omega)
      rw [← ih]
      match k, ih with
      | 0, _ =>
        have e0 : inv w = 0 := by omega
        have es : stepsN w = [] := by
          apply List.eq_nil_iff_forall_not_mem.mpr
          intro i hi
          have := inv_step hi
          omega
        show minL ((stepsN w).map _) = 0
        rw [es]; rfl
      | k + 1, _ =>
        show minL ((stepsN w).map _) = minL ((stepsN w).map _)
        congr 1
        apply List.map_congr_left
        intro i hi
        have q := inv_step hi
        rw [best_fuel p (k + 1) (sw w i) (by omega), best_fuel p k (sw w i) (by omega)]
theorem L_eq (p w : List Int) : L p w = minL ((stepsN w).map fun i => gd p i + L p (sw w i)) := by
  rw [← best_fuel p (inv w + 1) w (by omega)]
  show minL ((stepsN w).map _) = _
  congr 1
  apply List.map_congr_left
  intro i hi
  have q := inv_step hi
  rw [best_fuel p (inv w) (sw w i) (by omega)]
theorem L_nil {p w : List Int} (h : stepsN w = []) : L p w = 0 := by rw [L_eq, h]; rfl
theorem L_le {p w : List Int} {i : Nat} (h : i ∈ stepsN w) : L p w ≤ gd p i + L p (sw w i) := by
  rw [L_eq p w]
  exact minL_le (List.mem_map.mpr ⟨i, h, rfl⟩)
theorem L_has {p w : List Int} (h : stepsN w ≠ []) : ∃ i ∈ stepsN w, gd p i + L p (sw w i) = L p w := by
  have q := minL_mem (l := (stepsN w).map fun i => gd p i + L p (sw w i)) (by simpa using h)
  rw [← L_eq] at q
  obtain ⟨i, a, b⟩ := List.mem_map.mp q
  exact ⟨i, a, b⟩
/-- a claim of all orders of a length, by the inversions -/
theorem by_inv {C : List Int → Prop} (n : Nat) (h : ∀ w, w.length = n → (∀ i ∈ stepsN w, C (sw w i)) → C w) : ∀ w, w.length = n → C w := by
  have key : ∀ (k : Nat) (w : List Int), inv w ≤ k → w.length = n → C w := by
    intro k
    induction k with
    | zero =>
      intro w hk hn
      exact h w hn fun i hi => absurd (inv_step hi) (by omega)
    | succ k ih =>
      intro w hk hn
      refine h w hn fun i hi => ih (sw w i) (by have := inv_step hi; omega) ?_
      rw [sw_len (mem_stepsN.mp hi).1]
      exact hn
  exact fun w hn => key _ w (Nat.le_refl _) hn

/-! ### level rows -/
def Row : List Int → List Nat → Prop
  | w, [] => stepsN w = []
  | w, i :: r => i ∈ stepsN w ∧ Row (sw w i) r
def priceR (p : List Int) (r : List Nat) : Int := (r.map (gd p)).sum
theorem L_le_row {p : List Int} : ∀ {r : List Nat} {w : List Int}, Row w r → L p w ≤ priceR p r
  | [], w, h => by rw [L_nil h]; exact Int.le_refl _
  | i :: r, w, ⟨h, hr⟩ => by
    have a := L_le (p := p) h
    have b := L_le_row (p := p) hr
    simp only [priceR, List.map_cons, List.sum_cons] at *
    omega
def neg (p : List Int) : List Int := p.map fun x => 0 - x
theorem gd_neg (p : List Int) (i : Nat) : gd (neg p) i = - gd p i := by
  unfold neg
  rw [gd_map (by omega)]
  omega
theorem priceR_neg (p : List Int) : ∀ r : List Nat, priceR (neg p) r = - priceR p r
  | [] => rfl
  | i :: r => by
    have ih := priceR_neg p r
    simp only [priceR, List.map_cons, List.sum_cons, gd_neg] at *
    omega
theorem row_le_G {p : List Int} {r : List Nat} {w : List Int} (h : Row w r) : priceR p r ≤ 0 - L (neg p) w := by
  have a := L_le_row (p := neg p) h
  rw [priceR_neg] at a
  omega
theorem row_len : ∀ {r : List Nat} {w : List Int}, Row w r → r.length = inv w
  | [], w, h => by rw [inv_zero h]; rfl
  | i :: r, w, ⟨h, hr⟩ => by
    have a := row_len hr
    have b := inv_step h
    simp only [List.length_cons]
    omega
theorem row_lt {n : Nat} : ∀ {r : List Nat} {w : List Int}, w.length = n → Row w r → ∀ i ∈ r, i + 1 < n
  | [], _, _, _, _, hi => by cases hi
  | j :: r, w, hn, ⟨h, hr⟩, i, hi => by
    rcases List.mem_cons.mp hi with rfl | hi
    · rw [← hn]; exact (mem_stepsN.mp h).1
    · exact row_lt (by rw [sw_len (mem_stepsN.mp h).1]; exact hn) hr i hi

/-! ### equal prices -/
theorem flat_L {p : List Int} {c : Int} {n : Nat} (hp : ∀ i, i + 1 < n → gd p i = c) : ∀ w : List Int, w.length = n → L p w = (inv w : Int) * c := by
  refine by_inv (C := fun w => L p w = (inv w : Int) * c) n fun w hn ih => ?_
  by_cases h : stepsN w = []
  · rw [L_nil h, inv_zero h]; simp
  · obtain ⟨i, hi, e⟩ := L_has (p := p) h
    rw [← e, ih i hi, hp i (by rw [← hn]; exact (mem_stepsN.mp hi).1)]
    have q := inv_step hi
    rw [← q]
    rw [Int.natCast_add, Int.add_mul]
    simp
    omega
theorem flat_row {p : List Int} {c : Int} {n : Nat} (hp : ∀ i, i + 1 < n → gd p i = c) : ∀ {r : List Nat}, (∀ i ∈ r, i + 1 < n) → priceR p r = (r.length : Int) * c
  | [], _ => by simp [priceR]
  | i :: r, h => by
    have ih := flat_row hp (r := r) fun j hj => h j (List.mem_cons_of_mem _ hj)
    simp only [priceR, List.map_cons, List.sum_cons, List.length_cons] at *
    rw [ih, hp i (h i List.mem_cons_self), Int.natCast_add, Int.add_mul]
    simp
    omega

/-! ### two lists of prices added -/
theorem super_L {p q s : List Int} {n : Nat} (hs : ∀ i, i + 1 < n → gd s i = gd p i + gd q i) : ∀ w : List Int, w.length = n → L p w + L q w ≤ L s w := by
  refine by_inv (C := fun w => L p w + L q w ≤ L s w) n fun w hn ih => ?_
  by_cases h : stepsN w = []
  · rw [L_nil h, L_nil h, L_nil h]; omega
  · obtain ⟨i, hi, e⟩ := L_has (p := s) h
    have a := ih i hi
    have b := L_le (p := p) hi
    have c := L_le (p := q) hi
    have d := hs i (by rw [← hn]; exact (mem_stepsN.mp hi).1)
    omega

/-! ### bounds -/
theorem L_abs {p : List Int} {B : Int} (hB : ∀ i, - B ≤ gd p i ∧ gd p i ≤ B) (n : Nat) : ∀ w : List Int, w.length = n → - ((inv w : Int) * B) ≤ L p w ∧ L p w ≤ (inv w : Int) * B := by
  refine by_inv (C := fun w => - ((inv w : Int) * B) ≤ L p w ∧ L p w ≤ (inv w : Int) * B) n fun w hn ih => ?_
  by_cases h : stepsN w = []
  · rw [L_nil h, inv_zero h]; simp
  · obtain ⟨i, hi, e⟩ := L_has (p := p) h
    obtain ⟨a, b⟩ := ih i hi
    obtain ⟨c, d⟩ := hB i
    have q := inv_step hi
    have z : (inv w : Int) * B = (inv (sw w i) : Int) * B + B := by
      rw [← q, Int.natCast_add, Int.add_mul]; simp
    omega

/-! ### plain orders -/
def Plain (w : List Int) : Prop := ∀ a b c, a < b → b < c → c < w.length → ¬ (gd w b < gd w a ∧ gd w c < gd w b)
theorem plain_sw {w : List Int} {i : Nat} (hp : Plain w) (hi : i ∈ stepsN w) : Plain (sw w i) := by
  obtain ⟨hl, hd⟩ := mem_stepsN.mp hi
  intro a b c hab hbc hc
  rw [sw_len hl] at hc
  rw [gd_sw hl, gd_sw hl, gd_sw hl]
  intro ⟨h1, h2⟩
  -- where the three stood before
  by_cases ha : a = i
  · subst ha
    rw [if_pos rfl] at h1
    by_cases hb : b = a + 1
    · subst hb
      rw [if_neg (by omega), if_pos rfl] at h1
      omega
    · rw [if_neg (by omega), if_neg hb] at h1 h2
      rw [if_neg (by omega), if_neg (by omega)] at h2
      exact hp (a + 1) b c (by omega) hbc hc ⟨h1, h2⟩
  · rw [if_neg ha] at h1
    by_cases ha' : a = i + 1
    · subst ha'
      rw [if_pos rfl] at h1
      rw [if_neg (by omega), if_neg (by omega)] at h1 h2
      rw [if_neg (by omega), if_neg (by omega)] at h2
      exact hp i b c (by omega) hbc hc ⟨h1, h2⟩
    · rw [if_neg ha'] at h1
      by_cases hb : b = i
      · subst hb
        rw [if_pos rfl] at h1 h2
        by_cases hcc : c = b + 1
        · subst hcc
          rw [if_neg (by omega), if_pos rfl] at h2
          omega
        · rw [if_neg (by omega), if_neg hcc] at h2
          exact hp a (b + 1) c (by omega) (by omega) hc ⟨h1, h2⟩
      · rw [if_neg hb] at h1 h2
        by_cases hb' : b = i + 1
        · subst hb'
          rw [if_pos rfl] at h1 h2
          rw [if_neg (by omega), if_neg (by omega)] at h2
          exact hp a i c (by omega) (by omega) hc ⟨h1, h2⟩
        · rw [if_neg hb'] at h1 h2
          by_cases hcc : c = i
          · subst hcc
            rw [if_pos rfl] at h2
            exact hp a b (c + 1) hab (by omega) hl ⟨h1, h2⟩
          · rw [if_neg hcc] at h2
            by_cases hc' : c = i + 1
            · subst hc'
              rw [if_pos rfl] at h2
              exact hp a b i hab (by omega) (by omega) ⟨h1, h2⟩
            · rw [if_neg hc'] at h2
              exact hp a b c hab hbc hc ⟨h1, h2⟩
theorem gd_ext {a b : List Int} (hl : a.length = b.length) (h : ∀ k, gd a k = gd b k) : a = b := by
  apply List.ext_getElem? 
  intro k
  by_cases hk : k < a.length
  · rw [gd_get hk, gd_get (by omega), h k]
  · rw [List.getElem?_eq_none (by omega), List.getElem?_eq_none (by omega)]
theorem plain_far {w : List Int} {i j : Nat} (hp : Plain w) (hi : i ∈ stepsN w) (hj : j ∈ stepsN w) (hij : i < j) : i + 1 < j := by
  obtain ⟨hl, hd⟩ := mem_stepsN.mp hi
  obtain ⟨hl', hd'⟩ := mem_stepsN.mp hj
  apply Nat.lt_of_le_of_ne hij
  intro e
  have e' : j = i + 1 := by omega
  subst e'
  exact hp i (i + 1) (i + 2) (by omega) (by omega) hl' ⟨hd, hd'⟩
theorem sw_comm {w : List Int} {i j : Nat} (hi : i + 1 < w.length) (hj : j + 1 < w.length) (hij : i + 1 < j) : sw (sw w i) j = sw (sw w j) i := by
  have hi' : i + 1 < (sw w j).length := by rw [sw_len hj]; exact hi
  have hj' : j + 1 < (sw w i).length := by rw [sw_len hi]; exact hj
  apply gd_ext
  · rw [sw_len hj', sw_len hi', sw_len hi, sw_len hj]
  · intro k
    rw [gd_sw hj', gd_sw hi']
    simp only [gd_sw hi, gd_sw hj]
    by_cases h1 : k = j
    · subst h1
      simp only [if_true]
      rw [if_neg (by omega), if_neg (by omega), if_neg (by omega), if_neg (by omega)]
    · by_cases h2 : k = j + 1
      · subst h2
        simp only [if_true]
        rw [if_neg (by omega), if_neg (by omega), if_neg (by omega), if_neg (by omega), if_neg (by omega), if_neg (by omega)]
      · rw [if_neg h1, if_neg h2]
        by_cases h3 : k = i
        · subst h3
          simp only [if_true]
          rw [if_neg (by omega), if_neg (by omega)]
        · by_cases h4 : k = i + 1
          · subst h4
            simp only [if_true]
            rw [if_neg (by omega), if_neg (by omega), if_neg (by omega), if_neg (by omega)]
          · simp only [if_neg h1, if_neg h2, if_neg h3, if_neg h4]
theorem steps_far {w : List Int} {i j : Nat} (hi : i ∈ stepsN w) (hj : j ∈ stepsN w) (h : i + 1 < j ∨ j + 1 < i) : j ∈ stepsN (sw w i) := by
  obtain ⟨hl, hd⟩ := mem_stepsN.mp hi
  obtain ⟨hl', hd'⟩ := mem_stepsN.mp hj
  refine mem_stepsN.mpr ⟨by rw [sw_len hl]; exact hl', ?_⟩
  rw [gd_sw hl, gd_sw hl, if_neg (by omega), if_neg (by omega), if_neg (by omega), if_neg (by omega)]
  exact hd'
/-- a plain order's level rows all have one price -/
theorem plain_all {p : List Int} (n : Nat) : ∀ w : List Int, w.length = n → Plain w → L p w = 0 - L (neg p) w ∧ ∀ i ∈ stepsN w, gd p i + L p (sw w i) = L p w := by
  refine by_inv (C := fun w => Plain w → L p w = 0 - L (neg p) w ∧ ∀ i ∈ stepsN w, gd p i + L p (sw w i) = L p w) n fun w hn ih hp => ?_
  have same : ∀ i ∈ stepsN w, ∀ j ∈ stepsN w, i < j → gd p i + L p (sw w i) = gd p j + L p (sw w j) := fun i hi j hj hij => by
    have far := plain_far hp hi hj hij
    have a := (ih i hi (plain_sw hp hi)).2 j (steps_far hi hj (.inl far))
    have b := (ih j hj (plain_sw hp hj)).2 i (steps_far hj hi (.inr far))
    rw [sw_comm (mem_stepsN.mp hi).1 (mem_stepsN.mp hj).1 far] at a
    omega
  have all : ∀ i ∈ stepsN w, ∀ j ∈ stepsN w, gd p i + L p (sw w i) = gd p j + L p (sw w j) := fun i hi j hj => by
    rcases Nat.lt_trichotomy i j with h | h | h
    · exact same i hi j hj h
    · rw [h]
    · exact (same j hj i hi h).symm
  by_cases h : stepsN w = []
  · refine ⟨by rw [L_nil h, L_nil h]; rfl, fun i hi => ?_⟩
    rw [h] at hi
    cases hi
  · obtain ⟨i, hi, e⟩ := L_has (p := p) h
    obtain ⟨j, hj, f⟩ := L_has (p := neg p) h
    refine ⟨?_, fun k hk => (all k hk i hi).trans e⟩
    have a := (ih j hj (plain_sw hp hj)).1
    have b := all i hi j hj
    rw [gd_neg] at f
    omega

/-! ### the first cheapest row -/
def First (p : List Int) : List Int → List Nat → Prop
  | _, [] => True
  | w, i :: r => gd p i + L p (sw w i) = L p w ∧ (∀ j ∈ stepsN w, j < i → gd p j + L p (sw w j) ≠ L p w) ∧ First p (sw w i) r

/-! ### orders of n numbers below 6; how many there are -/
def Ok (n : Nat) (w : List Int) : Prop := w.length = n ∧ ∀ x ∈ w, 0 ≤ x ∧ x < 6
theorem Ok.sw {n : Nat} {w : List Int} {i : Nat} (h : Ok n w) (hi : i ∈ stepsN w) : Ok n (sw w i) := by
  have hl := (mem_stepsN.mp hi).1
  exact ⟨(sw_len hl).trans h.1, fun x hx => h.2 x ((sw_perm hl).mem_iff.mp hx)⟩
def allW : Nat → List (List Int)
  | 0 => [[]]
  | n + 1 => (allW n).flatMap fun w => [0 :: w, 1 :: w, 2 :: w, 3 :: w, 4 :: w, 5 :: w]
theorem allW_len : ∀ n : Nat, (allW n).length = 6 ^ n
  | 0 => rfl
  | n + 1 => by
    have ih := allW_len n
    have : ∀ l : List (List Int), (l.flatMap fun w => [0 :: w, 1 :: w, 2 :: w, 3 :: w, 4 :: w, 5 :: w]).length = 6 * l.length := by
      intro l
      induction l with
      | nil => rfl
      | cons a r ih => rw [List.flatMap_cons, List.length_append, ih]; simp only [List.length_cons, List.length_nil]; omega
    show ((allW n).flatMap _).length = _
    rw [this, ih, Nat.pow_succ]
    omega
theorem allW_mem : ∀ {n : Nat} {w : List Int}, Ok n w → w ∈ allW n
  | 0, w, h => by
    have : w = [] := List.length_eq_zero_iff.mp h.1
    rw [this]; exact List.mem_singleton.mpr rfl
  | n + 1, [], h => by have := h.1; simp at this
  | n + 1, x :: w, h => by
    have hx := h.2 x List.mem_cons_self
    have hw : Ok n w := ⟨by have := h.1; simpa using this, fun y hy => h.2 y (List.mem_cons_of_mem _ hy)⟩
    refine List.mem_flatMap.mpr ⟨w, allW_mem hw, ?_⟩
    have : x = 0 ∨ x = 1 ∨ x = 2 ∨ x = 3 ∨ x = 4 ∨ x = 5 := by omega
    rcases this with rfl | rfl | rfl | rfl | rfl | rfl <;> simp
theorem pigeon {α : Type} [DecidableEq α] : ∀ {a b : List α}, a.Nodup → (∀ x ∈ a, x ∈ b) → a.length ≤ b.length
  | [], _, _, _ => Nat.zero_le _
  | x :: r, b, h, hs => by
    obtain ⟨h1, h2⟩ := List.nodup_cons.mp h
    have hx := hs x List.mem_cons_self
    have ih := pigeon (a := r) (b := b.erase x) h2 fun y hy => by
      have ne : y ≠ x := fun e => h1 (e ▸ hy)
      exact (List.mem_erase_of_ne ne).mpr (hs y (List.mem_cons_of_mem _ hy))
    have e := List.length_erase_of_mem hx
    have pos : 0 < b.length := List.length_pos_of_mem hx
    simp only [List.length_cons]
    omega
theorem few {n : Nat} (hn : n ≤ 6) {l : List (List Int)} (h : l.Nodup) (ho : ∀ w ∈ l, Ok n w) : l.length ≤ 46656 := by
  have a := pigeon h fun w hw => allW_mem (ho w hw)
  rw [allW_len] at a
  have b : 6 ^ n ≤ 6 ^ 6 := Nat.pow_le_pow_right (by decide) hn
  have c : 6 ^ 6 = 46656 := by decide
  omega

/-! ### inversions as the law counts them -/
def cntGt (x : Int) (r : List Int) : Nat := (r.filter fun y => decide (x < y)).length
theorem inv_snoc (x : Int) : ∀ r : List Int, inv (r ++ [x]) = inv r + cntGt x r
  | [] => rfl
  | y :: r => by
    have ih := inv_snoc x r
    simp only [List.cons_append, inv, cntLt, cntGt, List.filter_append, List.length_append, List.filter_cons, List.filter_nil] at *
    rw [ih]
    by_cases h : x < y
    · simp [h]; omega
    · simp [h]; omega
def invAt (w : List Int) (a : Nat) : Nat := ((List.range a).filter fun b => decide (gd w a < gd w b)).length
theorem range_filter_map (w : List Int) (f : Int → Bool) : ∀ n, n ≤ w.length → ((List.range n).filter fun b => f (gd w b)).length = ((w.take n).filter f).length
  | 0, _ => rfl
  | n + 1, h => by
    have ih := range_filter_map w f n (by omega)
    rw [List.range_succ, List.filter_append, List.length_append, ih, List.take_add_one, gd_get (by omega), List.filter_append, List.length_append]
    congr 1
    simp only [Option.toList_some, List.filter_cons, List.filter_nil]
    cases f (gd w n) <;> rfl
theorem inv_take (w : List Int) : ∀ n, n ≤ w.length → (((List.range n).map (invAt w)).sum) = inv (w.take n)
  | 0, _ => rfl
  | n + 1, h => by
    have ih := inv_take w n (by omega)
    rw [List.range_succ, List.map_append, List.sum_append, ih, List.take_add_one, gd_get (by omega)]
    show _ = inv (w.take n ++ [gd w n])
    rw [inv_snoc]
    have e : invAt w n = cntGt (gd w n) (w.take n) := range_filter_map w (fun y => decide (gd w n < y)) n (by omega)
    simp [e]
theorem inv_sum (w : List Int) : (((List.range w.length).map (invAt w)).sum) = inv w := by
  rw [inv_take w _ (Nat.le_refl _), List.take_length]
end K52

namespace K52
open PySem L2
/-! ### the text by places -/
def top (i : Nat) : Stmt := PySem.Challenge.pw_codenests_k52_whole_prices_of_greater_or.main.body.getD i (.Pass ⟨0, 0, 0, 0⟩)
/-! ### heaps: what stood stands, but for the objects of S -/
def Kp (S : List Addr) (H H' : Hp) : Prop := ∀ b o, H b = some o → b ∉ S → H' b = some o
theorem Kp.refl (S : List Addr) (H : Hp) : Kp S H H := fun _ _ h _ => h
theorem Kp.trans {S : List Addr} {H H1 H2 : Hp} (a : Kp S H H1) (b : Kp S H1 H2) : Kp S H H2 := fun x o h n => b x o (a x o h n) n
theorem Kp.mono {S T : List Addr} {H H' : Hp} (a : Kp S H H') (h : ∀ x ∈ S, x ∈ T) : Kp T H H' := fun x o e n => a x o e fun m => n (h x m)
theorem Kp.of {S : List Addr} {H H' : Hp} (a : Same H H') : Kp S H H' := fun x o e _ => a x o e
theorem Kp.new {S : List Addr} {H H' : Hp} {p : Addr} {o : HO} (a : Kp S H H') (h : H' p = none) : Kp S H (upd H' p o) := fun b u e n => by
  have q := a b u e n
  rw [upd_ne (ne_of_none q h)]
  exact q
theorem Kp.mut {S : List Addr} {H H' : Hp} {p : Addr} {o : HO} (a : Kp S H H') (h : p ∈ S ∨ H p = none) : Kp S H (upd H' p o) := fun b u e n => by
  have z : b ≠ p := by
    rcases h with h | h
    · intro q; exact n (q ▸ h)
    · exact ne_of_none e h
  rw [upd_ne z]
  exact a b u e n
theorem Kp.same {H H' : Hp} (a : Kp [] H H') : Same H H' := fun b o e => a b o e (by simp)
theorem same_new {H : Hp} {p : Addr} (h : H p = none) (o : HO) : Same H (upd H p o) := fun b u q => by rw [upd_ne (ne_of_none q h)]; exact q
theorem Same.mut {H H' : Hp} {p : Addr} {o : HO} (a : Same H H') (h : H p = none) : Same H (upd H' p o) := fun b u e => by
  rw [upd_ne (ne_of_none e h)]
  exact a b u e
theorem same_back {H H' : Hp} {p : Addr} (a : Same H H') (h : H' p = none) : H p = none := a.free h
/-- a tuple, a list of ints -/
def tupI (w : List Int) : HO := .tup (w.map V.int)
def lstI (w : List Int) : HO := .lst (w.map V.int)
theorem small {n : Nat} (h : n ≤ 100000) : n ≤ sizeLine := Nat.le_trans h (by decide)
theorem smallt {n : Nat} (h : n < 100000) : n < sizeLine := Nat.lt_of_lt_of_le h (by decide)
theorem at_gd {w : List Int} {i : Nat} {z : Int} (h : i < w.length) (e : z = (i : Int)) : atI (w.map V.int) z = some (.int (gd w i)) := by
  rw [e]
  exact atI_nat (by rw [List.getElem?_map, gd_get h]; rfl)
theorem yes_ {σ : L2.St} {H : Hp} {A B : Hp → Prop} (h : A H) : tYes σ H (fun b H3 => if b = true then A H3 else B H3) := by
  show (if true = true then A H else B H)
  rw [if_pos rfl]
  exact h
/-! ### levels: the place k tells the level k + 1 -/
def lv (r : List Nat) : List Int := r.map fun (i : Nat) => (i : Int) + 1
theorem lv_len (r : List Nat) : (lv r).length = r.length := by simp [lv]
theorem lv_snoc (r : List Nat) (i : Nat) : lv (r ++ [i]) = lv r ++ [(i : Int) + 1] := by simp [lv]
theorem steps_snoc (w : List Int) (i : Nat) : ((List.range (i + 1)).filter (stp w)) = ((List.range i).filter (stp w)) ++ (if stp w i = true then [i] else []) := by
  rw [List.range_succ, List.filter_append]
  congr 1
  rw [List.filter_cons]
  split <;> rfl
/-! ### what a def of the module's names needs -/
structure Blt (mg : Str → Option Value) : Prop where
  len : mg "len" = none
  range : mg "range" = none
  isinstance : mg "isinstance" = none
  int : mg "int" = none
  bool : mg "bool" = none
  list : mg "list" = none
  tuple : mg "tuple" = none
  min : mg "min" = none
  max : mg "max" = none
  sum : mg "sum" = none
  abs : mg "abs" = none
  zip : mg "zip" = none
  repr : mg "repr" = none
/-- a def of the module: its text, its address, its name -/
structure Df (K : PySem.W.Frag) (mg : Str → Option Value) (x : Str) (st : Stmt) (ps : List Str) (f : Addr) (fd : FuncData) : Prop where
  fn : Fun K x x st f fd
  mg : mg x = some (.ref f)
  bs : Binds K fd ps []
abbrev sNumber : Stmt := top 4
abbrev sLevel : Stmt := top 6
abbrev sSteps : Stmt := top 7
abbrev sStepped : Stmt := top 8
def spNumber : Sp := fun vs H Q _ => ∃ i : Int, vs = [.int i] ∧ Q (.bl (decide (0 ≤ i))) H
def spLevel : Sp := fun vs H Q _ => ∃ n i : Int, vs = [.int n, .int i] ∧ 1 ≤ i ∧ i < n ∧ Q (.bl true) H
def spSteps : Sp := fun vs H Q _ => ∃ (o : Addr) (w : List Int), vs = [.ref o] ∧ H o = some (tupI w) ∧ w.length ≤ 100 ∧ 1 ≤ w.length ∧
  ∀ (p : Addr) (H' : Hp), H p = none → Same H H' → H' p = some (lstI (lv (stepsN w))) → Q (.ref p) H'
def spStepped : Sp := fun vs H Q _ => ∃ (o : Addr) (w : List Int) (i : Nat), vs = [.ref o, .int ((i : Int) + 1)] ∧ H o = some (tupI w) ∧ w.length ≤ 100 ∧ i + 1 < w.length ∧
  ∀ (p : Addr) (H' : Hp), H p = none → Same H H' → H' p = some (tupI (sw w i)) → Q (.ref p) H'
def tSteps (K : PySem.W.Frag) : TE := tLc (iRng2 (tCons (tC (.int 1)) (tCons (tCB (fun xs H Q => ∃ p ys, xs = [V.ref p] ∧ (SqL K H p ys ∨ SqT K H p ys) ∧ Q (.int ys.length) H) (tCons (tVar 0) tNil)) tNil))) (gName 1)
  (tTest (tOp (rI0 fun i j => .bl (decide (j < i))) (tOp (rIxT K) (tVar 0) (tOp (rI0 fun i j => .int (i - j)) (tVar 1) (tC (.int 1)))) (tOp (rIxT K) (tVar 0) (tVar 1)))) (tVar 1) [1]
theorem read_steps {K : PySem.W.Frag} {o : Addr} {ws : List Int} {H : Hp} {Q : VK} (ho : H o = some (tupI ws)) (hl : ws.length ≤ 100) (hl1 : 1 ≤ ws.length)
    (q : ∀ (p : Addr) (H' : Hp), H p = none → Same H H' → H' p = some (lstI (lv (stepsN ws))) → Q (.ref p) H') : tSteps K [some (.ref o), none] H Q := by
  have hlen : (ws.map V.int).length = ws.length := List.length_map _
  refine ⟨_, rfl, o, _, rfl, .inr (SqT.of ho), 1, _, rfl, ?_, fun d hd => ?_⟩
  · rw [hlen]; omega
  rw [hlen]
  refine lc_range (lo := 1) (n := ((ws.length : Int) - 1).toNat) (fun i H' => i + 1 ≤ ws.length ∧ Same H H' ∧ H' d = some (lstI (lv ((List.range i).filter (stp ws))))) ⟨hl1, same_new hd _, upd_same⟩ ?_ ?_
  · rintro i H' hi ⟨h1, hs, hd'⟩
    have hi' : i + 1 < ws.length := by omega
    refine ⟨rfl, _, rfl, _, rfl, _, _, rfl, rfl, o, _, _, _, rfl, rfl, SqT.of (hs _ _ ho), at_gd (i := i) (by omega) (by omega), _, rfl, _, rfl, o, _, _, _, rfl, rfl, SqT.of (hs _ _ ho), at_gd (i := i + 1) (by omega) (by omega), _, _, rfl, rfl, _, rfl, ?_⟩
    have e : decide (gd ws (i + 1) < gd ws i) = stp ws i := rfl
    refine ite2 (fun c => ?_) (fun c => ?_)
    · rw [e] at c
      have z : H' d = some (.lst ((lv ((List.range i).filter (stp ws))).map V.int)) := hd'
      refine ⟨_, rfl, _, z, ?_, by omega, Same.mut hs hd, ?_⟩
      · rw [List.length_map, lv_len]
        have q1 : ((List.range i).filter (stp ws)).length ≤ i := by
          have q2 := List.length_filter_le (stp ws) (List.range i)
          rwa [List.length_range] at q2
        exact smallt (by omega)
      · rw [upd_same, steps_snoc, if_pos c, lv_snoc, lstI, List.map_append]
        have : (1 : Int) + (i : Int) = (i : Int) + 1 := Int.add_comm _ _
        rw [this]
        rfl
    · rw [e] at c
      refine ⟨by omega, hs, ?_⟩
      rw [hd', steps_snoc, if_neg c, List.append_nil]
  · rintro H' ⟨h1, hs, hd'⟩
    have e : ((ws.length : Int) - 1).toNat = ws.length - 1 := by omega
    rw [e] at hd'
    exact q d H' hd hs hd'
section
variable {P : Program} {w : World} {K : PySem.W.Frag} {mg : Str → Option Value} {base : Heap}
theorem scNumber : FnScope ["value"] ["value"] (defScope sNumber) := ⟨rfl, rfl, rfl, by decide +kernel, rfl, by decide +kernel, by decide +kernel⟩
theorem ok_number {f : Addr} {fd : FuncData} (D : Df K mg "is_number" sNumber ["value"] f fd) (B : Blt mg) : FnOk P w K mg base CX0 1 f fd ["value"] spNumber := by
  refine D.fn.ok scNumber (fun vs H Q E h => ?_) (fun cdv A outer s H vs Q E hr h => ?_)
  · obtain ⟨i, rfl, _⟩ := h
    rfl
  obtain ⟨i, rfl, q⟩ := h
  refine ⟨_, pss_one (ps_ret (pe_and (pe_callB call_isi rfl B.isinstance (by decide +kernel) (pa_cons (pv 0) (pa_cons (pe_bltn (v := .ty "int") rfl B.int (by decide +kernel) rfl) pa_nil)))
    (pe_and (pe_not (pe_callB call_isi rfl B.isinstance (by decide +kernel) (pa_cons (pv 0) (pa_cons (pe_bltn (v := .ty "bool") rfl B.bool (by decide +kernel) rfl) pa_nil))))
      (pe_one (pe_cmpR op_ge (pv 0) pe_int (nomark _)))))), ?_⟩
  refine ⟨_, rfl, _, _, _, _, true, rfl, .ty "int", .base (.int i), kit_ty (by decide +kernel), true, rfl, ?_⟩
  refine iteT ?_
  refine ⟨_, rfl, _, _, _, _, false, rfl, .ty "bool", .base (.int i), kit_ty (by decide +kernel), false, rfl, true, rfl, ?_⟩
  refine iteT ?_
  exact ⟨_, rfl, _, _, rfl, rfl, q⟩
theorem scLevel : FnScope ["n", "value"] ["n", "value"] (defScope sLevel) := ⟨rfl, rfl, rfl, by decide +kernel, rfl, by decide +kernel, by decide +kernel⟩
theorem ok_level {f g : Addr} {fd gd : FuncData} (D : Df K mg "is_level" sLevel ["n", "value"] f fd) (N : Df K mg "is_number" sNumber ["value"] g gd) (B : Blt mg) : FnOk P w K mg base CX0 2 f fd ["n", "value"] spLevel := by
  have G : FnOk P w K mg base CX0 1 g gd ["value"] spNumber := ok_number N B
  refine D.fn.ok scLevel (fun vs H Q E h => ?_) (fun cdv A outer s H vs Q E hr h => ?_)
  · obtain ⟨n, i, rfl, _⟩ := h
    rfl
  obtain ⟨n, i, rfl, h1, h2, q⟩ := h
  refine ⟨_, pss_one (ps_ret (pe_and (pe_call G hr rfl N.mg N.fn.kp N.bs .nil pass0 (pa_cons (pv 1) pa_nil)) (pe_one (pe_chain op_le op_lt pe_int (pv 1) (pv 0))))), ?_⟩
  refine ⟨_, rfl, i, rfl, _, rfl, ?_⟩
  rw [if_pos (decide_eq_true (show (0 : Int) ≤ i by omega))]
  refine ⟨_, rfl, _, _, rfl, rfl, _, rfl, ?_⟩
  rw [if_pos (decide_eq_true h1)]
  refine ⟨_, rfl, _, _, rfl, rfl, ?_⟩
  show Q (.bl (decide (i < n))) H
  rw [decide_eq_true h2]
  exact q
theorem scSteps : FnScope ["order", "level"] ["order"] (defScope sSteps) := ⟨rfl, rfl, rfl, by decide +kernel, rfl, by decide +kernel, by decide +kernel⟩
theorem ok_steps {f : Addr} {fd : FuncData} (D : Df K mg "sorting_steps" sSteps ["order"] f fd) (B : Blt mg) : FnOk P w K mg base CX0 1 f fd ["order"] spSteps := by
  refine D.fn.ok scSteps (fun vs H Q E h => ?_) (fun cdv A outer s H vs Q E hr h => ?_)
  · obtain ⟨o, w, rfl, _⟩ := h
    rfl
  obtain ⟨o, ws, rfl, ho, hl, hl1, q⟩ := h
  refine ⟨tRet (tSteps K), pss_one (ps_ret (pe_lc (own := [("level", 1)]) (g := gName 1) rfl scSteps.nd (pi_range2 rfl B.range (pa_cons pe_int (pa_cons (pe_callB call_len_seq rfl B.len PySem.boot_len (pa_cons (pv 0) pa_nil)) pa_nil)))
    (blkOk_by (N := ["order", "level"]) (sc := defScope sSteps) (by decide +kernel)) (fun _ _ _ _ _ => pg_name (i := 1) scSteps.nd rfl (Or.inl rfl))
    (fun _ _ _ _ _ => pts_one (pt_cmpR op_gt (pe_ix (r := rIxT K) ix_tup (pv 0) (pe_op op_sub (pv 1) pe_int) (fun _ _ => rfl)) (pe_ix (r := rIxT K) ix_tup (pv 0) (pv 1) (fun _ _ => rfl)) (nomark _))) (fun _ _ _ _ _ => pv 1))), ?_⟩
  exact read_steps ho hl hl1 q
end
end K52

namespace K52
open PySem L2
abbrev sPriceOf : Stmt := top 10
abbrev sLStepped : Stmt := top 22
abbrev sLSteps : Stmt := top 23
def spPriceOf : Sp := fun vs H Q _ => ∃ (a b : Addr) (r : List Nat) (p : List Int), vs = [.ref a, .ref b] ∧ H a = some (lstI (lv r)) ∧ H b = some (lstI p) ∧ r.length ≤ 1000 ∧ (∀ i ∈ r, i < p.length) ∧
  ∀ H' : Hp, Same H H' → Q (.int (priceR p r)) H'
abbrev rPl : R2 := rI0 fun i j => .int (i + j)
abbrev rMi : R2 := rI0 fun i j => .int (i - j)
def tStepped (K : PySem.W.Frag) : TE := tOp (rCatA K) (tOp (rCatA K) (tSl (rSlA K) (tVar 0) tNoPart (tPart (tOp rMi (tVar 1) (tC (.int 1)))))
  (tTup (tCons (tOp (rIxT K) (tVar 0) (tVar 1)) (tCons (tOp (rIxT K) (tVar 0) (tOp rMi (tVar 1) (tC (.int 1)))) tNil)))) (tSl (rSlA K) (tVar 0) (tPart (tOp rPl (tVar 1) (tC (.int 1)))) tNoPart)
theorem cut_lo (ws : List Int) (i : Nat) (h : i ≤ ws.length) : cutV (ws.map V.int) none (some ((i : Nat) : Int)) = (ws.take i).map V.int := by
  unfold cutV
  rw [HT.sIx_none, HT.sIx_nat, List.drop_zero, List.length_map, Nat.sub_zero, Nat.min_eq_left h, List.map_take]
theorem cut_hi (ws : List Int) (i : Nat) (h : i ≤ ws.length) : cutV (ws.map V.int) (some ((i : Nat) : Int)) none = (ws.drop i).map V.int := by
  unfold cutV
  rw [HT.sIx_none, HT.sIx_nat, List.length_map, Nat.min_eq_left h, List.map_drop]
  apply List.take_of_length_le
  simp
theorem read_stepped {K : PySem.W.Frag} {o : Addr} {ws : List Int} {i : Nat} {H : Hp} {Q : VK} (ho : H o = some (tupI ws)) (hl : ws.length ≤ 100) (hi : i + 1 < ws.length)
    (q : ∀ (p : Addr) (H' : Hp), H p = none → Same H H' → H' p = some (tupI (sw ws i)) → Q (.ref p) H') : tStepped K [some (.ref o), some (.int ((i : Int) + 1))] H Q := by
  have e1 : ((i : Int) + 1) - 1 = ((i : Nat) : Int) := by omega
  have e2 : ((i : Int) + 1) + 1 = ((i + 2 : Nat) : Int) := by omega
  have n1 : ¬ (HT.sIx (ws.map V.int).length 0 none = 0 ∧ HT.sIx (ws.map V.int).length (ws.map V.int).length (some ((i : Nat) : Int)) = (ws.map V.int).length) := by
    rw [HT.sIx_nat, List.length_map]
    omega
  have n2 : ¬ (HT.sIx (ws.map V.int).length 0 (some ((i + 2 : Nat) : Int)) = 0 ∧ HT.sIx (ws.map V.int).length (ws.map V.int).length none = (ws.map V.int).length) := by
    rw [HT.sIx_nat, List.length_map]
    omega
  refine ⟨_, rfl, _, rfl, _, _, rfl, rfl, _, rfl, o, _, rfl, SqT.of ho, fun z => ?_, fun _ a ha => ?_⟩
  · rw [e1] at z
    exact absurd z n1
  rw [e1, cut_lo ws i (by omega)]
  have s1 : Same H (upd H a (.tup ((ws.take i).map V.int))) := same_new ha _
  have t1 : (upd H a (.tup ((ws.take i).map V.int))) a = some (tupI (ws.take i)) := upd_same
  generalize upd H a (.tup ((ws.take i).map V.int)) = H1 at *
  -- what follows the first sum
  have fin : ∀ (c : Addr) (Hc : Hp), H c = none → Same H Hc → Hc c = some (tupI (ws.take i ++ [gd ws (i + 1), gd ws i])) →
      tSl (rSlA K) (tVar 0) (tPart (tOp rPl (tVar 1) (tC (.int 1)))) tNoPart [some (.ref o), some (.int ((i : Int) + 1))] Hc fun y H3 => rCatA K (.ref c) y H3 Q := by
    intro c Hc c0 sc hc
    refine ⟨_, rfl, _, rfl, _, _, rfl, rfl, _, rfl, o, _, rfl, SqT.of (sc _ _ ho), fun z => ?_, fun _ d hd => ?_⟩
    · rw [e2] at z
      exact absurd z n2
    rw [e2, cut_hi ws (i + 2) (by omega)]
    have s2 : Same Hc (upd Hc d (.tup ((ws.drop (i + 2)).map V.int))) := same_new hd _
    have t2 : (upd Hc d (.tup ((ws.drop (i + 2)).map V.int))) d = some (tupI (ws.drop (i + 2))) := upd_same
    generalize upd Hc d (.tup ((ws.drop (i + 2)).map V.int)) = H2 at *
    have dc : H d = none := same_back sc hd
    refine ⟨c, d, _, _, rfl, rfl, SqT.of (s2 _ _ hc), SqT.of t2, ?_, fun z => ?_, fun _ z => ?_, fun _ _ p hp => ?_⟩
    · rw [List.length_map, List.length_map, List.length_append, List.length_take, List.length_drop]
      exact small (by simp only [List.length_cons, List.length_nil]; omega)
    · simp at z
    · have z' : ws.drop (i + 2) = [] := List.map_eq_nil_iff.mp z
      have e : sw ws i = ws.take i ++ [gd ws (i + 1), gd ws i] := by unfold sw; rw [z']
      exact q c H2 c0 (sc.trans s2) (by rw [e]; exact s2 _ _ hc)
    · have s3 : Same H (upd H2 p (.tup ((ws.take i ++ [gd ws (i + 1), gd ws i]).map V.int ++ (ws.drop (i + 2)).map V.int))) := (sc.trans s2).trans (same_new hp _)
      refine q p _ (same_back (sc.trans s2) hp) s3 ?_
      rw [upd_same, ← List.map_append]
      show some (tupI _) = some (tupI _)
      rw [sw, List.append_assoc]
      rfl
  refine ⟨_, rfl, _, rfl, o, _, _, _, rfl, rfl, SqT.of (s1 _ _ ho), at_gd (i := i + 1) (by omega) (by omega), _, rfl, _, rfl, _, _, rfl, rfl, o, _, _, _, rfl, rfl, SqT.of (s1 _ _ ho), at_gd (i := i) (by omega) (by omega), by show 2 ≤ sizeLine; decide, fun b hb => ?_⟩
  have s2 : Same H1 (upd H1 b (.tup [V.int (gd ws (i + 1)), V.int (gd ws i)])) := same_new hb _
  have t2 : (upd H1 b (.tup [V.int (gd ws (i + 1)), V.int (gd ws i)])) b = some (tupI [gd ws (i + 1), gd ws i]) := upd_same
  generalize upd H1 b (.tup [V.int (gd ws (i + 1)), V.int (gd ws i)]) = H2 at *
  refine ⟨a, b, _, _, rfl, rfl, SqT.of (s2 _ _ t1), SqT.of t2, ?_, fun z => ?_, fun _ z => ?_, fun _ _ p hp => ?_⟩
  · rw [List.length_map, List.length_map, List.length_take]
    exact small (by simp only [List.length_cons, List.length_nil]; omega)
  · have z' : ws.take i = [] := List.map_eq_nil_iff.mp z
    exact fin b H2 (same_back s1 hb) (s1.trans s2) (by rw [z']; exact t2)
  · simp at z
  · refine fin p _ (same_back (s1.trans s2) hp) ((s1.trans s2).trans (same_new hp _)) ?_
    rw [upd_same, ← List.map_append]
    rfl
section
variable {P : Program} {w : World} {K : PySem.W.Frag} {mg : Str → Option Value} {base : Heap}
theorem scStepped : FnScope ["order", "level"] ["order", "level"] (defScope sStepped) := ⟨rfl, rfl, rfl, by decide +kernel, rfl, by decide +kernel, by decide +kernel⟩
theorem ok_stepped {f g h : Addr} {fd gd hd : FuncData} (D : Df K mg "stepped" sStepped ["order", "level"] f fd) (L : Df K mg "is_level" sLevel ["n", "value"] g gd) (N : Df K mg "is_number" sNumber ["value"] h hd) (B : Blt mg) : FnOk P w K mg base CX0 3 f fd ["order", "level"] spStepped := by
  have G : FnOk P w K mg base CX0 2 g gd ["n", "value"] spLevel := ok_level L N B
  refine D.fn.ok scStepped (fun vs H Q E h => ?_) (fun cdv A outer s H vs Q E hr h => ?_)
  · obtain ⟨o, ws, i, rfl, _⟩ := h
    rfl
  obtain ⟨o, ws, i, rfl, ho, hl, hi, q⟩ := h
  refine ⟨tSeq _ (tRet (tStepped K)), pss_cons (ps_if (pt_not (pt_val (pe_call G hr rfl L.mg L.fn.kp L.bs .nil pass0 (pa_cons (pe_callB call_len_seq rfl B.len PySem.boot_len (pa_cons (pv 0) pa_nil)) (pa_cons (pv 1) pa_nil))))) (pss_one ps_never) pss_nil)
    (pss_one (ps_ret (pe_op op_catA (pe_op op_catA (pe_slice sl_tupA (pv 0) po_none (po_some (pe_op op_sub (pv 1) pe_int))) (pe_tup (pa_cons (pe_ix ix_tup (pv 0) (pv 1) (fun _ _ => rfl)) (pa_cons (pe_ix ix_tup (pv 0) (pe_op op_sub (pv 1) pe_int) (fun _ _ => rfl)) pa_nil))))
      (pe_slice sl_tupA (pv 0) (po_some (pe_op op_add (pv 1) pe_int)) po_none)))), ?_⟩
  have hlen : (ws.map V.int).length = ws.length := List.length_map _
  refine ⟨_, rfl, o, _, rfl, .inr (SqT.of ho), _, rfl, _, _, rfl, by omega, by rw [hlen]; omega, true, rfl, ?_⟩
  refine iteF ?_
  exact read_stepped ho hl hi q
theorem scLStepped : FnScope ["_law_order", "_law_level"] ["_law_order", "_law_level"] (defScope sLStepped) := ⟨rfl, rfl, rfl, by decide +kernel, rfl, by decide +kernel, by decide +kernel⟩
theorem ok_lstepped {f : Addr} {fd : FuncData} (D : Df K mg "_law_stepped" sLStepped ["_law_order", "_law_level"] f fd) : FnOk P w K mg base CX0 1 f fd ["_law_order", "_law_level"] spStepped := by
  refine D.fn.ok scLStepped (fun vs H Q E h => ?_) (fun cdv A outer s H vs Q E hr h => ?_)
  · obtain ⟨o, ws, i, rfl, _⟩ := h
    rfl
  obtain ⟨o, ws, i, rfl, ho, hl, hi, q⟩ := h
  refine ⟨tRet (tStepped K), pss_one (ps_ret (pe_op op_catA (pe_op op_catA (pe_slice sl_tupA (pv 0) po_none (po_some (pe_op op_sub (pv 1) pe_int))) (pe_tup (pa_cons (pe_ix ix_tup (pv 0) (pv 1) (fun _ _ => rfl)) (pa_cons (pe_ix ix_tup (pv 0) (pe_op op_sub (pv 1) pe_int) (fun _ _ => rfl)) pa_nil))))
      (pe_slice sl_tupA (pv 0) (po_some (pe_op op_add (pv 1) pe_int)) po_none))), ?_⟩
  exact read_stepped ho hl hi q
theorem scLSteps : FnScope ["_law_order", "_law_i"] ["_law_order"] (defScope sLSteps) := ⟨rfl, rfl, rfl, by decide +kernel, rfl, by decide +kernel, by decide +kernel⟩
theorem ok_lsteps {f : Addr} {fd : FuncData} (D : Df K mg "_law_steps" sLSteps ["_law_order"] f fd) (B : Blt mg) : FnOk P w K mg base CX0 1 f fd ["_law_order"] spSteps := by
  refine D.fn.ok scLSteps (fun vs H Q E h => ?_) (fun cdv A outer s H vs Q E hr h => ?_)
  · obtain ⟨o, w, rfl, _⟩ := h
    rfl
  obtain ⟨o, ws, rfl, ho, hl, hl1, q⟩ := h
  refine ⟨tRet (tSteps K), pss_one (ps_ret (pe_lc (own := [("_law_i", 1)]) (g := gName 1) rfl scLSteps.nd (pi_range2 rfl B.range (pa_cons pe_int (pa_cons (pe_callB call_len_seq rfl B.len PySem.boot_len (pa_cons (pv 0) pa_nil)) pa_nil)))
    (blkOk_by (N := ["_law_order", "_law_i"]) (sc := defScope sLSteps) (by decide +kernel)) (fun _ _ _ _ _ => pg_name (i := 1) scLSteps.nd rfl (Or.inl rfl))
    (fun _ _ _ _ _ => pts_one (pt_cmpR op_gt (pe_ix (r := rIxT K) ix_tup (pv 0) (pe_op op_sub (pv 1) pe_int) (fun _ _ => rfl)) (pe_ix (r := rIxT K) ix_tup (pv 0) (pv 1) (fun _ _ => rfl)) (nomark _))) (fun _ _ _ _ _ => pv 1))), ?_⟩
  exact read_steps ho hl hl1 q
theorem scPriceOf : FnScope ["levels", "prices", "level"] ["levels", "prices"] (defScope sPriceOf) := ⟨rfl, rfl, rfl, by decide +kernel, rfl, by decide +kernel, by decide +kernel⟩
theorem ok_priceOf {f : Addr} {fd : FuncData} (D : Df K mg "price_of" sPriceOf ["levels", "prices"] f fd) (B : Blt mg) : FnOk P w K mg base CX0 1 f fd ["levels", "prices"] spPriceOf := by
  refine D.fn.ok scPriceOf (fun vs H Q E h => ?_) (fun cdv A outer s H vs Q E hr h => ?_)
  · obtain ⟨a, b, r, p, rfl, _⟩ := h
    rfl
  obtain ⟨a, b, r, p, rfl, ha, hb, hl, hp, q⟩ := h
  refine ⟨_, pss_one (ps_ret (pe_callB (cr_sum rfl) rfl B.sum (by decide +kernel) (pa_cons (pe_lc (own := [("level", 2)]) (g := gName 2) (tt := tYes) rfl scPriceOf.nd (pi_list (pv 0))
    (blkOk_by (N := ["levels", "prices", "level"]) (sc := defScope sPriceOf) (by decide +kernel)) (fun _ _ _ _ _ => pg_name (i := 2) scPriceOf.nd rfl (Or.inl rfl)) (fun _ _ _ _ _ => pts_nil)
    (fun _ _ _ _ _ => pe_ix (r := rIxL K) ix_list (pv 1) (pe_op op_sub (pv 2) pe_int) (fun _ _ => rfl))) pa_nil))), ?_⟩
  refine ⟨_, rfl, a, rfl, ⟨_, SqL.of ha⟩, fun d hd => ?_⟩
  refine lc_list (K := K) (a := a) (xs := (lv r).map V.int) (fun i H' => Same H H' ∧ H' d = some (lstI ((r.take i).map (gd p)))) ⟨same_new hd _, upd_same⟩ (fun i H' _ ⟨h1, _⟩ => SqL.of (h1 _ _ ha)) ?_ ?_
  · rintro i x H' hx ⟨hs, hd'⟩
    have hx' : ∃ j, r[i]? = some j ∧ x = V.int ((j : Int) + 1) := by
      rw [List.getElem?_map, lv, List.getElem?_map] at hx
      cases e : r[i]? with
      | none => rw [e] at hx; cases hx
      | some j => rw [e] at hx; exact ⟨j, rfl, (Option.some.inj hx).symm⟩
    obtain ⟨j, hj, rfl⟩ := hx'
    have hjm : j ∈ r := List.mem_of_getElem? hj
    have hil : i < r.length := (List.getElem?_eq_some_iff.mp hj).1
    refine ⟨rfl, ?_⟩
    refine yes_ ?_
    refine ⟨_, rfl, _, rfl, _, _, rfl, rfl, b, _, _, _, rfl, rfl, SqL.of (hs _ _ hb), at_gd (i := j) (hp j hjm) (by omega), _, hd', ?_, Same.mut hs hd, ?_⟩
    · rw [List.length_map, List.length_map, List.length_take]
      exact smallt (by omega)
    · rw [upd_same, List.take_add_one, hj]
      simp [lstI]
  · rintro H' ⟨hs, hd'⟩
    refine ⟨d, _, rfl, SqL.of hd', ?_⟩
    have e : ((lv r).map V.int).length = r.length := by rw [List.length_map, lv_len]
    rw [e, List.take_length]
    exact q H' hs
end
end K52

namespace K52
open PySem L2
/-! ### lists of ints as data -/
def dI (ns : List Int) : PyData := .list (ns.map PyData.int)
theorem dpAll {K : PySem.W.Frag} {H : Hp} : ∀ ns : List Int, DpAll K H (ns.map V.int) (ns.map PyData.int)
  | [] => .nil
  | n :: r => .cons (.int n) (dpAll r)
theorem dp_lst {K : PySem.W.Frag} {H : Hp} {a : Addr} {ns : List Int} (h : H a = some (lstI ns)) : Dp K H (.ref a) (dI ns) := .lst (SqL.of h) (dpAll ns)
theorem canLayAll : ∀ ns : List Int, PyData.canLayAll0 (ns.map PyData.int) = true
  | [] => rfl
  | n :: r => by
    have ih := canLayAll r
    simp only [List.map_cons, PyData.canLayAll0, PyData.canLay0, ih, Bool.and_self]
theorem depthAll : ∀ ns : List Int, PyData.depthAll (ns.map PyData.int) ≤ 1
  | [] => by simp [PyData.depthAll]
  | n :: r => by
    have ih := depthAll r
    simp only [List.map_cons, PyData.depthAll, PyData.depth]
    omega
theorem dI_shaped (ns : List Int) : SeqAt.shaped (dI ns) = true := by
  have h := depthAll ns
  unfold SeqAt.shaped dI
  simp only [PyData.canLay0, canLayAll, PyData.depth, Bool.true_and, decide_eq_true_eq]
  exact decide_eq_true (Nat.le_trans (Nat.succ_le_succ h) (show 1 + 1 ≤ 64 by decide))
theorem dI_refl (ns : List Int) : PyData.eqv (dI ns) (dI ns) = true := by
  show PyData.eqvAll (ns.map PyData.int) (ns.map PyData.int) = true
  induction ns with
  | nil => rfl
  | cons n r ih => simp only [List.map_cons, PyData.eqvAll, PyData.eqv, ih, beq_self_eq_true, Bool.and_self]
theorem dI_nil (ns : List Int) : PyData.eqv (dI ns) (dI []) = ns.isEmpty := by
  cases ns with
  | nil => rfl
  | cons n r => rfl
/-- xs != [] -/
theorem ne_nil {K : PySem.W.Frag} {H : Hp} {a e : Addr} {ns : List Int} {Q : VK} (ha : H a = some (lstI ns)) (he : H e = some (lstI [])) (q : Q (.bl (!ns.isEmpty)) H) : rNeD K (.ref a) (.ref e) H Q :=
  ⟨_, _, dp_lst ha, dp_lst he, dI_shaped _, dI_shaped _, by rw [dI_nil]; exact q⟩
theorem eq_nil {K : PySem.W.Frag} {H : Hp} {a e : Addr} {ns : List Int} {Q : VK} (ha : H a = some (lstI ns)) (he : H e = some (lstI [])) (q : Q (.bl ns.isEmpty) H) : rEqD K (.ref a) (.ref e) H Q :=
  ⟨_, _, dp_lst ha, dp_lst he, dI_shaped _, dI_shaped _, by rw [dI_nil]; exact q⟩
/-! ### the memo: keys are orders, values told by val -/
def ky (w : List Int) : List Key := w.map Sum.inl
theorem ky_kV (w : List Int) : (ky w).map kV = w.map V.int := by
  unfold ky
  rw [List.map_map]
  rfl
theorem ky_inj {a b : List Int} (h : ky a = ky b) : a = b := by
  exact (List.map_inj_right (f := (Sum.inl : Int → Key)) fun x y z => Sum.inl.inj z).mp h
structure Good (n : Nat) (val : List Int → Int) (kvs : List (List Key × V)) : Prop where
  nd : (kvs.map (·.1)).Nodup
  mem : ∀ kv ∈ kvs, ∃ w, Ok n w ∧ kv = (ky w, V.int (val w))
theorem Good.nil {n : Nat} {val : List Int → Int} : Good n val [] := ⟨List.nodup_nil, fun _ h => nomatch h⟩
theorem Good.get {n : Nat} {val : List Int → Int} {kvs : List (List Key × V)} (g : Good n val kvs) {w : List Int} {v : V} (h : valV kvs (ky w) = some v) : v = .int (val w) := by
  unfold valV at h
  cases e : kvs.find? (fun kv => decide (kv.1 = ky w)) with
  | none => rw [e] at h; cases h
  | some kv =>
    rw [e] at h
    have hm := List.mem_of_find?_eq_some e
    have hp := List.find?_some e
    obtain ⟨w', _, rfl⟩ := g.mem kv hm
    have e' : w' = w := ky_inj (of_decide_eq_true hp)
    subst e'
    exact (Option.some.inj h).symm
theorem Good.put {n : Nat} {val : List Int → Int} {kvs : List (List Key × V)} (g : Good n val kvs) {w : List Int} (hw : Ok n w) : Good n val (putK kvs (ky w) (.int (val w))) := by
  cases e : valV kvs (ky w) with
  | none =>
    refine ⟨nd_putK _ g.nd e, fun kv h => ?_⟩
    rw [putK_new _ e] at h
    rcases List.mem_append.mp h with h | h
    · exact g.mem kv h
    · exact ⟨w, hw, List.mem_singleton.mp h⟩
  | some v =>
    have any : (kvs.any fun kv => decide (kv.1 = ky w)) = true := by rw [valV_any, e]; rfl
    have same : putK kvs (ky w) (.int (val w)) = kvs := by
      unfold putK
      rw [if_pos any]
      have : ∀ kv ∈ kvs, (if kv.1 = ky w then (kv.1, V.int (val w)) else kv) = kv := fun kv hm => by
        by_cases c : kv.1 = ky w
        · rw [if_pos c]
          obtain ⟨w', _, rfl⟩ := g.mem kv hm
          have e' : w' = w := ky_inj c
          subst e'
          rfl
        · rw [if_neg c]
      exact (List.map_congr_left this).trans (List.map_id' kvs)
    rw [same]
    exact g
theorem Good.len {n : Nat} {val : List Int → Int} {kvs : List (List Key × V)} (g : Good n val kvs) (hn : n ≤ 6) : kvs.length ≤ 46656 := by
  have a := pigeon (b := (allW n).map ky) g.nd fun k hk => by
    obtain ⟨kv, hm, rfl⟩ := List.mem_map.mp hk
    obtain ⟨w, hw, rfl⟩ := g.mem kv hm
    exact List.mem_map.mpr ⟨w, allW_mem hw, rfl⟩
  rw [List.length_map, List.length_map, allW_len] at a
  have b : 6 ^ n ≤ 6 ^ 6 := Nat.pow_le_pow_right (by decide) hn
  have c : 6 ^ 6 = 46656 := by decide
  omega
theorem steps_len (w : List Int) : (stepsN w).length ≤ w.length := by
  have a := List.length_filter_le (stp w) (List.range (w.length - 1))
  rw [List.length_range] at a
  unfold stepsN
  omega
theorem lv_get {r : List Nat} {i : Nat} {x : V} (h : ((lv r).map V.int)[i]? = some x) : ∃ j, r[i]? = some j ∧ x = V.int ((j : Int) + 1) := by
  rw [List.getElem?_map, lv, List.getElem?_map] at h
  cases e : r[i]? with
  | none => rw [e] at h; cases h
  | some j => rw [e] at h; exact ⟨j, rfl, (Option.some.inj h).symm⟩
theorem lv_nil (r : List Nat) : (lv r).isEmpty = r.isEmpty := by cases r <;> rfl
abbrev sLeast : Stmt := top 11
/-- the promise with k calls allowed -/
def spLeast (K : PySem.W.Frag) (k : Nat) : Sp := fun vs H Q _ => ∃ (o pr kn : Addr) (n : Nat) (w p : List Int) (kvs : List (List Key × V)), vs = [.ref o, .ref pr, .ref kn] ∧ H o = some (tupI w) ∧ Ok n w ∧ 1 ≤ n ∧ n ≤ 6 ∧ inv w < k ∧
  H pr = some (lstI p) ∧ p.length + 1 = n ∧ H kn = some (.dT kvs) ∧ Good n (L p) kvs ∧ ∀ (H' : Hp) (kvs' : List (List Key × V)), Kp [kn] H H' → H' kn = some (.dT kvs') → Good n (L p) kvs' → Q (.int (L p w)) H'
section
variable {P : Program} {w : World} {K : PySem.W.Frag} {mg : Str → Option Value} {base : Heap}
theorem scLeast : FnScope ["order", "prices", "known", "some", "level"] ["order", "prices", "known"] (defScope sLeast) := ⟨rfl, rfl, rfl, by decide +kernel, rfl, by decide +kernel, by decide +kernel⟩
/-- what least needs of the module -/
structure Lst (P : Program) (w : World) (K : PySem.W.Frag) (mg : Str → Option Value) (base : Heap) where
  B : Blt mg
  fS : Addr
  dS : FuncData
  S : Df K mg "sorting_steps" sSteps ["order"] fS dS
  GS : FnOk P w K mg base CX0 1 fS dS ["order"] spSteps
  fT : Addr
  dT : FuncData
  T : Df K mg "stepped" sStepped ["order", "level"] fT dT
  GT : FnOk P w K mg base CX0 3 fT dT ["order", "level"] spStepped
theorem least_step {f : Addr} {fd : FuncData} {k : Nat} (D : Df K mg "least" sLeast ["order", "prices", "known"] f fd) (M : Lst P w K mg base) (G : FnOk P w K mg base CX0 (k + 3) f fd ["order", "prices", "known"] (spLeast K k)) :
    FnOk P w K mg base CX0 (k + 4) f fd ["order", "prices", "known"] (spLeast K (k + 1)) := by
  refine D.fn.ok scLeast (fun vs H Q E h => ?_) (fun cdv A outer s H vs Q E hr h => ?_)
  · obtain ⟨o, pr, kn, n, w, p, kvs, rfl, _⟩ := h
    rfl
  obtain ⟨o, pr, kn, n, ws, p, kvs, rfl, ho, hw, hn1, hn, hk, hp, hpn, hkn, g, q⟩ := h
  have hu := hu_of hr
  have hl : ws.length ≤ 100 := by rw [hw.1]; omega
  refine ⟨_, pss_cons (ps_if (pt_cmp (pc_dnotin hu (pv 0) (pv 2)))
      (pss_cons (ps_set (i := 3) scLeast.nd rfl (Or.inl rfl) (pe_lst pa_nil))
      (pss_cons (ps_for PassesOwn.never rfl (pi_list (pe_call M.GS (hr.mono (by omega)) rfl M.S.mg M.S.fn.kp M.S.bs .nil pass0 (pa_cons (pv 0) pa_nil))) (pg_name (i := 4) scLeast.nd rfl (Or.inl rfl))
        (pss_one (ps_expr (pe_bm PySem.F.plainAttrs_list PySem.F.slot_list_append PySem.F.type_list_append mt_append (pv 3) (pa_cons (pe_op op_add (pe_ix ix_list (pv 1) (pe_op op_sub (pv 4) pe_int) (fun _ _ => rfl))
          (pe_call G hr rfl D.mg D.fn.kp D.bs .nil pass0 (pa_cons (pe_call M.GT (hr.mono (by omega)) rfl M.T.mg M.T.fn.kp M.T.bs .nil pass0 (pa_cons (pv 0) (pa_cons (pv 4) pa_nil))) (pa_cons (pv 1) (pa_cons (pv 2) pa_nil))))) pa_nil)))))
      (pss_one (ps_dput hu (pv 2) (pv 0) (pe_ifExp (pt_cmpR (op_neD hr.units) (pv 3) (pe_lst pa_nil) (nomark _)) (pe_callB (cr_min rfl) rfl M.B.min (by decide +kernel) (pa_cons (pv 3) pa_nil)) pe_int) rfl)))) pss_nil)
    (pss_one (ps_ret (pe_dget hu (pv 2) (pv 0) (fun _ _ => rfl)))), ?_⟩
  have ho' : H o = some (.tup ((ky ws).map kV)) := by rw [ky_kV]; exact ho
  have nok : o ≠ kn := ne_of ho hkn (by intro z; cases z)
  have npk : pr ≠ kn := ne_of hp hkn (by intro z; cases z)
  refine ⟨_, rfl, _, rfl, kn, _, rfl, DGet.t hkn ho', _, rfl, ?_⟩
  cases e : valV kvs (ky ws) with
  | some v =>
    refine iteF ?_
    have ev := g.get e
    subst ev
    refine ⟨_, rfl, _, rfl, kn, _, rfl, ?_, q H kvs (Kp.refl _ _) hkn g⟩
    rw [← e]
    exact DGet.t hkn ho'
  | none =>
    refine iteT ?_
    refine ⟨Nat.zero_le _, fun sm hsm => ?_⟩
    -- the list of what the steps cost
    have k1 : Kp [kn] H (upd H sm (.lst [])) := (Kp.refl _ _).new hsm
    have t1 : (upd H sm (.lst [])) sm = some (lstI []) := upd_same
    have nsk : sm ≠ kn := (ne_of_none hkn hsm).symm
    have kk1 : (upd H sm (.lst [])) kn = some (.dT kvs) := by rw [upd_ne nsk.symm]; exact hkn
    generalize upd H sm (.lst []) = H1 at *
    refine ⟨_, rfl, o, ws, rfl, k1 _ _ ho (by simp; exact nok), hl, by rw [hw.1]; exact hn1, fun st H2 hst s2 t2 => ?_⟩
    have nst : st ≠ sm := (ne_of_none t1 hst).symm
    have nstk : st ≠ kn := (ne_of_none kk1 hst).symm
    have h0st : H st = none := by
      cases z : H st with
      | none => rfl
      | some u => rw [k1 _ _ z (by simp; exact nstk)] at hst; cases hst
    refine ⟨st, rfl, ⟨_, SqL.of t2⟩, for_list (K := K) (a := st) (xs := (lv (stepsN ws)).map V.int) (fun i σ H' => ∃ (x : Option V) (kvs' : List (List Key × V)), σ = [some (.ref o), some (.ref pr), some (.ref kn), some (.ref sm), x] ∧ Kp [kn] H H' ∧
        H' st = some (lstI (lv (stepsN ws))) ∧ H' sm = some (lstI (((stepsN ws).take i).map fun i => gd p i + L p (sw ws i))) ∧ H' kn = some (.dT kvs') ∧ Good n (L p) kvs')
      ⟨none, kvs, rfl, k1.trans (Kp.of s2), t2, s2 _ _ t1, s2 _ _ kk1, g⟩ (fun i σ H' _ ⟨_, _, _, _, a, _⟩ => SqL.of a) ?_ ?_⟩
    · rintro i y σ H' hi ⟨x, kvs', rfl, kp, a1, a2, a3, g'⟩
      obtain ⟨j, hj, rfl⟩ := lv_get hi
      have hjm : j ∈ stepsN ws := List.mem_of_getElem? hj
      have hjs := mem_stepsN.mp hjm
      have hil : i < (stepsN ws).length := (List.getElem?_eq_some_iff.mp hj).1
      have b0 : H' o = some (tupI ws) := kp _ _ ho (by simp; exact nok)
      have b1 : H' pr = some (lstI p) := kp _ _ hp (by simp; exact npk)
      refine ⟨_, rfl, .inl ⟨rfl, _, SqL.of a2⟩, _, rfl, _, rfl, _, _, rfl, rfl, pr, _, _, _, rfl, rfl, SqL.of b1, at_gd (i := j) (by rw [hw.1] at hjs; omega) (by omega), ?_⟩
      refine ⟨_, rfl, _, rfl, o, ws, j, rfl, b0, hl, hjs.1, fun t H3 ht s3 t3 => ?_⟩
      refine ⟨_, rfl, _, rfl, t, pr, kn, n, sw ws j, p, kvs', rfl, t3, hw.sw hjm, hn1, hn, by have := inv_step hjm; omega, s3 _ _ b1, hpn, s3 _ _ a3, g', fun H4 kvs4 k4 a4 g4 => ?_⟩
      have kp4 : Kp [kn] H' H4 := (Kp.of s3).trans k4
      refine ⟨_, _, rfl, rfl, ?_⟩
      refine ⟨sm, _, _, rfl, rfl, kp4 _ _ a2 (by simp; exact nsk), ?_, ?_⟩
      · rw [List.length_map, List.length_map, List.length_take]
        have := steps_len ws
        exact smallt (by omega)
      · refine ⟨_, kvs4, rfl, (kp.trans kp4).mut (.inr hsm), ?_, ?_, ?_, g4⟩
        · rw [upd_ne nst]
          exact kp4 _ _ a1 (by simp; exact nstk)
        · rw [upd_same, List.take_add_one, hj]
          simp [lstI]
        · rw [upd_ne nsk.symm]
          exact a4
    · rintro σ H' ⟨x, kvs', rfl, kp, a1, a2, a3, g'⟩
      have el : ((lv (stepsN ws)).map V.int).length = (stepsN ws).length := by rw [List.length_map, lv_len]
      rw [el, List.take_length] at a2
      have b0 : H' o = some (.tup ((ky ws).map kV)) := by rw [ky_kV]; exact kp _ _ ho (by simp; exact nok)
      -- what is stored is the least price
      have fin : ∀ H5, Same H' H5 → ∃ a H4, V.ref kn = .ref a ∧ DPut H5 a (.ref o) (V.int (L p ws)) H4 ∧ (tRet (tDGet (tVar 2) (tVar 0)) { nx := fun _ H' => Q .non H', rt := Q } [some (.ref o), some (.ref pr), some (.ref kn), some (.ref sm), x] H4) := by
        intro H5 k5
        have gl := g'.len hn
        refine ⟨kn, _, rfl, DPut.t (k5 _ _ a3) (k5 _ _ b0) (smallt (by omega)), ?_⟩
        have e2 : valV (putK kvs' (ky ws) (.int (L p ws))) (ky ws) = some (.int (L p ws)) := by rw [valV_put, if_pos rfl]
        refine ⟨_, rfl, _, rfl, kn, V.int (L p ws), rfl, ?_, q _ _ ((kp.trans (Kp.of k5)).mut (.inl (by simp))) upd_same (g'.put hw)⟩
        rw [← e2]
        exact DGet.t upd_same (by rw [upd_ne nok]; exact k5 _ _ b0)
      refine ⟨_, rfl, Nat.zero_le _, fun em hem => ?_⟩
      have s6 : Same H' (upd H' em (.lst [])) := same_new hem _
      have t6 : (upd H' em (.lst [])) em = some (lstI []) := upd_same
      generalize upd H' em (.lst []) = H6 at *
      refine ne_nil (s6 _ _ a2) t6 ⟨_, rfl, ?_⟩
      cases es : stepsN ws with
      | nil =>
        refine iteF ?_
        refine ⟨_, rfl, _, rfl, ?_⟩
        have z := fin H6 s6
        rw [L_nil es] at z
        exact z
      | cons c r =>
        refine iteT ?_
        have a2' := s6 _ _ a2
        rw [es] at a2'
        refine ⟨_, rfl, sm, _, rfl, SqL.of a2', by simp, fun m hm hle => ?_⟩
        have em : m = L p ws := by
          rw [L_eq, es]
          exact minL_uniq hm hle
        rw [em]
        exact ⟨_, rfl, _, rfl, fin H6 s6⟩
theorem least_ok {f : Addr} {fd : FuncData} (D : Df K mg "least" sLeast ["order", "prices", "known"] f fd) (M : Lst P w K mg base) : ∀ k : Nat, FnOk P w K mg base CX0 (k + 3) f fd ["order", "prices", "known"] (spLeast K k)
  | 0 => by
    have no : ∀ vs H Q E, ¬ spLeast K 0 vs H Q E := fun vs H Q E h => by
      obtain ⟨o, pr, kn, n, ws, p, kvs, _, _, _, _, _, hk, _⟩ := h
      omega
    exact ⟨fun vs H Q E h => absurd h (no vs H Q E), fun A outer s H args us vs Q E _ _ _ _ h => absurd h (no vs H Q E)⟩
  | k + 1 => least_step D M (least_ok D M k)
end
end K52

namespace K52
open PySem L2
abbrev sLeastPrice : Stmt := top 12
abbrev sGreatest : Stmt := top 13
abbrev sCheapest : Stmt := top 14
/-! ### steps ascend -/
theorem steps_asc (w : List Int) : (stepsN w).Pairwise (· < ·) := List.pairwise_lt_range.filter _
theorem steps_before {w : List Int} {i j k : Nat} (h : (stepsN w)[i]? = some j) (hk : k ∈ stepsN w) (lt : k < j) : k ∈ (stepsN w).take i := by
  have hi := (List.getElem?_eq_some_iff.mp h).1
  rw [← List.take_append_drop i (stepsN w)] at hk
  rcases List.mem_append.mp hk with m | m
  · exact m
  · have a := steps_asc w
    rw [← List.take_append_drop i (stepsN w)] at a
    have b := (List.pairwise_append.mp a).2.1
    rw [List.drop_eq_getElem_cons hi] at b m
    have e : (stepsN w)[i] = j := (List.getElem?_eq_some_iff.mp h).2
    rw [e] at b m
    rcases List.mem_cons.mp m with rfl | m
    · omega
    · have := (List.pairwise_cons.mp b).1 k m
      omega
theorem inv_small {n : Nat} {w : List Int} (h : Ok n w) (hn : n ≤ 6) : inv w < 37 := by
  have a := inv_le w
  rw [h.1] at a
  have b : n * n ≤ 6 * 6 := Nat.mul_le_mul hn hn
  omega
/-- an order and its prices stand -/
structure Opr (H : Hp) (n : Nat) (o pr : Addr) (w p : List Int) : Prop where
  ho : H o = some (tupI w)
  ok : Ok n w
  n1 : 1 ≤ n
  n6 : n ≤ 6
  hp : H pr = some (lstI p)
  pl : p.length + 1 = n
theorem Opr.mono {H H' : Hp} {n : Nat} {o pr : Addr} {w p : List Int} (h : Opr H n o pr w p) (s : Same H H') : Opr H' n o pr w p := ⟨s _ _ h.ho, h.ok, h.n1, h.n6, s _ _ h.hp, h.pl⟩
theorem Opr.kp {H H' : Hp} {n : Nat} {o pr kn : Addr} {w p : List Int} {kvs : List (List Key × V)} (h : Opr H n o pr w p) (k : Kp [kn] H H') (hk : H kn = some (.dT kvs)) : Opr H' n o pr w p :=
  ⟨k _ _ h.ho (by simp; exact ne_of h.ho hk (by intro z; cases z)), h.ok, h.n1, h.n6, k _ _ h.hp (by simp; exact ne_of h.hp hk (by intro z; cases z)), h.pl⟩
/-- between two turns of cheapest's while -/
def Wch (H : Hp) (n : Nat) (pr kn fo : Addr) (p ws : List Int) (m : Nat) (σ : L2.St) (H' : Hp) : Prop := ∃ (o' : Addr) (w' : List Int) (x y : Option V) (kvs : List (List Key × V)) (dn : List Nat), σ = [some (.ref o'), some (.ref pr), some (.ref kn), some (.ref fo), x, y] ∧ Same H H' ∧ Opr H' n o' pr w' p ∧ H' kn = some (.dT kvs) ∧ Good n (L p) kvs ∧
    H' fo = some (lstI (lv dn)) ∧ m = inv w' ∧ dn.length + inv w' < 37 ∧ ∀ r, Row w' r → First p w' r → Row ws (dn ++ r) ∧ First p ws (dn ++ r)
def spLeastPrice : Sp := fun vs H Q _ => ∃ (o pr : Addr) (n : Nat) (w p : List Int), vs = [.ref o, .ref pr] ∧ Opr H n o pr w p ∧ ∀ H' : Hp, Same H H' → Q (.int (L p w)) H'
def spGreatest : Sp := fun vs H Q _ => ∃ (o pr : Addr) (n : Nat) (w p : List Int), vs = [.ref o, .ref pr] ∧ Opr H n o pr w p ∧ ∀ H' : Hp, Same H H' → Q (.int (0 - L (neg p) w)) H'
def spCheapest : Sp := fun vs H Q _ => ∃ (o pr : Addr) (n : Nat) (w p : List Int), vs = [.ref o, .ref pr] ∧ Opr H n o pr w p ∧
  ∀ (a : Addr) (r : List Nat) (H' : Hp), H a = none → Same H H' → H' a = some (lstI (lv r)) → Row w r → First p w r → Q (.ref a) H'
theorem neg_len (p : List Int) : (neg p).length = p.length := by simp [neg]
section
variable {P : Program} {w : World} {K : PySem.W.Frag} {mg : Str → Option Value} {base : Heap}
theorem kp_same {H H1 H2 : Hp} {kn : Addr} (s : Same H H1) (h : H kn = none) (k : Kp [kn] H1 H2) : Same H H2 := fun b u e => k b u (s b u e) (by simp; exact ne_of_none e h)
theorem scLeastPrice : FnScope ["order", "prices"] ["order", "prices"] (defScope sLeastPrice) := ⟨rfl, rfl, rfl, by decide +kernel, rfl, by decide +kernel, by decide +kernel⟩
theorem ok_leastPrice {f g : Addr} {fd ed : FuncData} (D : Df K mg "least_price" sLeastPrice ["order", "prices"] f fd) (T : Df K mg "least" sLeast ["order", "prices", "known"] g ed) (G : FnOk P w K mg base CX0 40 g ed ["order", "prices", "known"] (spLeast K 37)) :
    FnOk P w K mg base CX0 41 f fd ["order", "prices"] spLeastPrice := by
  refine D.fn.ok scLeastPrice (fun vs H Q E h => ?_) (fun cdv A outer s H vs Q E hr h => ?_)
  · obtain ⟨o, pr, n, ws, p, rfl, _⟩ := h
    rfl
  obtain ⟨o, pr, n, ws, p, rfl, h, q⟩ := h
  refine ⟨_, pss_one (ps_ret (pe_call G hr rfl T.mg T.fn.kp T.bs .nil pass0 (pa_cons (pv 0) (pa_cons (pv 1) (pa_cons pe_dnewT pa_nil))))), ?_⟩
  refine ⟨_, rfl, _, rfl, fun kn hk => ?_⟩
  have s1 := same_new hk (.dT [])
  exact ⟨o, pr, kn, n, ws, p, [], rfl, s1 _ _ h.ho, h.ok, h.n1, h.n6, inv_small h.ok h.n6, s1 _ _ h.hp, h.pl, upd_same, .nil, fun H' kvs' k _ _ => q H' (kp_same s1 hk k)⟩
theorem scGreatest : FnScope ["order", "prices", "price"] ["order", "prices"] (defScope sGreatest) := ⟨rfl, rfl, rfl, by decide +kernel, rfl, by decide +kernel, by decide +kernel⟩
theorem ok_greatest {f g : Addr} {fd ed : FuncData} (D : Df K mg "greatest_price" sGreatest ["order", "prices"] f fd) (T : Df K mg "least" sLeast ["order", "prices", "known"] g ed) (G : FnOk P w K mg base CX0 40 g ed ["order", "prices", "known"] (spLeast K 37)) :
    FnOk P w K mg base CX0 41 f fd ["order", "prices"] spGreatest := by
  refine D.fn.ok scGreatest (fun vs H Q E h => ?_) (fun cdv A outer s H vs Q E hr h => ?_)
  · obtain ⟨o, pr, n, ws, p, rfl, _⟩ := h
    rfl
  obtain ⟨o, pr, n, ws, p, rfl, h, q⟩ := h
  refine ⟨_, pss_one (ps_ret (pe_op op_sub pe_int (pe_call G hr rfl T.mg T.fn.kp T.bs .nil pass0 (pa_cons (pv 0) (pa_cons (pe_lc (own := [("price", 2)]) (g := gName 2) (tt := tYes) rfl scGreatest.nd (pi_list (pv 1))
    (blkOk_by (N := ["order", "prices", "price"]) (sc := defScope sGreatest) (by decide +kernel)) (fun _ _ _ _ _ => pg_name (i := 2) scGreatest.nd rfl (Or.inl rfl)) (fun _ _ _ _ _ => pts_nil)
    (fun _ _ _ _ _ => pe_op op_sub pe_int (pv 2))) (pa_cons pe_dnewT pa_nil)))))), ?_⟩
  refine ⟨_, rfl, _, rfl, pr, rfl, ⟨_, SqL.of h.hp⟩, fun d hd => ?_⟩
  refine lc_list (K := K) (a := pr) (xs := p.map V.int) (fun i H' => Same H H' ∧ H' d = some (lstI (neg (p.take i)))) ⟨same_new hd _, upd_same⟩ (fun i H' _ ⟨h1, _⟩ => SqL.of (h1 _ _ h.hp)) ?_ ?_
  · rintro i x H' hx ⟨hs, hd'⟩
    have hil : i < p.length := by
      have z := (List.getElem?_eq_some_iff.mp hx).1
      rwa [List.length_map] at z
    rw [List.getElem?_map, gd_get hil] at hx
    have ex : x = V.int (gd p i) := (Option.some.inj hx).symm
    subst ex
    refine ⟨rfl, ?_⟩
    refine yes_ ?_
    refine ⟨_, rfl, _, _, rfl, rfl, _, hd', ?_, Same.mut hs hd, ?_⟩
    · rw [List.length_map, neg_len, List.length_take]
      have := h.pl
      have := h.n6
      exact smallt (by omega)
    · rw [upd_same, List.take_add_one, gd_get hil]
      simp [lstI, neg]
  · rintro H' ⟨hs, hd'⟩
    rw [List.length_map, List.take_length] at hd'
    intro kn hk
    have s1 := same_new hk (.dT [])
    refine ⟨o, d, kn, n, ws, neg p, [], rfl, s1 _ _ (hs _ _ h.ho), h.ok, h.n1, h.n6, inv_small h.ok h.n6, s1 _ _ hd', by rw [neg_len]; exact h.pl, upd_same, .nil, fun H2 kvs' k _ _ => ?_⟩
    exact ⟨_, _, rfl, rfl, q H2 (kp_same (hs.trans s1) (same_back hs hk) k)⟩
theorem scCheapest : FnScope ["order", "prices", "known", "found", "wanted", "level"] ["order", "prices"] (defScope sCheapest) := ⟨rfl, rfl, rfl, by decide +kernel, rfl, by decide +kernel, by decide +kernel⟩
theorem ok_cheapest {f g : Addr} {fd ed : FuncData} (D : Df K mg "cheapest" sCheapest ["order", "prices"] f fd) (M : Lst P w K mg base) (T : Df K mg "least" sLeast ["order", "prices", "known"] g ed) (G : FnOk P w K mg base CX0 40 g ed ["order", "prices", "known"] (spLeast K 37)) :
    FnOk P w K mg base CX0 41 f fd ["order", "prices"] spCheapest := by
  refine D.fn.ok scCheapest (fun vs H Q E h => ?_) (fun cdv A outer s H vs Q E hr h => ?_)
  · obtain ⟨o, pr, n, ws, p, rfl, _⟩ := h
    rfl
  obtain ⟨o, pr, n, ws, p, rfl, h, q⟩ := h
  refine ⟨_, pss_cons (ps_par (i := 2) (j := 3) rfl scCheapest.nd rfl rfl (by decide) rfl rfl (pa_cons pe_dnewT (pa_cons (pe_lst pa_nil) pa_nil)) (by rfl))
    (pss_cons (ps_while PassesOwn.never (pt_cmpR (op_neD hr.units) (pe_call M.GS (hr.mono (by decide)) rfl M.S.mg M.S.fn.kp M.S.bs .nil pass0 (pa_cons (pv 0) pa_nil)) (pe_lst pa_nil) (nomark _))
      (pss_cons (ps_set (i := 4) scCheapest.nd rfl (Or.inl rfl) (pe_call G hr rfl T.mg T.fn.kp T.bs .nil pass0 (pa_cons (pv 0) (pa_cons (pv 1) (pa_cons (pv 2) pa_nil)))))
      (pss_one (ps_for PassesOwn.never rfl (pi_list (pe_call M.GS (hr.mono (by decide)) rfl M.S.mg M.S.fn.kp M.S.bs .nil pass0 (pa_cons (pv 0) pa_nil))) (pg_name (i := 5) scCheapest.nd rfl (Or.inl rfl))
        (pss_one (ps_if (pt_cmpR op_eq (pe_op op_add (pe_ix ix_list (pv 1) (pe_op op_sub (pv 5) pe_int) (fun _ _ => rfl))
          (pe_call G hr rfl T.mg T.fn.kp T.bs .nil pass0 (pa_cons (pe_call M.GT (hr.mono (by decide)) rfl M.T.mg M.T.fn.kp M.T.bs .nil pass0 (pa_cons (pv 0) (pa_cons (pv 5) pa_nil))) (pa_cons (pv 1) (pa_cons (pv 2) pa_nil))))) (pv 4) (nomark _))
          (pss_cons (ps_expr (pe_bm PySem.F.plainAttrs_list PySem.F.slot_list_append PySem.F.type_list_append mt_append (pv 3) (pa_cons (pv 5) pa_nil)))
          (pss_cons (ps_set (i := 0) scCheapest.nd rfl (Or.inl rfl) (pe_call M.GT (hr.mono (by decide)) rfl M.T.mg M.T.fn.kp M.T.bs .nil pass0 (pa_cons (pv 0) (pa_cons (pv 5) pa_nil))))
          (pss_one ps_break))) pss_nil))))))
    (pss_one (ps_ret (pv 3)))), ?_⟩
  intro kn hkn
  have s1 := same_new hkn (.dT [])
  have t1 : (upd H kn (.dT [])) kn = some (.dT []) := upd_same
  generalize upd H kn (.dT []) = H1 at *
  refine ⟨Nat.zero_le _, fun fo hfo => ?_⟩
  have s2 := same_new hfo (.lst [])
  have t2 : (upd H1 fo (.lst [])) fo = some (lstI (lv [])) := upd_same
  generalize upd H1 fo (.lst []) = H2 at *
  have h0fo : H fo = none := same_back s1 hfo
  have nkf : kn ≠ fo := ne_of_none t1 hfo
  refine ⟨_, _, rfl, ?_⟩
  -- the rows: what is done, then a first cheapest row of the order that is left
  refine ⟨Wch H n pr kn fo p ws,
    ⟨_, o, ws, none, none, [], [], rfl, s1.trans s2, h.mono (s1.trans s2), s2 _ _ t1, .nil, t2, rfl, by have := inv_small h.ok h.n6; simpa using this, fun r a b => ⟨a, b⟩⟩, ?_⟩
  rintro m σ H' ⟨o', w', x, y, kvs, dn, rfl, sm, h', hk, g, hf, rfl, hlt, hrow⟩
  have hl' : w'.length ≤ 100 := by rw [h'.ok.1]; have := h'.n6; omega
  have hl1 : 1 ≤ w'.length := by rw [h'.ok.1]; exact h'.n1
  refine ⟨_, rfl, o', w', rfl, h'.ho, hl', hl1, fun st H3 hst s3 t3 => ?_⟩
  refine ⟨Nat.zero_le _, fun em hem => ?_⟩
  have s4 := same_new hem (.lst [])
  have t4 : (upd H3 em (.lst [])) em = some (lstI []) := upd_same
  generalize upd H3 em (.lst []) = H4 at *
  refine ne_nil (s4 _ _ t3) t4 ⟨_, rfl, ?_⟩
  have s5 : Same H' H4 := s3.trans s4
  by_cases es : stepsN w' = []
  · rw [es]
    refine iteF ?_
    refine ⟨_, rfl, ?_⟩
    have z := hrow [] es trivial
    rw [List.append_nil] at z
    exact q fo dn H4 h0fo (sm.trans s5) (s5 _ _ hf) z.1 z.2
  · have ne : (!(lv (stepsN w')).isEmpty) = true := by
      rw [lv_nil]
      cases e : stepsN w' with
      | nil => exact absurd e es
      | cons a b => rfl
    rw [ne]
    refine iteT ?_
    refine ⟨fun σ2 H2 => ∃ m', m' < inv w' ∧ Wch H n pr kn fo p ws m' σ2 H2, fun _ _ z => z, ?_⟩
    have o4 := h'.mono s5
    -- wanted
    refine ⟨_, rfl, _, rfl, _, rfl, o', pr, kn, n, w', p, kvs, rfl, o4.ho, o4.ok, o4.n1, o4.n6, inv_small o4.ok o4.n6, o4.hp, o4.pl, s5 _ _ hk, g, fun H5 kvs5 k5 a5 g5 => ?_⟩
    have o5 := o4.kp k5 (s5 _ _ hk)
    have m5 : Same H H5 := kp_same (sm.trans s5) hkn k5
    have f5 : H5 fo = some (lstI (lv dn)) := k5 _ _ (s5 _ _ hf) (by simp; exact nkf.symm)
    refine ⟨_, rfl, o', w', rfl, o5.ho, hl', hl1, fun st2 H6 hst2 s6 t6 => ?_⟩
    have nsk : st2 ≠ kn := (ne_of_none a5 hst2).symm
    have nsf : st2 ≠ fo := (ne_of_none f5 hst2).symm
    refine ⟨st2, rfl, ⟨_, SqL.of t6⟩, for_list (K := K) (a := st2) (xs := (lv (stepsN w')).map V.int) (fun i σ H' => ∃ (z : Option V) (kvs' : List (List Key × V)), σ = [some (.ref o'), some (.ref pr), some (.ref kn), some (.ref fo), some (.int (L p w')), z] ∧ Same H H' ∧ Opr H' n o' pr w' p ∧
        H' st2 = some (lstI (lv (stepsN w'))) ∧ H' kn = some (.dT kvs') ∧ Good n (L p) kvs' ∧ H' fo = some (lstI (lv dn)) ∧ ∀ k ∈ (stepsN w').take i, gd p k + L p (sw w' k) ≠ L p w')
      ⟨y, kvs5, rfl, m5.trans s6, o5.mono s6, t6, s6 _ _ a5, g5, s6 _ _ f5, fun k hk => by simp at hk⟩ (fun i σ H' _ ⟨_, _, _, _, _, a, _⟩ => SqL.of a) ?_ ?_⟩
    · rintro i y' σ H' hi ⟨z, kvs', rfl, m7, o7, b1, b2, g7, b3, hno⟩
      obtain ⟨j, hj, rfl⟩ := lv_get hi
      have hjm : j ∈ stepsN w' := List.mem_of_getElem? hj
      have hjs := mem_stepsN.mp hjm
      have hjp : j < p.length := by have := o7.pl; rw [o7.ok.1] at hjs; omega
      refine ⟨_, rfl, _, rfl, _, _, rfl, rfl, pr, _, _, _, rfl, rfl, SqL.of o7.hp, at_gd (i := j) hjp (by omega), ?_⟩
      refine ⟨_, rfl, _, rfl, o', w', j, rfl, o7.ho, hl', hjs.1, fun t H8 ht s8 t8 => ?_⟩
      have o8 := o7.mono s8
      refine ⟨_, rfl, _, rfl, t, pr, kn, n, sw w' j, p, kvs', rfl, t8, o8.ok.sw hjm, o8.n1, o8.n6, inv_small (o8.ok.sw hjm) o8.n6, o8.hp, o8.pl, s8 _ _ b2, g7, fun H9 kvs9 k9 a9 g9 => ?_⟩
      have o9 := o8.kp k9 (s8 _ _ b2)
      have m9 : Same H H9 := kp_same (m7.trans s8) hkn k9
      have f9 : H9 fo = some (lstI (lv dn)) := k9 _ _ (s8 _ _ b3) (by simp; exact nkf.symm)
      have d9 : H9 st2 = some (lstI (lv (stepsN w'))) := k9 _ _ (s8 _ _ b1) (by simp; exact nsk)
      refine ⟨_, _, rfl, rfl, _, rfl, rfl, _, rfl, ?_⟩
      refine ite2 (fun c => ?_) (fun c => ?_)
      · have c' : gd p j + L p (sw w' j) = L p w' := V.int.inj (of_decide_eq_true c)
        refine ⟨_, rfl, .inl ⟨rfl, _, SqL.of f9⟩, _, rfl, fo, _, _, rfl, rfl, f9, ?_, ?_⟩
        · rw [List.length_map, lv_len]
          exact smallt (by omega)
        have m10 : Same H (upd H9 fo (.lst ((lv dn).map V.int ++ [V.int ((j : Int) + 1)]))) := Same.mut m9 h0fo
        have f10 : (upd H9 fo (.lst ((lv dn).map V.int ++ [V.int ((j : Int) + 1)]))) fo = some (lstI (lv (dn ++ [j]))) := by
          rw [upd_same, lv_snoc, lstI, List.map_append]
          rfl
        have k10 : Kp [fo] H9 (upd H9 fo (.lst ((lv dn).map V.int ++ [V.int ((j : Int) + 1)]))) := (Kp.refl _ _).mut (.inl (by simp))
        generalize upd H9 fo (.lst ((lv dn).map V.int ++ [V.int ((j : Int) + 1)])) = H10 at *
        have no : o' ≠ fo := ne_of o9.ho f9 (by intro z; cases z)
        have np : pr ≠ fo := (ne_of_none h.hp h0fo)
        refine ⟨_, rfl, _, rfl, o', w', j, rfl, k10 _ _ o9.ho (by simp; exact no), hl', hjs.1, fun t2 H11 ht2 s11 t11 => ?_⟩
        have iv := inv_step hjm
        refine ⟨inv (sw w' j), by omega, t2, sw w' j, _, _, kvs9, dn ++ [j], rfl, m10.trans s11, ⟨t11, o9.ok.sw hjm, o9.n1, o9.n6, s11 _ _ (k10 _ _ o9.hp (by simp; exact np)), o9.pl⟩, s11 _ _ (k10 _ _ a9 (by simp; exact nkf)), g9, s11 _ _ f10, rfl, ?_, fun r a b => ?_⟩
        · rw [List.length_append, List.length_singleton]
          omega
        · rw [List.append_assoc]
          exact hrow (j :: r) ⟨hjm, a⟩ ⟨c', fun k hk lt => hno k (steps_before hj hk lt), b⟩
      · refine ⟨_, kvs9, rfl, m9, o9, d9, a9, g9, f9, fun k hk => ?_⟩
        rw [List.take_add_one, hj] at hk
        rcases List.mem_append.mp hk with hk | hk
        · exact hno k hk
        · have e : k = j := by simpa using hk
          subst e
          exact fun z => c (decide_eq_true (congrArg V.int z))
    · rintro σ H' ⟨z, kvs', rfl, m7, o7, b1, b2, g7, b3, hno⟩
      rw [List.length_map, lv_len, List.take_length] at hno
      obtain ⟨k, hk, e⟩ := L_has (p := p) es
      exact absurd e (hno k hk)
end
end K52

namespace K52
open PySem L2
abbrev sSource : Stmt := top 16
abbrev sPick : Stmt := top 17
abbrev sOf : Stmt := top 18
/-! ### the source's dict: four entries in their order -/
def kC : Key := Sum.inr "cells"
def kL : Key := Sum.inr "left"
def kM : Key := Sum.inr "mixed"
def kU : Key := Sum.inr "turn"
theorem cl : kC ≠ kL := fun h => absurd (Sum.inr.inj h) (by decide +kernel)
theorem cm : kC ≠ kM := fun h => absurd (Sum.inr.inj h) (by decide +kernel)
theorem cu : kC ≠ kU := fun h => absurd (Sum.inr.inj h) (by decide +kernel)
theorem lm : kL ≠ kM := fun h => absurd (Sum.inr.inj h) (by decide +kernel)
theorem lu : kL ≠ kU := fun h => absurd (Sum.inr.inj h) (by decide +kernel)
theorem mu : kM ≠ kU := fun h => absurd (Sum.inr.inj h) (by decide +kernel)
def src (c : Addr) (l m t : Int) : List (Key × V) := [(kC, .ref c), (kL, .int l), (kM, .int m), (kU, .int t)]
theorem src_C (c : Addr) (l m t : Int) : valV (src c l m t) kC = some (.ref c) := valV_pos rfl
theorem src_L (c : Addr) (l m t : Int) : valV (src c l m t) kL = some (.int l) := by
  unfold src
  rw [valV_neg cl]
  exact valV_pos rfl
theorem src_M (c : Addr) (l m t : Int) : valV (src c l m t) kM = some (.int m) := by
  unfold src
  rw [valV_neg cm, valV_neg lm]
  exact valV_pos rfl
theorem src_U (c : Addr) (l m t : Int) : valV (src c l m t) kU = some (.int t) := by
  unfold src
  rw [valV_neg cu, valV_neg lu, valV_neg mu]
  exact valV_pos rfl
theorem put_L (c : Addr) (l m t z : Int) : putK (src c l m t) kL (.int z) = src c z m t := by
  unfold putK
  rw [valV_any, src_L]
  simp only [src, List.map_cons, List.map_nil, Option.isSome_some, if_true, if_neg cl, if_neg lm.symm, if_neg lu.symm]
theorem put_U (c : Addr) (l m t z : Int) : putK (src c l m t) kU (.int z) = src c l m z := by
  unfold putK
  rw [valV_any, src_U]
  simp only [src, List.map_cons, List.map_nil, Option.isSome_some, if_true, if_neg cu, if_neg lu, if_neg mu]
theorem merge_src (c : Addr) (l m t : Int) : mergeK [] (src c l m t) = src c l m t := by
  show putK (putK (putK (putK [] kC (.ref c)) kL (.int l)) kM (.int m)) kU (.int t) = _
  rw [show putK [] kC (V.ref c) = [(kC, .ref c)] from rfl]
  rw [putK_new (k := kL) _ (by rw [valV_neg cl]; rfl), putK_new (k := kM) _ (by show valV [(kC, V.ref c), (kL, V.int l)] kM = none; rw [valV_neg cm, valV_neg lm]; rfl),
    putK_new (k := kU) _ (by show valV [(kC, V.ref c), (kL, V.int l), (kM, V.int m)] kU = none; rw [valV_neg cu, valV_neg lu, valV_neg mu]; rfl)]
  rfl
/-- a source stands at d, its cells at c -/
def Src (H : Hp) (d c : Addr) : Prop := ∃ (l m t : Int) (cells : List Int), H d = some (.dK (src c l m t)) ∧ H c = some (lstI cells)
theorem Src.kp {H H' : Hp} {d c : Addr} (s : Src H d c) (k : Same H H') : Src H' d c := by
  obtain ⟨l, m, t, cells, a, b⟩ := s
  exact ⟨l, m, t, cells, k _ _ a, k _ _ b⟩
theorem Src.dne {H : Hp} {d c x : Addr} {o : HO} (s : Src H d c) (h : H x = some o) (z : ∀ kvs, o ≠ .dK kvs) : x ≠ d := by
  obtain ⟨l, m, t, cells, a, b⟩ := s
  exact ne_of h a (z _)
theorem Src.cne {H : Hp} {d c x : Addr} {o : HO} (s : Src H d c) (h : H x = some o) (z : ∀ xs, o ≠ .lst xs) : x ≠ c := by
  obtain ⟨l, m, t, cells, a, b⟩ := s
  exact ne_of h b (z _)
theorem Src.dnew {H : Hp} {d c x : Addr} (s : Src H d c) (h : H x = none) : x ≠ d ∧ x ≠ c := by
  obtain ⟨l, m, t, cells, a, b⟩ := s
  exact ⟨(ne_of_none a h).symm, (ne_of_none b h).symm⟩
theorem Src.cd {H : Hp} {d c : Addr} (s : Src H d c) : c ≠ d := by
  obtain ⟨l, m, t, cells, a, b⟩ := s
  exact ne_of b a (by intro z; cases z)
theorem not2 {x d c : Addr} (h1 : x ≠ d) (h2 : x ≠ c) : x ∉ [d, c] := by simp [h1, h2]
theorem snoc_of {α : Type} : ∀ {l : List α}, l ≠ [] → ∃ i z, l = i ++ [z]
  | [], h => absurd rfl h
  | [a], _ => ⟨[], a, rfl⟩
  | a :: b :: r, _ => by
    obtain ⟨i, z, e⟩ := snoc_of (l := b :: r) (by simp)
    exact ⟨a :: i, z, by rw [e]; rfl⟩
def spSource (K : PySem.W.Frag) : Sp := fun vs H Q _ => ∃ (a : Addr) (ns : List Int), vs = [.ref a] ∧ SqL K H a (ns.map V.int) ∧ ns.length ≤ 1000 ∧
  ∀ (d c : Addr) (H' : Hp), Same H H' → Src H' d c → Q (.ref d) H'
def spPick : Sp := fun vs H Q _ => ∃ (d c : Addr) (many : Int), vs = [.ref d, .int many] ∧ Src H d c ∧ 1 ≤ many ∧ many < 1000000 ∧
  ∀ (r : Int) (H' : Hp), 0 ≤ r → r < many → Kp [d, c] H H' → Src H' d c → Q (.int r) H'
def spOf (K : PySem.W.Frag) : Sp := fun vs H Q _ => ∃ (d c a : Addr) (xs : List V), vs = [.ref d, .ref a] ∧ Src H d c ∧ H a = some (.lst xs) ∧ a ≠ c ∧ 1 ≤ xs.length ∧ xs.length ≤ 1000 ∧
  ∀ (x : V) (H' : Hp), x ∈ xs → Kp [d, c] H H' → Src H' d c → Q x H'
section
variable {P : Program} {w : World} {K : PySem.W.Frag} {mg : Str → Option Value} {base : Heap}
theorem scSource : FnScope ["_law_script", "_law_mixed_here", "_law_cell"] ["_law_script"] (defScope sSource) := ⟨rfl, rfl, rfl, by decide +kernel, rfl, by decide +kernel, by decide +kernel⟩
theorem ok_source {f : Addr} {fd : FuncData} (D : Df K mg "_law_source" sSource ["_law_script"] f fd) (B : Blt mg) : FnOk P w K mg base CX0 1 f fd ["_law_script"] (spSource K) := by
  refine D.fn.ok scSource (fun vs H Q E h => ?_) (fun cdv A outer s H vs Q E hr h => ?_)
  · obtain ⟨a, ns, rfl, _⟩ := h
    rfl
  obtain ⟨a, ns, rfl, hS, hl, q⟩ := h
  refine ⟨_, pss_cons (ps_set (i := 1) scSource.nd rfl (Or.inl rfl) pe_int)
    (pss_cons (ps_for PassesOwn.never rfl (pi_list (pv 0)) (pg_name (i := 2) scSource.nd rfl (Or.inl rfl))
      (pss_one (ps_set (i := 1) scSource.nd rfl (Or.inl rfl) (pe_op op_mod (pe_callTy call_int1 rfl B.int (by decide +kernel) (pa_cons (pe_op op_add (pe_op op_add (pe_op op_mul (pv 1) pe_int) (pe_op op_mul (pv 2) pe_int)) pe_int) pa_nil)) pe_int))))
    (pss_one (ps_ret (pe_disp (pps_cons pe_str (pe_revL (pe_lc (own := [("_law_cell", 2)]) (g := gName 2) (tt := tYes) rfl scSource.nd (pi_list (pv 0))
        (blkOk_by (N := ["_law_script", "_law_mixed_here", "_law_cell"]) (sc := defScope sSource) (by decide +kernel)) (fun _ _ _ _ _ => pg_name (i := 2) scSource.nd rfl (Or.inl rfl)) (fun _ _ _ _ _ => pts_nil)
        (fun _ _ _ _ _ => pe_callB call_abs rfl B.abs (by decide +kernel) (pa_cons (pv 2) pa_nil))))
      (pps_cons pe_str pe_int (pps_cons pe_str (pv 1) (pps_cons pe_str pe_int pps_nil)))) (by rfl) (by rfl) (fun z => by cases z) (by decide))))), ?_⟩
  have item : ∀ {i : Nat} {x : V}, (ns.map V.int)[i]? = some x → i < ns.length ∧ x = V.int (gd ns i) := by
    intro i x hx
    have hil : i < ns.length := by
      have z := (List.getElem?_eq_some_iff.mp hx).1
      rwa [List.length_map] at z
    rw [List.getElem?_map, gd_get hil] at hx
    exact ⟨hil, (Option.some.inj hx).symm⟩
  refine ⟨_, rfl, a, rfl, ⟨_, hS⟩, for_list (K := K) (a := a) (xs := ns.map V.int) (fun i σ H' => ∃ (m : Int) (x : Option V), σ = [some (.ref a), some (.int m), x] ∧ Same H H') ⟨11, none, rfl, Same.refl H⟩ (fun i σ H' _ ⟨_, _, _, s⟩ => s.seq hS) ?_ ?_⟩
  · rintro i x σ H' hx ⟨m, y, rfl, s⟩
    obtain ⟨hil, rfl⟩ := item hx
    refine ⟨_, rfl, _, _, rfl, rfl, .inr ⟨by decide, by decide⟩, _, rfl, _, _, rfl, rfl, .inr ⟨by decide, by decide⟩, _, _, rfl, rfl, _, _, rfl, rfl, .inl ⟨_, rfl, ?_⟩⟩
    exact ⟨_, _, rfl, rfl, (by show (0 : Int) < 2147483629; decide), _, _, rfl, s⟩
  · rintro σ H' ⟨m, y, rfl, s⟩
    intro d hd
    have s1 := same_new hd (.dK [])
    have t1 : (upd H' d (.dK [])) d = some (.dK []) := upd_same
    generalize upd H' d (.dK []) = H1 at *
    refine ⟨_, rfl, a, rfl, ⟨_, (s.trans s1).seq hS⟩, fun l hl' => ?_⟩
    refine lc_list (K := K) (a := a) (xs := ns.map V.int) (fun i H2 => Same H1 H2 ∧ ∃ zs : List Int, zs.length = i ∧ H2 l = some (lstI zs)) ⟨same_new hl' _, [], rfl, upd_same⟩ (fun i H2 _ ⟨h1, _⟩ => (s.trans (s1.trans h1)).seq hS) ?_ ?_
    · rintro i x H2 hx ⟨hs, zs, hz, h2⟩
      obtain ⟨hil, rfl⟩ := item hx
      refine ⟨rfl, ?_⟩
      refine yes_ ?_
      refine ⟨_, rfl, _, rfl, _, h2, ?_, Same.mut hs hl', zs ++ [if gd ns i < 0 then - gd ns i else gd ns i], by rw [List.length_append, hz]; rfl, ?_⟩
      · rw [List.length_map, hz]
        exact smallt (by omega)
      · rw [upd_same, lstI, List.map_append]
        rfl
    · rintro H2 ⟨hs, zs, hz, h2⟩
      refine ⟨l, _, rfl, SqL.of h2, fun c hc => ?_⟩
      have s3 := same_new hc (.lst (zs.map V.int).reverse)
      have t3 : (upd H2 c (.lst (zs.map V.int).reverse)) c = some (lstI zs.reverse) := by rw [upd_same, lstI, List.map_reverse]
      generalize upd H2 c (.lst (zs.map V.int).reverse) = H3 at *
      have td : H3 d = some (.dK []) := s3 _ _ (hs _ _ t1)
      have ndc : c ≠ d := ne_of t3 td (by intro z; cases z)
      refine ⟨_, rfl, td, src c 1 m 0, rfl, (show 4 ≤ 15 by decide), ?_⟩
      rw [merge_src]
      have sd : Same H (upd H3 d (.dK (src c 1 m 0))) := Same.mut ((s.trans s1).trans (hs.trans s3)) (same_back s hd)
      exact q d c _ sd ⟨1, m, 0, zs.reverse, upd_same, by rw [upd_ne ndc]; exact t3⟩
theorem scPick : FnScope ["_law_source_here", "_law_many", "_law_left", "_law_mixed_here"] ["_law_source_here", "_law_many"] (defScope sPick) := ⟨rfl, rfl, rfl, by decide +kernel, rfl, by decide +kernel, by decide +kernel⟩
theorem or_ {tA tB : TT} {σ : L2.St} {H : Hp} {Q : Bool → Hp → Prop} (a b : Bool) (hA : ∀ Q' : Bool → Hp → Prop, Q' a H → tA σ H Q') (hB : ∀ Q' : Bool → Hp → Prop, Q' b H → tB σ H Q') (q : Q (a || b) H) : tOr tA tB σ H Q := by
  refine hA _ ?_
  cases a with
  | true =>
    show (if true = true then Q true H else tB σ H Q)
    rw [if_pos rfl]
    exact q
  | false =>
    show (if false = true then Q true H else tB σ H Q)
    rw [if_neg Bool.false_ne_true]
    exact hB Q q
theorem get_src {H : Hp} {d c : Addr} {l m t : Int} {k : Key} {v : V} (h : H d = some (.dK (src c l m t))) (e : valV (src c l m t) k = some v) : DGet H d (kV k) (some v) := by
  rw [← e]
  exact DGet.k h
theorem ok_pick {f : Addr} {fd : FuncData} (D : Df K mg "_law_pick" sPick ["_law_source_here", "_law_many"] f fd) (B : Blt mg) : FnOk P w K mg base CX0 1 f fd ["_law_source_here", "_law_many"] spPick := by
  refine D.fn.ok scPick (fun vs H Q E h => ?_) (fun cdv A outer s H vs Q E hr h => ?_)
  · obtain ⟨d, c, many, rfl, _⟩ := h
    rfl
  obtain ⟨d, c, many, rfl, hs, h1, h2, q⟩ := h
  have hu := hu_of hr
  refine ⟨_, Evl.pss_cut (ps_while PassesOwn.never (PW.pt (pw_and (pt_cmpR op_gt (pv 1) pe_int (nomark _)) (pw_and (pt_cmpR op_lt (pe_dget hu (pv 0) pe_str (fun _ _ => rfl)) pe_int (nomark _))
        (pw_and1 (pt_cmpR op_gt (pe_callB call_len_seq rfl B.len PySem.boot_len (pa_cons (pe_dget hu (pv 0) pe_str (fun _ _ => rfl)) pa_nil)) pe_int (nomark _))))))
      (pss_one (ps_dput hu (pv 0) pe_str (pe_bm0 PySem.F.plainAttrs_list PySem.F.slot_list_pop PySem.F.type_list_pop mt_pop (pe_dget hu (pv 0) pe_str (fun _ _ => rfl))) rfl)))
    (pss_cons (ps_set (i := 2) scPick.nd rfl (Or.inl rfl) (pe_dget hu (pv 0) pe_str (fun _ _ => rfl)))
    (pss_cons (ps_if (PW.pt (pw_or (pt_cmpR op_lt (pv 1) pe_int (nomark _)) (pw_or1 (pt_cmpR op_gt (pv 2) pe_int (nomark _)))))
      (pss_cons (ps_dput hu (pv 0) pe_str (pe_op op_fdivN (pv 2) (pe_callB (call_max2 rfl) rfl B.max (by decide +kernel) (pa_cons pe_int (pa_cons (pv 1) pa_nil)))) rfl)
      (pss_one (ps_ret (pe_op op_mod (pe_callTy call_int1 rfl B.int (by decide +kernel) (pa_cons (pv 2) pa_nil)) (pe_callB (call_max2 rfl) rfl B.max (by decide +kernel) (pa_cons pe_int (pa_cons (pv 1) pa_nil))))))) pss_nil)
    (pss_cons (ps_dput hu (pv 0) pe_str (pe_op op_add (pe_dget hu (pv 0) pe_str (fun _ _ => rfl)) pe_int) rfl)
    (pss_cons (ps_set (i := 3) scPick.nd rfl (Or.inl rfl) (pe_op op_mod (pe_callTy call_int1 rfl B.int (by decide +kernel) (pa_cons (pe_op op_add (pe_dget hu (pv 0) pe_str (fun _ _ => rfl)) (pe_op op_mul (pe_dget hu (pv 0) pe_str (fun _ _ => rfl)) pe_int)) pa_nil)) pe_int))
    (pss_cons (ps_set (i := 3) scPick.nd rfl (Or.inl rfl) (pe_op op_mod (pe_callTy call_int1 rfl B.int (by decide +kernel) (pa_cons (pe_op op_add (pe_op op_mul (pv 3) (pv 3)) (pe_op op_mul (pe_dget hu (pv 0) pe_str (fun _ _ => rfl)) pe_int)) pa_nil)) pe_int))
    (pss_one (ps_ret (pe_op op_mod (pe_callTy call_int1 rfl B.int (by decide +kernel) (pa_cons (pe_op op_fdivN (pv 3) pe_int) pa_nil)) (pv 1))))))))), ?_⟩
  obtain ⟨l0, m0, t0, cells0, hd0, hc0⟩ := id hs
  have ncd := hs.cd
  refine ⟨fun σ' H' => ∃ (l : Int) (cells : List Int), σ' = [some (.ref d), some (.int many), none, none] ∧ Kp [d, c] H H' ∧ H' d = some (.dK (src c l m0 t0)) ∧ H' c = some (lstI cells), ?_, ?_⟩
  · refine ⟨fun m σ H' => ∃ (l : Int) (cells : List Int), m = cells.length ∧ σ = [some (.ref d), some (.int many), none, none] ∧ Kp [d, c] H H' ∧ H' d = some (.dK (src c l m0 t0)) ∧ H' c = some (lstI cells),
      ⟨_, l0, cells0, rfl, rfl, Kp.refl _ _, hd0, hc0⟩, ?_⟩
    rintro m σ H' ⟨l, cells, rfl, rfl, kp, hd, hc⟩
    refine ⟨_, rfl, _, _, rfl, rfl, _, rfl, ?_⟩
    refine ite2 (fun _ => ?_) (fun _ => ?_)
    · refine ⟨_, rfl, d, _, rfl, get_src hd (src_L ..), _, _, rfl, rfl, _, rfl, ?_⟩
      refine ite2 (fun _ => ?_) (fun _ => ?_)
      · refine ⟨_, rfl, d, _, rfl, get_src hd (src_C ..), c, _, rfl, .inl (SqL.of hc), _, _, rfl, rfl, _, rfl, ?_⟩
        by_cases e : cells = []
        · subst e
          refine iteF ?_
          exact ⟨l, [], rfl, kp, hd, hc⟩
        · obtain ⟨ini, z, rfl⟩ := snoc_of e
          have pos : decide ((0 : Int) < (((ini ++ [z]).map V.int).length : Nat)) = true := decide_eq_true (by rw [List.length_map, List.length_append, List.length_singleton]; omega)
          rw [pos]
          refine iteT ?_
          refine ⟨fun σ2 H2 => σ2 = [some (.ref d), some (.int many), none, none] ∧ Kp [d, c] H H2 ∧ H2 d = some (.dK (src c z m0 t0)) ∧ H2 c = some (lstI ini), fun σ2 H2 ⟨a1, a2, a3, a4⟩ => ⟨ini.length, by rw [List.length_append, List.length_singleton]; omega, z, ini, rfl, a1, a2, a3, a4⟩, ?_⟩
          have last : ((ini ++ [z]).map V.int)[((ini ++ [z]).map V.int).length - 1]? = some (V.int z) := by
            rw [List.map_append, List.length_append, List.map_cons, List.map_nil, List.length_singleton, Nat.add_sub_cancel, List.getElem?_append_right (Nat.le_refl _), Nat.sub_self]
            rfl
          have dl : ((ini ++ [z]).map V.int).dropLast = ini.map V.int := by rw [List.map_append, List.map_cons, List.map_nil, List.dropLast_concat]
          refine ⟨_, rfl, d, _, rfl, get_src hd (src_C ..), .inl ⟨rfl, _, SqL.of hc⟩, c, _, _, rfl, rfl, hc, last, ?_⟩
          rw [dl]
          have k1 : Kp [d, c] H (upd H' c (.lst (ini.map V.int))) := kp.mut (.inl (by simp))
          have d1 : (upd H' c (.lst (ini.map V.int))) d = some (.dK (src c l m0 t0)) := by rw [upd_ne ncd.symm]; exact hd
          have c1 : (upd H' c (.lst (ini.map V.int))) c = some (lstI ini) := upd_same
          generalize upd H' c (.lst (ini.map V.int)) = H1 at *
          refine ⟨_, rfl, d, _, rfl, DPut.k (k := kL) d1 (by show 4 < sizeLine; decide), ?_⟩
          rw [put_L]
          exact ⟨rfl, k1.mut (.inl (by simp)), upd_same, by rw [upd_ne ncd]; exact c1⟩
      · exact ⟨l, cells, rfl, kp, hd, hc⟩
    · exact ⟨l, cells, rfl, kp, hd, hc⟩
  rintro σ H' ⟨l, cells, rfl, kp, hd, hc⟩
  have mx : (if many > 1 then many else 1) = many := by
    by_cases z : many > 1
    · rw [if_pos z]
    · rw [if_neg z]; omega
  refine ⟨_, rfl, d, _, rfl, get_src hd (src_L ..), ?_⟩
  unfold gName tSeq tIfS
  dsimp only
  refine or_ (decide (many < 2)) (decide (1 < l)) (fun Q' z => ⟨_, rfl, _, _, rfl, rfl, _, rfl, z⟩) (fun Q' z => ⟨_, rfl, _, _, rfl, rfl, _, rfl, z⟩) ?_
  refine ite2 (fun _ => ?_) (fun _ => ?_)
  · refine ⟨_, rfl, _, rfl, _, _, rfl, _, _, rfl, rfl, ?_, ?_⟩
    · rw [mx]
      exact ⟨by omega, by omega⟩
    refine ⟨_, rfl, d, _, rfl, DPut.k (k := kL) hd (by show 4 < sizeLine; decide), ?_⟩
    rw [put_L]
    refine ⟨_, rfl, .inl ⟨_, rfl, _, rfl, _, _, rfl, _, _, rfl, rfl, ?_, ?_⟩⟩
    · rw [mx]; omega
    rw [mx]
    exact q _ _ (Int.emod_nonneg _ (by omega)) (Int.emod_lt_of_pos _ (by omega)) (kp.mut (.inl (by simp))) ⟨_, m0, t0, cells, upd_same, by rw [upd_ne ncd]; exact hc⟩
  · refine ⟨_, rfl, d, _, rfl, get_src hd (src_U ..), _, _, rfl, rfl, ?_⟩
    refine ⟨_, rfl, d, _, rfl, DPut.k (k := kU) hd (by show 4 < sizeLine; decide), ?_⟩
    rw [put_U]
    have k1 : Kp [d, c] H (upd H' d (.dK (src c l m0 (t0 + 1)))) := kp.mut (.inl (by simp))
    have d1 : (upd H' d (.dK (src c l m0 (t0 + 1)))) d = some (.dK (src c l m0 (t0 + 1))) := upd_same
    have c1 : (upd H' d (.dK (src c l m0 (t0 + 1)))) c = some (lstI cells) := by rw [upd_ne ncd]; exact hc
    generalize upd H' d (.dK (src c l m0 (t0 + 1))) = H1 at *
    refine ⟨_, rfl, d, _, rfl, get_src d1 (src_M ..), _, rfl, d, _, rfl, get_src d1 (src_U ..), _, _, rfl, rfl, .inr ⟨by decide, by decide⟩, _, _, rfl, rfl, .inl ⟨_, rfl, _, _, rfl, rfl, (by show (0 : Int) < 998244353; decide), ?_⟩⟩
    have b1 := Int.emod_nonneg (m0 + (t0 + 1) * 104729) (show (998244353 : Int) ≠ 0 by decide)
    have b2 := Int.emod_lt_of_pos (m0 + (t0 + 1) * 104729) (show (0 : Int) < 998244353 by decide)
    generalize (m0 + (t0 + 1) * 104729) % 998244353 = z1 at *
    refine ⟨_, rfl, _, rfl, _, _, rfl, rfl, .inl ⟨by omega, by omega⟩, _, rfl, d, _, rfl, get_src d1 (src_U ..), _, _, rfl, rfl, .inr ⟨by decide, by decide⟩, _, _, rfl, rfl, .inl ⟨_, rfl, _, _, rfl, rfl, (by show (0 : Int) < 2147483647; decide), ?_⟩⟩
    refine ⟨_, rfl, _, _, rfl, rfl, ⟨by decide, by decide⟩, .inl ⟨_, rfl, _, rfl, _, _, rfl, rfl, by omega, ?_⟩⟩
    exact q _ _ (Int.emod_nonneg _ (by omega)) (Int.emod_lt_of_pos _ (by omega)) k1 ⟨_, _, _, cells, d1, c1⟩
theorem scOf : FnScope ["_law_source_here", "_law_some"] ["_law_source_here", "_law_some"] (defScope sOf) := ⟨rfl, rfl, rfl, by decide +kernel, rfl, by decide +kernel, by decide +kernel⟩
theorem ok_of {f g : Addr} {fd ed : FuncData} (D : Df K mg "_law_of" sOf ["_law_source_here", "_law_some"] f fd) (T : Df K mg "_law_pick" sPick ["_law_source_here", "_law_many"] g ed) (B : Blt mg) : FnOk P w K mg base CX0 2 f fd ["_law_source_here", "_law_some"] (spOf K) := by
  have G : FnOk P w K mg base CX0 1 g ed ["_law_source_here", "_law_many"] spPick := ok_pick T B
  refine D.fn.ok scOf (fun vs H Q E h => ?_) (fun cdv A outer s H vs Q E hr h => ?_)
  · obtain ⟨d, c, a, xs, rfl, _⟩ := h
    rfl
  obtain ⟨d, c, a, xs, rfl, hs, ha, nac, h1, h2, q⟩ := h
  refine ⟨_, pss_one (ps_ret (pe_ix ix_list (pv 1) (pe_call G hr rfl T.mg T.fn.kp T.bs .nil pass0 (pa_cons (pv 0) (pa_cons (pe_callB call_len_seq rfl B.len PySem.boot_len (pa_cons (pv 1) pa_nil)) pa_nil))) (fun _ _ => rfl))), ?_⟩
  refine ⟨_, rfl, _, rfl, _, rfl, a, xs, rfl, .inl (SqL.of ha), d, c, _, rfl, hs, by omega, by omega, fun r H' r0 r1 k s' => ?_⟩
  have nad : a ≠ d := hs.dne ha (by intro _ z; cases z)
  have hr' : r.toNat < xs.length := by omega
  refine ⟨a, xs, r, xs[r.toNat], rfl, rfl, SqL.of (k _ _ ha (not2 nad nac)), at_of (j := r.toNat) (by omega) (List.getElem?_eq_getElem hr'), q _ _ (List.getElem_mem hr') k s'⟩
end
end K52

namespace K52
open PySem L2
abbrev sMixed : Stmt := top 19
abbrev sAny : Stmt := top 20
def spMixed : Sp := fun vs H Q _ => ∃ (d c a : Addr) (xs : List Int), vs = [.ref d, .ref a] ∧ Src H d c ∧ H a = some (lstI xs) ∧ a ≠ c ∧ xs.length ≤ 1000 ∧
  ∀ (p : Addr) (ys : List Int) (H' : Hp), H p = none → H' p = some (lstI ys) → ys.Perm xs → Kp [d, c] H H' → Src H' d c → Q (.ref p) H'
def spAny : Sp := fun vs H Q _ => ∃ (d c : Addr) (n : Nat), vs = [.ref d, .int (n : Int)] ∧ Src H d c ∧ 2 ≤ n ∧ n ≤ 6 ∧
  ∀ (p : Addr) (w : List Int) (H' : Hp), H p = none → H' p = some (tupI w) → Ok n w → Kp [d, c] H H' → Src H' d c → Q (.ref p) H'
theorem erase_map {α β : Type} (f : α → β) : ∀ (l : List α) (k : Nat), (l.map f).eraseIdx k = (l.eraseIdx k).map f
  | [], _ => rfl
  | a :: r, 0 => rfl
  | a :: r, k + 1 => by
    have ih := erase_map f r k
    show f a :: (r.map f).eraseIdx k = f a :: (r.eraseIdx k).map f
    rw [ih]
def ranI (n : Nat) : List Int := (List.range n).map fun (i : Nat) => (i : Int)
theorem rgV_ran (n : Nat) : rgV 0 (n : Int) = (ranI n).map V.int := by
  unfold rgV ranI
  rw [List.map_map]
  have e : ((n : Int) - 0).toNat = n := by omega
  rw [e]
  apply List.map_congr_left
  intro i _
  show V.int (0 + (i : Int)) = V.int (i : Int)
  rw [Int.zero_add]
theorem ran_ok {n : Nat} (h : n ≤ 6) : Ok n (ranI n) := by
  refine ⟨by simp [ranI], fun x hx => ?_⟩
  obtain ⟨i, hi, rfl⟩ := List.mem_map.mp hx
  have := List.mem_range.mp hi
  omega
theorem Ok.perm {n : Nat} {a b : List Int} (h : Ok n a) (p : b.Perm a) : Ok n b := ⟨p.length_eq.trans h.1, fun x hx => h.2 x (p.mem_iff.mp hx)⟩
theorem Ok.set {n : Nat} {a : List Int} (h : Ok n a) (i : Nat) {x : Int} (hx : x ∈ a) : Ok n (a.set i x) := by
  refine ⟨by rw [List.length_set]; exact h.1, fun y hy => ?_⟩
  rcases List.mem_or_eq_of_mem_set hy with m | rfl
  · exact h.2 y m
  · exact h.2 _ hx
theorem gd_mem {a : List Int} {i : Nat} (h : i < a.length) : gd a i ∈ a := List.mem_of_getElem? (gd_get h)
theorem Kp.free {S : List Addr} {H H' : Hp} {p : Addr} (k : Kp S H H') (h : H' p = none) (n : p ∉ S) : H p = none := by
  cases z : H p with
  | none => rfl
  | some u => rw [k _ _ z n] at h; cases h
theorem and_ {tA tB : TT} {σ : L2.St} {H : Hp} {Q : Bool → Hp → Prop} (a b : Bool) (hA : ∀ Q' : Bool → Hp → Prop, Q' a H → tA σ H Q') (hB : ∀ Q' : Bool → Hp → Prop, Q' b H → tB σ H Q') (q : Q (a && b) H) : tAnd tA tB σ H Q := by
  refine hA _ ?_
  cases a with
  | true =>
    show (if true = true then tB σ H Q else Q false H)
    rw [if_pos rfl]
    exact hB Q q
  | false =>
    show (if false = true then tB σ H Q else Q false H)
    rw [if_neg Bool.false_ne_true]
    exact q
theorem perm_pop {l : List Int} {k : Nat} (h : k < l.length) : (l[k] :: l.eraseIdx k).Perm l := by
  induction l generalizing k with
  | nil => simp at h
  | cons a r ih =>
    match k with
    | 0 => exact List.Perm.refl _
    | k + 1 =>
      have h' : k < r.length := by simpa using h
      exact (List.Perm.swap _ _ _).trans ((ih h').cons a)
section
variable {P : Program} {w : World} {K : PySem.W.Frag} {mg : Str → Option Value} {base : Heap}
theorem scMixed : FnScope ["_law_source_here", "_law_things", "_law_rest", "_law_lap"] ["_law_source_here", "_law_things"] (defScope sMixed) := ⟨rfl, rfl, rfl, by decide +kernel, rfl, by decide +kernel, by decide +kernel⟩
theorem ok_mixed {f g : Addr} {fd ed : FuncData} (D : Df K mg "_law_mixed" sMixed ["_law_source_here", "_law_things"] f fd) (T : Df K mg "_law_pick" sPick ["_law_source_here", "_law_many"] g ed) (B : Blt mg) : FnOk P w K mg base CX0 2 f fd ["_law_source_here", "_law_things"] spMixed := by
  have G : FnOk P w K mg base CX0 1 g ed ["_law_source_here", "_law_many"] spPick := ok_pick T B
  refine D.fn.ok scMixed (fun vs H Q E h => ?_) (fun cdv A outer s H vs Q E hr h => ?_)
  · obtain ⟨d, c, a, xs, rfl, _⟩ := h
    rfl
  obtain ⟨d, c, a, xs, rfl, hs, ha, nac, hl, q⟩ := h
  refine ⟨_, pss_cons (ps_set (i := 2) scMixed.nd rfl (Or.inr rfl) (pe_callTy call_list_of rfl B.list (by decide +kernel) (pa_cons (pv 1) pa_nil)))
    (pss_one (ps_ret (pe_lc (own := [("_law_lap", 3)]) (g := gName 3) (tt := tYes) (te := tBM K "list" rPopAt (tVar 2) (tCons (tCall spPick [] E0 (tCons (tVar 0) (tCons (tCB (Evl.rLenS K) (tCons (tVar 2) tNil)) tNil))) tNil)) rfl scMixed.nd (pi_range1 rfl B.range (pa_cons (pe_callB call_len_seq rfl B.len PySem.boot_len (pa_cons (pv 2) pa_nil)) pa_nil))
      (blkOk_by (N := ["_law_source_here", "_law_things", "_law_rest", "_law_lap"]) (sc := defScope sMixed) (by decide +kernel)) (fun _ _ _ _ _ => pg_name (i := 3) scMixed.nd rfl (Or.inl rfl)) (fun _ _ _ _ _ => pts_nil)
      (fun _ _ _ _ _ => pe_bm PySem.F.plainAttrs_list PySem.F.slot_list_pop PySem.F.type_list_pop mt_popAt (pv 2) (pa_cons (pe_call G hr rfl T.mg T.fn.kp T.bs .nil pass0 (pa_cons (pv 0) (pa_cons (pe_callB (r := Evl.rLenS K) call_len_seq rfl B.len PySem.boot_len (pa_cons (pv 2) pa_nil)) pa_nil))) pa_nil))))), ?_⟩
  refine ⟨_, rfl, a, _, rfl, .inl (SqL.of ha), fun rs hrs => ?_⟩
  have s1 : Same H (upd H rs (.lst (xs.map V.int))) := same_new hrs _
  have t1 : (upd H rs (.lst (xs.map V.int))) rs = some (lstI xs) := upd_same
  generalize upd H rs (.lst (xs.map V.int)) = H1 at *
  obtain ⟨nrd, nrc⟩ := hs.dnew hrs
  have hlen : (xs.map V.int).length = xs.length := List.length_map _
  refine ⟨_, rfl, rs, _, rfl, .inl (SqL.of t1), _, rfl, by rw [hlen]; omega, by rw [hlen]; omega, fun dd hdd => ?_⟩
  have h0 : H dd = none := same_back s1 hdd
  obtain ⟨ndd, ndc⟩ := hs.dnew h0
  have ndr : dd ≠ rs := (ne_of_none t1 hdd).symm
  rw [hlen]
  refine lc_range (lo := 0) (n := ((xs.length : Nat) : Int).toNat) (fun i H' => i ≤ xs.length ∧ Kp [d, c] H H' ∧ Src H' d c ∧ ∃ ys rr : List Int, H' dd = some (lstI ys) ∧ H' rs = some (lstI rr) ∧ ys.length = i ∧ (ys ++ rr).Perm xs)
    ⟨Nat.zero_le _, (Kp.of s1).new hdd, (hs.kp s1).kp (same_new hdd _), [], xs, upd_same, by rw [upd_ne ndr.symm]; exact t1, rfl, List.Perm.refl _⟩ ?_ ?_
  · rintro i H' hi ⟨hi', kp, sr, ys, rr, e1, e2, e3, pm⟩
    have hpl := pm.length_eq
    rw [List.length_append] at hpl
    refine ⟨rfl, ?_⟩
    refine yes_ ?_
    have hlr : (rr.map V.int).length = rr.length := List.length_map _
    refine ⟨_, rfl, .inl ⟨rfl, _, SqL.of e2⟩, _, rfl, _, rfl, rs, _, rfl, .inl (SqL.of e2), d, c, _, rfl, sr, by rw [hlr]; omega, by rw [hlr]; omega, fun r H2 r0 r1 k s2 => ?_⟩
    rw [hlr] at r1
    have hk : r.toNat < rr.length := by omega
    have e2' := k _ _ e2 (not2 nrd nrc)
    have e1' := k _ _ e1 (not2 ndd ndc)
    refine ⟨rs, rr.map V.int, r, r.toNat, V.int rr[r.toNat], rfl, rfl, e2', by omega, by omega, ?_, ?_, ?_⟩
    · rw [hlr]
      exact seqIndex_of r0 (by omega)
    · rw [List.getElem?_map, List.getElem?_eq_getElem hk]
      rfl
    · have er : (rr.map V.int).eraseIdx r.toNat = (rr.eraseIdx r.toNat).map V.int := erase_map V.int rr _
      rw [er]
      refine ⟨_, (upd_ne ndr).trans e1', ?_, ?_⟩
      · rw [List.length_map, e3]
        exact smallt (by omega)
      · refine ⟨by omega, ((kp.trans k).mut (.inr hrs)).mut (.inr h0), ?_, ys ++ [rr[r.toNat]], rr.eraseIdx r.toNat, ?_, ?_, by rw [List.length_append, e3]; rfl, ?_⟩
        · obtain ⟨l, m, t, cells, a1, a2⟩ := s2
          exact ⟨l, m, t, cells, by rw [upd_ne ndd.symm, upd_ne nrd.symm]; exact a1, by rw [upd_ne ndc.symm, upd_ne nrc.symm]; exact a2⟩
        · rw [upd_same, lstI, List.map_append]
          rfl
        · rw [upd_ne ndr.symm, upd_same]
          rfl
        · rw [List.append_assoc]
          exact ((perm_pop hk).append_left ys).trans pm
  · rintro H' ⟨_, kp, sr, ys, rr, e1, e2, e3, pm⟩
    have hpl := pm.length_eq
    rw [List.length_append, e3] at hpl
    have er : rr = [] := List.length_eq_zero_iff.mp (by omega)
    rw [er, List.append_nil] at pm
    exact q dd ys H' h0 e1 pm kp sr
theorem scAny : FnScope ["_law_source_here", "_law_n", "_law_turn", "_law_order", "_law_k"] ["_law_source_here", "_law_n"] (defScope sAny) := ⟨rfl, rfl, rfl, by decide +kernel, rfl, by decide +kernel, by decide +kernel⟩
theorem ok_any {f g e : Addr} {fd ed hd : FuncData} (D : Df K mg "_law_any_order" sAny ["_law_source_here", "_law_n"] f fd) (T : Df K mg "_law_pick" sPick ["_law_source_here", "_law_many"] g ed) (M : Df K mg "_law_mixed" sMixed ["_law_source_here", "_law_things"] e hd) (B : Blt mg) :
    FnOk P w K mg base CX0 3 f fd ["_law_source_here", "_law_n"] spAny := by
  have G : FnOk P w K mg base CX0 1 g ed ["_law_source_here", "_law_many"] spPick := ok_pick T B
  have GM : FnOk P w K mg base CX0 2 e hd ["_law_source_here", "_law_things"] spMixed := ok_mixed M T B
  refine D.fn.ok scAny (fun vs H Q E h => ?_) (fun cdv A outer s H vs Q E hr h => ?_)
  · obtain ⟨d, c, n, rfl, _⟩ := h
    rfl
  obtain ⟨d, c, n, rfl, hs, hn2, hn6, q⟩ := h
  refine ⟨_, pss_cons (ps_par (i := 2) (j := 3) rfl scAny.nd rfl rfl (by decide) rfl rfl (pa_cons (pe_call G (hr.mono (by decide)) rfl T.mg T.fn.kp T.bs .nil pass0 (pa_cons (pv 0) (pa_cons pe_int pa_nil))) (pa_cons (pe_listRg rfl rfl B.list (prg_1 rfl B.range (pv 1))) pa_nil)) (by rfl))
    (pss_cons (ps_if (pt_cmpR op_eq (pv 2) pe_int (nomark _)) (pss_one (ps_ret (pe_callTy call_tuple_of rfl B.tuple (by decide +kernel) (pa_cons (pe_revL (pv 3)) pa_nil)))) pss_nil)
    (Evl.pss_cut (ps_if (PW.pt (pw_and (pt_cmpR op_eq (pv 2) pe_int (nomark _)) (pw_and1 (pt_cmpR op_gt (pv 1) pe_int (nomark _)))))
      (pss_cons (ps_set (i := 4) scAny.nd rfl (Or.inl rfl) (pe_call G (hr.mono (by decide)) rfl T.mg T.fn.kp T.bs .nil pass0 (pa_cons (pv 0) (pa_cons (pe_op op_sub (pv 1) pe_int) pa_nil))))
      (pss_one (ps_asg (pe_tup (pa_cons (pe_ix ix_list (pv 3) (pe_op op_add (pv 4) pe_int) (fun _ _ => rfl)) (pa_cons (pe_ix ix_list (pv 3) (pv 4) (fun _ _ => rfl)) pa_nil)))
        (pg_tup rfl (pgs_cons (pg_sub (pv 3) (pv 4) set_list) (pgs_cons (pg_sub (pv 3) (pe_op op_add (pv 4) pe_int) set_list) pgs_nil)))))) pss_nil)
    (pss_one (ps_ret (pe_callTy call_tuple_of rfl B.tuple (by decide +kernel) (pa_cons (pe_ifExp (pt_cmpR op_lt (pv 2) pe_int (nomark _)) (pv 3) (pe_call GM hr rfl M.mg M.fn.kp M.bs .nil pass0 (pa_cons (pv 0) (pa_cons (pv 3) pa_nil)))) pa_nil)))))), ?_⟩
  refine ⟨_, rfl, d, c, 6, rfl, hs, by decide, by decide, fun r H1 r0 r1 k1 s1 => ?_⟩
  refine ⟨_, rfl, _, rfl, RgOk.of_le (by omega) (by omega) (by omega) (by omega), fun od hod => ?_⟩
  rw [rgV_ran]
  obtain ⟨nod, noc⟩ := s1.dnew hod
  have h0 : H od = none := k1.free hod (not2 nod noc)
  have k2 : Kp [d, c] H (upd H1 od (.lst ((ranI n).map V.int))) := k1.new hod
  have s2 : Src (upd H1 od (.lst ((ranI n).map V.int))) d c := s1.kp (same_new hod _)
  have t2 : (upd H1 od (.lst ((ranI n).map V.int))) od = some (lstI (ranI n)) := upd_same
  generalize upd H1 od (.lst ((ranI n).map V.int)) = H2 at *
  have ok0 := ran_ok hn6
  refine ⟨_, _, rfl, ?_⟩
  refine ⟨_, rfl, rfl, _, rfl, ?_⟩
  refine ite2 (fun _ => ?_) (fun _ => ?_)
  · refine ⟨_, rfl, od, _, rfl, SqL.of t2, fun rv hrv => ?_⟩
    have k3 : Kp [d, c] H (upd H2 rv (.lst ((ranI n).map V.int).reverse)) := k2.new hrv
    have s3 : Src (upd H2 rv (.lst ((ranI n).map V.int).reverse)) d c := s2.kp (same_new hrv _)
    have t3 : (upd H2 rv (.lst ((ranI n).map V.int).reverse)) rv = some (lstI (ranI n).reverse) := by rw [upd_same, lstI, List.map_reverse]
    generalize upd H2 rv (.lst ((ranI n).map V.int).reverse) = H3 at *
    refine ⟨rv, _, rfl, .inl ⟨SqL.of t3, fun p hp => ?_⟩⟩
    obtain ⟨n1, n2⟩ := s3.dnew hp
    exact q p _ _ (k3.free hp (not2 n1 n2)) upd_same (ok0.perm (List.reverse_perm _)) (k3.new hp) (s3.kp (same_new hp _))
  refine ⟨fun σ' H' => ∃ (ws : List Int) (z : Option V), σ' = [some (.ref d), some (.int (n : Int)), some (.int r), some (.ref od), z] ∧ Kp [d, c] H H' ∧ Src H' d c ∧ H' od = some (lstI ws) ∧ Ok n ws, ?_, ?_⟩
  · unfold tIfS
    refine and_ (decide (V.int r = V.int 1)) (decide ((1 : Int) < (n : Int))) (fun Q' z => ⟨_, rfl, rfl, _, rfl, z⟩) (fun Q' z => ⟨_, rfl, _, _, rfl, rfl, _, rfl, z⟩) ?_
    refine ite2 (fun _ => ?_) (fun _ => ?_)
    · refine ⟨_, rfl, _, rfl, _, _, rfl, rfl, d, c, _, rfl, s2, by omega, by omega, fun j' H3 j0 j1 k3 s3 => ?_⟩
      obtain ⟨j, rfl⟩ : ∃ j : Nat, j' = (j : Int) := ⟨j'.toNat, by omega⟩
      have t3 : H3 od = some (lstI (ranI n)) := k3 _ _ t2 (not2 nod noc)
      have hl := ok0.1
      have hlm : ((ranI n).map V.int).length = n := by rw [List.length_map, hl]
      refine ⟨_, rfl, _, rfl, _, _, rfl, rfl, od, _, _, _, rfl, rfl, SqL.of t3, at_gd (i := j + 1) (by omega) (by omega), _, rfl, _, rfl, od, _, _, _, rfl, rfl, SqL.of t3, at_gd (i := j) (by omega) (by omega), by show 2 ≤ sizeLine; decide, fun tp htp => ?_⟩
      obtain ⟨n1, n2⟩ := s3.dnew htp
      have ntp : od ≠ tp := ne_of_none t3 htp
      have k4 : Kp [d, c] H (upd H3 tp (.tup [V.int (gd (ranI n) (j + 1)), V.int (gd (ranI n) j)])) := (k2.trans k3).new htp
      have s4 : Src (upd H3 tp (.tup [V.int (gd (ranI n) (j + 1)), V.int (gd (ranI n) j)])) d c := s3.kp (same_new htp _)
      have t4 : (upd H3 tp (.tup [V.int (gd (ranI n) (j + 1)), V.int (gd (ranI n) j)])) od = some (lstI (ranI n)) := by rw [upd_ne ntp]; exact t3
      have u4 : (upd H3 tp (.tup [V.int (gd (ranI n) (j + 1)), V.int (gd (ranI n) j)])) tp = some (.tup [V.int (gd (ranI n) (j + 1)), V.int (gd (ranI n) j)]) := upd_same
      generalize upd H3 tp (.tup [V.int (gd (ranI n) (j + 1)), V.int (gd (ranI n) j)]) = H4 at *
      refine ⟨tp, _, rfl, SqT.of u4, rfl, _, _, rfl, _, rfl, _, rfl, od, _, _, j, rfl, rfl, t4, Evl.ixN_nat (by rw [hlm]; omega), ?_⟩
      refine ⟨_, _, rfl, _, rfl, _, rfl, _, _, rfl, rfl, od, _, _, j + 1, rfl, rfl, upd_same, ?_, rfl, ?_⟩
      · rw [List.length_set, hlm]
        exact Evl.ixN_nat (n := n) (j := j + 1) (by omega)
      · rw [upd_upd]
        refine ⟨((ranI n).set j (gd (ranI n) (j + 1))).set (j + 1) (gd (ranI n) j), _, rfl, k4.mut (.inr h0), ?_, ?_, ?_⟩
        · obtain ⟨l, m, t, cells, a1, a2⟩ := s4
          exact ⟨l, m, t, cells, by rw [upd_ne nod.symm]; exact a1, by rw [upd_ne noc.symm]; exact a2⟩
        · rw [upd_same, lstI, List.map_set, List.map_set]
        · exact ⟨by rw [List.length_set, List.length_set]; exact hl, fun y hy => by
            rcases List.mem_or_eq_of_mem_set hy with m | rfl
            · rcases List.mem_or_eq_of_mem_set m with m | rfl
              · exact ok0.2 y m
              · exact ok0.2 _ (gd_mem (by omega))
            · exact ok0.2 _ (gd_mem (by omega))⟩
    · exact ⟨ranI n, none, rfl, k2, s2, t2, ok0⟩
  · rintro σ H3 ⟨ws, z, rfl, k3, s3, t3, ok3⟩
    refine ⟨_, rfl, _, _, rfl, rfl, _, rfl, ?_⟩
    refine ite2 (fun _ => ?_) (fun _ => ?_)
    · refine ⟨_, rfl, od, _, rfl, .inl ⟨SqL.of t3, fun p hp => ?_⟩⟩
      obtain ⟨n1, n2⟩ := s3.dnew hp
      exact q p ws _ (k3.free hp (not2 n1 n2)) upd_same ok3 (k3.new hp) (s3.kp (same_new hp _))
    · refine ⟨_, rfl, _, rfl, d, c, od, ws, rfl, s3, t3, noc, by rw [ok3.1]; omega, fun a ys H4 ha h4 pm k4 s4 => ?_⟩
      refine ⟨a, _, rfl, .inl ⟨SqL.of h4, fun p hp => ?_⟩⟩
      obtain ⟨n1, n2⟩ := s4.dnew hp
      exact q p ys _ ((k3.trans k4).free hp (not2 n1 n2)) upd_same (ok3.perm pm) ((k3.trans k4).new hp) (s4.kp (same_new hp _))
end
end K52

namespace K52
open PySem L2
abbrev sInv : Stmt := top 21
abbrev sPrices : Stmt := top 24
def spInv : Sp := fun vs H Q _ => ∃ (o : Addr) (w : List Int), vs = [.ref o] ∧ H o = some (tupI w) ∧ w.length ≤ 100 ∧ ∀ H' : Hp, Same H H' → Q (.int (inv w : Int)) H'
def spPrices : Sp := fun vs H Q _ => ∃ (d c : Addr) (n : Nat), vs = [.ref d, .int (n : Int)] ∧ Src H d c ∧ 2 ≤ n ∧ n ≤ 6 ∧
  ∀ (p : Addr) (ps : List Int) (H' : Hp), H p = none → H' p = some (lstI ps) → ps.length + 1 = n → (∀ x ∈ ps, 0 ≤ x ∧ x ≤ 1000000000000) → Kp [d, c] H H' → Src H' d c → Q (.ref p) H'
/-- the scope of the outer block of inversions, read off its text -/
def oInv : Scope := match defBody sInv with
  | [.Return (some (.Call _ [.ListComp _ _ block _] _ _)) _] => block
  | _ => defScope sInv
theorem sum_cast (f : Nat → Nat) : ∀ l : List Nat, (l.map fun a => (f a : Int)).sum = (((l.map f).sum : Nat) : Int)
  | [] => rfl
  | a :: r => by
    have ih := sum_cast f r
    simp only [List.map_cons, List.sum_cons, ih, Int.natCast_add]
def below (w : List Int) (a : Nat) (b : Nat) : Bool := decide (gd w a < gd w b)
theorem filt_snoc (g : Nat → Bool) (i : Nat) : ((List.range (i + 1)).filter g) = ((List.range i).filter g) ++ (if g i = true then [i] else []) := by
  rw [List.range_succ, List.filter_append]
  congr 1
  rw [List.filter_cons]
  split <;> rfl
theorem filt_len (g : Nat → Bool) (i : Nat) : ((List.range i).filter g).length ≤ i := by
  have a := List.length_filter_le g (List.range i)
  rwa [List.length_range] at a
def nI (l : List Nat) : List Int := l.map fun (i : Nat) => (i : Int)
theorem nI_snoc (l : List Nat) (j : Nat) : nI (l ++ [j]) = nI l ++ [(j : Int)] := by simp [nI]
section
variable {P : Program} {w : World} {K : PySem.W.Frag} {mg : Str → Option Value} {base : Heap}
theorem scInv : FnScope ["_law_order", "_law_a", "_law_b"] ["_law_order"] (defScope sInv) := ⟨rfl, rfl, rfl, by decide +kernel, rfl, by decide +kernel, by decide +kernel⟩
abbrev rGt : R2 := rI0 fun i j => .bl (decide (j < i))
theorem ok_inv {f : Addr} {fd : FuncData} (D : Df K mg "_law_inversions" sInv ["_law_order"] f fd) (B : Blt mg) : FnOk P w K mg base CX0 1 f fd ["_law_order"] spInv := by
  refine D.fn.ok scInv (fun vs H Q E h => ?_) (fun cdv A outer s H vs Q E hr h => ?_)
  · obtain ⟨o, ws, rfl, _⟩ := h
    rfl
  obtain ⟨o, ws, rfl, ho, hl, q⟩ := h
  refine ⟨_, pss_one (ps_ret (pe_callB (cr_sum rfl) rfl B.sum (by decide +kernel) (pa_cons (pe_lc (own := [("_law_a", 1)]) (g := gName 1) (tt := tYes)
      (te := tCB (Evl.rLenS K) (tCons (tLc (iRng1 (tCons (tVar 1) tNil)) (gName 2) (tTest (tOp rGt (tOp (rIxT K) (tVar 0) (tVar 2)) (tOp (rIxT K) (tVar 0) (tVar 1)))) (tVar 2) [2]) tNil))
      rfl scInv.nd (pi_range1 rfl B.range (pa_cons (pe_callB call_len_seq rfl B.len PySem.boot_len (pa_cons (pv 0) pa_nil)) pa_nil))
    (blkOk_by (N := ["_law_order", "_law_a", "_law_b"]) (sc := defScope sInv) (by decide +kernel)) (fun _ _ _ _ _ => pg_name (i := 1) scInv.nd rfl (Or.inr rfl))
    (fun _ _ _ _ _ => pts_nil)
    (fun _ _ _ _ _ => pe_callB (r := Evl.rLenS K) call_len_seq rfl B.len PySem.boot_len (pa_cons (pe_lc (own := [("_law_b", 2)]) (g := gName 2) (tt := tTest (tOp rGt (tOp (rIxT K) (tVar 0) (tVar 2)) (tOp (rIxT K) (tVar 0) (tVar 1)))) (te := tVar 2) rfl scInv.nd
      (pi_range1 rfl B.range (pa_cons (pv 1) pa_nil)) (blkOk_by (N := ["_law_order", "_law_a", "_law_b"]) (sc := relS oInv (defScope sInv)) (by decide +kernel)) (fun _ _ _ _ _ => pg_name (i := 2) scInv.nd rfl (Or.inl rfl))
      (fun _ _ _ _ _ => pts_one (pt_cmpR op_gt (pe_ix (r := rIxT K) ix_tup (pv 0) (pv 2) (fun _ _ => rfl)) (pe_ix (r := rIxT K) ix_tup (pv 0) (pv 1) (fun _ _ => rfl)) (nomark _))) (fun _ _ _ _ _ => pv 2)) pa_nil))) pa_nil))), ?_⟩
  have hlen : (ws.map V.int).length = ws.length := List.length_map _
  refine ⟨_, rfl, o, _, rfl, .inr (SqT.of ho), _, rfl, by rw [hlen]; omega, by rw [hlen]; omega, fun d hd => ?_⟩
  rw [hlen]
  refine lc_range (lo := 0) (n := ((ws.length : Nat) : Int).toNat) (fun i H' => Same H H' ∧ H' d = some (lstI ((List.range i).map fun a => (invAt ws a : Int)))) ⟨same_new hd _, upd_same⟩ ?_ ?_
  · rintro i H' hi ⟨hs, hd'⟩
    have hi' : i < ws.length := by omega
    refine ⟨rfl, ?_⟩
    refine yes_ ?_
    refine ⟨_, rfl, _, rfl, by omega, by omega, fun e he => ?_⟩
    have e0 : H e = none := same_back hs he
    have nde : d ≠ e := ne_of_none hd' he
    have ez : (0 + (i : Int)).toNat = i := by omega
    rw [ez]
    refine lc_range (lo := 0) (n := i) (fun j H2 => Same H' H2 ∧ H2 e = some (lstI (nI ((List.range j).filter (below ws i))))) ⟨same_new he _, upd_same⟩ ?_ ?_
    · rintro j H2 hj ⟨hs2, he2⟩
      have o2 := hs2 _ _ (hs _ _ ho)
      refine ⟨rfl, _, rfl, _, rfl, o, _, _, _, rfl, rfl, SqT.of o2, at_gd (i := j) (by omega) (by omega), _, rfl, _, rfl, o, _, _, _, rfl, rfl, SqT.of o2, at_gd (i := i) (by omega) (by omega), _, _, rfl, rfl, _, rfl, ?_⟩
      have eb : decide (gd ws i < gd ws j) = below ws i j := rfl
      refine ite2 (fun c => ?_) (fun c => ?_)
      · rw [eb] at c
        refine ⟨_, rfl, _, he2, ?_, Same.mut hs2 he, ?_⟩
        · rw [List.length_map, nI, List.length_map]
          have := filt_len (below ws i) j
          exact smallt (by omega)
        · rw [upd_same, filt_snoc, if_pos c, nI_snoc, lstI, List.map_append]
          have z : (0 : Int) + (j : Int) = (j : Int) := Int.zero_add _
          rw [z]
          rfl
      · rw [eb] at c
        refine ⟨hs2, ?_⟩
        rw [he2, filt_snoc, if_neg c, List.append_nil]
    · rintro H2 ⟨hs2, he2⟩
      refine ⟨e, _, rfl, .inl (SqL.of he2), _, hs2 _ _ hd', ?_, Same.mut (hs.trans hs2) hd, ?_⟩
      · rw [List.length_map, List.length_map, List.length_range]
        exact smallt (by omega)
      · rw [upd_same, List.range_succ, List.map_append, lstI, List.map_append, List.length_map, nI, List.length_map]
        rfl
  · rintro H' ⟨hs, hd'⟩
    have en : ((ws.length : Nat) : Int).toNat = ws.length := by omega
    rw [en] at hd'
    refine ⟨d, _, rfl, SqL.of hd', ?_⟩
    rw [sum_cast, inv_sum]
    exact q H' hs
theorem scPrices : FnScope ["_law_source_here", "_law_n", "_law_some", "_law_level"] ["_law_source_here", "_law_n"] (defScope sPrices) := ⟨rfl, rfl, rfl, by decide +kernel, rfl, by decide +kernel, by decide +kernel⟩
/-- a written list of prices -/
def PL (H H' : Hp) (x : V) : Prop := ∃ (q : Addr) (l : List Int), x = .ref q ∧ H q = none ∧ H' q = some (lstI l) ∧ 1 ≤ l.length ∧ l.length ≤ 4 ∧ ∀ z ∈ l, 0 ≤ z ∧ z ≤ 1000000000000
theorem ok_prices {f g e : Addr} {fd ed hd : FuncData} (D : Df K mg "_law_prices" sPrices ["_law_source_here", "_law_n"] f fd) (T : Df K mg "_law_pick" sPick ["_law_source_here", "_law_many"] g ed) (O : Df K mg "_law_of" sOf ["_law_source_here", "_law_some"] e hd) (B : Blt mg) :
    FnOk P w K mg base CX0 3 f fd ["_law_source_here", "_law_n"] spPrices := by
  have G : FnOk P w K mg base CX0 1 g ed ["_law_source_here", "_law_many"] spPick := ok_pick T B
  have GO : FnOk P w K mg base CX0 2 e hd ["_law_source_here", "_law_some"] (spOf K) := ok_of O T B
  refine D.fn.ok scPrices (fun vs H Q E h => ?_) (fun cdv A outer s H vs Q E hr h => ?_)
  · obtain ⟨d, c, n, rfl, _⟩ := h
    rfl
  obtain ⟨d, c, n, rfl, hs, hn2, hn6, q⟩ := h
  refine ⟨_, pss_cons (ps_set (i := 2) scPrices.nd rfl (Or.inr rfl) (pe_ix ix_list (pe_lst (pa_cons (pe_lst (pa_cons pe_int (pa_cons pe_int (pa_cons pe_int (pa_cons pe_int pa_nil))))) (pa_cons (pe_lst (pa_cons pe_int (pa_cons pe_int (pa_cons pe_int (pa_cons pe_int pa_nil)))))
      (pa_cons (pe_lst (pa_cons pe_int (pa_cons pe_int (pa_cons (pe_op op_pow pe_int pe_int) pa_nil)))) (pa_cons (pe_lst (pa_cons pe_int (pa_cons pe_int (pa_cons pe_int (pa_cons pe_int pa_nil))))) pa_nil)))))
      (pe_call G (hr.mono (by decide)) rfl T.mg T.fn.kp T.bs .nil pass0 (pa_cons (pv 0) (pa_cons pe_int pa_nil))) (fun _ _ => rfl)))
    (pss_one (ps_ret (pe_lc (own := [("_law_level", 3)]) (g := gName 3) (tt := tYes) (te := tCall (spOf K) [] E0 (tCons (tVar 0) (tCons (tVar 2) tNil))) rfl scPrices.nd (pi_range2 rfl B.range (pa_cons pe_int (pa_cons (pv 1) pa_nil)))
      (blkOk_by (N := ["_law_source_here", "_law_n", "_law_some", "_law_level"]) (sc := defScope sPrices) (by decide +kernel)) (fun _ _ _ _ _ => pg_name (i := 3) scPrices.nd rfl (Or.inl rfl)) (fun _ _ _ _ _ => pts_nil)
      (fun _ _ _ _ _ => pe_call GO hr rfl O.mg O.fn.kp O.bs .nil pass0 (pa_cons (pv 0) (pa_cons (pv 2) pa_nil)))))), ?_⟩
  refine ⟨by show 4 ≤ sizeLine; decide, fun p1 h1 => ?_⟩
  have s1 : Same H (upd H p1 (.lst ([0, 1, 2, 5].map V.int))) := same_new h1 _
  have t1 : (upd H p1 (.lst ([0, 1, 2, 5].map V.int))) p1 = some (lstI [0, 1, 2, 5]) := upd_same
  show tCons _ _ [some (.ref d), some (.int (n : Int)), none, none] (upd H p1 (.lst ([0, 1, 2, 5].map V.int))) _
  generalize upd H p1 (.lst ([0, 1, 2, 5].map V.int)) = H1 at *
  refine ⟨by show 4 ≤ sizeLine; decide, fun p2 h2 => ?_⟩
  have s2 : Same H1 (upd H1 p2 (.lst ([1, 1, 1, 3].map V.int))) := same_new h2 _
  have t2 : (upd H1 p2 (.lst ([1, 1, 1, 3].map V.int))) p2 = some (lstI [1, 1, 1, 3]) := upd_same
  show tCons _ _ [some (.ref d), some (.int (n : Int)), none, none] (upd H1 p2 (.lst ([1, 1, 1, 3].map V.int))) _
  generalize upd H1 p2 (.lst ([1, 1, 1, 3].map V.int)) = H2 at *
  refine ⟨_, _, rfl, rfl, ⟨by decide, by decide, by decide⟩, by show 3 ≤ sizeLine; decide, fun p3 h3 => ?_⟩
  have s3 : Same H2 (upd H2 p3 (.lst ([0, 0, 1000000000000].map V.int))) := same_new h3 _
  have t3 : (upd H2 p3 (.lst ([0, 0, 1000000000000].map V.int))) p3 = some (lstI [0, 0, 1000000000000]) := upd_same
  show tCons _ _ [some (.ref d), some (.int (n : Int)), none, none] (upd H2 p3 (.lst ([0, 0, 1000000000000].map V.int))) _
  generalize upd H2 p3 (.lst ([0, 0, 1000000000000].map V.int)) = H3 at *
  refine ⟨by show 4 ≤ sizeLine; decide, fun p4 h4 => ?_⟩
  have s4 : Same H3 (upd H3 p4 (.lst ([7, 11, 13, 1000].map V.int))) := same_new h4 _
  have t4 : (upd H3 p4 (.lst ([7, 11, 13, 1000].map V.int))) p4 = some (lstI [7, 11, 13, 1000]) := upd_same
  show tNil _ (upd H3 p4 (.lst ([7, 11, 13, 1000].map V.int))) _
  generalize upd H3 p4 (.lst ([7, 11, 13, 1000].map V.int)) = H4 at *
  refine ⟨by show 4 ≤ sizeLine; decide, fun p5 h5 => ?_⟩
  have s5 : Same H4 (upd H4 p5 (.lst [.ref p1, .ref p2, .ref p3, .ref p4])) := same_new h5 _
  have t5 : (upd H4 p5 (.lst [.ref p1, .ref p2, .ref p3, .ref p4])) p5 = some (.lst [.ref p1, .ref p2, .ref p3, .ref p4]) := upd_same
  generalize upd H4 p5 (.lst [.ref p1, .ref p2, .ref p3, .ref p4]) = H5 at *
  have s25 : Same H2 H5 := s3.trans (s4.trans s5)
  have s15 : Same H1 H5 := s2.trans s25
  have s05 : Same H H5 := s1.trans s15
  have z2 : H p2 = none := same_back s1 h2
  have z3 : H p3 = none := same_back (s1.trans s2) h3
  have z4 : H p4 = none := same_back (s1.trans (s2.trans s3)) h4
  have z5 : H p5 = none := same_back (s1.trans (s2.trans (s3.trans s4))) h5
  have all : ∀ x ∈ ([.ref p1, .ref p2, .ref p3, .ref p4] : List V), PL H H5 x := by
    intro x hx
    have hx : x = .ref p1 ∨ x = .ref p2 ∨ x = .ref p3 ∨ x = .ref p4 := by simpa using hx
    rcases hx with rfl | rfl | rfl | rfl
    · exact ⟨p1, _, rfl, h1, s15 _ _ t1, by decide, by decide, by decide⟩
    · exact ⟨p2, _, rfl, z2, s25 _ _ t2, by decide, by decide, by decide⟩
    · exact ⟨p3, _, rfl, z3, s5 _ _ (s4 _ _ t3), by decide, by decide, by decide⟩
    · exact ⟨p4, _, rfl, z4, s5 _ _ t4, by decide, by decide, by decide⟩
  have sr5 := hs.kp s05
  refine ⟨_, rfl, d, c, 4, rfl, sr5, by decide, by decide, fun r H6 r0 r1 k6 s6 => ?_⟩
  obtain ⟨n5, m5⟩ := hs.dnew z5
  have hr4 : r.toNat < ([.ref p1, .ref p2, .ref p3, .ref p4] : List V).length := by show r.toNat < 4; omega
  obtain ⟨qa, l, ex, zq, hq, l1, l4, lb⟩ := all _ (List.getElem_mem hr4)
  obtain ⟨nq, mq⟩ := hs.dnew zq
  refine ⟨p5, _, r, _, rfl, rfl, SqL.of (k6 _ _ t5 (not2 n5 m5)), at_of (j := r.toNat) (by omega) (List.getElem?_eq_getElem hr4), ?_⟩
  rw [ex]
  have k06 : Kp [d, c] H H6 := (Kp.of s05).trans k6
  have hq6 := k6 _ _ hq (not2 nq mq)
  refine ⟨_, rfl, 1, _, rfl, by omega, fun dd hdd => ?_⟩
  have h0 : H dd = none := by
    obtain ⟨a, b⟩ := s6.dnew hdd
    exact k06.free hdd (not2 a b)
  obtain ⟨ndd, mdd⟩ := hs.dnew h0
  have ndq : dd ≠ qa := (ne_of_none hq6 hdd).symm
  refine lc_range (lo := 1) (n := ((n : Int) - 1).toNat) (fun i H' => i + 1 ≤ n ∧ Kp [d, c] H H' ∧ Src H' d c ∧ H' qa = some (lstI l) ∧ ∃ ps : List Int, H' dd = some (lstI ps) ∧ ps.length = i ∧ ∀ x ∈ ps, 0 ≤ x ∧ x ≤ 1000000000000)
    ⟨by omega, k06.new hdd, s6.kp (same_new hdd _), by rw [upd_ne ndq.symm]; exact hq6, [], upd_same, rfl, fun x hx => by cases hx⟩ ?_ ?_
  · rintro i H' hi ⟨hi', kp, sr, hql, ps, e1, e2, e3⟩
    refine ⟨rfl, ?_⟩
    refine yes_ ?_
    refine ⟨_, rfl, _, rfl, d, c, qa, l.map V.int, rfl, sr, hql, mq, by rw [List.length_map]; omega, by rw [List.length_map]; omega, fun x H2 hx k s2' => ?_⟩
    obtain ⟨z, hz, rfl⟩ := List.mem_map.mp hx
    refine ⟨_, k _ _ e1 (not2 ndd mdd), ?_, by omega, (kp.trans k).mut (.inr h0), ?_, ?_, ps ++ [z], ?_, by rw [List.length_append, e2]; rfl, fun y hy => ?_⟩
    · rw [List.length_map, e2]
      exact smallt (by omega)
    · obtain ⟨l', m, t, cells, a1, a2⟩ := s2'
      exact ⟨l', m, t, cells, by rw [upd_ne ndd.symm]; exact a1, by rw [upd_ne mdd.symm]; exact a2⟩
    · rw [upd_ne ndq.symm]
      exact k _ _ hql (not2 nq mq)
    · rw [upd_same, lstI, List.map_append]
      rfl
    · rcases List.mem_append.mp hy with m | m
      · exact e3 y m
      · rw [List.mem_singleton.mp m]
        exact lb z hz
  · rintro H' ⟨_, kp, sr, hql, ps, e1, e2, e3⟩
    exact q dd ps H' h0 e1 (by omega) e3 kp sr
end
end K52

namespace K52
open PySem L2
abbrev sRow : Stmt := top 25
abbrev sVerdict : Stmt := top 26
theorem Src.up {H : Hp} {d c x : Addr} {o : HO} (s : Src H d c) (h1 : x ≠ d) (h2 : x ≠ c) : Src (upd H x o) d c := by
  obtain ⟨l, m, t, cells, a1, a2⟩ := s
  exact ⟨l, m, t, cells, by rw [upd_ne h1.symm]; exact a1, by rw [upd_ne h2.symm]; exact a2⟩
def spRow : Sp := fun vs H Q _ => ∃ (d c o : Addr) (n : Nat) (w : List Int), vs = [.ref d, .ref o] ∧ Src H d c ∧ H o = some (tupI w) ∧ Ok n w ∧ 1 ≤ n ∧ n ≤ 6 ∧
  ∀ (p : Addr) (r : List Nat) (H' : Hp), H p = none → H' p = some (lstI (lv r)) → Row w r → Kp [d, c] H H' → Src H' d c → Q (.ref p) H'
def spVerdict : Sp := fun vs H Q _ => ∃ (o v : Addr) (n : Nat) (w : List Int) (r : List Nat), vs = [.ref o, .ref v] ∧ H o = some (tupI w) ∧ Ok n w ∧ 1 ≤ n ∧ n ≤ 6 ∧ H v = some (lstI (lv r)) ∧ Row w r ∧ r.length ≤ 1000 ∧ ∀ H' : Hp, Same H H' → Q .non H'
theorem inv_le_n {n : Nat} {w : List Int} (h : Ok n w) : inv w ≤ n * n := by
  have a := inv_le w
  rw [h.1] at a
  exact a
theorem flat_ints (l : List Int) : (l.map V.int).all flatV = true := by
  induction l with
  | nil => rfl
  | cons a r ih => rw [List.map_cons, List.all_cons, ih]; rfl
theorem in_ints {l : List Int} {x : Int} (h : x ∈ l) : inV (.int x) (l.map V.int) = true := by
  unfold inV
  rw [List.any_map]
  exact List.any_eq_true.mpr ⟨x, h, by show (x == x) = true; exact beq_self_eq_true x⟩
section
variable {P : Program} {w : World} {K : PySem.W.Frag} {mg : Str → Option Value} {base : Heap}
theorem scRow : FnScope ["_law_source_here", "_law_order", "_law_found", "_law_lap"] ["_law_source_here", "_law_order"] (defScope sRow) := ⟨rfl, rfl, rfl, by decide +kernel, rfl, by decide +kernel, by decide +kernel⟩
/-- what the law's own defs need of the module -/
structure Lw (P : Program) (w : World) (K : PySem.W.Frag) (mg : Str → Option Value) (base : Heap) where
  B : Blt mg
  fS : Addr
  dS : FuncData
  S : Df K mg "_law_steps" sLSteps ["_law_order"] fS dS
  GS : FnOk P w K mg base CX0 1 fS dS ["_law_order"] spSteps
  fT : Addr
  dT : FuncData
  T : Df K mg "_law_stepped" sLStepped ["_law_order", "_law_level"] fT dT
  GT : FnOk P w K mg base CX0 1 fT dT ["_law_order", "_law_level"] spStepped
theorem ok_row {f e : Addr} {fd ed : FuncData} (D : Df K mg "_law_drawn_row" sRow ["_law_source_here", "_law_order"] f fd) (M : Lw P w K mg base) (O : Df K mg "_law_of" sOf ["_law_source_here", "_law_some"] e ed) (GO : FnOk P w K mg base CX0 2 e ed ["_law_source_here", "_law_some"] (spOf K)) :
    FnOk P w K mg base CX0 3 f fd ["_law_source_here", "_law_order"] spRow := by
  refine D.fn.ok scRow (fun vs H Q E h => ?_) (fun cdv A outer s H vs Q E hr h => ?_)
  · obtain ⟨d, c, o, n, ws, rfl, _⟩ := h
    rfl
  obtain ⟨d, c, o, n, ws, rfl, hs, ho, hw, hn1, hn6, q⟩ := h
  have hr1 : Room 1 _ := hr.mono (by decide)
  refine ⟨_, pss_cons (ps_set (i := 2) scRow.nd rfl (Or.inl rfl) (pe_lst pa_nil))
    (pss_cons (ps_for PassesOwn.never rfl (pi_range1 rfl M.B.range (pa_cons (pe_op op_mul (pe_callB call_len_seq rfl M.B.len PySem.boot_len (pa_cons (pv 1) pa_nil)) (pe_callB call_len_seq rfl M.B.len PySem.boot_len (pa_cons (pv 1) pa_nil))) pa_nil)) (pg_name (i := 3) scRow.nd rfl (Or.inl rfl))
      (pss_one (ps_if (pt_cmpR (op_neD hr.units) (pe_call M.GS hr1 rfl M.S.mg M.S.fn.kp M.S.bs .nil pass0 (pa_cons (pv 1) pa_nil)) (pe_lst pa_nil) (nomark _))
        (pss_cons (ps_expr (pe_bm PySem.F.plainAttrs_list PySem.F.slot_list_append PySem.F.type_list_append mt_append (pv 2) (pa_cons (pe_call GO hr rfl O.mg O.fn.kp O.bs .nil pass0 (pa_cons (pv 0) (pa_cons (pe_call M.GS hr1 rfl M.S.mg M.S.fn.kp M.S.bs .nil pass0 (pa_cons (pv 1) pa_nil)) pa_nil))) pa_nil)))
        (pss_one (ps_set (i := 1) scRow.nd rfl (Or.inl rfl) (pe_call M.GT hr1 rfl M.T.mg M.T.fn.kp M.T.bs .nil pass0 (pa_cons (pv 1) (pa_cons (pe_ix ix_list (pv 2) (pe_un un_neg pe_int) (fun _ _ => rfl)) pa_nil)))))) pss_nil)))
    (pss_one (ps_ret (pv 2)))), ?_⟩
  refine ⟨Nat.zero_le _, fun fo hfo => ?_⟩
  have s1 : Same H (upd H fo (.lst [])) := same_new hfo _
  have t1 : (upd H fo (.lst [])) fo = some (lstI (lv [])) := upd_same
  generalize upd H fo (.lst []) = H1 at *
  obtain ⟨nfd, nfc⟩ := hs.dnew hfo
  have hlen : (ws.map V.int).length = n := by rw [List.length_map]; exact hw.1
  have hnn : n * n ≤ 36 := Nat.mul_le_mul hn6 hn6
  have ecast : ((n : Int) * (n : Int)) = ((n * n : Nat) : Int) := (Int.natCast_mul n n).symm
  refine ⟨_, rfl, o, _, rfl, .inr (SqT.of (s1 _ _ ho)), _, rfl, o, _, rfl, .inr (SqT.of (s1 _ _ ho)), _, _, rfl, rfl, ?_, _, rfl, ?_, ?_, ?_⟩
  · rw [hlen]; exact .inl ⟨by omega, by omega⟩
  · rw [hlen, ecast]; omega
  · rw [hlen, ecast]; omega
  rw [hlen, ecast]
  refine for_range (lo := 0) (n := ((n * n : Nat) : Int).toNat) (fun i σ H' => ∃ (o' : Addr) (w' : List Int) (z : Option V) (dn : List Nat), σ = [some (.ref d), some (.ref o'), some (.ref fo), z] ∧ Kp [d, c] H H' ∧ Src H' d c ∧ H' o' = some (tupI w') ∧ Ok n w' ∧ H' fo = some (lstI (lv dn)) ∧
      (inv w' + i ≤ n * n ∨ stepsN w' = []) ∧ dn.length ≤ i ∧ ∀ r, Row w' r → Row ws (dn ++ r))
    ⟨o, ws, none, [], rfl, Kp.of s1, hs.kp s1, s1 _ _ ho, hw, t1, .inl (inv_le_n hw), Nat.le_refl _, fun r h => h⟩ ?_ ?_
  · rintro i σ H' hi ⟨o', w', z, dn, rfl, kp, sr, ho', hw', hf, hin, hdn, hrow⟩
    have hl' : w'.length ≤ 100 := by rw [hw'.1]; omega
    have hl1 : 1 ≤ w'.length := by rw [hw'.1]; exact hn1
    refine ⟨_, rfl, o', w', rfl, ho', hl', hl1, fun st H2 hst s2 t2 => ?_⟩
    refine ⟨Nat.zero_le _, fun em hem => ?_⟩
    have s3 := same_new hem (.lst [])
    have t3 : (upd H2 em (.lst [])) em = some (lstI []) := upd_same
    generalize upd H2 em (.lst []) = H3 at *
    refine ne_nil (s3 _ _ t2) t3 ⟨_, rfl, ?_⟩
    have s23 : Same H' H3 := s2.trans s3
    by_cases es : stepsN w' = []
    · rw [es]
      refine iteF ?_
      exact ⟨o', w', _, dn, rfl, kp.trans (Kp.of s23), sr.kp s23, s23 _ _ ho', hw', s23 _ _ hf, .inr es, by omega, hrow⟩
    · have ne : (!(lv (stepsN w')).isEmpty) = true := by
        rw [lv_nil]
        cases e : stepsN w' with
        | nil => exact absurd e es
        | cons a b => rfl
      rw [ne]
      refine iteT ?_
      have f3 := s23 _ _ hf
      refine ⟨_, rfl, .inl ⟨rfl, _, SqL.of f3⟩, _, rfl, _, rfl, o', w', rfl, s23 _ _ ho', hl', hl1, fun st2 H4 hst2 s4 t4 => ?_⟩
      have s24 : Same H' H4 := s23.trans s4
      have nst : st2 ≠ c := ((sr.kp s23).dnew hst2).2
      have hsl : ((lv (stepsN w')).map V.int).length = (stepsN w').length := by rw [List.length_map, lv_len]
      have pos : 1 ≤ (stepsN w').length := by
        cases e : stepsN w' with
        | nil => exact absurd e es
        | cons a b => simp
      have sl := steps_len w'
      refine ⟨d, c, st2, _, rfl, sr.kp s24, t4, nst, by rw [hsl]; exact pos, by rw [hsl]; omega, fun x H5 hx k5 s5 => ?_⟩
      obtain ⟨y, hy, rfl⟩ := List.mem_map.mp hx
      obtain ⟨j, hj, rfl⟩ := List.mem_map.mp hy
      have hjs := mem_stepsN.mp hj
      have f5 : H5 fo = some (lstI (lv dn)) := k5 _ _ (s4 _ _ f3) (not2 nfd nfc)
      have nod : o' ≠ d := sr.dne ho' (by intro _ z; cases z)
      have noc : o' ≠ c := sr.cne ho' (by intro _ z; cases z)
      have o5 : H5 o' = some (tupI w') := k5 _ _ (s24 _ _ ho') (not2 nod noc)
      have kp5 : Kp [d, c] H H5 := (kp.trans (Kp.of s24)).trans k5
      refine ⟨fo, _, _, rfl, rfl, f5, ?_, ?_⟩
      · rw [List.length_map, lv_len]
        have : i < 36 := by omega
        exact smallt (by omega)
      have kp6 : Kp [d, c] H (upd H5 fo (.lst ((lv dn).map V.int ++ [V.int ((j : Int) + 1)]))) := kp5.mut (.inr hfo)
      have sr6 : Src (upd H5 fo (.lst ((lv dn).map V.int ++ [V.int ((j : Int) + 1)]))) d c := s5.up nfd nfc
      have f6 : (upd H5 fo (.lst ((lv dn).map V.int ++ [V.int ((j : Int) + 1)]))) fo = some (.lst ((lv dn).map V.int ++ [V.int ((j : Int) + 1)])) := upd_same
      have f6' : (upd H5 fo (.lst ((lv dn).map V.int ++ [V.int ((j : Int) + 1)]))) fo = some (lstI (lv (dn ++ [j]))) := by
        rw [upd_same, lv_snoc, lstI, List.map_append]
        rfl
      have o6 : (upd H5 fo (.lst ((lv dn).map V.int ++ [V.int ((j : Int) + 1)]))) o' = some (tupI w') := by
        rw [upd_ne (ne_of o5 f5 (by intro z; cases z))]
        exact o5
      generalize upd H5 fo (.lst ((lv dn).map V.int ++ [V.int ((j : Int) + 1)])) = H6 at *
      refine ⟨_, rfl, _, rfl, _, rfl, fo, _, _, _, rfl, rfl, SqL.of f6, atI_last _ _, ?_⟩
      refine ⟨o', w', j, rfl, o6, hl', hjs.1, fun t H7 ht s7 t7 => ?_⟩
      have iv := inv_step hj
      refine ⟨t, sw w' j, _, dn ++ [j], rfl, kp6.trans (Kp.of s7), sr6.kp s7, t7, hw'.sw hj, s7 _ _ f6', .inl ?_, by rw [List.length_append, List.length_singleton]; omega, fun r h => ?_⟩
      · rcases hin with h | h
        · omega
        · exact absurd h es
      · rw [List.append_assoc]
        exact hrow (j :: r) ⟨hj, h⟩
  · rintro σ H' ⟨o', w', z, dn, rfl, kp, sr, ho', hw', hf, hin, hdn, hrow⟩
    have es : stepsN w' = [] := by
      rcases hin with h | h
      · apply List.eq_nil_iff_forall_not_mem.mpr
        intro j hj
        have iv := inv_step hj
        omega
      · exact h
    have z := hrow [] es
    rw [List.append_nil] at z
    exact ⟨_, rfl, q fo dn H' hfo hf z kp sr⟩
theorem scVerdict : FnScope ["_law_order", "_law_value", "_law_k"] ["_law_order", "_law_value"] (defScope sVerdict) := ⟨rfl, rfl, rfl, by decide +kernel, rfl, by decide +kernel, by decide +kernel⟩
theorem ok_verdict {f : Addr} {fd : FuncData} (D : Df K mg "_law_verdict" sVerdict ["_law_order", "_law_value"] f fd) (M : Lw P w K mg base) : FnOk P w K mg base CX0 2 f fd ["_law_order", "_law_value"] spVerdict := by
  refine D.fn.ok scVerdict (fun vs H Q E h => ?_) (fun cdv A outer s H vs Q E hr h => ?_)
  · obtain ⟨o, v, n, ws, r, rfl, _⟩ := h
    rfl
  obtain ⟨o, v, n, ws, r, rfl, ho, hw, hn1, hn6, hv, hrow, hl, q⟩ := h
  refine ⟨_, pss_cons (ps_if (pt_not (pt_val (pe_callB call_isiT rfl M.B.isinstance (by decide +kernel) (pa_cons (pv 1) (pa_cons (pe_tup (pa_cons (pe_bltn (v := .ty "list") rfl M.B.list (by decide +kernel) rfl) (pa_cons (pe_bltn (v := .ty "tuple") rfl M.B.tuple (by decide +kernel) rfl) pa_nil))) pa_nil))))) (pss_one ps_never) pss_nil)
    (pss_cons (ps_for PassesOwn.never rfl (pi_range1 rfl M.B.range (pa_cons (pe_callB call_len_seq rfl M.B.len PySem.boot_len (pa_cons (pv 1) pa_nil)) pa_nil)) (pg_name (i := 2) scVerdict.nd rfl (Or.inl rfl))
      (pss_cons (ps_if (PW.pt (pw_or (pt_not (pt_val (pe_callB call_isi rfl M.B.isinstance (by decide +kernel) (pa_cons (pe_ix ix_list (pv 1) (pv 2) (fun _ _ => rfl)) (pa_cons (pe_bltn (v := .ty "int") rfl M.B.int (by decide +kernel) rfl) pa_nil)))))
          (pw_or (pt_val (pe_callB call_isi rfl M.B.isinstance (by decide +kernel) (pa_cons (pe_ix ix_list (pv 1) (pv 2) (fun _ _ => rfl)) (pa_cons (pe_bltn (v := .ty "bool") rfl M.B.bool (by decide +kernel) rfl) pa_nil))))
            (pw_or1 (pt_cmpR op_notIn_seq (pe_ix ix_list (pv 1) (pv 2) (fun _ _ => rfl)) (pe_call M.GS hr rfl M.S.mg M.S.fn.kp M.S.bs .nil pass0 (pa_cons (pv 0) pa_nil)) (by rfl)))))) (pss_one ps_never) pss_nil)
      (pss_one (ps_set (i := 0) scVerdict.nd rfl (Or.inl rfl) (pe_call M.GT hr rfl M.T.mg M.T.fn.kp M.T.bs .nil pass0 (pa_cons (pv 0) (pa_cons (pe_ix ix_list (pv 1) (pv 2) (fun _ _ => rfl)) pa_nil)))))))
    (pss_one (ps_ret (pe_ifExp (pt_cmpR (op_eqD hr.units) (pe_call M.GS hr rfl M.S.mg M.S.fn.kp M.S.bs .nil pass0 (pa_cons (pv 0) pa_nil)) (pe_lst pa_nil) (nomark _)) pe_non
      (pe_tup (pa_cons pe_str (pa_cons (pe_callB call_len_seq rfl M.B.len PySem.boot_len (pa_cons (pv 1) pa_nil)) pa_nil))))))), ?_⟩
  refine ⟨_, rfl, by show 2 ≤ sizeLine; decide, fun tp htp => ?_⟩
  have s1 : Same H (upd H tp (.tup [.ty "list", .ty "tuple"])) := same_new htp _
  have t1 : (upd H tp (.tup [.ty "list", .ty "tuple"])) tp = some (.tup [.ty "list", .ty "tuple"]) := upd_same
  generalize upd H tp (.tup [.ty "list", .ty "tuple"]) = H1 at *
  refine ⟨_, tp, _, _, _, true, rfl, t1, .cons (.ty "list") (.cons (.ty "tuple") .nil), .base (.lst (s1 _ _ hv)), kitAny_cons (b := true) (kit_ty (by decide +kernel)) (fun z => by cases z) (fun _ => rfl), true, rfl, ?_⟩
  refine iteF ?_
  have hlen : ((lv r).map V.int).length = r.length := by rw [List.length_map, lv_len]
  refine ⟨_, rfl, v, _, rfl, .inl (SqL.of (s1 _ _ hv)), _, rfl, by rw [hlen]; omega, by rw [hlen]; omega, ?_⟩
  rw [hlen]
  refine for_range (lo := 0) (n := ((r.length : Nat) : Int).toNat) (fun i σ H' => ∃ (o' : Addr) (w' : List Int) (z : Option V), σ = [some (.ref o'), some (.ref v), z] ∧ Same H H' ∧ H' o' = some (tupI w') ∧ Ok n w' ∧ Row w' (r.drop i))
    ⟨o, ws, none, rfl, s1, s1 _ _ ho, hw, hrow⟩ ?_ ?_
  · rintro i σ H' hi ⟨o', w', z, rfl, sm, ho', hw', hrw⟩
    have hir : i < r.length := by omega
    have hl' : w'.length ≤ 100 := by rw [hw'.1]; omega
    have hl1 : 1 ≤ w'.length := by rw [hw'.1]; exact hn1
    rw [List.drop_eq_getElem_cons hir] at hrw
    obtain ⟨hj, hrw'⟩ := hrw
    generalize ej : r[i] = j at *
    have hat : atI ((lv r).map V.int) (0 + (i : Int)) = some (.int ((j : Int) + 1)) := by
      refine at_of (j := i) (by omega) ?_
      rw [List.getElem?_map, lv, List.getElem?_map, List.getElem?_eq_getElem hir, ej]
      rfl
    have hv' := sm _ _ hv
    have hjs := mem_stepsN.mp hj
    refine ⟨_, rfl, _, rfl, v, _, _, _, rfl, rfl, SqL.of hv', hat, _, _, _, _, true, rfl, .ty "int", .base (.int _), kit_ty (by decide +kernel), true, rfl, ?_⟩
    refine iteF ?_
    refine ⟨_, rfl, _, rfl, v, _, _, _, rfl, rfl, SqL.of hv', hat, _, _, _, _, false, rfl, .ty "bool", .base (.int _), kit_ty (by decide +kernel), false, rfl, ?_⟩
    refine iteF ?_
    refine ⟨_, rfl, _, rfl, v, _, _, _, rfl, rfl, SqL.of hv', hat, _, rfl, o', w', rfl, ho', hl', hl1, fun st H2 hst s2 t2 => ?_⟩
    have mem : ((j : Int) + 1) ∈ lv (stepsN w') := List.mem_map.mpr ⟨j, hj, rfl⟩
    refine ⟨st, _, rfl, .inl (SqL.of t2), rfl, flat_ints _, false, by rw [in_ints mem]; rfl, ?_⟩
    refine iteF ?_
    refine ⟨_, rfl, _, rfl, _, rfl, v, _, _, _, rfl, rfl, SqL.of (s2 _ _ hv'), hat, ?_⟩
    refine ⟨o', w', j, rfl, s2 _ _ ho', hl', hjs.1, fun t H3 ht s3 t3 => ?_⟩
    exact ⟨t, sw w' j, _, rfl, sm.trans (s2.trans s3), t3, hw'.sw hj, hrw'⟩
  · rintro σ H' ⟨o', w', z, rfl, sm, ho', hw', hrw⟩
    have en : ((r.length : Nat) : Int).toNat = r.length := by omega
    rw [en, List.drop_length] at hrw
    have es : stepsN w' = [] := hrw
    have hl' : w'.length ≤ 100 := by rw [hw'.1]; omega
    have hl1 : 1 ≤ w'.length := by rw [hw'.1]; exact hn1
    refine ⟨_, rfl, o', w', rfl, ho', hl', hl1, fun st H2 hst s2 t2 => ?_⟩
    refine ⟨Nat.zero_le _, fun em hem => ?_⟩
    have s3 := same_new hem (.lst [])
    have t3 : (upd H2 em (.lst [])) em = some (lstI []) := upd_same
    generalize upd H2 em (.lst []) = H3 at *
    refine eq_nil (s3 _ _ t2) t3 ⟨_, rfl, ?_⟩
    rw [es]
    refine iteT ?_
    exact q H3 (sm.trans (s2.trans s3))
end
end K52

namespace K52
open PySem L2
abbrev sTriple : Stmt := top 27
abbrev sExt : Stmt := top 28
abbrev sRight : Stmt := top 29
/-! ### the law's own going: a sign before the prices -/
def sc (s : Int) (p : List Int) : List Int := p.map fun x => s * x
def Xv (s : Int) (p w : List Int) : Int := s * L (sc s p) w
theorem gd_sc (s : Int) (p : List Int) (i : Nat) : gd (sc s p) i = s * gd p i := by
  unfold sc
  rw [gd_map (by omega)]
theorem sc_one (p : List Int) : sc 1 p = p := by
  unfold sc
  have : (fun x : Int => 1 * x) = id := by
    funext x
    exact Int.one_mul x
  rw [this, List.map_id]
theorem Xv_one (p w : List Int) : Xv 1 p w = L p w := by
  unfold Xv
  rw [sc_one, Int.one_mul]
theorem sc_neg (p : List Int) : sc (-1) p = neg p := by
  unfold sc neg
  apply List.map_congr_left
  intro x _
  omega
theorem Xv_neg (p w : List Int) : Xv (-1) p w = 0 - L (neg p) w := by
  unfold Xv
  rw [sc_neg]
  omega
theorem Xv_item {s : Int} (h : s = 1 ∨ s = -1) (p w : List Int) (i : Nat) : s * (gd p i + Xv s p w) = gd (sc s p) i + L (sc s p) w := by
  rw [gd_sc]
  unfold Xv
  rcases h with rfl | rfl
  · rw [Int.one_mul, Int.one_mul, Int.one_mul]
  · omega
def spExt (K : PySem.W.Frag) (k : Nat) : Sp := fun vs H Q _ => ∃ (o pr kn : Addr) (n : Nat) (s : Int) (w p : List Int) (kvs : List (List Key × V)), vs = [.ref o, .ref pr, .int s, .ref kn] ∧ (s = 1 ∨ s = -1) ∧ Opr H n o pr w p ∧ inv w < k ∧
  H kn = some (.dT kvs) ∧ Good n (Xv s p) kvs ∧ ∀ (H' : Hp) (kvs' : List (List Key × V)), Kp [kn] H H' → H' kn = some (.dT kvs') → Good n (Xv s p) kvs' → Q (.int (Xv s p w)) H'
def spRight : Sp := fun vs H Q _ => ∃ (o pr tl kn : Addr) (n : Nat) (w p : List Int) (r : List Nat) (kvs : List (List Key × V)), vs = [.ref o, .ref pr, .ref tl, .ref kn] ∧ Opr H n o pr w p ∧ H tl = some (lstI (lv r)) ∧ Row w r ∧ First p w r ∧
  H kn = some (.dT kvs) ∧ Good n (Xv 1 p) kvs ∧ ∀ H' : Hp, Kp [kn] H H' → Q (.bl true) H'
section
variable {P : Program} {w : World} {K : PySem.W.Frag} {mg : Str → Option Value} {base : Heap}
theorem scExt : FnScope ["_law_order", "_law_prices_here", "_law_sign", "_law_known", "_law_some", "_law_level"] ["_law_order", "_law_prices_here", "_law_sign", "_law_known"] (defScope sExt) := ⟨rfl, rfl, rfl, by decide +kernel, rfl, by decide +kernel, by decide +kernel⟩
theorem ext_step {f : Addr} {fd : FuncData} {k : Nat} (D : Df K mg "_law_extreme" sExt ["_law_order", "_law_prices_here", "_law_sign", "_law_known"] f fd) (M : Lw P w K mg base) (G : FnOk P w K mg base CX0 (k + 1) f fd ["_law_order", "_law_prices_here", "_law_sign", "_law_known"] (spExt K k)) :
    FnOk P w K mg base CX0 (k + 2) f fd ["_law_order", "_law_prices_here", "_law_sign", "_law_known"] (spExt K (k + 1)) := by
  refine D.fn.ok scExt (fun vs H Q E h => ?_) (fun cdv A outer s H vs Q E hr h => ?_)
  · obtain ⟨o, pr, kn, n, s, w, p, kvs, rfl, _⟩ := h
    rfl
  obtain ⟨o, pr, kn, n, sg, ws, p, kvs, rfl, hsg, ho, hk, hkn, g, q⟩ := h
  have hu := hu_of hr
  have hr1 : Room 1 _ := hr.mono (by omega)
  have hn6 := ho.n6
  have hpl := ho.pl
  have hwl := ho.ok.1
  have hl : ws.length ≤ 100 := by omega
  have hl1 : 1 ≤ ws.length := by rw [hwl]; exact ho.n1
  have hsb : -(2 ^ 64) < sg ∧ sg < 2 ^ 64 := by rcases hsg with rfl | rfl <;> exact ⟨by decide, by decide⟩
  refine ⟨_, pss_cons (ps_if (pt_cmp (pc_dnotin hu (pv 0) (pv 3)))
      (pss_cons (ps_set (i := 4) scExt.nd rfl (Or.inl rfl) (pe_lst pa_nil))
      (pss_cons (ps_for PassesOwn.never rfl (pi_list (pe_call M.GS hr1 rfl M.S.mg M.S.fn.kp M.S.bs .nil pass0 (pa_cons (pv 0) pa_nil))) (pg_name (i := 5) scExt.nd rfl (Or.inl rfl))
        (pss_one (ps_expr (pe_bm PySem.F.plainAttrs_list PySem.F.slot_list_append PySem.F.type_list_append mt_append (pv 4) (pa_cons (pe_op op_mul (pv 2) (pe_op op_add (pe_ix ix_list (pv 1) (pe_op op_sub (pv 5) pe_int) (fun _ _ => rfl))
          (pe_call G hr rfl D.mg D.fn.kp D.bs .nil pass0 (pa_cons (pe_call M.GT hr1 rfl M.T.mg M.T.fn.kp M.T.bs .nil pass0 (pa_cons (pv 0) (pa_cons (pv 5) pa_nil))) (pa_cons (pv 1) (pa_cons (pv 2) (pa_cons (pv 3) pa_nil))))))) pa_nil)))))
      (pss_one (ps_dput hu (pv 3) (pv 0) (pe_ifExp (pt_cmpR (op_neD hr.units) (pv 4) (pe_lst pa_nil) (nomark _)) (pe_op op_mul (pv 2) (pe_callB (cr_min rfl) rfl M.B.min (by decide +kernel) (pa_cons (pv 4) pa_nil))) pe_int) rfl)))) pss_nil)
    (pss_one (ps_ret (pe_dget hu (pv 3) (pv 0) (fun _ _ => rfl)))), ?_⟩
  have ho' : H o = some (.tup ((ky ws).map kV)) := by rw [ky_kV]; exact ho.ho
  have nok : o ≠ kn := ne_of ho.ho hkn (by intro z; cases z)
  refine ⟨_, rfl, _, rfl, kn, _, rfl, DGet.t hkn ho', _, rfl, ?_⟩
  cases e : valV kvs (ky ws) with
  | some v =>
    refine iteF ?_
    have ev := g.get e
    subst ev
    refine ⟨_, rfl, _, rfl, kn, _, rfl, ?_, q H kvs (Kp.refl _ _) hkn g⟩
    rw [← e]
    exact DGet.t hkn ho'
  | none =>
    refine iteT ?_
    refine ⟨Nat.zero_le _, fun sm hsm => ?_⟩
    have k1 : Kp [kn] H (upd H sm (.lst [])) := (Kp.refl _ _).new hsm
    have t1 : (upd H sm (.lst [])) sm = some (lstI []) := upd_same
    have nsk : sm ≠ kn := (ne_of_none hkn hsm).symm
    have kk1 : (upd H sm (.lst [])) kn = some (.dT kvs) := by rw [upd_ne nsk.symm]; exact hkn
    have o1 : Opr (upd H sm (.lst [])) n o pr ws p := ho.mono (same_new hsm _)
    generalize upd H sm (.lst []) = H1 at *
    refine ⟨_, rfl, o, ws, rfl, o1.ho, hl, hl1, fun st H2 hst s2 t2 => ?_⟩
    have nst : st ≠ sm := (ne_of_none t1 hst).symm
    have nstk : st ≠ kn := (ne_of_none kk1 hst).symm
    refine ⟨st, rfl, ⟨_, SqL.of t2⟩, for_list (K := K) (a := st) (xs := (lv (stepsN ws)).map V.int) (fun i σ H' => ∃ (x : Option V) (kvs' : List (List Key × V)), σ = [some (.ref o), some (.ref pr), some (.int sg), some (.ref kn), some (.ref sm), x] ∧ Kp [kn] H H' ∧ Opr H' n o pr ws p ∧
        H' st = some (lstI (lv (stepsN ws))) ∧ H' sm = some (lstI (((stepsN ws).take i).map fun i => gd (sc sg p) i + L (sc sg p) (sw ws i))) ∧ H' kn = some (.dT kvs') ∧ Good n (Xv sg p) kvs')
      ⟨none, kvs, rfl, k1.trans (Kp.of s2), o1.mono s2, t2, s2 _ _ t1, s2 _ _ kk1, g⟩ (fun i σ H' _ ⟨_, _, _, _, _, a, _⟩ => SqL.of a) ?_ ?_⟩
    · rintro i y σ H' hi ⟨x, kvs', rfl, kp, oh, a1, a2, a3, g'⟩
      obtain ⟨j, hj, rfl⟩ := lv_get hi
      have hjm : j ∈ stepsN ws := List.mem_of_getElem? hj
      have hjs := mem_stepsN.mp hjm
      have hil : i < (stepsN ws).length := (List.getElem?_eq_some_iff.mp hj).1
      refine ⟨_, rfl, .inl ⟨rfl, _, SqL.of a2⟩, _, rfl, _, rfl, _, rfl, _, _, rfl, rfl, pr, _, _, _, rfl, rfl, SqL.of oh.hp, at_gd (i := j) (by omega) (by omega), ?_⟩
      refine ⟨_, rfl, _, rfl, o, ws, j, rfl, oh.ho, hl, hjs.1, fun t H3 ht s3 t3 => ?_⟩
      have o3 := oh.mono s3
      refine ⟨_, rfl, _, rfl, _, rfl, t, pr, kn, n, sg, sw ws j, p, kvs', rfl, hsg, ⟨t3, o3.ok.sw hjm, o3.n1, o3.n6, o3.hp, o3.pl⟩, by have := inv_step hjm; omega, s3 _ _ a3, g', fun H4 kvs4 k4 a4 g4 => ?_⟩
      have kp4 : Kp [kn] H' H4 := (Kp.of s3).trans k4
      refine ⟨_, _, rfl, rfl, _, _, rfl, rfl, .inl hsb, ?_⟩
      refine ⟨sm, _, _, rfl, rfl, kp4 _ _ a2 (by simp; exact nsk), ?_, ?_⟩
      · rw [List.length_map, List.length_map, List.length_take]
        have := steps_len ws
        exact smallt (by omega)
      · have o4 := oh.kp kp4 a3
        have npm : pr ≠ sm := ne_of_none ho.hp hsm
        have nom : o ≠ sm := ne_of_none ho.ho hsm
        refine ⟨_, kvs4, rfl, (kp.trans kp4).mut (.inr hsm), ⟨by rw [upd_ne nom]; exact o4.ho, o4.ok, o4.n1, o4.n6, by rw [upd_ne npm]; exact o4.hp, o4.pl⟩, ?_, ?_, ?_, g4⟩
        · rw [upd_ne nst]
          exact kp4 _ _ a1 (by simp; exact nstk)
        · have ei := Xv_item hsg p (sw ws j) j
          rw [upd_same, List.take_add_one, hj]
          simp [lstI, ei]
        · rw [upd_ne nsk.symm]
          exact a4
    · rintro σ H' ⟨x, kvs', rfl, kp, oh, a1, a2, a3, g'⟩
      have el : ((lv (stepsN ws)).map V.int).length = (stepsN ws).length := by rw [List.length_map, lv_len]
      rw [el, List.take_length] at a2
      have b0 : H' o = some (.tup ((ky ws).map kV)) := by rw [ky_kV]; exact oh.ho
      have fin : ∀ H5, Same H' H5 → ∃ a H4, V.ref kn = .ref a ∧ DPut H5 a (.ref o) (V.int (Xv sg p ws)) H4 ∧ (tRet (tDGet (tVar 3) (tVar 0)) { nx := fun _ H' => Q .non H', rt := Q } [some (.ref o), some (.ref pr), some (.int sg), some (.ref kn), some (.ref sm), x] H4) := by
        intro H5 k5
        have gl := g'.len hn6
        refine ⟨kn, _, rfl, DPut.t (k5 _ _ a3) (k5 _ _ b0) (smallt (by omega)), ?_⟩
        have e2 : valV (putK kvs' (ky ws) (.int (Xv sg p ws))) (ky ws) = some (.int (Xv sg p ws)) := by rw [valV_put, if_pos rfl]
        refine ⟨_, rfl, _, rfl, kn, V.int (Xv sg p ws), rfl, ?_, q _ _ ((kp.trans (Kp.of k5)).mut (.inl (by simp))) upd_same (g'.put ho.ok)⟩
        rw [← e2]
        exact DGet.t upd_same (by rw [upd_ne nok]; exact k5 _ _ b0)
      refine ⟨_, rfl, Nat.zero_le _, fun em hem => ?_⟩
      have s6 : Same H' (upd H' em (.lst [])) := same_new hem _
      have t6 : (upd H' em (.lst [])) em = some (lstI []) := upd_same
      generalize upd H' em (.lst []) = H6 at *
      refine ne_nil (s6 _ _ a2) t6 ⟨_, rfl, ?_⟩
      cases es : stepsN ws with
      | nil =>
        refine iteF ?_
        refine ⟨_, rfl, _, rfl, ?_⟩
        have z := fin H6 s6
        have z0 : Xv sg p ws = 0 := by unfold Xv; rw [L_nil es, Int.mul_zero]
        rw [z0] at z
        exact z
      | cons c r =>
        refine iteT ?_
        have a2' := s6 _ _ a2
        rw [es] at a2'
        refine ⟨_, rfl, _, rfl, sm, _, rfl, SqL.of a2', by simp, fun m hm hle => ?_⟩
        have em : m = L (sc sg p) ws := by
          rw [L_eq, es]
          exact minL_uniq hm hle
        rw [em]
        exact ⟨_, _, rfl, rfl, .inl hsb, _, rfl, _, rfl, fin H6 s6⟩
theorem ext_ok {f : Addr} {fd : FuncData} (D : Df K mg "_law_extreme" sExt ["_law_order", "_law_prices_here", "_law_sign", "_law_known"] f fd) (M : Lw P w K mg base) : ∀ k : Nat, FnOk P w K mg base CX0 (k + 1) f fd ["_law_order", "_law_prices_here", "_law_sign", "_law_known"] (spExt K k)
  | 0 => by
    have no : ∀ vs H Q E, ¬ spExt K 0 vs H Q E := fun vs H Q E h => by
      obtain ⟨o, pr, kn, n, sg, ws, p, kvs, _, _, _, hk, _⟩ := h
      omega
    exact ⟨fun vs H Q E h => absurd h (no vs H Q E), fun A outer s H args us vs Q E _ _ _ _ h => absurd h (no vs H Q E)⟩
  | k + 1 => ext_step D M (ext_ok D M k)
theorem scRight : FnScope ["_law_order", "_law_prices_here", "_law_told", "_law_known", "_law_level", "_law_least", "_law_early", "_law_price"] ["_law_order", "_law_prices_here", "_law_told", "_law_known"] (defScope sRight) := ⟨rfl, rfl, rfl, by decide +kernel, rfl, by decide +kernel, by decide +kernel⟩
theorem ok_right {f e : Addr} {fd ed : FuncData} (D : Df K mg "_law_first_right" sRight ["_law_order", "_law_prices_here", "_law_told", "_law_known"] f fd) (M : Lw P w K mg base) (T : Df K mg "_law_extreme" sExt ["_law_order", "_law_prices_here", "_law_sign", "_law_known"] e ed)
    (G : FnOk P w K mg base CX0 38 e ed ["_law_order", "_law_prices_here", "_law_sign", "_law_known"] (spExt K 37)) : FnOk P w K mg base CX0 39 f fd ["_law_order", "_law_prices_here", "_law_told", "_law_known"] spRight := by
  refine D.fn.ok scRight (fun vs H Q E h => ?_) (fun cdv A outer s H vs Q E hr h => ?_)
  · obtain ⟨o, pr, tl, kn, n, w, p, r, kvs, rfl, _⟩ := h
    rfl
  obtain ⟨o, pr, tl, kn, n, ws, p, r, kvs, rfl, ho, htl, hrow, hfst, hkn, g, q⟩ := h
  have hr1 : Room 1 _ := hr.mono (by decide)
  have hn6 := ho.n6
  have hpl := ho.pl
  refine ⟨_, pss_cons (ps_for PassesOwn.never rfl (pi_list (pv 2)) (pg_name (i := 4) scRight.nd rfl (Or.inl rfl))
      (pss_cons (ps_set (i := 5) scRight.nd rfl (Or.inl rfl) (pe_call G hr rfl T.mg T.fn.kp T.bs .nil pass0 (pa_cons (pv 0) (pa_cons (pv 1) (pa_cons pe_int (pa_cons (pv 3) pa_nil))))))
      (pss_cons (ps_for PassesOwn.never rfl (pi_list (pe_call M.GS hr1 rfl M.S.mg M.S.fn.kp M.S.bs .nil pass0 (pa_cons (pv 0) pa_nil))) (pg_name (i := 6) scRight.nd rfl (Or.inl rfl))
        (pss_cons (ps_set (i := 7) scRight.nd rfl (Or.inl rfl) (pe_op op_add (pe_ix ix_list (pv 1) (pe_op op_sub (pv 6) pe_int) (fun _ _ => rfl))
          (pe_call G hr rfl T.mg T.fn.kp T.bs .nil pass0 (pa_cons (pe_call M.GT hr1 rfl M.T.mg M.T.fn.kp M.T.bs .nil pass0 (pa_cons (pv 0) (pa_cons (pv 6) pa_nil))) (pa_cons (pv 1) (pa_cons pe_int (pa_cons (pv 3) pa_nil)))))))
        (pss_one (ps_if (PW.pt (pw_or (PW.pt (pw_and (pt_cmpR op_lt (pv 6) (pv 4) (nomark _)) (pw_and1 (pt_cmpR op_eq (pv 7) (pv 5) (nomark _))))) (pw_or1 (PW.pt (pw_and (pt_cmpR op_eq (pv 6) (pv 4) (nomark _)) (pw_and1 (pt_cmpR op_ne (pv 7) (pv 5) (nomark _)))))))) (pss_one ps_never) pss_nil))))
      (pss_one (ps_set (i := 0) scRight.nd rfl (Or.inl rfl) (pe_call M.GT hr1 rfl M.T.mg M.T.fn.kp M.T.bs .nil pass0 (pa_cons (pv 0) (pa_cons (pv 4) pa_nil))))))))
    (pss_one (ps_ret pe_bl)), ?_⟩
  have ntk : tl ≠ kn := ne_of htl hkn (by intro z; cases z)
  have tlk : ∀ {H' : Hp}, Kp [kn] H H' → H' tl = some (lstI (lv r)) := fun k => k _ _ htl (by simp; exact ntk)
  refine ⟨_, rfl, tl, rfl, ⟨_, SqL.of htl⟩, for_list (K := K) (a := tl) (xs := (lv r).map V.int) (fun i σ H' => ∃ (o' : Addr) (w' : List Int) (x4 x5 x6 x7 : Option V) (kvs' : List (List Key × V)), σ = [some (.ref o'), some (.ref pr), some (.ref tl), some (.ref kn), x4, x5, x6, x7] ∧ Kp [kn] H H' ∧ Opr H' n o' pr w' p ∧
      H' kn = some (.dT kvs') ∧ Good n (Xv 1 p) kvs' ∧ Row w' (r.drop i) ∧ First p w' (r.drop i))
    ⟨o, ws, none, none, none, none, kvs, rfl, Kp.refl _ _, ho, hkn, g, hrow, hfst⟩ (fun i σ H' _ ⟨_, _, _, _, _, _, _, _, k, _⟩ => SqL.of (tlk k)) ?_ ?_⟩
  · rintro i y σ H' hi ⟨o', w', x4, x5, x6, x7, kvs', rfl, kp, oh, a1, g', hrw, hfs⟩
    obtain ⟨j, hj, rfl⟩ := lv_get hi
    have hir : i < r.length := (List.getElem?_eq_some_iff.mp hj).1
    have ej : r[i] = j := (List.getElem?_eq_some_iff.mp hj).2
    rw [List.drop_eq_getElem_cons hir, ej] at hrw hfs
    obtain ⟨hjm, hrw'⟩ := hrw
    obtain ⟨hc, hb, hfs'⟩ := hfs
    have hjs := mem_stepsN.mp hjm
    have hl' : w'.length ≤ 100 := by rw [oh.ok.1]; omega
    have hl1 : 1 ≤ w'.length := by rw [oh.ok.1]; exact ho.n1
    refine ⟨_, rfl, _, rfl, _, rfl, o', pr, kn, n, 1, w', p, kvs', rfl, .inl rfl, oh, inv_small oh.ok hn6, a1, g', fun H2 kvs2 k2 a2 g2 => ?_⟩
    rw [Xv_one]
    have o2 := oh.kp k2 a1
    refine ⟨_, rfl, o', w', rfl, o2.ho, hl', hl1, fun st H3 hst s3 t3 => ?_⟩
    have nstk : st ≠ kn := (ne_of_none a2 hst).symm
    refine ⟨st, rfl, ⟨_, SqL.of t3⟩, for_list (K := K) (a := st) (xs := (lv (stepsN w')).map V.int) (fun i σ H4 => ∃ (x6 x7 : Option V) (kvs4 : List (List Key × V)), σ = [some (.ref o'), some (.ref pr), some (.ref tl), some (.ref kn), some (.int ((j : Int) + 1)), some (.int (L p w')), x6, x7] ∧ Kp [kn] H H4 ∧ Opr H4 n o' pr w' p ∧
        H4 st = some (lstI (lv (stepsN w'))) ∧ H4 kn = some (.dT kvs4) ∧ Good n (Xv 1 p) kvs4)
      ⟨x6, x7, kvs2, rfl, (kp.trans k2).trans (Kp.of s3), o2.mono s3, t3, s3 _ _ a2, g2⟩ (fun i σ H4 _ ⟨_, _, _, _, _, _, b, _⟩ => SqL.of b) ?_ ?_⟩
    · rintro i' y' σ H4 hi' ⟨z6, z7, kvs4, rfl, kp4, o4, b1, b2, g4⟩
      obtain ⟨m, hm, rfl⟩ := lv_get hi'
      have hmm : m ∈ stepsN w' := List.mem_of_getElem? hm
      have hms := mem_stepsN.mp hmm
      have hmp : m < p.length := by rw [oh.ok.1] at hms; omega
      refine ⟨_, rfl, _, rfl, _, _, rfl, rfl, pr, _, _, _, rfl, rfl, SqL.of o4.hp, at_gd (i := m) hmp (by omega), ?_⟩
      refine ⟨_, rfl, _, rfl, o', w', m, rfl, o4.ho, hl', hms.1, fun t H5 ht s5 t5 => ?_⟩
      have o5 := o4.mono s5
      have o5' : Opr H5 n t pr (sw w' m) p := ⟨t5, o5.ok.sw hmm, o5.n1, o5.n6, o5.hp, o5.pl⟩
      refine ⟨_, rfl, _, rfl, t, pr, kn, n, 1, sw w' m, p, kvs4, rfl, .inl rfl, o5', inv_small o5'.ok hn6, s5 _ _ b2, g4, fun H6 kvs6 k6 a6 g6 => ?_⟩
      rw [Xv_one]
      refine ⟨_, _, rfl, rfl, ?_⟩
      have k46 : Kp [kn] H4 H6 := (Kp.of s5).trans k6
      unfold gName tIfS
      dsimp only
      refine or_ (decide (((m : Int) + 1) < ((j : Int) + 1)) && decide (V.int (gd p m + L p (sw w' m)) = V.int (L p w'))) (decide (V.int ((m : Int) + 1) = V.int ((j : Int) + 1)) && !decide (V.int (gd p m + L p (sw w' m)) = V.int (L p w')))
        (fun Q' z => and_ _ _ (fun Q'' z' => ⟨_, rfl, _, rfl, _, _, rfl, rfl, _, rfl, z'⟩) (fun Q'' z' => ⟨_, rfl, _, rfl, rfl, _, rfl, z'⟩) z)
        (fun Q' z => and_ _ _ (fun Q'' z' => ⟨_, rfl, _, rfl, rfl, _, rfl, z'⟩) (fun Q'' z' => ⟨_, rfl, _, rfl, rfl, _, rfl, z'⟩) z) ?_
      have f1 : (decide (((m : Int) + 1) < ((j : Int) + 1)) && decide (V.int (gd p m + L p (sw w' m)) = V.int (L p w'))) = false := by
        by_cases z : m < j
        · have := hb m hmm z
          rw [decide_eq_false (fun e => this (V.int.inj e)), Bool.and_false]
        · rw [decide_eq_false (by omega), Bool.false_and]
      have f2 : (decide (V.int ((m : Int) + 1) = V.int ((j : Int) + 1)) && !decide (V.int (gd p m + L p (sw w' m)) = V.int (L p w'))) = false := by
        by_cases z : m = j
        · subst z
          rw [hc, decide_eq_true (rfl : V.int (L p w') = V.int (L p w')), Bool.not_true, Bool.and_false]
        · have : ¬ (V.int ((m : Int) + 1) = V.int ((j : Int) + 1)) := fun e => by
            have := V.int.inj e
            omega
          rw [decide_eq_false this, Bool.false_and]
      rw [f1, f2]
      refine iteF ?_
      exact ⟨_, _, kvs6, rfl, kp4.trans k46, o4.kp k46 b2, k46 _ _ b1 (by simp; exact nstk), a6, g6⟩
    · rintro σ H4 ⟨z6, z7, kvs4, rfl, kp4, o4, b1, b2, g4⟩
      refine ⟨_, rfl, _, rfl, o', w', j, rfl, o4.ho, hl', hjs.1, fun t H5 ht s5 t5 => ?_⟩
      have o5 := o4.mono s5
      exact ⟨t, sw w' j, _, _, _, _, kvs4, rfl, kp4.trans (Kp.of s5), ⟨t5, o5.ok.sw hjm, o5.n1, o5.n6, o5.hp, o5.pl⟩, s5 _ _ b2, g4, hrw', hfs'⟩
  · rintro σ H' ⟨o', w', x4, x5, x6, x7, kvs', rfl, kp, _⟩
    exact q H' kp
end
end K52

namespace K52
open PySem L2
/-- x is a tuple of three ints -/
def T3 (H : Hp) (x : V) : Prop := ∃ (q : Addr) (a b c : Int), x = .ref q ∧ H q = some (.tup [.int a, .int b, .int c])
theorem T3.mono {H H' : Hp} {x : V} (t : T3 H x) (s : Same H H') : T3 H' x := by
  obtain ⟨q, a, b, c, e, h⟩ := t
  exact ⟨q, a, b, c, e, s _ _ h⟩
theorem T3.up {H : Hp} {x : V} {p : Addr} {xs ys : List V} (t : T3 H x) (h : H p = some (.lst xs)) : T3 (upd H p (.lst ys)) x := by
  obtain ⟨q, a, b, c, e, hq⟩ := t
  refine ⟨q, a, b, c, e, ?_⟩
  rw [upd_ne (ne_of hq h (by intro z; cases z))]
  exact hq
theorem dp3 {K : PySem.W.Frag} {H : Hp} : ∀ fs : List V, (∀ x ∈ fs, T3 H x) → ∃ ds : List PyData, DpAll K H fs ds ∧ PyData.canLayAll0 ds = true ∧ PyData.depthAll ds ≤ 3 ∧ ds.length = fs.length
  | [], _ => ⟨[], .nil, rfl, by simp [PyData.depthAll], rfl⟩
  | x :: r, h => by
    obtain ⟨ds, h1, h2, h3, h4⟩ := dp3 r fun y hy => h y (List.mem_cons_of_mem _ hy)
    obtain ⟨q, a, b, c, rfl, hq⟩ := h x List.mem_cons_self
    refine ⟨.tuple [.int a, .int b, .int c] :: ds, .cons (.tup (SqT.of hq) (.cons (.int a) (.cons (.int b) (.cons (.int c) .nil)))) h1, ?_, ?_, ?_⟩
    · simp only [PyData.canLayAll0, PyData.canLay0, h2, Bool.and_self]
    · simp only [PyData.depthAll, PyData.depth]
      omega
    · rw [List.length_cons, List.length_cons, h4]
theorem ne_nil3 {K : PySem.W.Frag} {H : Hp} {a e : Addr} {fs : List V} {Q : VK} (ha : H a = some (.lst fs)) (h3 : ∀ x ∈ fs, T3 H x) (he : H e = some (lstI [])) (q : Q (.bl (!fs.isEmpty)) H) : rNeD K (.ref a) (.ref e) H Q := by
  obtain ⟨ds, h1, h2, hd, h4⟩ := dp3 (K := K) fs h3
  refine ⟨.list ds, dI [], .lst (SqL.of ha) h1, dp_lst he, ?_, dI_shaped _, ?_⟩
  · unfold SeqAt.shaped
    simp only [PyData.canLay0, h2, PyData.depth, Bool.true_and]
    exact decide_eq_true (by omega)
  · have e : PyData.eqv (.list ds) (dI []) = fs.isEmpty := by
      cases ds with
      | nil =>
        have : fs = [] := List.length_eq_zero_iff.mp h4.symm
        rw [this]
        rfl
      | cons d r =>
        cases fs with
        | nil => simp at h4
        | cons x y => rfl
    rw [e]
    exact q
def spTriple : Sp := fun vs H Q _ => ∃ (o : Addr) (w : List Int), vs = [.ref o] ∧ H o = some (tupI w) ∧ w.length ≤ 100 ∧ ∀ (v : V) (H' : Hp), (v = .non → Plain w) → Same H H' → Q v H'
/-- no falling triple that begins with a -/
def NoT (w : List Int) (a : Nat) : Prop := ∀ b c, a < b → b < c → c < w.length → ¬ (gd w b < gd w a ∧ gd w c < gd w b)
def bsN (w : List Int) (a m : Nat) : List Nat := ((List.range m).filter fun i => decide (gd w (a + 1 + i) < gd w a)).map fun i => a + 1 + i
theorem bsN_snoc (w : List Int) (a m : Nat) : bsN w a (m + 1) = bsN w a m ++ (if decide (gd w (a + 1 + m) < gd w a) = true then [a + 1 + m] else []) := by
  unfold bsN
  rw [filt_snoc, List.map_append]
  congr 1
  split <;> rfl
theorem bsN_len (w : List Int) (a m : Nat) : (bsN w a m).length ≤ m := by
  unfold bsN
  rw [List.length_map]
  exact filt_len _ m
theorem bsN_mem {w : List Int} {a b : Nat} (h1 : a < b) (h2 : b < w.length) (h3 : gd w b < gd w a) : b ∈ bsN w a (w.length - (a + 1)) := by
  refine List.mem_map.mpr ⟨b - (a + 1), List.mem_filter.mpr ⟨List.mem_range.mpr (by omega), ?_⟩, by omega⟩
  have e : a + 1 + (b - (a + 1)) = b := by omega
  rw [e]
  exact decide_eq_true h3
theorem bsN_get {w : List Int} {a m b : Nat} (h : b ∈ bsN w a m) : a < b ∧ b < a + 1 + m := by
  obtain ⟨i, hi, rfl⟩ := List.mem_map.mp h
  have := List.mem_range.mp (List.mem_filter.mp hi).1
  omega
section
variable {P : Program} {w : World} {K : PySem.W.Frag} {mg : Str → Option Value} {base : Heap}
abbrev rLt : R2 := rI0 fun i j => .bl (decide (i < j))
theorem scTriple : FnScope ["_law_order", "_law_found", "_law_a", "_law_b", "_law_c"] ["_law_order"] (defScope sTriple) := ⟨rfl, rfl, rfl, by decide +kernel, rfl, by decide +kernel, by decide +kernel⟩
theorem ok_triple {f : Addr} {fd : FuncData} (D : Df K mg "_law_triple" sTriple ["_law_order"] f fd) (B : Blt mg) : FnOk P w K mg base CX0 1 f fd ["_law_order"] spTriple := by
  refine D.fn.ok scTriple (fun vs H Q E h => ?_) (fun cdv A outer s H vs Q E hr h => ?_)
  · obtain ⟨o, w, rfl, _⟩ := h
    rfl
  obtain ⟨o, ws, rfl, ho, hl, q⟩ := h
  refine ⟨_, pss_cons (ps_set (i := 1) scTriple.nd rfl (Or.inl rfl) (pe_lst pa_nil))
    (pss_cons (ps_for PassesOwn.never rfl (pi_range1 rfl B.range (pa_cons (pe_callB call_len_seq rfl B.len PySem.boot_len (pa_cons (pv 0) pa_nil)) pa_nil)) (pg_name (i := 2) scTriple.nd rfl (Or.inr rfl))
      (pss_cons (ps_for PassesOwn.never rfl (pi_list (pe_lc (own := [("_law_b", 3)]) (g := gName 3) (tt := tTest (tOp rLt (tOp (rIxT K) (tVar 0) (tVar 3)) (tOp (rIxT K) (tVar 0) (tVar 2)))) (te := tVar 3) rfl scTriple.nd
            (pi_range2 rfl B.range (pa_cons (pe_op op_add (pv 2) pe_int) (pa_cons (pe_callB call_len_seq rfl B.len PySem.boot_len (pa_cons (pv 0) pa_nil)) pa_nil)))
            (blkOk_by (N := ["_law_order", "_law_found", "_law_a", "_law_b", "_law_c"]) (sc := defScope sTriple) (by decide +kernel)) (fun _ _ _ _ _ => pg_name (i := 3) scTriple.nd rfl (Or.inl rfl))
            (fun _ _ _ _ _ => pts_one (pt_cmpR op_lt (pe_ix (r := rIxT K) ix_tup (pv 0) (pv 3) (fun _ _ => rfl)) (pe_ix (r := rIxT K) ix_tup (pv 0) (pv 2) (fun _ _ => rfl)) (nomark _))) (fun _ _ _ _ _ => pv 3))) (pg_name (i := 3) scTriple.nd rfl (Or.inr rfl))
        (pss_one (ps_set (i := 1) scTriple.nd rfl (Or.inl rfl) (pe_op op_cat (pv 1) (pe_slice sl_list (pe_lc (own := [("_law_c", 4)]) (g := gName 4) (tt := tTest (tOp rLt (tOp (rIxT K) (tVar 0) (tVar 4)) (tOp (rIxT K) (tVar 0) (tVar 3)))) (te := tTup (tCons (tVar 2) (tCons (tVar 3) (tCons (tVar 4) tNil)))) rfl scTriple.nd
            (pi_range2 rfl B.range (pa_cons (pe_op op_add (pv 3) pe_int) (pa_cons (pe_callB call_len_seq rfl B.len PySem.boot_len (pa_cons (pv 0) pa_nil)) pa_nil)))
            (blkOk_by (N := ["_law_order", "_law_found", "_law_a", "_law_b", "_law_c"]) (sc := defScope sTriple) (by decide +kernel)) (fun _ _ _ _ _ => pg_name (i := 4) scTriple.nd rfl (Or.inl rfl))
            (fun _ _ _ _ _ => pts_one (pt_cmpR op_lt (pe_ix (r := rIxT K) ix_tup (pv 0) (pv 4) (fun _ _ => rfl)) (pe_ix (r := rIxT K) ix_tup (pv 0) (pv 3) (fun _ _ => rfl)) (nomark _)))
            (fun _ _ _ _ _ => pe_tup (pa_cons (pv 2) (pa_cons (pv 3) (pa_cons (pv 4) pa_nil))))) po_none (po_some pe_int))))))
      (pss_one (ps_if (pt_cmpR (op_neD hr.units) (pv 1) (pe_lst pa_nil) (nomark _)) (pss_one (ps_ret (pe_ix ix_list (pv 1) pe_int (fun _ _ => rfl)))) pss_nil))))
    (pss_one (ps_ret pe_non))), ?_⟩
  have hlen : (ws.map V.int).length = ws.length := List.length_map _
  refine ⟨Nat.zero_le _, fun fo hfo => ?_⟩
  have s1 : Same H (upd H fo (.lst [])) := same_new hfo _
  have t1 : (upd H fo (.lst [])) fo = some (.lst []) := upd_same
  generalize upd H fo (.lst []) = H1 at *
  refine ⟨_, rfl, o, _, rfl, .inr (SqT.of (s1 _ _ ho)), _, rfl, by rw [hlen]; omega, by rw [hlen]; omega, ?_⟩
  rw [hlen]
  refine for_range (lo := 0) (n := ((ws.length : Nat) : Int).toNat) (fun i σ H' => ∃ (fo' : Addr) (x y : Option V), σ = [some (.ref o), some (.ref fo'), x, y, none] ∧ Same H H' ∧ H' fo' = some (.lst []) ∧ ∀ a, a < i → NoT ws a)
    ⟨fo, none, none, rfl, s1, t1, fun a h => absurd h (Nat.not_lt_zero _)⟩ ?_ ?_
  · rintro i σ H' hi ⟨fo', x, y, rfl, sm, hf, hno⟩
    have hi' : i < ws.length := by omega
    have o' := sm _ _ ho
    refine ⟨_, rfl, _, _, rfl, rfl, _, rfl, o, _, rfl, .inr (SqT.of o'), _, _, rfl, ⟨by omega, by omega, by rw [hlen]; omega, by rw [hlen]; omega⟩, fun bl hbl => ?_⟩
    rw [hlen]
    have em : (((ws.length : Nat) : Int) - (0 + (i : Int) + 1)).toNat = ws.length - (i + 1) := by omega
    rw [em]
    refine lc_range (lo := 0 + (i : Int) + 1) (n := ws.length - (i + 1)) (fun j H2 => Same H' H2 ∧ H2 bl = some (lstI (nI (bsN ws i j)))) ⟨same_new hbl _, upd_same⟩ ?_ ?_
    · rintro j H2 hj ⟨s2, h2⟩
      have o2 := s2 _ _ o'
      refine ⟨rfl, _, rfl, _, rfl, o, _, _, _, rfl, rfl, SqT.of o2, at_gd (i := i + 1 + j) (by omega) (by omega), _, rfl, _, rfl, o, _, _, _, rfl, rfl, SqT.of o2, at_gd (i := i) (by omega) (by omega), _, _, rfl, rfl, _, rfl, ?_⟩
      refine ite2 (fun c => ?_) (fun c => ?_)
      · refine ⟨_, rfl, _, h2, ?_, Same.mut s2 hbl, ?_⟩
        · rw [List.length_map, nI, List.length_map]
          have := bsN_len ws i j
          exact smallt (by omega)
        · rw [upd_same, bsN_snoc, if_pos c, nI_snoc, lstI, List.map_append]
          have z : (0 : Int) + (i : Int) + 1 + (j : Int) = ((i + 1 + j : Nat) : Int) := by omega
          rw [z]
          rfl
      · refine ⟨s2, ?_⟩
        rw [h2, bsN_snoc, if_neg c, List.append_nil]
    rintro H2 ⟨s2, h2⟩
    have sm2 : Same H H2 := sm.trans s2
    refine ⟨bl, rfl, ⟨_, SqL.of h2⟩, for_list (K := K) (a := bl) (xs := (nI (bsN ws i (ws.length - (i + 1)))).map V.int) (fun j σ H3 => ∃ (f2 : Addr) (fs : List V) (y : Option V), σ = [some (.ref o), some (.ref f2), some (.int (0 + (i : Int))), y, none] ∧ Same H2 H3 ∧ H3 f2 = some (.lst fs) ∧ (∀ x ∈ fs, T3 H3 x) ∧ fs.length ≤ j ∧
        (fs = [] → ∀ b ∈ (bsN ws i (ws.length - (i + 1))).take j, ∀ c, b < c → c < ws.length → ¬ gd ws c < gd ws b))
      ⟨fo', [], y, rfl, Same.refl _, s2 _ _ hf, (fun x h => nomatch h), Nat.le_refl _, fun _ b hb => by simp at hb⟩ (fun j σ H3 _ ⟨_, _, _, _, s, _⟩ => SqL.of (s _ _ h2)) ?_ ?_⟩
    · rintro j z σ H3 hj ⟨f2, fs, y, rfl, s3, h3, t3, l3, n3⟩
      have hb : ∃ b, (bsN ws i (ws.length - (i + 1)))[j]? = some b ∧ z = V.int (b : Int) := by
        rw [List.getElem?_map, nI, List.getElem?_map] at hj
        cases e : (bsN ws i (ws.length - (i + 1)))[j]? with
        | none => rw [e] at hj; cases hj
        | some b => rw [e] at hj; exact ⟨b, rfl, (Option.some.inj hj).symm⟩
      obtain ⟨b, hb, rfl⟩ := hb
      have hbm := bsN_get (List.mem_of_getElem? hb)
      have hjl : j < (bsN ws i (ws.length - (i + 1))).length := (List.getElem?_eq_some_iff.mp hb).1
      have hbl2 := bsN_len ws i (ws.length - (i + 1))
      have o3 := s3 _ _ (sm2 _ _ ho)
      refine ⟨_, rfl, _, rfl, _, _, rfl, rfl, _, rfl, o, _, rfl, .inr (SqT.of o3), _, _, rfl, ⟨by omega, by omega, by rw [hlen]; omega, by rw [hlen]; omega⟩, fun dl hdl => ?_⟩
      rw [hlen]
      have em2 : (((ws.length : Nat) : Int) - ((b : Int) + 1)).toNat = ws.length - (b + 1) := by omega
      rw [em2]
      refine lc_range (lo := (b : Int) + 1) (n := ws.length - (b + 1)) (fun m H4 => Same H3 H4 ∧ ∃ gs : List V, H4 dl = some (.lst gs) ∧ (∀ x ∈ gs, T3 H4 x) ∧ gs.length ≤ m ∧ (gs = [] → ∀ c, b < c → c < b + 1 + m → ¬ gd ws c < gd ws b))
        ⟨same_new hdl _, [], upd_same, (fun x h => nomatch h), Nat.le_refl _, fun _ c h1 h2 => by omega⟩ ?_ ?_
      · rintro m H4 hm ⟨s4, gs, h4, t4, l4, n4⟩
        have o4 := s4 _ _ o3
        refine ⟨rfl, _, rfl, _, rfl, o, _, _, _, rfl, rfl, SqT.of o4, at_gd (i := b + 1 + m) (by omega) (by omega), _, rfl, _, rfl, o, _, _, _, rfl, rfl, SqT.of o4, at_gd (i := b) (by omega) (by omega), _, _, rfl, rfl, _, rfl, ?_⟩
        refine ite2 (fun c => ?_) (fun c => ?_)
        · refine ⟨_, rfl, _, rfl, _, rfl, by show 3 ≤ sizeLine; decide, fun tp htp => ?_⟩
          have s5 : Same H4 (upd H4 tp (.tup [.int (0 + (i : Int)), .int (b : Int), .int ((b : Int) + 1 + (m : Int))])) := same_new htp _
          have u5 : (upd H4 tp (.tup [.int (0 + (i : Int)), .int (b : Int), .int ((b : Int) + 1 + (m : Int))])) tp = some (.tup [.int (0 + (i : Int)), .int (b : Int), .int ((b : Int) + 1 + (m : Int))]) := upd_same
          generalize upd H4 tp (.tup [.int (0 + (i : Int)), .int (b : Int), .int ((b : Int) + 1 + (m : Int))]) = H5 at *
          refine ⟨gs, s5 _ _ h4, smallt (by omega), Same.mut (s4.trans s5) hdl, gs ++ [.ref tp], upd_same, fun x hx => ?_, by rw [List.length_append, List.length_singleton]; omega, fun z => by simp at z⟩
          rcases List.mem_append.mp hx with h | h
          · exact ((t4 x h).mono s5).up (s5 _ _ h4)
          · rw [List.mem_singleton.mp h]
            exact T3.up ⟨tp, _, _, _, rfl, u5⟩ (s5 _ _ h4)
        · refine ⟨s4, gs, h4, t4, by omega, fun z c' h1 h2 => ?_⟩
          by_cases e : c' = b + 1 + m
          · subst e
            exact fun lt => c (decide_eq_true lt)
          · exact n4 z c' h1 (by omega)
      rintro H4 ⟨s4, gs, h4, t4, l4, n4⟩
      refine ⟨1, rfl, dl, gs, rfl, SqL.of h4, fun sl hsl => ?_⟩
      have ecut : cutV gs none (some 1) = gs.take 1 := by
        unfold cutV
        rw [HT.sIx_none, show (1 : Int) = ((1 : Nat) : Int) from rfl, HT.sIx_nat, List.drop_zero, Nat.sub_zero]
        cases gs with
        | nil => rfl
        | cons x r => rw [List.length_cons, Nat.min_eq_left (by omega)]
      rw [ecut]
      have s5 : Same H4 (upd H4 sl (.lst (gs.take 1))) := same_new hsl _
      have u5 : (upd H4 sl (.lst (gs.take 1))) sl = some (.lst (gs.take 1)) := upd_same
      generalize upd H4 sl (.lst (gs.take 1)) = H5 at *
      have s35 : Same H3 H5 := s4.trans s5
      refine ⟨f2, sl, fs, gs.take 1, rfl, rfl, s35 _ _ h3, u5, ?_, fun f3 hf3 => ?_⟩
      · rw [List.length_take]
        exact small (by omega)
      have s6 : Same H5 (upd H5 f3 (.lst (fs ++ gs.take 1))) := same_new hf3 _
      refine ⟨f3, fs ++ gs.take 1, _, rfl, s3.trans (s35.trans s6), upd_same, fun x hx => ?_, ?_, fun z b' hb' c h1 h2 => ?_⟩
      · rcases List.mem_append.mp hx with h | h
        · exact (t3 x h).mono (s35.trans s6)
        · exact (t4 x (List.mem_of_mem_take h)).mono (s5.trans s6)
      · rw [List.length_append, List.length_take]
        omega
      · obtain ⟨z1, z2⟩ := List.append_eq_nil_iff.mp z
        have z3 : gs = [] := by
          cases gs with
          | nil => rfl
          | cons x r => simp at z2
        rw [List.take_add_one, hb] at hb'
        rcases List.mem_append.mp hb' with h | h
        · exact n3 z1 b' h c h1 h2
        · have e : b' = b := by simpa using h
          subst e
          exact n4 z3 c h1 (by omega)
    · rintro σ H3 ⟨f2, fs, y, rfl, s3, h3, t3, l3, n3⟩
      refine ⟨_, rfl, Nat.zero_le _, fun em hem => ?_⟩
      have s4 := same_new hem (.lst [])
      have u4 : (upd H3 em (.lst [])) em = some (lstI []) := upd_same
      generalize upd H3 em (.lst []) = H4 at *
      refine ne_nil3 (s4 _ _ h3) (fun x hx => (t3 x hx).mono s4) u4 ⟨_, rfl, ?_⟩
      cases fs with
      | nil =>
        refine iteF ?_
        refine ⟨f2, _, _, rfl, sm2.trans (s3.trans s4), s4 _ _ h3, fun a ha => ?_⟩
        by_cases e : a = i
        · subst e
          intro b c h1 h2 h4 ⟨h5, h6⟩
          refine n3 rfl b ?_ c h2 h4 h6
          have el : ((nI (bsN ws a (ws.length - (a + 1)))).map V.int).length = (bsN ws a (ws.length - (a + 1))).length := by rw [List.length_map, nI, List.length_map]
          rw [el, List.take_length]
          exact bsN_mem h1 (by omega) h5
        · exact hno a (by omega)
      | cons x r =>
        refine iteT ?_
        obtain ⟨qa, a, b, c, e, _⟩ := t3 x List.mem_cons_self
        refine ⟨_, rfl, f2, _, _, x, rfl, rfl, SqL.of (s4 _ _ h3), at_of (j := 0) rfl rfl, ?_⟩
        exact q x H4 (fun z => by rw [e] at z; cases z) (sm2.trans (s3.trans s4))
  · rintro σ H' ⟨fo', x, y, rfl, sm, hf, hno⟩
    exact q .non H' (fun _ a b c h1 h2 h3 => hno a (by omega) b c h1 h2 h3) sm
end
end K52

namespace K52
open PySem L2
/-! ### repr of a list of ints -/
theorem shows_ints : ∀ ns : List Int, (∀ x ∈ ns, x.natAbs.log2 < 1920) → PyData.showableAll (ns.map PyData.int) = true
  | [], _ => rfl
  | n :: r, h => by
    have ih := shows_ints r fun x hx => h x (List.mem_cons_of_mem _ hx)
    simp only [List.map_cons, PyData.showableAll, PyData.showable, ih, decide_eq_true (h n List.mem_cons_self), Bool.and_self]
theorem dI_shows {ns : List Int} (h : ∀ x ∈ ns, x.natAbs.log2 < 1920) : (dI ns).showable = true := by
  unfold dI
  simp only [PyData.showable]
  exact shows_ints ns h
theorem dI_plain (ns : List Int) : (dI ns).hasDict = false := by
  apply PyData.hasDict_of_canLay
  have z := dI_shaped ns
  unfold SeqAt.shaped at z
  exact (Bool.and_eq_true_iff.mp z).1
theorem dI_depth (ns : List Int) : (dI ns).depth ≤ 63 := by
  have h := depthAll ns
  unfold dI
  simp only [PyData.depth]
  exact Nat.le_trans (Nat.succ_le_succ h) (show 1 + 1 ≤ 63 by decide)
theorem shown2_len {x y : Int} (hx : x.natAbs.log2 < 100) (hy : y.natAbs.log2 < 100) : (dI [x, y]).shown.length ≤ sizeLine := by
  have a := int_text_length_le (a := x) (k := 100) (by decide) hx
  have b := int_text_length_le (a := y) (k := 100) (by decide) hy
  show (listText [Str.ofString (toString x), Str.ofString (toString y)]).length ≤ sizeLine
  unfold listText textFrom textFrom textFrom
  simp only [strLen_append, ofString_length]
  rw [sizeLine_eq]
  have e1 : (if 0 > 0 then ", " else "" : String).length = 0 := rfl
  have e2 : (if 0 + 1 > 0 then ", " else "" : String).length = 2 := rfl
  have e3 : ("[" : String).length = 1 := rfl
  have e4 : ("]" : String).length = 1 := rfl
  omega
def rRepr : List V → Hp → VK → Prop := fun xs H Q => ∃ (a : Addr) (ns : List Int), xs = [.ref a] ∧ H a = some (lstI ns) ∧ (∀ x ∈ ns, x.natAbs.log2 < 1920) ∧ (dI ns).shown.length ≤ sizeLine ∧ Q (.str (dI ns).shown) H
theorem call_repr {X : Cx} (hg : X.A.guards = some []) (hu : X.A.units + 64 < cLine) : CallR X (.builtin "repr") rRepr := by
  intro pins s σ H xs us Q I r h
  obtain ⟨a, ns, rfl, ha, hs, hz, q⟩ := h
  have e := Vals.ref1 r
  subst e
  obtain ⟨as, rd⟩ := Dp.reads I (dI ns) (.ref a) (.ref a) (dp_lst ha) rfl
  have hd := dI_depth ns
  exact repr_of_reads' rd (dI_shows hs) (PyData.noDict_hsm (dI_plain ns)) hg (by omega) (fun _ _ e => e) (fun h' u tk k => ⟨.str (dI ns).shown, H, I.kept k, ⟨u, rfl⟩, q⟩) hz
/-! ### a comprehension over two lists abreast -/
theorem lc_zip {K : PySem.W.Frag} {a b : Addr} {xs ys : List V} {g : TG} {tt : TT} {te : TE} {vs : List Nat} {σ : L2.St} {H1 : Hp} {D : Addr} {Qd : Hp → Prop} (Pv : Nat → Hp → Prop) (hlen : xs.length = ys.length) (h0 : Pv 0 (upd H1 D (.lst [])))
    (hl : ∀ i H, Pv i H → SqL K H a xs ∧ SqL K H b ys)
    (hs : ∀ i x y H T, xs[i]? = some x → ys[i]? = some y → Pv i H → H T = none → g (.ref T) (wipe σ vs) (upd H T (.tup [x, y])) fun σ2 H2 => wipe σ2 vs = wipe σ vs ∧ tt σ2 H2 fun c H3 =>
      if c = true then te σ2 H3 fun z H4 => ∃ acc, H4 D = some (.lst acc) ∧ acc.length < sizeLine ∧ Pv (i + 1) (upd H4 D (.lst (acc ++ [z]))) else Pv (i + 1) H3)
    (hd : ∀ H, Pv xs.length H → Qd H) :
    ∃ W : Nat → Nat → Hp → Prop, (∃ m, W 0 m (upd H1 D (.lst []))) ∧ ∀ i m H, W i m H → ((Itz K a b).stop i H ∧ Qd H) ∨ ((Itz K a b).go i H ∧ ∃ Nx : Hp → Prop, (∀ H', Nx H' → ∃ m', m' < m ∧ W (i + 1) m' H') ∧
      ∀ x H', (Itz K a b).yld i H x H' → g x (wipe σ vs) H' fun σ2 H2 => wipe σ2 vs = wipe σ vs ∧ tt σ2 H2 fun c H3 => if c = true then te σ2 H3 fun z H4 => ∃ acc, H4 D = some (.lst acc) ∧ acc.length < sizeLine ∧ Nx (upd H4 D (.lst (acc ++ [z]))) else Nx H3) := by
  refine ⟨fun i m H => m + i = xs.length ∧ Pv i H, ⟨xs.length, rfl, h0⟩, fun i m H ⟨hm, p⟩ => ?_⟩
  obtain ⟨qa, qb⟩ := hl i H p
  cases m with
  | zero =>
    have e : i = xs.length := by omega
    subst e
    exact .inl ⟨⟨xs, ys, qa, qb, .inl (Nat.le_refl _)⟩, hd H p⟩
  | succ m =>
    have h1 : i < xs.length := by omega
    have h2 : i < ys.length := by omega
    refine .inr ⟨⟨xs, ys, xs[i], ys[i], qa, qb, List.getElem?_eq_getElem h1, List.getElem?_eq_getElem h2⟩, Pv (i + 1), fun H' p' => ⟨m, Nat.lt_succ_self m, by omega, p'⟩, ?_⟩
    rintro v H' ⟨T, x, y, rfl, hT, rfl, hx, hy⟩
    exact hs i x y H T (hx xs qa) (hy ys qb) p hT
end K52

namespace K52
open PySem L2
abbrev sLaw : Stmt := top 30
abbrev lN : List Str := ["_law_script", "_law_source_here", "_law_lap", "_law_order", "_law_known", "_law_price", "_law_prices_here", "_law_others", "_law_least", "_law_greatest", "_law_told", "_law_turn", "_law_both", "_law_flat", "_law_due", "_law_level", "_law_one", "_law_other"]
abbrev rMin2 : List V → Hp → VK → Prop := fun xs H Q => ∃ i j, xs = [.int i, .int j] ∧ Q (.int (if j < i then j else i)) H
abbrev rMu : R2 := rI CMul fun i j => .int (i * j)
abbrev rPw : R2 := rI CPow fun i j => .int (i ^ j.toNat)
def spLaw (K : PySem.W.Frag) : Sp := fun vs H Q _ => ∃ (a : Addr) (ns : List Int), vs = [.ref a] ∧ SqL K H a (ns.map V.int) ∧ ns.length ≤ 63 ∧ ∀ H', Q (.bl true) H'
/-- a def of the module with what it keeps -/
structure Dk (P : Program) (w : World) (K : PySem.W.Frag) (mg : Str → Option Value) (base : Heap) (k : Nat) (x : Str) (st : Stmt) (ps : List Str) (sp : Sp) where
  f : Addr
  fd : FuncData
  D : Df K mg x st ps f fd
  G : FnOk P w K mg base CX0 k f fd ps sp
structure Alldefs (P : Program) (w : World) (K : PySem.W.Frag) (mg : Str → Option Value) (base : Heap) where
  B : Blt mg
  source : Dk P w K mg base 1 "_law_source" sSource ["_law_script"] (spSource K)
  any : Dk P w K mg base 3 "_law_any_order" sAny ["_law_source_here", "_law_n"] spAny
  prices : Dk P w K mg base 3 "_law_prices" sPrices ["_law_source_here", "_law_n"] spPrices
  of : Dk P w K mg base 2 "_law_of" sOf ["_law_source_here", "_law_some"] (spOf K)
  ext : Dk P w K mg base 38 "_law_extreme" sExt ["_law_order", "_law_prices_here", "_law_sign", "_law_known"] (spExt K 37)
  cheapest : Dk P w K mg base 41 "cheapest" sCheapest ["order", "prices"] spCheapest
  leastP : Dk P w K mg base 41 "least_price" sLeastPrice ["order", "prices"] spLeastPrice
  greatest : Dk P w K mg base 41 "greatest_price" sGreatest ["order", "prices"] spGreatest
  verdict : Dk P w K mg base 2 "_law_verdict" sVerdict ["_law_order", "_law_value"] spVerdict
  right : Dk P w K mg base 39 "_law_first_right" sRight ["_law_order", "_law_prices_here", "_law_told", "_law_known"] spRight
  priceOf : Dk P w K mg base 1 "price_of" sPriceOf ["levels", "prices"] spPriceOf
  row : Dk P w K mg base 3 "_law_drawn_row" sRow ["_law_source_here", "_law_order"] spRow
  triple : Dk P w K mg base 1 "_law_triple" sTriple ["_law_order"] spTriple
  pick : Dk P w K mg base 1 "_law_pick" sPick ["_law_source_here", "_law_many"] spPick
  inv : Dk P w K mg base 1 "_law_inversions" sInv ["_law_order"] spInv
/-! ### what stands between two statements of the law -/
structure Ev1 (H : Hp) (d c : Addr) (n : Nat) (o pr : Addr) (w p : List Int) : Prop where
  sr : Src H d c
  op : Opr H n o pr w p
  npc : pr ≠ c
theorem Ev1.same {H H' : Hp} {d c o pr : Addr} {n : Nat} {w p : List Int} (e : Ev1 H d c n o pr w p) (s : Same H H') : Ev1 H' d c n o pr w p := ⟨e.sr.kp s, e.op.mono s, e.npc⟩
theorem Ev1.draw {H H' : Hp} {d c o pr : Addr} {n : Nat} {w p : List Int} (e : Ev1 H d c n o pr w p) (k : Kp [d, c] H H') (s : Src H' d c) : Ev1 H' d c n o pr w p :=
  ⟨s, ⟨k _ _ e.op.ho (not2 (e.sr.dne e.op.ho (by intro _ z; cases z)) (e.sr.cne e.op.ho (by intro _ z; cases z))), e.op.ok, e.op.n1, e.op.n6, k _ _ e.op.hp (not2 (e.sr.dne e.op.hp (by intro _ z; cases z)) e.npc), e.op.pl⟩, e.npc⟩
theorem Src.kn {H H' : Hp} {d c kn : Addr} {kvs : List (List Key × V)} (s : Src H d c) (k : Kp [kn] H H') (h : H kn = some (.dT kvs)) : Src H' d c := by
  obtain ⟨l, m, t, cells, a, b⟩ := s
  exact ⟨l, m, t, cells, k _ _ a (by simp; exact ne_of a h (by intro z; cases z)), k _ _ b (by simp; exact ne_of b h (by intro z; cases z))⟩
theorem Ev1.kn {H H' : Hp} {d c o pr kn : Addr} {n : Nat} {w p : List Int} {kvs : List (List Key × V)} (e : Ev1 H d c n o pr w p) (k : Kp [kn] H H') (h : H kn = some (.dT kvs)) : Ev1 H' d c n o pr w p := ⟨e.sr.kn k h, e.op.kp k h, e.npc⟩
theorem lst_kn {H H' : Hp} {x kn : Addr} {l : List V} {kvs : List (List Key × V)} (hx : H x = some (.lst l)) (k : Kp [kn] H H') (h : H kn = some (.dT kvs)) : H' x = some (.lst l) :=
  k _ _ hx (by simp; exact ne_of hx h (by intro z; cases z))
theorem lst_draw {H H' : Hp} {x d c : Addr} {l : List V} (hx : H x = some (.lst l)) (s : Src H d c) (n : x ≠ c) (k : Kp [d, c] H H') : H' x = some (.lst l) :=
  k _ _ hx (not2 (s.dne hx (by intro _ z; cases z)) n)
theorem and2 {tB : TT} {σ : L2.St} {H : Hp} {Q : Bool → Hp → Prop} (a b : Bool) (hB : ∀ Q' : Bool → Hp → Prop, Q' b H → tB σ H Q') (q : Q (a && b) H) : if a = true then tB σ H Q else Q false H := by
  cases a with
  | true =>
    rw [if_pos rfl]
    exact hB Q q
  | false =>
    rw [if_neg Bool.false_ne_true]
    exact q
def rgL (f : Nat → Int) (m : Nat) : List Int := (List.range m).map f
theorem rgL_len (f : Nat → Int) (m : Nat) : (rgL f m).length = m := by simp [rgL]
theorem rgL_succ (f : Nat → Int) (m : Nat) : rgL f (m + 1) = rgL f m ++ [f m] := by simp [rgL, List.range_succ]
theorem rgL_gd (f : Nat → Int) {m i : Nat} (h : i < m) : gd (rgL f m) i = f i := by
  have a := gd_get (w := rgL f m) (i := i) (by rw [rgL_len]; exact h)
  unfold rgL at a
  rw [List.getElem?_map, List.getElem?_range h] at a
  exact (Option.some.inj a).symm
theorem item_gd {p : List Int} {i : Nat} {x : V} (h : (p.map V.int)[i]? = some x) : i < p.length ∧ x = V.int (gd p i) := by
  have hil : i < p.length := by
    have z := (List.getElem?_eq_some_iff.mp h).1
    rwa [List.length_map] at z
  rw [List.getElem?_map, gd_get hil] at h
  exact ⟨hil, (Option.some.inj h).symm⟩
def cut9 (x : Int) : Int := if (900000000000 : Int) < x then 900000000000 else x
theorem cut9_in {x : Int} (h0 : 0 ≤ x) (h1 : x ≤ 1000000000000) : 0 ≤ cut9 x ∧ cut9 x ≤ 1000000000000 := by
  unfold cut9
  split <;> omega
theorem gd_in {p : List Int} (h : ∀ x ∈ p, 0 ≤ x ∧ x ≤ 1000000000000) (i : Nat) : - 1000000000000 ≤ gd p i ∧ gd p i ≤ 1000000000000 := by
  by_cases hi : i < p.length
  · have := h _ (gd_mem hi)
    omega
  · rw [gd_out (by omega)]
    omega
theorem log_small {x : Int} (h : - 36000000000000 ≤ x ∧ x ≤ 36000000000000) : x.natAbs.log2 < 100 := by
  have a : x.natAbs < 2 ^ 100 := by
    have e : (2 : Nat) ^ 100 = 1267650600228229401496703205376 := by decide
    rw [e]
    omega
  exact PySem.Flt.log2_lt_of (by decide) a
theorem L_small {n : Nat} {p w : List Int} (hn : n ≤ 6) (hw : Ok n w) (hb : ∀ i, - 1000000000000 ≤ gd p i ∧ gd p i ≤ 1000000000000) : - 36000000000000 ≤ L p w ∧ L p w ≤ 36000000000000 := by
  have a := L_abs hb n w hw.1
  have b := inv_small hw hn
  omega
section
variable {P : Program} {w : World} {K : PySem.W.Frag} {mg : Str → Option Value} {base : Heap}
theorem scLaw : FnScope lN ["_law_script"] (defScope sLaw) := ⟨rfl, rfl, rfl, by decide +kernel, rfl, by decide +kernel, by decide +kernel⟩
theorem body_law {f : Addr} {cdv : Value} {A : Around} {outer : List PySem.Env} {s : Shared} {H : Hp} {vs : List V} {Q : VK} {E : XK} (T : Alldefs P w K mg base) (hr : Room 42 (A.deeper (PyProof.Rows.envOfC "law" (defScope sLaw) s.heap.objs.size f cdv)))
    (hg : (A.deeper (PyProof.Rows.envOfC "law" (defScope sLaw) s.heap.objs.size f cdv)).guards = some []) (h : spLaw K vs H Q E) :
    ∃ t, PSs (cxOf CX0 P w K mg base lN "law" (defScope sLaw) f cdv A outer s H E).nox (defBody sLaw) t ∧ t { nx := fun _ H' => Q .non H', rt := Q } (L2.start lN vs) H := by
  refine ⟨_, pss_cons (ps_set (i := 1) scLaw.nd rfl (Or.inr rfl) (pe_call T.source.G (hr.mono (by decide)) rfl T.source.D.mg T.source.D.fn.kp T.source.D.bs .nil pass0 (pa_cons (pv 0) pa_nil)))
    (pss_cons (ps_for PassesOwn.never rfl (pi_range1 rfl T.B.range (pa_cons pe_int pa_nil)) (pg_name (i := 2) scLaw.nd rfl (Or.inl rfl))
      (pss_cons
      (ps_par (i := 3) (j := 4) rfl scLaw.nd rfl rfl (by decide) rfl rfl (pa_cons (pe_call T.any.G (hr.mono (by decide)) rfl T.any.D.mg T.any.D.fn.kp T.any.D.bs .nil pass0 (pa_cons (pv 1) (pa_cons (pe_ix ix_list (pe_lst (pa_cons pe_int (pa_cons pe_int pa_nil))) (pv 2) (fun _ _ => rfl)) pa_nil))) (pa_cons pe_dnewT pa_nil)) (by rfl))
      (pss_cons
      (ps_setLc (i := 6) (own := [("_law_price", 5)]) (g := gName 5) (tt := tYes) (te := tCB rMin2 (tCons (tVar 5) (tCons (tOp rMu (tC (.int 9)) (tOp rPw (tC (.int 10)) (tC (.int 11)))) tNil))) rfl scLaw.nd rfl rfl (sw_true rfl rfl rfl (by decide +kernel)) (pi_list (pe_call T.prices.G (hr.mono (by decide)) rfl T.prices.D.mg T.prices.D.fn.kp T.prices.D.bs .nil pass0 (pa_cons (pv 1) (pa_cons (pe_callB (r := Evl.rLenS K) call_len_seq rfl T.B.len PySem.boot_len (pa_cons (pv 3) pa_nil)) pa_nil))))
        (blkOk_by (N := lN) (sc := defScope sLaw) (by decide +kernel)) (fun _ _ _ _ _ => (pg_name (i := 5) scLaw.nd rfl (Or.inl rfl))) (fun _ _ _ _ _ => pts_nil)
        (fun _ _ _ _ _ => pe_callB (call_min2 rfl) rfl T.B.min (by decide +kernel) (pa_cons (pv 5) (pa_cons (pe_op op_mul pe_int (pe_op op_pow pe_int pe_int)) pa_nil))))
      (pss_cons
      (ps_setLc (i := 7) (own := [("_law_level", 15)]) (g := gName 15) (tt := tYes) (te := tCall (spOf K) [] E0 (tCons (tVar 1) (tCons (tLst (tCons (tC (.int 0)) (tCons (tC (.int 1)) (tCons (tC (.int 7)) (tCons (tOp rPw (tC (.int 10)) (tC (.int 11))) tNil))))) tNil))) rfl scLaw.nd rfl rfl (sw_true rfl rfl rfl (by decide +kernel)) (pi_list (pv 6))
        (blkOk_by (N := lN) (sc := defScope sLaw) (by decide +kernel)) (fun _ _ _ _ _ => (pg_name (i := 15) scLaw.nd rfl (Or.inl rfl))) (fun _ _ _ _ _ => pts_nil)
        (fun _ _ _ _ _ => (pe_call T.of.G (hr.mono (by decide)) rfl T.of.D.mg T.of.D.fn.kp T.of.D.bs .nil pass0 (pa_cons (pv 1) (pa_cons (pe_lst (pa_cons pe_int (pa_cons pe_int (pa_cons pe_int (pa_cons (pe_op op_pow pe_int pe_int) pa_nil))))) pa_nil)))))
      (pss_cons
      (ps_par (i := 8) (j := 9) rfl scLaw.nd rfl rfl (by decide) rfl rfl (pa_cons (pe_call T.ext.G (hr.mono (by decide)) rfl T.ext.D.mg T.ext.D.fn.kp T.ext.D.bs .nil pass0 (pa_cons (pv 3) (pa_cons (pv 6) (pa_cons pe_int (pa_cons (pv 4) pa_nil))))) (pa_cons (pe_call T.ext.G (hr.mono (by decide)) rfl T.ext.D.mg T.ext.D.fn.kp T.ext.D.bs .nil pass0 (pa_cons (pv 3) (pa_cons (pv 6) (pa_cons (pe_un un_neg pe_int) (pa_cons pe_dnewT pa_nil))))) pa_nil)) (by rfl))
      (pss_cons
      (ps_set (i := 10) scLaw.nd rfl (Or.inl rfl) (pe_call T.cheapest.G (hr.mono (by decide)) rfl T.cheapest.D.mg T.cheapest.D.fn.kp T.cheapest.D.bs .nil pass0 (pa_cons (pv 3) (pa_cons (pv 6) pa_nil))))
      (pss_cons
      (ps_if (pt_cmpR op_ne (pe_callB (call_repr hg (hr.mono (k := 42) (j := 1) (by decide)).units) rfl T.B.repr (by decide +kernel) (pa_cons (pe_lst (pa_cons (pe_call T.leastP.G (hr.mono (by decide)) rfl T.leastP.D.mg T.leastP.D.fn.kp T.leastP.D.bs .nil pass0 (pa_cons (pv 3) (pa_cons (pv 6) pa_nil))) (pa_cons (pe_call T.greatest.G (hr.mono (by decide)) rfl T.greatest.D.mg T.greatest.D.fn.kp T.greatest.D.bs .nil pass0 (pa_cons (pv 3) (pa_cons (pv 6) pa_nil))) pa_nil))) pa_nil)) (pe_callB (call_repr hg (hr.mono (k := 42) (j := 1) (by decide)).units) rfl T.B.repr (by decide +kernel) (pa_cons (pe_lst (pa_cons (pv 8) (pa_cons (pv 9) pa_nil))) pa_nil)) (nomark _)) (pss_one ps_never) pss_nil)
      (pss_cons
      (ps_if (PW.pt (pw_or (pt_cmpR op_notN (pe_call T.verdict.G (hr.mono (by decide)) rfl T.verdict.D.mg T.verdict.D.fn.kp T.verdict.D.bs .nil pass0 (pa_cons (pv 3) (pa_cons (pv 10) pa_nil))) pe_non (nomark _)) (pw_or1 (pt_not (pt_val (pe_call T.right.G (hr.mono (by decide)) rfl T.right.D.mg T.right.D.fn.kp T.right.D.bs .nil pass0 (pa_cons (pv 3) (pa_cons (pv 6) (pa_cons (pv 10) (pa_cons (pv 4) pa_nil)))))))))) (pss_one ps_never) pss_nil)
      (pss_cons
      (ps_for PassesOwn.never rfl (pi_range1 rfl T.B.range (pa_cons pe_int pa_nil)) (pg_name (i := 11) scLaw.nd rfl (Or.inl rfl)) (pss_one (ps_if (pt_not (pt_chain op_le op_le (pv 8) (pe_call T.priceOf.G (hr.mono (by decide)) rfl T.priceOf.D.mg T.priceOf.D.fn.kp T.priceOf.D.bs .nil pass0 (pa_cons (pe_call T.row.G (hr.mono (by decide)) rfl T.row.D.mg T.row.D.fn.kp T.row.D.bs .nil pass0 (pa_cons (pv 1) (pa_cons (pv 3) pa_nil))) (pa_cons (pv 6) pa_nil))) (pv 9))) (pss_one ps_never) pss_nil)))
      (pss_cons
      (ps_if (PW.pt (pw_and (pt_cmpR op_isN (pe_call T.triple.G (hr.mono (by decide)) rfl T.triple.D.mg T.triple.D.fn.kp T.triple.D.bs .nil pass0 (pa_cons (pv 3) pa_nil)) pe_non (nomark _)) (pw_and1 (pt_cmpR op_ne (pv 8) (pv 9) (nomark _))))) (pss_one ps_never) pss_nil)
      (pss_cons
      (ps_setLc (i := 12) (own := [("_law_one", 16), ("_law_other", 17)]) (g := gTup K 2 (gCons (gName 16) (gCons (gName 17) gNil))) (tt := tYes) (te := tOp rPl (tVar 16) (tVar 17)) rfl scLaw.nd rfl rfl (sw_true rfl rfl rfl (by decide +kernel)) (pi_zip rfl T.B.zip (pa_cons (pv 6) (pa_cons (pv 7) pa_nil)))
        (blkOk_by (N := lN) (sc := defScope sLaw) (by decide +kernel)) (fun _ _ _ _ _ => pg_tup rfl (pgs_cons (pg_name (i := 16) scLaw.nd rfl (Or.inl rfl)) (pgs_cons (pg_name (i := 17) scLaw.nd rfl (Or.inl rfl)) pgs_nil))) (fun _ _ _ _ _ => pts_nil)
        (fun _ _ _ _ _ => pe_op op_add (pv 16) (pv 17)))
      (pss_cons
      (ps_if (pt_cmpR op_lt (pe_call T.leastP.G (hr.mono (by decide)) rfl T.leastP.D.mg T.leastP.D.fn.kp T.leastP.D.bs .nil pass0 (pa_cons (pv 3) (pa_cons (pv 12) pa_nil))) (pe_op op_add (pv 8) (pe_call T.leastP.G (hr.mono (by decide)) rfl T.leastP.D.mg T.leastP.D.fn.kp T.leastP.D.bs .nil pass0 (pa_cons (pv 3) (pa_cons (pv 7) pa_nil)))) (nomark _)) (pss_one ps_never) pss_nil)
      (pss_cons
      (ps_set (i := 5) scLaw.nd rfl (Or.inr rfl) (pe_call T.pick.G (hr.mono (by decide)) rfl T.pick.D.mg T.pick.D.fn.kp T.pick.D.bs .nil pass0 (pa_cons (pv 1) (pa_cons pe_int pa_nil))))
      (pss_cons
      (ps_setLc (i := 13) (own := [("_law_level", 15)]) (g := gName 15) (tt := tYes) (te := tVar 5) rfl scLaw.nd rfl rfl (sw_true rfl rfl rfl (by decide +kernel)) (pi_tup (pe_slice sl_tupA (pv 3) (po_some pe_int) po_none))
        (blkOk_by (N := lN) (sc := defScope sLaw) (by decide +kernel)) (fun _ _ _ _ _ => (pg_name (i := 15) scLaw.nd rfl (Or.inl rfl))) (fun _ _ _ _ _ => pts_nil)
        (fun _ _ _ _ _ => pv 5))
      (pss_cons
      (ps_set (i := 14) scLaw.nd rfl (Or.inl rfl) (pe_op op_mul (pe_call T.inv.G (hr.mono (by decide)) rfl T.inv.D.mg T.inv.D.fn.kp T.inv.D.bs .nil pass0 (pa_cons (pv 3) pa_nil)) (pe_ix ix_list (pv 13) pe_int (fun _ _ => rfl))))
      (pss_one
      (ps_if (pt_cmpR (op_neD hr.units) (pe_lst (pa_cons (pe_call T.leastP.G (hr.mono (by decide)) rfl T.leastP.D.mg T.leastP.D.fn.kp T.leastP.D.bs .nil pass0 (pa_cons (pv 3) (pa_cons (pv 13) pa_nil))) (pa_cons (pe_call T.greatest.G (hr.mono (by decide)) rfl T.greatest.D.mg T.greatest.D.fn.kp T.greatest.D.bs .nil pass0 (pa_cons (pv 3) (pa_cons (pv 13) pa_nil))) (pa_cons (pe_call T.priceOf.G (hr.mono (by decide)) rfl T.priceOf.D.mg T.priceOf.D.fn.kp T.priceOf.D.bs .nil pass0 (pa_cons (pe_call T.cheapest.G (hr.mono (by decide)) rfl T.cheapest.D.mg T.cheapest.D.fn.kp T.cheapest.D.bs .nil pass0 (pa_cons (pv 3) (pa_cons (pv 13) pa_nil))) (pa_cons (pv 13) pa_nil))) pa_nil)))) (pe_op op_rep (pe_lst (pa_cons (pv 14) pa_nil)) pe_int) (nomark _)) (pss_one ps_never) pss_nil)))))))))))))))))
    (pss_one (ps_ret pe_bl))), ?_⟩
  obtain ⟨a, ns, rfl, hS, hl, q⟩ := h
  refine ⟨_, rfl, a, ns, rfl, hS, by omega, fun d c H1 s1 sr1 => ?_⟩
  refine ⟨2, rfl, by decide, by decide, ?_⟩
  refine for_range (lo := 0) (n := 2) (fun i σ H' => (∃ x2 x3 x4 x5 x6 x7 x8 x9 x10 x11 x12 x13 x14 x15 x16 x17 : Option V, σ = [some (.ref a), some (.ref d), x2, x3, x4, x5, x6, x7, x8, x9, x10, x11, x12, x13, x14, x15, x16, x17]) ∧ Src H' d c)
    ⟨⟨none, none, none, none, none, none, none, none, none, none, none, none, none, none, none, none, rfl⟩, sr1⟩ ?hturn ?hend
  case hend =>
    rintro σ H' ⟨⟨x2, x3, x4, x5, x6, x7, x8, x9, x10, x11, x12, x13, x14, x15, x16, x17, rfl⟩, _⟩
    exact q H'
  case hturn =>
    rintro i σ H0 hi ⟨⟨x2, x3, x4, x5, x6, x7, x8, x9, x10, x11, x12, x13, x14, x15, x16, x17, rfl⟩, sr0⟩
    -- the order
    refine ⟨_, rfl, by show 2 ≤ sizeLine; decide, fun l5 h5 => ?_⟩
    have s2 : Same H0 (upd H0 l5 (.lst [.int 5, .int 6])) := same_new h5 _
    have t2 : (upd H0 l5 (.lst [.int 5, .int 6])) l5 = some (.lst [.int 5, .int 6]) := upd_same
    generalize upd H0 l5 (.lst [.int 5, .int 6]) = H2 at *
    have e5 : ([V.int 5, V.int 6] : List V)[i]? = some (.int ((5 + i : Nat) : Int)) := by
      have : i = 0 ∨ i = 1 := by omega
      rcases this with rfl | rfl <;> rfl
    refine ⟨_, rfl, l5, _, _, _, rfl, rfl, SqL.of t2, at_of (j := i) (by omega) e5, ?_⟩
    have sr2 := sr0.kp s2
    generalize hn : 5 + i = n at *
    have n5 : 5 ≤ n := by omega
    have n6 : n ≤ 6 := by omega
    refine ⟨d, c, n, rfl, sr2, by omega, n6, fun o ws H3 h3 t3 hw k3 sr3 => ?_⟩
    intro kn hkn
    have s4 : Same H3 (upd H3 kn (.dT [])) := same_new hkn _
    have t4 : (upd H3 kn (.dT [])) kn = some (.dT []) := upd_same
    have o4 := s4 _ _ t3
    have sr4 := sr3.kp s4
    obtain ⟨nkd, nkc⟩ := sr3.dnew hkn
    generalize upd H3 kn (.dT []) = H4 at *
    refine ⟨_, _, rfl, ?_⟩
    have hlen : (ws.map V.int).length = n := by rw [List.length_map]; exact hw.1
    -- the prices
    refine ⟨_, rfl, _, rfl, o, _, rfl, .inr (SqT.of o4), ?_⟩
    rw [hlen]
    refine ⟨d, c, n, rfl, sr4, by omega, n6, fun pl ps H5 hpl t5 lps bps k5 sr5 => ?_⟩
    have o5 : H5 o = some (tupI ws) := k5 _ _ o4 (not2 (sr4.dne o4 (by intro _ z; cases z)) (sr4.cne o4 (by intro _ z; cases z)))
    have kn5 : H5 kn = some (.dT []) := k5 _ _ t4 (not2 nkd nkc)
    refine ⟨pl, rfl, ⟨_, SqL.of t5⟩, fun pr hpr => ?_⟩
    obtain ⟨nprd, nprc⟩ := sr5.dnew hpr
    refine lc_list (K := K) (a := pl) (xs := ps.map V.int) (fun i H' => Same H5 H' ∧ H' pr = some (lstI ((ps.take i).map cut9))) ⟨same_new hpr _, upd_same⟩ (fun i H' _ ⟨s, _⟩ => SqL.of (s _ _ t5)) ?_ ?_
    · rintro i' x H' hx ⟨hs, hp'⟩
      have hil : i' < ps.length := by
        have z := (List.getElem?_eq_some_iff.mp hx).1
        rwa [List.length_map] at z
      rw [List.getElem?_map, gd_get hil] at hx
      have ex : x = V.int (gd ps i') := (Option.some.inj hx).symm
      subst ex
      refine ⟨rfl, ?_⟩
      refine yes_ ?_
      refine ⟨_, rfl, _, _, rfl, rfl, ⟨by decide, by decide, by decide⟩, _, _, rfl, rfl, .inl ⟨by decide, by decide⟩, _, _, rfl, _, hp', ?_, Same.mut hs hpr, ?_⟩
      · rw [List.length_map, List.length_map, List.length_take]
        exact smallt (by omega)
      · rw [upd_same, List.take_add_one, gd_get hil, List.map_append]
        show some (HO.lst _) = some (HO.lst _)
        rw [List.map_append]
        rfl
    rintro H6 ⟨s6, t6⟩
    rw [List.length_map, List.take_length] at t6
    have bp : ∀ x ∈ ps.map cut9, 0 ≤ x ∧ x ≤ 1000000000000 := fun x hx => by
      obtain ⟨y, hy, rfl⟩ := List.mem_map.mp hx
      exact cut9_in (bps y hy).1 (bps y hy).2
    have lp : (ps.map cut9).length + 1 = n := by rw [List.length_map]; exact lps
    generalize ps.map cut9 = p at *
    have e6 : Ev1 H6 d c n o pr ws p := ⟨sr5.kp s6, ⟨s6 _ _ o5, hw, by omega, n6, t6, lp⟩, nprc⟩
    have kn6 := s6 _ _ kn5
    clear s2 t2 e5 sr2 k3 h3 t3 sr3 s4 t4 o4 sr4 hpl t5 lps bps k5 sr5 o5 kn5 hpr s6 t6
    -- the other prices
    refine ⟨_, rfl, pr, rfl, ⟨_, SqL.of e6.op.hp⟩, fun ot hot => ?_⟩
    obtain ⟨notd, notc⟩ := e6.sr.dnew hot
    have s6 : Same H6 (upd H6 ot (.lst [])) := same_new hot _
    refine lc_list (K := K) (a := pr) (xs := p.map V.int) (fun i H' => Ev1 H' d c n o pr ws p ∧ H' kn = some (.dT []) ∧ ∃ qs : List Int, H' ot = some (lstI qs) ∧ qs.length = i) ⟨e6.same s6, s6 _ _ kn6, [], upd_same, rfl⟩ (fun i H' _ ⟨e, _⟩ => SqL.of e.op.hp) ?_ ?_
    · rintro i' x H' hx ⟨e7, k7, qs, hq, lq⟩
      have hil : i' < p.length := by
        have z := (List.getElem?_eq_some_iff.mp hx).1
        rwa [List.length_map] at z
      refine ⟨rfl, ?_⟩
      refine yes_ ?_
      refine ⟨_, rfl, _, _, rfl, rfl, ⟨by decide, by decide, by decide⟩, by show 4 ≤ sizeLine; decide, fun la hla => ?_⟩
      have s7 : Same H' (upd H' la (.lst ([0, 1, 7, (10 : Int) ^ Int.toNat 11].map V.int))) := same_new hla _
      have t7 : (upd H' la (.lst ([0, 1, 7, (10 : Int) ^ Int.toNat 11].map V.int))) la = some (.lst ([0, 1, 7, (10 : Int) ^ Int.toNat 11].map V.int)) := upd_same
      have e8 := e7.same s7
      have n8 := (e7.sr.dnew hla).2
      refine ⟨d, c, la, _, rfl, e8.sr, t7, n8, by show 1 ≤ 4; decide, by show 4 ≤ 1000; decide, fun x2' H8 hx2 k8 sr8 => ?_⟩
      obtain ⟨z, _, rfl⟩ := List.mem_map.mp hx2
      have e9 := e8.draw k8 sr8
      have hq9 : H8 ot = some (.lst (qs.map V.int)) := k8 _ _ (s7 _ _ hq) (not2 notd notc)
      refine ⟨_, hq9, ?_, ?_, ?_, qs ++ [z], ?_, by rw [List.length_append, lq]; rfl⟩
      · rw [List.length_map, lq]
        exact smallt (by omega)
      · have npo : pr ≠ ot := ne_of_none e6.op.hp hot
        have noo : o ≠ ot := ne_of_none e6.op.ho hot
        exact ⟨e9.sr.up notd notc, ⟨by rw [upd_ne noo]; exact e9.op.ho, e9.op.ok, e9.op.n1, e9.op.n6, by rw [upd_ne npo]; exact e9.op.hp, e9.op.pl⟩, e9.npc⟩
      · rw [upd_ne (ne_of_none kn6 hot)]
        exact k8 _ _ (s7 _ _ k7) (not2 nkd nkc)
      · rw [upd_same, lstI, List.map_append]
        rfl
    rintro H7 ⟨e7, kn7, qs, hq7, lq⟩
    rw [List.length_map] at lq
    clear s6 hot e6 kn6
    -- the least and the greatest price, as the law reckons them
    refine ⟨_, rfl, _, rfl, _, rfl, o, pr, kn, n, 1, ws, p, [], rfl, .inl rfl, e7.op, inv_small e7.op.ok n6, kn7, .nil, fun H8 kvs8 k8 kn8 g8 => ?_⟩
    have e8 := e7.kn k8 kn7
    have hq8 := lst_kn hq7 k8 kn7
    refine ⟨_, rfl, _, rfl, _, rfl, fun k2 hk2 => ?_⟩
    have s8 := same_new hk2 (.dT [])
    refine ⟨o, pr, k2, n, -1, ws, p, [], rfl, .inr rfl, e8.op.mono s8, inv_small e8.op.ok n6, upd_same, .nil, fun H9 kvs9 k9 a9 g9 => ?_⟩
    have s9 : Same H8 H9 := kp_same s8 hk2 k9
    refine ⟨_, _, rfl, ?_⟩
    rw [Xv_one, Xv_neg]
    have e9 := e8.same s9
    have hq9 := s9 _ _ hq8
    have kn9 := s9 _ _ kn8
    clear s8 k9 a9 g9 s9 hk2 k8 kn7 hq7 e7 e8 hq8 kn8
    -- the cheapest row
    refine ⟨_, rfl, _, rfl, o, pr, n, ws, p, rfl, e9.op, fun tl r H10 htl s10 t10 hrow hfst => ?_⟩
    have e10 := e9.same s10
    have hq10 := s10 _ _ hq9
    have kn10 := s10 _ _ kn9
    clear s10 e9 hq9 kn9
    have bP := gd_in bp
    have bN : ∀ i, - 1000000000000 ≤ gd (neg p) i ∧ gd (neg p) i ≤ 1000000000000 := fun i => by
      rw [gd_neg]
      have := bP i
      omega
    have l1 := L_small n6 e10.op.ok bP
    have l2 := L_small n6 e10.op.ok bN
    have lg1 : (L p ws).natAbs.log2 < 100 := log_small l1
    have lg2 : (0 - L (neg p) ws).natAbs.log2 < 100 := log_small (by omega)
    have lgs : ∀ x ∈ [L p ws, 0 - L (neg p) ws], x.natAbs.log2 < 1920 := fun x hx => by
      have : x = L p ws ∨ x = 0 - L (neg p) ws := by simpa using hx
      rcases this with rfl | rfl <;> omega
    -- the two texts
    refine ⟨_, rfl, _, rfl, o, pr, n, ws, p, rfl, e10.op, fun H11 s11 => ?_⟩
    refine ⟨_, rfl, _, rfl, o, pr, n, ws, p, rfl, e10.op.mono s11, fun H12 s12 => ?_⟩
    refine ⟨by show 2 ≤ sizeLine; decide, fun la hla => ?_⟩
    have s13 : Same H12 (upd H12 la (.lst [.int (L p ws), .int (0 - L (neg p) ws)])) := same_new hla _
    have t13 : (upd H12 la (.lst [.int (L p ws), .int (0 - L (neg p) ws)])) la = some (lstI [L p ws, 0 - L (neg p) ws]) := upd_same
    generalize upd H12 la (.lst [.int (L p ws), .int (0 - L (neg p) ws)]) = H13 at *
    refine ⟨la, _, rfl, t13, lgs, shown2_len lg1 lg2, ?_⟩
    refine ⟨_, rfl, _, rfl, by show 2 ≤ sizeLine; decide, fun lb hlb => ?_⟩
    have s14 : Same H13 (upd H13 lb (.lst [.int (L p ws), .int (0 - L (neg p) ws)])) := same_new hlb _
    have t14 : (upd H13 lb (.lst [.int (L p ws), .int (0 - L (neg p) ws)])) lb = some (lstI [L p ws, 0 - L (neg p) ws]) := upd_same
    generalize upd H13 lb (.lst [.int (L p ws), .int (0 - L (neg p) ws)]) = H14 at *
    refine ⟨lb, _, rfl, t14, lgs, shown2_len lg1 lg2, rfl, _, rfl, ?_⟩
    rw [decide_eq_true rfl]
    refine iteF ?_
    have sA : Same H10 H14 := s11.trans (s12.trans (s13.trans s14))
    have e14 := e10.same sA
    have hq14 := sA _ _ hq10
    have kn14 := sA _ _ kn10
    have tl14 := sA _ _ t10
    clear s11 s12 s13 s14 sA t13 t14 hla hlb e10 hq10 kn10 t10
    -- the cheapest row is one, and the first such
    have rl : r.length ≤ 36 := by
      rw [row_len hrow]
      have := inv_small e14.op.ok n6
      omega
    refine ⟨_, rfl, _, rfl, o, tl, n, ws, r, rfl, e14.op.ho, e14.op.ok, e14.op.n1, n6, tl14, hrow, by omega, fun H15 s15 => ?_⟩
    have e15 := e14.same s15
    have kn15 := s15 _ _ kn14
    refine ⟨rfl, _, rfl, ?_⟩
    rw [show (decide (V.non = V.non)) = true from decide_eq_true rfl]
    refine iteF ?_
    refine ⟨_, rfl, _, rfl, _, rfl, _, rfl, o, pr, tl, kn, n, ws, p, r, kvs8, rfl, e15.op, s15 _ _ tl14, hrow, hfst, kn15, g8, fun H16 k16 => ?_⟩
    refine ⟨true, rfl, ?_⟩
    refine iteF ?_
    have e16 := e15.kn k16 kn15
    have hq16 := lst_kn (s15 _ _ hq14) k16 kn15
    clear s15 k16 kn15 e15 e14 kn14 tl14 hq14
    -- drawn rows
    refine ⟨3, rfl, by decide, by decide, ?_⟩
    refine for_range (lo := 0) (n := 3) (fun i' σ H' => (∃ x11 : Option V, σ = [some (.ref a), some (.ref d), some (.int (0 + (i : Int))), some (.ref o), some (.ref kn), x5, some (.ref pr), some (.ref ot), some (.int (L p ws)), some (.int (0 - L (neg p) ws)), some (.ref tl), x11, x12, x13, x14, x15, x16, x17]) ∧ Ev1 H' d c n o pr ws p ∧ H' ot = some (.lst (qs.map V.int)))
      ⟨⟨x11, rfl⟩, e16, hq16⟩ ?_ ?_
    · rintro i' σ H' hi' ⟨⟨y11, rfl⟩, e17, hq17⟩
      refine ⟨_, rfl, ?_⟩
      refine ⟨_, rfl, _, rfl, d, c, o, n, ws, rfl, e17.sr, e17.op.ho, e17.op.ok, e17.op.n1, n6, fun rp rr H18 hrp t18 hrow2 k18 sr18 => ?_⟩
      have e18 := e17.draw k18 sr18
      have hq18 := lst_draw hq17 e17.sr notc k18
      have rl2 : rr.length ≤ 36 := by
        rw [row_len hrow2]
        have := inv_small e17.op.ok n6
        omega
      refine ⟨_, rfl, rp, pr, rr, p, rfl, t18, e18.op.hp, by omega, fun m hm => ?_, fun H19 s19 => ?_⟩
      · have := row_lt e17.op.ok.1 hrow2 m hm
        omega
      have c1 := L_le_row (p := p) hrow2
      have c2 := row_le_G (p := p) hrow2
      refine ⟨_, _, rfl, rfl, _, rfl, ?_⟩
      rw [decide_eq_true c1]
      refine iteT ?_
      refine ⟨_, rfl, _, _, rfl, rfl, _, rfl, ?_⟩
      rw [decide_eq_true c2]
      refine iteF ?_
      exact ⟨⟨_, rfl⟩, e18.same s19, s19 _ _ hq18⟩
    rintro σ H17 ⟨⟨y11, rfl⟩, e17, hq17⟩
    clear e16 hq16
    -- plain orders
    refine ⟨_, rfl, o, ws, rfl, e17.op.ho, by rw [e17.op.ok.1]; omega, fun v H18 hv s18 => ?_⟩
    have e18 := e17.same s18
    have hq18 := s18 _ _ hq17
    refine ⟨rfl, _, rfl, ?_⟩
    refine and2 _ _ (fun Q' z => ⟨_, rfl, _, rfl, rfl, _, rfl, z⟩) ?_
    have pf : (decide (v = V.non) && !decide (V.int (L p ws) = V.int (0 - L (neg p) ws))) = false := by
      by_cases z : v = .non
      · have := (plain_all (p := p) n ws e17.op.ok.1 (hv z)).1
        rw [← this, decide_eq_true (rfl : V.int (L p ws) = V.int (L p ws)), Bool.not_true, Bool.and_false]
      · rw [decide_eq_false z, Bool.false_and]
    rw [pf]
    refine iteF ?_
    clear e17 hq17 hv s18
    -- the prices of two lists added
    refine ⟨_, rfl, _, rfl, pr, ot, p.map V.int, qs.map V.int, rfl, SqL.of e18.op.hp, SqL.of hq18, fun bt hbt => ?_⟩
    refine lc_zip (K := K) (a := pr) (b := ot) (xs := p.map V.int) (ys := qs.map V.int) (fun i H' => Same H18 H' ∧ H' bt = some (lstI (rgL (fun k => gd p k + gd qs k) i))) (by rw [List.length_map, List.length_map, lq]) ⟨same_new hbt _, upd_same⟩
      (fun i H' ⟨s, _⟩ => ⟨SqL.of (s _ _ e18.op.hp), SqL.of (s _ _ hq18)⟩) ?_ ?_
    · rintro i' x y H' Tp hx hy ⟨s, hb⟩ hT
      obtain ⟨hil, rfl⟩ := item_gd hx
      obtain ⟨_, rfl⟩ := item_gd hy
      refine ⟨Tp, _, rfl, SqT.of upd_same, rfl, _, _, rfl, _, _, rfl, rfl, rfl, ?_⟩
      refine yes_ ?_
      refine ⟨_, rfl, _, rfl, _, _, rfl, rfl, _, (upd_ne (ne_of_none hb hT)).trans hb, ?_, Same.mut (s.trans (same_new hT _)) hbt, ?_⟩
      · rw [List.length_map, rgL_len]
        exact smallt (by omega)
      · rw [upd_same, rgL_succ, lstI, List.map_append]
        rfl
    rintro H19 ⟨s19, t19⟩
    rw [List.length_map] at t19
    have e19 := e18.same s19
    have hq19 := s19 _ _ hq18
    clear s19 e18 hq18 hbt
    generalize hB : rgL (fun k => gd p k + gd qs k) p.length = bb at *
    have lb : bb.length + 1 = n := by rw [← hB, rgL_len]; exact lp
    have gb : ∀ k, k + 1 < n → gd bb k = gd p k + gd qs k := fun k hk => by rw [← hB]; exact rgL_gd _ (by omega)
    have sup := super_L (p := p) (q := qs) (s := bb) (n := n) gb ws e19.op.ok.1
    refine ⟨_, rfl, _, rfl, o, bt, n, ws, bb, rfl, ⟨e19.op.ho, e19.op.ok, e19.op.n1, n6, t19, lb⟩, fun H20 s20 => ?_⟩
    have e20 := e19.same s20
    refine ⟨_, rfl, _, rfl, _, rfl, o, ot, n, ws, qs, rfl, ⟨e20.op.ho, e20.op.ok, e20.op.n1, n6, s20 _ _ hq19, by omega⟩, fun H21 s21 => ?_⟩
    refine ⟨_, _, rfl, rfl, _, _, rfl, rfl, _, rfl, ?_⟩
    rw [decide_eq_false (show ¬ (L bb ws < L p ws + L qs ws) by omega)]
    refine iteF ?_
    have e21 := e20.same s21
    clear e19 hq19 t19 s20 e20 s21
    -- equal prices
    refine ⟨_, rfl, d, c, 9, rfl, e21.sr, by decide, by decide, fun pz H22 z0 z1 k22 sr22 => ?_⟩
    have e22 := e21.draw k22 sr22
    clear k22 sr22 e21
    have nw : ¬ (HT.sIx (ws.map V.int).length 0 (some ((1 : Nat) : Int)) = 0 ∧ HT.sIx (ws.map V.int).length (ws.map V.int).length none = (ws.map V.int).length) := by
      rw [HT.sIx_nat, hlen]
      omega
    refine ⟨_, rfl, 1, rfl, o, _, rfl, SqT.of e22.op.ho, (fun z => absurd z nw), fun _ sl hsl => ?_⟩
    have ecut : cutV (ws.map V.int) (some 1) none = (ws.drop 1).map V.int := cut_hi ws 1 (by rw [e22.op.ok.1]; omega)
    rw [ecut]
    have s23 : Same H22 (upd H22 sl (.tup ((ws.drop 1).map V.int))) := same_new hsl _
    have t23 : (upd H22 sl (.tup ((ws.drop 1).map V.int))) sl = some (.tup ((ws.drop 1).map V.int)) := upd_same
    generalize upd H22 sl (.tup ((ws.drop 1).map V.int)) = H23 at *
    have e23 := e22.same s23
    refine ⟨sl, rfl, ⟨_, SqT.of t23⟩, fun ft hft => ?_⟩
    refine lc_tup (K := K) (a := sl) (xs := (ws.drop 1).map V.int) (fun i H' => Same H23 H' ∧ H' ft = some (lstI (rgL (fun _ => pz) i))) ⟨same_new hft _, upd_same⟩ (fun i H' _ ⟨s, _⟩ => SqT.of (s _ _ t23)) ?_ ?_
    · rintro i' x H' hx ⟨s, hf⟩
      obtain ⟨hil, rfl⟩ := item_gd hx
      rw [List.length_drop, e23.op.ok.1] at hil
      refine ⟨rfl, ?_⟩
      refine yes_ ?_
      refine ⟨_, rfl, _, hf, ?_, Same.mut s hft, ?_⟩
      · rw [List.length_map, rgL_len]
        exact smallt (by omega)
      · rw [upd_same, rgL_succ, lstI, List.map_append]
        rfl
    rintro H24 ⟨s24, t24⟩
    have el : ((ws.drop 1).map V.int).length = n - 1 := by rw [List.length_map, List.length_drop, e23.op.ok.1]
    rw [el] at t24
    have e24 := e23.same s24
    clear s23 t23 e22 e23 hsl hft s24
    generalize hF : rgL (fun _ => pz) (n - 1) = F at *
    have lF : F.length + 1 = n := by rw [← hF, rgL_len]; omega
    have gF : ∀ k, k + 1 < n → gd F k = pz := fun k hk => by rw [← hF]; exact rgL_gd _ (by omega)
    have gNF : ∀ k, k + 1 < n → gd (neg F) k = - pz := fun k hk => by rw [gd_neg, gF k hk]
    have fL := flat_L gF ws e24.op.ok.1
    have fG := flat_L gNF ws e24.op.ok.1
    have iv := inv_small e24.op.ok n6
    refine ⟨_, rfl, o, ws, rfl, e24.op.ho, by rw [e24.op.ok.1]; omega, fun H25 s25 => ?_⟩
    have e25 := e24.same s25
    have t25 := s25 _ _ t24
    refine ⟨_, rfl, ft, _, _, _, rfl, rfl, SqL.of t25, at_gd (i := 0) (by omega) rfl, _, _, rfl, rfl, .inl ⟨by omega, by omega⟩, ?_⟩
    have g0 : gd F 0 = pz := gF 0 (by omega)
    have opF : Opr H25 n o ft ws F := ⟨e25.op.ho, e25.op.ok, e25.op.n1, n6, t25, lF⟩
    have due : (fun i j => V.int (i * j)) ((inv ws : Nat) : Int) (gd F 0) = V.int (((inv ws : Nat) : Int) * pz) := by rw [g0]
    rw [due]
    refine ⟨_, rfl, _, rfl, o, ft, n, ws, F, rfl, opF, fun H26 s26 => ?_⟩
    refine ⟨_, rfl, _, rfl, o, ft, n, ws, F, rfl, opF.mono s26, fun H27 s27 => ?_⟩
    refine ⟨_, rfl, _, rfl, o, ft, n, ws, F, rfl, (opF.mono s26).mono s27, fun tl2 r2 H28 htl2 s28 t28 hrow2 hfst2 => ?_⟩
    have rl2 : r2.length ≤ 36 := by
      rw [row_len hrow2]
      omega
    refine ⟨_, rfl, tl2, ft, r2, F, rfl, t28, (((opF.mono s26).mono s27).mono s28).hp, by omega, fun m hm => ?_, fun H29 s29 => ?_⟩
    · have := row_lt e25.op.ok.1 hrow2 m hm
      omega
    have fR : priceR F r2 = ((inv ws : Nat) : Int) * pz := by
      rw [flat_row gF (fun m hm => row_lt e25.op.ok.1 hrow2 m hm), row_len hrow2]
    have fG' : 0 - L (neg F) ws = ((inv ws : Nat) : Int) * pz := by
      rw [fG, Int.mul_neg]
      omega
    rw [fL, fG', fR]
    generalize ((inv ws : Nat) : Int) * pz = du at *
    refine ⟨by show 3 ≤ sizeLine; decide, fun la hla => ?_⟩
    have s30 : Same H29 (upd H29 la (.lst [.int du, .int du, .int du])) := same_new hla _
    have t30 : (upd H29 la (.lst [.int du, .int du, .int du])) la = some (lstI [du, du, du]) := upd_same
    generalize upd H29 la (.lst [.int du, .int du, .int du]) = H30 at *
    refine ⟨_, rfl, by show 1 ≤ sizeLine; decide, fun lb' hlb => ?_⟩
    have s31 : Same H30 (upd H30 lb' (.lst [.int du])) := same_new hlb _
    have t31 : (upd H30 lb' (.lst [.int du])) lb' = some (.lst [.int du]) := upd_same
    generalize upd H30 lb' (.lst [.int du]) = H31 at *
    refine ⟨lb', 3, _, rfl, rfl, t31, by decide, by decide, (show 3 ≤ sizeLine by decide), fun lc hlc => ?_⟩
    have s32 : Same H31 (upd H31 lc (.lst [.int du, .int du, .int du])) := same_new hlc _
    have t32 : (upd H31 lc (.lst [.int du, .int du, .int du])) lc = some (lstI [du, du, du]) := upd_same
    refine ⟨dI [du, du, du], dI [du, du, du], dp_lst (s32 _ _ (s31 _ _ t30)), dp_lst t32, dI_shaped _, dI_shaped _, _, rfl, ?_⟩
    rw [dI_refl]
    refine iteF ?_
    exact ⟨⟨_, _, _, _, _, _, _, _, _, _, _, _, _, _, _, _, rfl⟩, e25.sr.kp (s26.trans (s27.trans (s28.trans (s29.trans (s30.trans (s31.trans s32))))))⟩
end
end K52

namespace K52
open PySem PySem.Spec PyProof.Rows L2
section
variable {P : Program} {w : World} {K : PySem.W.Frag} {mg : Str → Option Value} {base : Heap}
/-- the law's def, called where no guard runs -/
theorem run_law {fa : Addr} {fd : FuncData} {A : Around} {fr : List PySem.Env} {s0 : Shared} {H : Hp} {ar : Args} {us : List Value} {vs : List V} {Q : VK} {E : XK}
    (F : Fun K "law" "law" sLaw fa fd) (T : Alldefs P w K mg base) (room : Room 43 A) (free : A.guards = some [])
    (start0 : Env0 P w K mg base A fr s0 H) (bind : BindsTo s0 fd ar ((["_law_script"] : List Str).zip us)) (rel : Vals vs us) (want : spLaw K vs H Q E) :
    codeAny (model P w) A (.call (.ref fa) ar) (CR CX0 fr P w H s0 Q E) s0 := by
  obtain ⟨oc, od, kV, doc, pm, an, cdv, ct, osl, shape, look, code⟩ := F.ex
  subst shape
  have one : vs.length = (["_law_script"] : List Str).length := by
    obtain ⟨a, ns, e, _⟩ := want
    rw [e]
    rfl
  have stands : ∀ b o, base.get? b = some o → s0.heap.get? b = some o := fun b o e => (start0.bs b o e).1
  have inK : K.In s0.heap := start0.mod.kin.keeps stands
  have limit : s0.heap.NoLimit := start0.mod.nolimit.keeps stands
  have names : ∀ y ∈ (["_law_script"] : List Str).zip us, (defScope sLaw).names.lookup y.1 = some .local ∨
      ((defScope sLaw).names.lookup y.1 = some .cell ∧ ((cellsFrom (s0.heap.objs.size + 1) (defScope sLaw).names []).lookup y.1).isSome = true) := by
    intro y hy
    have m := (List.of_mem_zip (a := y.1) (b := y.2) hy).1
    rw [List.mem_singleton] at m
    rw [m]
    exact .inl rfl
  refine codeAny_call_function room.depth (inK _ _ look) rfl scLaw.co scLaw.gen rfl (PySem.W.codeRec_of inK code) (bind _ _ _ _ ?_)
  refine wpAny_newFunctionEnv_cells scLaw.kind names ?_
  intro env eenv s1 inside
  subst eenv
  refine ⟨limit.keeps inside.toInCall.keep, codeAny_func ?_⟩
  obtain ⟨t, rule, ask⟩ := body_law (f := fa) (cdv := cdv) (A := A) (outer := fr) (s := s0) (Q := Q) (E := E) T (room.deeper _) free want
  have first : Inv (cxOf CX0 P w K mg base lN "law" (defScope sLaw) fa cdv A fr s0 H E) [] (L2.start lN vs) H s1 := inv_start scLaw room.hd start0 one rel inside
  refine wpAny_mono (rule.nox.run [] s1 _ H _ first ask) ?_ (fun _ _ z => z)
  intro flow s2 z
  cases flow with
  | next =>
    obtain ⟨σ, H2, J, q⟩ := z
    exact ⟨.non, H2, J.os, J.bare, J.base, J.hok, rfl, q⟩
  | ret u =>
    obtain ⟨v, σ, H2, J, rv, q⟩ := z
    exact ⟨v, H2, J.os, J.bare, J.base, J.hok, rv, q⟩
  | brk =>
    obtain ⟨σ, H2, J, q⟩ := z
    exact q.elim
  | cont =>
    obtain ⟨σ, H2, J, q⟩ := z
    exact q.elim
/-- where the script lies: at most the script's address is tracked, and then the module doesn't own it -/
theorem call_at {mb : Str → Option Value} {fa sa : Addr} {fd : FuncData} {s1 : Shared} {vs : List Value} {ns : List Int} {H : Hp}
    (F : Fun K "law" "law" sLaw fa fd) (T : ∀ base : Heap, K.In base → base.Ns mainGlobals mg → Alldefs P w K mg base) (inK : K.In s1.heap) (glob : s1.heap.Ns mainGlobals mg) (blt : s1.heap.Ns builtinsNs mb) (boot : ∀ x : Str, x ≠ "__name__" → mb x = bootBuiltins x)
    (limit : s1.heap.NoLimit) (gens : s1.gens = #[]) (obj : s1.heap.get? sa = some { cls := .type "list", data := .seq vs.toArray }) (hl : ns.length ≤ 63) (bind : ∀ (s : Shared) (u : Value), BindsTo s fd ⟨[u], []⟩ [("_law_script", u)])
    (seq : SqL K H sa (ns.map V.int)) (holds : HOk P w H s1.heap) (only : ∀ b, H b ≠ none → b = sa) (own : H sa ≠ none → K.lookup sa = none) (froz : ∀ u, H sa = some u → ∃ o x, u = .frz o x) :
    codeAny (model P w) callerA (.call (.ref fa) ⟨[.ref sa], []⟩) (fun r s' => r = .ok (.ret (.bool true)) ∧ OldK s1.heap s'.heap ∧ s'.os = s1.os ∧ AllBare s'.gens) s1 := by
  have track : ∀ b, H b = none ∨ b = sa := fun b => by
    by_cases z : H b = none
    · exact .inl z
    · exact .inr (only b z)
  -- a namespace is a dict, the script is none
  have dictFree : ∀ {b : Addr} {o : Obj} {es : Array DictEntry} {ep : Nat}, s1.heap.get? b = some o → o.data = .dict es ep → H b = none := by
    intro b o es ep e d
    rcases track b with z | z
    · exact z
    · rw [z, obj] at e
      rw [← Option.some.inj e] at d
      cases d
  have space : ∀ {b : Addr} {m : Str → Option Value}, s1.heap.Ns b m → (hidT s1.heap H).Ns b m := by
    intro b m z
    obtain ⟨o, es, ep, e, d, k⟩ := z
    exact ⟨o, es, ep, hidT_get e (dictFree e d), d, k⟩
  have kin : K.In (hidT s1.heap H) := by
    intro b o e
    refine hidT_get (inK b o e) ?_
    rcases track b with z | z
    · exact z
    · cases q : H b with
      | none => rfl
      | some u =>
        rw [z] at q e
        have := own (by rw [q]; exact fun z => by cases z)
        rw [e] at this
        cases this
  have modl : Mod K mg (hidT s1.heap H) := by
    obtain ⟨mc, z1, z2⟩ := limit
    exact ⟨kin, space glob, ⟨mb, space blt, boot⟩, ⟨mc, space z1, z2⟩⟩
  have noFrames : ∀ b ∈ frs ([] : List PySem.Env), H b = none := fun b hb => by cases hb
  have env : Env0 P w K mg (hidT s1.heap H) callerA [] s1 H := by
    refine ⟨rfl, modl, ?_, Nat.le_of_eq (hidT_size _ _), trivial, noFrames, holds, .of_eq gens⟩
    intro b o e
    exact of_hidT e
  have ask : spLaw K [.ref sa] H (fun v _ => v = .bl true) (fun _ _ _ => False) := ⟨sa, ns, rfl, seq, hl, fun _ => rfl⟩
  refine codeAny_mono (run_law (us := [.ref sa]) (vs := [.ref sa]) F (T _ kin (space glob)) ⟨rfl, by decide, by decide⟩ rfl env (bind s1 (.ref sa)) (.cons rfl .nil) ask) ?_
  intro r s2 z
  cases r with
  | error e => exact z.elim
  | ok fl =>
    cases fl with
    | ret u =>
      obtain ⟨v, H2, os2, bare2, un, hok2, rv, eq⟩ := z
      have eq' : v = .bl true := eq
      rw [eq'] at rv
      have eu : u = Value.bool true := rv
      refine ⟨by rw [eu], OldK.of_keep ?_, os2, bare2⟩
      intro b o e
      cases q : H b with
      | none => exact un.keep b o e q (fun m => by cases m) (fun m => by cases m)
      | some t =>
        have eb := only b (by rw [q]; exact fun z => by cases z)
        rw [eb] at q e
        obtain ⟨o2, x, et⟩ := froz t q
        rw [et] at q
        have q2 := un.frzs sa o2 _ q
        obtain ⟨e1, _⟩ := holds sa _ q
        obtain ⟨e2, _⟩ := hok2 sa _ q2
        rw [eb, ← Option.some.inj (e.symm.trans e1).symm]
        exact e2
    | next => exact z.elim
    | brk => exact z.elim
    | cont => exact z.elim
end
end K52

namespace K52
open PySem PySem.Spec PyProof.Rows L2
/-- a def of the top, as it is read off the written part -/
structure Here (K : PySem.W.Frag) (x : Str) (st : Stmt) (f : Addr) (fd : FuncData) : Prop where
  ns : PySem.W.nsIn K mainGlobals x = some (some (.ref f))
  fn : Fun K x x st f fd
theorem here_mk {K : PySem.W.Frag} {x : Str} {st : Stmt} {f : Addr} {oc : Value} {od an : Option Addr} {osl : Array (Option Value)} {kV doc pm cdv ct : Value} (a : PySem.W.nsIn K mainGlobals x = some (some (.ref f)))
    (l : K.lookup f = some ⟨oc, od, .func (PySem.W.fnOf x x (defArgs st) (defBody st) (defScope st) .none kV doc pm an cdv ct), osl⟩) (c : PySem.W.codeIn K cdv x = true) (k : PySem.W.keepIn K (.ref f) = true) :
    ∃ fd, Here K x st f fd ∧ ∃ (kV doc pm : Value) (an : Option Addr) (cdv ct : Value), fd = PySem.W.fnOf x x (defArgs st) (defBody st) (defScope st) .none kV doc pm an cdv ct :=
  ⟨_, ⟨a, fun_mk l c k⟩, kV, doc, pm, an, cdv, ct, rfl⟩
theorem df_of {K : PySem.W.Frag} {h : Heap} {mg : Str → Option Value} {x : Str} {st : Stmt} {ps : List Str} {f : Addr} {fd : FuncData} (X : K.In h) (G : h.Ns mainGlobals mg) (H : Here K x st f fd) (b : Binds K fd ps []) : Df K mg x st ps f fd :=
  ⟨H.fn, PySem.W.mg_of X G H.ns, b⟩
/-- all the facts of the top -/
structure Facts (K : PySem.W.Frag) : Prop where
  number : ∃ f fd, Here K "is_number" sNumber f fd ∧ ∃ (kV doc pm : Value) (an : Option Addr) (cdv ct : Value), fd = PySem.W.fnOf "is_number" "is_number" (defArgs sNumber) (defBody sNumber) (defScope sNumber) .none kV doc pm an cdv ct
  level : ∃ f fd, Here K "is_level" sLevel f fd ∧ ∃ (kV doc pm : Value) (an : Option Addr) (cdv ct : Value), fd = PySem.W.fnOf "is_level" "is_level" (defArgs sLevel) (defBody sLevel) (defScope sLevel) .none kV doc pm an cdv ct
  steps : ∃ f fd, Here K "sorting_steps" sSteps f fd ∧ ∃ (kV doc pm : Value) (an : Option Addr) (cdv ct : Value), fd = PySem.W.fnOf "sorting_steps" "sorting_steps" (defArgs sSteps) (defBody sSteps) (defScope sSteps) .none kV doc pm an cdv ct
  stepped : ∃ f fd, Here K "stepped" sStepped f fd ∧ ∃ (kV doc pm : Value) (an : Option Addr) (cdv ct : Value), fd = PySem.W.fnOf "stepped" "stepped" (defArgs sStepped) (defBody sStepped) (defScope sStepped) .none kV doc pm an cdv ct
  priceOf : ∃ f fd, Here K "price_of" sPriceOf f fd ∧ ∃ (kV doc pm : Value) (an : Option Addr) (cdv ct : Value), fd = PySem.W.fnOf "price_of" "price_of" (defArgs sPriceOf) (defBody sPriceOf) (defScope sPriceOf) .none kV doc pm an cdv ct
  least : ∃ f fd, Here K "least" sLeast f fd ∧ ∃ (kV doc pm : Value) (an : Option Addr) (cdv ct : Value), fd = PySem.W.fnOf "least" "least" (defArgs sLeast) (defBody sLeast) (defScope sLeast) .none kV doc pm an cdv ct
  leastP : ∃ f fd, Here K "least_price" sLeastPrice f fd ∧ ∃ (kV doc pm : Value) (an : Option Addr) (cdv ct : Value), fd = PySem.W.fnOf "least_price" "least_price" (defArgs sLeastPrice) (defBody sLeastPrice) (defScope sLeastPrice) .none kV doc pm an cdv ct
  greatest : ∃ f fd, Here K "greatest_price" sGreatest f fd ∧ ∃ (kV doc pm : Value) (an : Option Addr) (cdv ct : Value), fd = PySem.W.fnOf "greatest_price" "greatest_price" (defArgs sGreatest) (defBody sGreatest) (defScope sGreatest) .none kV doc pm an cdv ct
  cheapest : ∃ f fd, Here K "cheapest" sCheapest f fd ∧ ∃ (kV doc pm : Value) (an : Option Addr) (cdv ct : Value), fd = PySem.W.fnOf "cheapest" "cheapest" (defArgs sCheapest) (defBody sCheapest) (defScope sCheapest) .none kV doc pm an cdv ct
  source : ∃ f fd, Here K "_law_source" sSource f fd ∧ ∃ (kV doc pm : Value) (an : Option Addr) (cdv ct : Value), fd = PySem.W.fnOf "_law_source" "_law_source" (defArgs sSource) (defBody sSource) (defScope sSource) .none kV doc pm an cdv ct
  pick : ∃ f fd, Here K "_law_pick" sPick f fd ∧ ∃ (kV doc pm : Value) (an : Option Addr) (cdv ct : Value), fd = PySem.W.fnOf "_law_pick" "_law_pick" (defArgs sPick) (defBody sPick) (defScope sPick) .none kV doc pm an cdv ct
  of : ∃ f fd, Here K "_law_of" sOf f fd ∧ ∃ (kV doc pm : Value) (an : Option Addr) (cdv ct : Value), fd = PySem.W.fnOf "_law_of" "_law_of" (defArgs sOf) (defBody sOf) (defScope sOf) .none kV doc pm an cdv ct
  mixed : ∃ f fd, Here K "_law_mixed" sMixed f fd ∧ ∃ (kV doc pm : Value) (an : Option Addr) (cdv ct : Value), fd = PySem.W.fnOf "_law_mixed" "_law_mixed" (defArgs sMixed) (defBody sMixed) (defScope sMixed) .none kV doc pm an cdv ct
  any : ∃ f fd, Here K "_law_any_order" sAny f fd ∧ ∃ (kV doc pm : Value) (an : Option Addr) (cdv ct : Value), fd = PySem.W.fnOf "_law_any_order" "_law_any_order" (defArgs sAny) (defBody sAny) (defScope sAny) .none kV doc pm an cdv ct
  inv : ∃ f fd, Here K "_law_inversions" sInv f fd ∧ ∃ (kV doc pm : Value) (an : Option Addr) (cdv ct : Value), fd = PySem.W.fnOf "_law_inversions" "_law_inversions" (defArgs sInv) (defBody sInv) (defScope sInv) .none kV doc pm an cdv ct
  lstepped : ∃ f fd, Here K "_law_stepped" sLStepped f fd ∧ ∃ (kV doc pm : Value) (an : Option Addr) (cdv ct : Value), fd = PySem.W.fnOf "_law_stepped" "_law_stepped" (defArgs sLStepped) (defBody sLStepped) (defScope sLStepped) .none kV doc pm an cdv ct
  lsteps : ∃ f fd, Here K "_law_steps" sLSteps f fd ∧ ∃ (kV doc pm : Value) (an : Option Addr) (cdv ct : Value), fd = PySem.W.fnOf "_law_steps" "_law_steps" (defArgs sLSteps) (defBody sLSteps) (defScope sLSteps) .none kV doc pm an cdv ct
  prices : ∃ f fd, Here K "_law_prices" sPrices f fd ∧ ∃ (kV doc pm : Value) (an : Option Addr) (cdv ct : Value), fd = PySem.W.fnOf "_law_prices" "_law_prices" (defArgs sPrices) (defBody sPrices) (defScope sPrices) .none kV doc pm an cdv ct
  row : ∃ f fd, Here K "_law_drawn_row" sRow f fd ∧ ∃ (kV doc pm : Value) (an : Option Addr) (cdv ct : Value), fd = PySem.W.fnOf "_law_drawn_row" "_law_drawn_row" (defArgs sRow) (defBody sRow) (defScope sRow) .none kV doc pm an cdv ct
  verdict : ∃ f fd, Here K "_law_verdict" sVerdict f fd ∧ ∃ (kV doc pm : Value) (an : Option Addr) (cdv ct : Value), fd = PySem.W.fnOf "_law_verdict" "_law_verdict" (defArgs sVerdict) (defBody sVerdict) (defScope sVerdict) .none kV doc pm an cdv ct
  triple : ∃ f fd, Here K "_law_triple" sTriple f fd ∧ ∃ (kV doc pm : Value) (an : Option Addr) (cdv ct : Value), fd = PySem.W.fnOf "_law_triple" "_law_triple" (defArgs sTriple) (defBody sTriple) (defScope sTriple) .none kV doc pm an cdv ct
  ext : ∃ f fd, Here K "_law_extreme" sExt f fd ∧ ∃ (kV doc pm : Value) (an : Option Addr) (cdv ct : Value), fd = PySem.W.fnOf "_law_extreme" "_law_extreme" (defArgs sExt) (defBody sExt) (defScope sExt) .none kV doc pm an cdv ct
  right : ∃ f fd, Here K "_law_first_right" sRight f fd ∧ ∃ (kV doc pm : Value) (an : Option Addr) (cdv ct : Value), fd = PySem.W.fnOf "_law_first_right" "_law_first_right" (defArgs sRight) (defBody sRight) (defScope sRight) .none kV doc pm an cdv ct
  law : ∃ f fd, Here K "law" sLaw f fd ∧ ∃ (kV doc pm : Value) (an : Option Addr) (cdv ct : Value), fd = PySem.W.fnOf "law" "law" (defArgs sLaw) (defBody sLaw) (defScope sLaw) .none kV doc pm an cdv ct
  b_len : PySem.W.nsIn K mainGlobals "len" = some none
  b_range : PySem.W.nsIn K mainGlobals "range" = some none
  b_isinstance : PySem.W.nsIn K mainGlobals "isinstance" = some none
  b_int : PySem.W.nsIn K mainGlobals "int" = some none
  b_bool : PySem.W.nsIn K mainGlobals "bool" = some none
  b_list : PySem.W.nsIn K mainGlobals "list" = some none
  b_tuple : PySem.W.nsIn K mainGlobals "tuple" = some none
  b_min : PySem.W.nsIn K mainGlobals "min" = some none
  b_max : PySem.W.nsIn K mainGlobals "max" = some none
  b_sum : PySem.W.nsIn K mainGlobals "sum" = some none
  b_abs : PySem.W.nsIn K mainGlobals "abs" = some none
  b_zip : PySem.W.nsIn K mainGlobals "zip" = some none
  b_repr : PySem.W.nsIn K mainGlobals "repr" = some none
theorem all_of {P : Program} {w : World} {K : PySem.W.Frag} {h : Heap} {mg : Str → Option Value} (S : Facts K) (X : K.In h) (G : h.Ns mainGlobals mg) :
    ∃ (fa : Addr) (fd : FuncData), mg "law" = some (.ref fa) ∧ Fun K "law" "law" sLaw fa fd ∧ (∀ (s : Shared) (v : Value), BindsTo s fd ⟨[v], []⟩ [("_law_script", v)]) ∧ ∀ base : Heap, K.In base → base.Ns mainGlobals mg → Nonempty (Alldefs P w K mg base) := by
  obtain ⟨f_number, d_number, H_number, kV, doc, pm, an, cdv, ct, e⟩ := S.number
  have D_number : Df K mg "is_number" sNumber ["value"] f_number d_number := df_of X G H_number (H_number.fn.binds fun _ _ _ _ _ _ us hl => match us, hl with | [_], _ => rfl)
  clear e kV doc pm an cdv ct
  obtain ⟨f_level, d_level, H_level, kV, doc, pm, an, cdv, ct, e⟩ := S.level
  have D_level : Df K mg "is_level" sLevel ["n", "value"] f_level d_level := df_of X G H_level (H_level.fn.binds fun _ _ _ _ _ _ us hl => match us, hl with | [_, _], _ => rfl)
  clear e kV doc pm an cdv ct
  obtain ⟨f_steps, d_steps, H_steps, kV, doc, pm, an, cdv, ct, e⟩ := S.steps
  have D_steps : Df K mg "sorting_steps" sSteps ["order"] f_steps d_steps := df_of X G H_steps (H_steps.fn.binds fun _ _ _ _ _ _ us hl => match us, hl with | [_], _ => rfl)
  clear e kV doc pm an cdv ct
  obtain ⟨f_stepped, d_stepped, H_stepped, kV, doc, pm, an, cdv, ct, e⟩ := S.stepped
  have D_stepped : Df K mg "stepped" sStepped ["order", "level"] f_stepped d_stepped := df_of X G H_stepped (H_stepped.fn.binds fun _ _ _ _ _ _ us hl => match us, hl with | [_, _], _ => rfl)
  clear e kV doc pm an cdv ct
  obtain ⟨f_priceOf, d_priceOf, H_priceOf, kV, doc, pm, an, cdv, ct, e⟩ := S.priceOf
  have D_priceOf : Df K mg "price_of" sPriceOf ["levels", "prices"] f_priceOf d_priceOf := df_of X G H_priceOf (H_priceOf.fn.binds fun _ _ _ _ _ _ us hl => match us, hl with | [_, _], _ => rfl)
  clear e kV doc pm an cdv ct
  obtain ⟨f_least, d_least, H_least, kV, doc, pm, an, cdv, ct, e⟩ := S.least
  have D_least : Df K mg "least" sLeast ["order", "prices", "known"] f_least d_least := df_of X G H_least (H_least.fn.binds fun _ _ _ _ _ _ us hl => match us, hl with | [_, _, _], _ => rfl)
  clear e kV doc pm an cdv ct
  obtain ⟨f_leastP, d_leastP, H_leastP, kV, doc, pm, an, cdv, ct, e⟩ := S.leastP
  have D_leastP : Df K mg "least_price" sLeastPrice ["order", "prices"] f_leastP d_leastP := df_of X G H_leastP (H_leastP.fn.binds fun _ _ _ _ _ _ us hl => match us, hl with | [_, _], _ => rfl)
  clear e kV doc pm an cdv ct
  obtain ⟨f_greatest, d_greatest, H_greatest, kV, doc, pm, an, cdv, ct, e⟩ := S.greatest
  have D_greatest : Df K mg "greatest_price" sGreatest ["order", "prices"] f_greatest d_greatest := df_of X G H_greatest (H_greatest.fn.binds fun _ _ _ _ _ _ us hl => match us, hl with | [_, _], _ => rfl)
  clear e kV doc pm an cdv ct
  obtain ⟨f_cheapest, d_cheapest, H_cheapest, kV, doc, pm, an, cdv, ct, e⟩ := S.cheapest
  have D_cheapest : Df K mg "cheapest" sCheapest ["order", "prices"] f_cheapest d_cheapest := df_of X G H_cheapest (H_cheapest.fn.binds fun _ _ _ _ _ _ us hl => match us, hl with | [_, _], _ => rfl)
  clear e kV doc pm an cdv ct
  obtain ⟨f_source, d_source, H_source, kV, doc, pm, an, cdv, ct, e⟩ := S.source
  have D_source : Df K mg "_law_source" sSource ["_law_script"] f_source d_source := df_of X G H_source (H_source.fn.binds fun _ _ _ _ _ _ us hl => match us, hl with | [_], _ => rfl)
  clear e kV doc pm an cdv ct
  obtain ⟨f_pick, d_pick, H_pick, kV, doc, pm, an, cdv, ct, e⟩ := S.pick
  have D_pick : Df K mg "_law_pick" sPick ["_law_source_here", "_law_many"] f_pick d_pick := df_of X G H_pick (H_pick.fn.binds fun _ _ _ _ _ _ us hl => match us, hl with | [_, _], _ => rfl)
  clear e kV doc pm an cdv ct
  obtain ⟨f_of, d_of, H_of, kV, doc, pm, an, cdv, ct, e⟩ := S.of
  have D_of : Df K mg "_law_of" sOf ["_law_source_here", "_law_some"] f_of d_of := df_of X G H_of (H_of.fn.binds fun _ _ _ _ _ _ us hl => match us, hl with | [_, _], _ => rfl)
  clear e kV doc pm an cdv ct
  obtain ⟨f_mixed, d_mixed, H_mixed, kV, doc, pm, an, cdv, ct, e⟩ := S.mixed
  have D_mixed : Df K mg "_law_mixed" sMixed ["_law_source_here", "_law_things"] f_mixed d_mixed := df_of X G H_mixed (H_mixed.fn.binds fun _ _ _ _ _ _ us hl => match us, hl with | [_, _], _ => rfl)
  clear e kV doc pm an cdv ct
  obtain ⟨f_any, d_any, H_any, kV, doc, pm, an, cdv, ct, e⟩ := S.any
  have D_any : Df K mg "_law_any_order" sAny ["_law_source_here", "_law_n"] f_any d_any := df_of X G H_any (H_any.fn.binds fun _ _ _ _ _ _ us hl => match us, hl with | [_, _], _ => rfl)
  clear e kV doc pm an cdv ct
  obtain ⟨f_inv, d_inv, H_inv, kV, doc, pm, an, cdv, ct, e⟩ := S.inv
  have D_inv : Df K mg "_law_inversions" sInv ["_law_order"] f_inv d_inv := df_of X G H_inv (H_inv.fn.binds fun _ _ _ _ _ _ us hl => match us, hl with | [_], _ => rfl)
  clear e kV doc pm an cdv ct
  obtain ⟨f_lstepped, d_lstepped, H_lstepped, kV, doc, pm, an, cdv, ct, e⟩ := S.lstepped
  have D_lstepped : Df K mg "_law_stepped" sLStepped ["_law_order", "_law_level"] f_lstepped d_lstepped := df_of X G H_lstepped (H_lstepped.fn.binds fun _ _ _ _ _ _ us hl => match us, hl with | [_, _], _ => rfl)
  clear e kV doc pm an cdv ct
  obtain ⟨f_lsteps, d_lsteps, H_lsteps, kV, doc, pm, an, cdv, ct, e⟩ := S.lsteps
  have D_lsteps : Df K mg "_law_steps" sLSteps ["_law_order"] f_lsteps d_lsteps := df_of X G H_lsteps (H_lsteps.fn.binds fun _ _ _ _ _ _ us hl => match us, hl with | [_], _ => rfl)
  clear e kV doc pm an cdv ct
  obtain ⟨f_prices, d_prices, H_prices, kV, doc, pm, an, cdv, ct, e⟩ := S.prices
  have D_prices : Df K mg "_law_prices" sPrices ["_law_source_here", "_law_n"] f_prices d_prices := df_of X G H_prices (H_prices.fn.binds fun _ _ _ _ _ _ us hl => match us, hl with | [_, _], _ => rfl)
  clear e kV doc pm an cdv ct
  obtain ⟨f_row, d_row, H_row, kV, doc, pm, an, cdv, ct, e⟩ := S.row
  have D_row : Df K mg "_law_drawn_row" sRow ["_law_source_here", "_law_order"] f_row d_row := df_of X G H_row (H_row.fn.binds fun _ _ _ _ _ _ us hl => match us, hl with | [_, _], _ => rfl)
  clear e kV doc pm an cdv ct
  obtain ⟨f_verdict, d_verdict, H_verdict, kV, doc, pm, an, cdv, ct, e⟩ := S.verdict
  have D_verdict : Df K mg "_law_verdict" sVerdict ["_law_order", "_law_value"] f_verdict d_verdict := df_of X G H_verdict (H_verdict.fn.binds fun _ _ _ _ _ _ us hl => match us, hl with | [_, _], _ => rfl)
  clear e kV doc pm an cdv ct
  obtain ⟨f_triple, d_triple, H_triple, kV, doc, pm, an, cdv, ct, e⟩ := S.triple
  have D_triple : Df K mg "_law_triple" sTriple ["_law_order"] f_triple d_triple := df_of X G H_triple (H_triple.fn.binds fun _ _ _ _ _ _ us hl => match us, hl with | [_], _ => rfl)
  clear e kV doc pm an cdv ct
  obtain ⟨f_ext, d_ext, H_ext, kV, doc, pm, an, cdv, ct, e⟩ := S.ext
  have D_ext : Df K mg "_law_extreme" sExt ["_law_order", "_law_prices_here", "_law_sign", "_law_known"] f_ext d_ext := df_of X G H_ext (H_ext.fn.binds fun _ _ _ _ _ _ us hl => match us, hl with | [_, _, _, _], _ => rfl)
  clear e kV doc pm an cdv ct
  obtain ⟨f_right, d_right, H_right, kV, doc, pm, an, cdv, ct, e⟩ := S.right
  have D_right : Df K mg "_law_first_right" sRight ["_law_order", "_law_prices_here", "_law_told", "_law_known"] f_right d_right := df_of X G H_right (H_right.fn.binds fun _ _ _ _ _ _ us hl => match us, hl with | [_, _, _, _], _ => rfl)
  clear e kV doc pm an cdv ct
  obtain ⟨f_law, d_law, H_law, kV, doc, pm, an, cdv, ct, e⟩ := S.law
  have B : Blt mg := ⟨PySem.W.mg_none_of X G S.b_len, PySem.W.mg_none_of X G S.b_range, PySem.W.mg_none_of X G S.b_isinstance, PySem.W.mg_none_of X G S.b_int, PySem.W.mg_none_of X G S.b_bool, PySem.W.mg_none_of X G S.b_list, PySem.W.mg_none_of X G S.b_tuple, PySem.W.mg_none_of X G S.b_min, PySem.W.mg_none_of X G S.b_max, PySem.W.mg_none_of X G S.b_sum, PySem.W.mg_none_of X G S.b_abs, PySem.W.mg_none_of X G S.b_zip, PySem.W.mg_none_of X G S.b_repr⟩
  refine ⟨f_law, d_law, PySem.W.mg_of X G H_law.ns, H_law.fn, fun s v => ?_, fun base _ _ => ?_⟩
  · rw [e]
    exact .of_eq rfl
  have M : Lst P w K mg base := ⟨B, f_steps, d_steps, D_steps, ok_steps D_steps B, f_stepped, d_stepped, D_stepped, ok_stepped D_stepped D_level D_number B⟩
  have W : Lw P w K mg base := ⟨B, f_lsteps, d_lsteps, D_lsteps, ok_lsteps D_lsteps B, f_lstepped, d_lstepped, D_lstepped, ok_lstepped D_lstepped⟩
  have GL : FnOk P w K mg base CX0 40 f_least d_least ["order", "prices", "known"] (spLeast K 37) := least_ok D_least M 37
  have GE : FnOk P w K mg base CX0 38 f_ext d_ext ["_law_order", "_law_prices_here", "_law_sign", "_law_known"] (spExt K 37) := ext_ok D_ext W 37
  exact ⟨{ B := B
           source := ⟨_, _, D_source, ok_source D_source B⟩
           any := ⟨_, _, D_any, ok_any D_any D_pick D_mixed B⟩
           prices := ⟨_, _, D_prices, ok_prices D_prices D_pick D_of B⟩
           of := ⟨_, _, D_of, ok_of D_of D_pick B⟩
           ext := ⟨_, _, D_ext, GE⟩
           cheapest := ⟨_, _, D_cheapest, ok_cheapest D_cheapest M D_least GL⟩
           leastP := ⟨_, _, D_leastP, ok_leastPrice D_leastP D_least GL⟩
           greatest := ⟨_, _, D_greatest, ok_greatest D_greatest D_least GL⟩
           verdict := ⟨_, _, D_verdict, ok_verdict D_verdict W⟩
           right := ⟨_, _, D_right, ok_right D_right W D_ext GE⟩
           priceOf := ⟨_, _, D_priceOf, ok_priceOf D_priceOf B⟩
           row := ⟨_, _, D_row, ok_row D_row W D_of (ok_of D_of D_pick B)⟩
           triple := ⟨_, _, D_triple, ok_triple D_triple B⟩
           pick := ⟨_, _, D_pick, ok_pick D_pick B⟩
           inv := ⟨_, _, D_inv, ok_inv D_inv B⟩ }⟩
theorem walk {l : PySem.W.OpenLaw} {q : Program} {loose : List Str} {XP : (Str → Option Value) → Heap → Prop} {YP : World → Heap → Prop} {d : DefRec} {K : Params → PySem.W.Frag} (hn : l.most = some 63) (hdf : d.params.defaults = []) (hnm : d.name = ("law" : Str))
    (hY : ∀ (w : World) (h : Heap), YP w h → (K w.params).In h) (S : ∀ w : World, Facts (K w.params)) :
    PySem.W.WalkO q loose XP YP l.row.toRowW d [] (fun f vs => PySem.call f vs) := by
  refine Att.attach_call (n := 63) hn hdf ?_
  intro w s0 s1 mg mb fa ob pm cd doc sa vs ns G Y hob hd hcd hmg hobj hints hlen hg
  have inK := hY w _ Y
  obtain ⟨fb, fd, hb, F, bind, T⟩ := all_of (P := l.prog) (w := w) (S w) inK G.T.g
  rw [hnm] at hmg
  have ef : fb = fa := Value.ref.inj (Option.some.inj (hb.symm.trans hmg))
  subst ef
  have T' : ∀ base : Heap, (K w.params).In base → base.Ns mainGlobals mg → Alldefs l.prog w (K w.params) mg base := fun base h1 h2 => Classical.choice (T base h1 h2)
  have small : (ns.map V.int).length ≤ sizeLine := by
    rw [List.length_map]
    exact Nat.le_trans hlen (by decide)
  have rel : Vals (ns.map V.int) vs := vals_ints hints
  have lenv : ns.length = vs.length := by
    have := rel.length
    rwa [List.length_map] at this
  cases own : (K w.params).lookup sa with
  | some o =>
    have e := inK sa o own
    rw [hobj] at e
    have eo := Option.some.inj e
    subst eo
    refine call_at (H := fun _ => none) F T' inK G.T.g G.T.b G.T.builtins G.T.nolimit hg hobj hlen bind ?_ (fun b o z => by cases z) (fun b z => absurd rfl z) (fun z => absurd rfl z) (fun u z => by cases z)
    refine .inr ⟨_, vs.toArray, _, own, rfl, rfl, rfl, ?_, by simpa using rel⟩
    rw [List.size_toArray, ← lenv]
    exact Nat.le_trans hlen (by decide)
  | none =>
    refine call_at (H := fun b => if b = sa then some (.frz { cls := .type "list", data := .seq vs.toArray } (.lst (ns.map V.int))) else none) F T' inK G.T.g G.T.b G.T.builtins G.T.nolimit hg hobj hlen bind
      (.inl (.inr ⟨_, if_pos rfl⟩)) ?_ ?_ (fun _ => own) ?_
    · intro b o z
      by_cases eb : b = sa
      · subst eb
        have z' := (if_pos rfl).symm.trans z
        have eo := Option.some.inj z'
        subst eo
        exact ⟨hobj, small, vs, _, rel, hobj⟩
      · have z' := (if_neg eb).symm.trans z
        cases z'
    · intro b z
      by_cases eb : b = sa
      · exact eb
      · exact absurd (if_neg eb) z
    · intro u z
      have z' := (if_pos rfl).symm.trans z
      exact ⟨_, _, (Option.some.inj z').symm⟩
end K52
open PySem PySem.W PyProof.Rows
set_option maxRecDepth 100000 in
set_option maxHeartbeats 0 in
theorem PySem.Challenge.cw_codenests_k52_whole_prices_of_greater_or_holds : PySem.Challenge.rw_codenests_k52_whole_prices_of_greater_or.Holds := by
  w_on; o_law; k_head; (case hw => w_witness2)
  k_fill
  refine K52.walk (l := PySem.Challenge.rw_codenests_k52_whole_prices_of_greater_or) rfl rfl rfl (fun w h Y => PySem.W.kIn_of Y) ?F
  case F =>
    intro w
    refine' ⟨?d_number, ?d_level, ?d_steps, ?d_stepped, ?d_priceOf, ?d_least, ?d_leastP, ?d_greatest, ?d_cheapest, ?d_source, ?d_pick, ?d_of, ?d_mixed, ?d_any, ?d_inv, ?d_lstepped, ?d_lsteps, ?d_prices, ?d_row, ?d_verdict, ?d_triple, ?d_ext, ?d_right, ?d_law, ?b_len, ?b_range, ?b_isinstance, ?b_int, ?b_bool, ?b_list, ?b_tuple, ?b_min, ?b_max, ?b_sum, ?b_abs, ?b_zip, ?b_repr⟩
    case d_number =>
      refine' ⟨_, K52.here_mk ?a ?l ?c ?k⟩
      (case a => k_is); (case l => k_is); (case c => k_is); (case k => k_is)
    case d_level =>
      refine' ⟨_, K52.here_mk ?a ?l ?c ?k⟩
      (case a => k_is); (case l => k_is); (case c => k_is); (case k => k_is)
    case d_steps =>
      refine' ⟨_, K52.here_mk ?a ?l ?c ?k⟩
      (case a => k_is); (case l => k_is); (case c => k_is); (case k => k_is)
    case d_stepped =>
      refine' ⟨_, K52.here_mk ?a ?l ?c ?k⟩
      (case a => k_is); (case l => k_is); (case c => k_is); (case k => k_is)
    case d_priceOf =>
      refine' ⟨_, K52.here_mk ?a ?l ?c ?k⟩
      (case a => k_is); (case l => k_is); (case c => k_is); (case k => k_is)
    case d_least =>
      refine' ⟨_, K52.here_mk ?a ?l ?c ?k⟩
      (case a => k_is); (case l => k_is); (case c => k_is); (case k => k_is)
    case d_leastP =>
      refine' ⟨_, K52.here_mk ?a ?l ?c ?k⟩
      (case a => k_is); (case l => k_is); (case c => k_is); (case k => k_is)
    case d_greatest =>
      refine' ⟨_, K52.here_mk ?a ?l ?c ?k⟩
      (case a => k_is); (case l => k_is); (case c => k_is); (case k => k_is)
    case d_cheapest =>
      refine' ⟨_, K52.here_mk ?a ?l ?c ?k⟩
      (case a => k_is); (case l => k_is); (case c => k_is); (case k => k_is)
    case d_source =>
      refine' ⟨_, K52.here_mk ?a ?l ?c ?k⟩
      (case a => k_is); (case l => k_is); (case c => k_is); (case k => k_is)
    case d_pick =>
      refine' ⟨_, K52.here_mk ?a ?l ?c ?k⟩
      (case a => k_is); (case l => k_is); (case c => k_is); (case k => k_is)
    case d_of =>
      refine' ⟨_, K52.here_mk ?a ?l ?c ?k⟩
      (case a => k_is); (case l => k_is); (case c => k_is); (case k => k_is)
    case d_mixed =>
      refine' ⟨_, K52.here_mk ?a ?l ?c ?k⟩
      (case a => k_is); (case l => k_is); (case c => k_is); (case k => k_is)
    case d_any =>
      refine' ⟨_, K52.here_mk ?a ?l ?c ?k⟩
      (case a => k_is); (case l => k_is); (case c => k_is); (case k => k_is)
    case d_inv =>
      refine' ⟨_, K52.here_mk ?a ?l ?c ?k⟩
      (case a => k_is); (case l => k_is); (case c => k_is); (case k => k_is)
    case d_lstepped =>
      refine' ⟨_, K52.here_mk ?a ?l ?c ?k⟩
      (case a => k_is); (case l => k_is); (case c => k_is); (case k => k_is)
    case d_lsteps =>
      refine' ⟨_, K52.here_mk ?a ?l ?c ?k⟩
      (case a => k_is); (case l => k_is); (case c => k_is); (case k => k_is)
    case d_prices =>
      refine' ⟨_, K52.here_mk ?a ?l ?c ?k⟩
      (case a => k_is); (case l => k_is); (case c => k_is); (case k => k_is)
    case d_row =>
      refine' ⟨_, K52.here_mk ?a ?l ?c ?k⟩
      (case a => k_is); (case l => k_is); (case c => k_is); (case k => k_is)
    case d_verdict =>
      refine' ⟨_, K52.here_mk ?a ?l ?c ?k⟩
      (case a => k_is); (case l => k_is); (case c => k_is); (case k => k_is)
    case d_triple =>
      refine' ⟨_, K52.here_mk ?a ?l ?c ?k⟩
      (case a => k_is); (case l => k_is); (case c => k_is); (case k => k_is)
    case d_ext =>
      refine' ⟨_, K52.here_mk ?a ?l ?c ?k⟩
      (case a => k_is); (case l => k_is); (case c => k_is); (case k => k_is)
    case d_right =>
      refine' ⟨_, K52.here_mk ?a ?l ?c ?k⟩
      (case a => k_is); (case l => k_is); (case c => k_is); (case k => k_is)
    case d_law =>
      refine' ⟨_, K52.here_mk ?a ?l ?c ?k⟩
      (case a => k_is); (case l => k_is); (case c => k_is); (case k => k_is)
    case b_len => k_is
    case b_range => k_is
    case b_isinstance => k_is
    case b_int => k_is
    case b_bool => k_is
    case b_list => k_is
    case b_tuple => k_is
    case b_min => k_is
    case b_max => k_is
    case b_sum => k_is
    case b_abs => k_is
    case b_zip => k_is
    case b_repr => k_is
#print axioms PySem.Challenge.cw_codenests_k52_whole_prices_of_greater_or_holds
