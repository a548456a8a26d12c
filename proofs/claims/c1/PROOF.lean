import PyProof.Rows.All
import Wide.All
import OpenK.AllK
import Wide.FinOn
import Open.SpecLaws
import KE.OsGo
import KE.GoesMore
import KE.GoesEnum
import KE.KDictDisplayH
import HandS.ForSpec
import HandS.Comp
import HandS.Dict
import HandS.Iter
import HandS.TupAny
import HandS.Conv
import HandS.SortInts
import HandS.Strs
import KE.KEqSeq
import HandS.Evl
import KE.OsHead
import PySem.Challenge.RW_counterrow_s01_answers
set_option autoImplicit false
/-! Plain law: what the mirror of each def is worth, against the specification. No program in sight. -/
namespace Cr
open Si88

/-! ### places -/
def ix (r : List Nat) (t : Nat) : Nat := (r.takeWhile fun u => u != t).length
theorem steps_ix (r : List Nat) (t : Nat) : Si88.steps r t = ix r t + 1 := rfl
theorem ix_cons (a : Nat) (r : List Nat) (t : Nat) : ix (a :: r) t = if a = t then 0 else ix r t + 1 := by
  unfold ix
  by_cases h : a = t
  · subst h; simp
  · simp [h]
theorem ix_get {t : Nat} : ∀ {r : List Nat}, t ∈ r → r[ix r t]? = some t
  | a :: r, h => by
    rw [ix_cons]
    by_cases e : a = t
    · simp [e]
    · rw [if_neg e, List.getElem?_cons_succ]
      refine ix_get ?_
      rcases List.mem_cons.mp h with z | z
      · exact absurd z.symm e
      · exact z
theorem ix_lt {t : Nat} {r : List Nat} (h : t ∈ r) : ix r t < r.length := (List.getElem?_eq_some_iff.mp (ix_get h)).1
theorem ix_no {t : Nat} : ∀ {r : List Nat} {m : Nat}, m < ix r t → r[m]? ≠ some t
  | [], m, h => by simp [ix] at h
  | a :: r, m, h => by
    rw [ix_cons] at h
    by_cases e : a = t
    · simp [e] at h
    · rw [if_neg e] at h
      cases m with
      | zero => simp [e]
      | succ m => rw [List.getElem?_cons_succ]; exact ix_no (by omega)
theorem ix_le (r : List Nat) (t : Nat) : ix r t ≤ r.length := by
  unfold ix
  exact (List.takeWhile_sublist _).length_le

/-! ### putting back -/
def put (r : List Nat) (t p : Nat) : List Nat := (r.filter fun u => u != t).take p ++ t :: (r.filter fun u => u != t).drop p
def back (r : List Nat) (t : Nat) : List (List Nat) := (List.range (ix r t + 1)).map fun i => put r t i
theorem back_aheads (r : List Nat) (t : Nat) : back r t = Si88.aheads r t := rfl

/-! ### rows -/
def longer (r : List Nat) (n : Nat) : List (List Nat) := ((List.range n).filter fun t => !r.contains t).map fun t => r ++ [t]
def grow (n : Nat) (f : List (List Nat)) : List (List Nat) := f.flatMap fun r => longer r n
def rowsUp (n : Nat) : Nat → List (List Nat)
  | 0 => [[]]
  | i + 1 => grow n (rowsUp n i)
def allRows (n : Nat) : List (List Nat) := rowsUp n n
theorem small4 {P : Nat → Prop} (h : ∀ n ∈ [1, 2, 3, 4], P n) {n : Nat} (h1 : 1 ≤ n) (h4 : n ≤ 4) : P n := h n (by
  have : n = 1 ∨ n = 2 ∨ n = 3 ∨ n = 4 := by omega
  simp; exact this)
theorem allRows_eq {n : Nat} (h1 : 1 ≤ n) (h4 : n ≤ 4) : allRows n = Si88.orders n (List.range n) := small4 (P := fun n => allRows n = Si88.orders n (List.range n)) (by decide +kernel) h1 h4
theorem rowsUp_len {n : Nat} (h1 : 1 ≤ n) (h4 : n ≤ 4) : ∀ i ∈ List.range 5, i ≤ n → (rowsUp n i).length ≤ 24 :=
  small4 (P := fun n => ∀ i ∈ List.range 5, i ≤ n → (rowsUp n i).length ≤ 24) (by decide +kernel) h1 h4
theorem rowsUp_row {n : Nat} (h1 : 1 ≤ n) (h4 : n ≤ 4) : ∀ i ∈ List.range 5, i ≤ n → ∀ r ∈ rowsUp n i, r.length ≤ 4 :=
  small4 (P := fun n => ∀ i ∈ List.range 5, i ≤ n → ∀ r ∈ rowsUp n i, r.length ≤ 4) (by decide +kernel) h1 h4
theorem row_facts {n : Nat} (h1 : 1 ≤ n) (h4 : n ≤ 4) : ∀ r ∈ allRows n, r.length = n ∧ (∀ t ∈ List.range n, t ∈ r) ∧ (∀ t ∈ r, t < n) ∧ r.Nodup :=
  small4 (P := fun n => ∀ r ∈ allRows n, r.length = n ∧ (∀ t ∈ List.range n, t ∈ r) ∧ (∀ t ∈ r, t < n) ∧ r.Nodup) (by decide +kernel) h1 h4
theorem row_len {n : Nat} (h1 : 1 ≤ n) (h4 : n ≤ 4) {r : List Nat} (h : r ∈ allRows n) : r.length = n := (row_facts h1 h4 r h).1
theorem row_mem {n : Nat} (h1 : 1 ≤ n) (h4 : n ≤ 4) {r : List Nat} (h : r ∈ allRows n) {t : Nat} (ht : t < n) : t ∈ r := (row_facts h1 h4 r h).2.1 t (List.mem_range.mpr ht)
theorem row_lt {n : Nat} (h1 : 1 ≤ n) (h4 : n ≤ 4) {r : List Nat} (h : r ∈ allRows n) {t : Nat} (ht : t ∈ r) : t < n := (row_facts h1 h4 r h).2.2.1 t ht
theorem row_nodup {n : Nat} (h1 : 1 ≤ n) (h4 : n ≤ 4) {r : List Nat} (h : r ∈ allRows n) : r.Nodup := (row_facts h1 h4 r h).2.2.2
theorem put_rows {n : Nat} (h1 : 1 ≤ n) (h4 : n ≤ 4) : ∀ r ∈ allRows n, ∀ t ∈ List.range n, ∀ p ∈ List.range 5, put r t p ∈ allRows n :=
  small4 (P := fun n => ∀ r ∈ allRows n, ∀ t ∈ List.range n, ∀ p ∈ List.range 5, put r t p ∈ allRows n) (by decide +kernel) h1 h4
theorem put_row {n : Nat} (h1 : 1 ≤ n) (h4 : n ≤ 4) {r : List Nat} (h : r ∈ allRows n) {t p : Nat} (ht : t < n) (hp : p ≤ 4) : put r t p ∈ allRows n :=
  put_rows h1 h4 r h t (List.mem_range.mpr ht) p (List.mem_range.mpr (by omega))
theorem range_row {n : Nat} (h1 : 1 ≤ n) (h4 : n ≤ 4) : List.range n ∈ allRows n := small4 (P := fun n => List.range n ∈ allRows n) (by decide +kernel) h1 h4
theorem rows_nodup {n : Nat} (h1 : 1 ≤ n) (h4 : n ≤ 4) : (allRows n).Nodup := small4 (P := fun n => (allRows n).Nodup) (by decide +kernel) h1 h4
theorem rows_ne {n : Nat} (h1 : 1 ≤ n) (h4 : n ≤ 4) : allRows n ≠ [] := fun e => by
  have h := range_row h1 h4
  rw [e] at h
  cases h
theorem rows_le {n : Nat} (h1 : 1 ≤ n) (h4 : n ≤ 4) : (allRows n).length ≤ 24 := rowsUp_len h1 h4 n (List.mem_range.mpr (by omega)) (Nat.le_refl n)
theorem ahead_row {n : Nat} (h1 : 1 ≤ n) (h4 : n ≤ 4) : ∀ r ∈ allRows n, ∀ t ∈ List.range n, put r t (ix r t - 1) = Si88.oneAhead r t :=
  small4 (P := fun n => ∀ r ∈ allRows n, ∀ t ∈ List.range n, put r t (ix r t - 1) = Si88.oneAhead r t) (by decide +kernel) h1 h4

/-! ### is_row -/
theorem perm_of_sub : ∀ {l r : List Nat}, l.Nodup → (∀ t ∈ l, t ∈ r) → r.length ≤ l.length → l.Perm r
  | [], r, _, _, h => by
    have : r = [] := List.length_eq_zero_iff.mp (by simpa using h)
    subst this
    exact List.Perm.nil
  | a :: l, r, hn, hs, h => by
    have ha : a ∈ r := hs a List.mem_cons_self
    have hna := List.nodup_cons.mp hn
    have hlen := List.length_erase_of_mem ha
    have ih := perm_of_sub (l := l) (r := r.erase a) hna.2 (fun t ht => (List.mem_erase_of_ne (fun (e : t = a) => hna.1 (e ▸ ht))).mpr (hs t (List.mem_cons_of_mem _ ht))) (by rw [hlen]; simp at h; omega)
    exact (ih.cons a).trans (List.perm_cons_erase ha).symm
theorem orders_of {n : Nat} : ∀ (l r : List Nat), l.length = n → l.Nodup → r.length = n → (∀ t ∈ l, t ∈ r) → r ∈ Si88.orders n l := by
  induction n with
  | zero =>
    intro l r hl _ hr _
    have : r = [] := List.length_eq_zero_iff.mp hr
    subst this
    simp [Si88.orders]
  | succ n ih =>
    intro l r hl hn hr h
    have hp : l.Perm r := perm_of_sub hn h (by omega)
    cases r with
    | nil => simp at hr
    | cons x r =>
      have hx : x ∈ l := hp.symm.subset List.mem_cons_self
      have hnr : (x :: r).Nodup := hp.nodup hn
      unfold Si88.orders
      refine List.mem_flatMap.mpr ⟨x, hx, List.mem_map.mpr ⟨r, ih _ r ?_ (hn.filter _) (by simpa using hr) ?_, rfl⟩⟩
      · have e : (l.filter fun y => y != x).Perm r := by
          have := hp.filter (fun y => y != x)
          refine this.trans ?_
          rw [List.filter_cons]
          simp only [bne_self_eq_false, Bool.false_eq_true, if_false]
          rw [List.filter_eq_self.mpr]
          intro a ha
          have : a ≠ x := fun e => (List.nodup_cons.mp hnr).1 (e ▸ ha)
          simpa using this
        rw [e.length_eq]
        simpa using hr
      · intro t ht
        have ht' := List.mem_filter.mp ht
        have hne : t ≠ x := by simpa using ht'.2
        rcases List.mem_cons.mp (h t ht'.1) with z | z
        · exact absurd z hne
        · exact z
theorem isRow_mem {n : Nat} (h1 : 1 ≤ n) (h4 : n ≤ 4) {r : List Nat} (hl : r.length = n) (h : ∀ t ∈ List.range n, t ∈ r) : r ∈ allRows n := by
  rw [allRows_eq h1 h4]
  exact orders_of (List.range n) r List.length_range List.nodup_range hl h
end Cr
set_option autoImplicit false
namespace Cr
open Si88

/-! ### exchanges -/
/-- the place i's share: how many later ones stand ahead of it in the other row -/
def exAt (r q : List Nat) (i : Nat) : Nat := ((r.drop (i + 1)).filter fun u => decide (ix q u < ix q (r.getD i 0))).length
def exch (r q : List Nat) : Nat := ((List.range r.length).map (exAt r q)).sum
theorem sum_map_range_succ (f : Nat → Nat) (n : Nat) : ((List.range (n + 1)).map f).sum = ((List.range n).map f).sum + f n := by
  rw [List.range_succ, List.map_append, List.sum_append]
  simp
theorem drop_eq_map (r : List Nat) (i : Nat) : r.drop i = ((List.range r.length).filter fun j => decide (i ≤ j)).map fun j => r.getD j 0 := by
  induction r generalizing i with
  | nil => simp
  | cons a r ih =>
    rw [List.length_cons, List.range_succ_eq_map, List.filter_cons]
    cases i with
    | zero =>
      have h := ih 0
      simp only [List.drop_zero] at h ⊢
      rw [if_pos (by simp)]
      simp only [List.map_cons, List.getD_cons_zero, List.filter_map, List.map_map]
      congr 1
    | succ i =>
      rw [if_neg (by simp), List.drop_succ_cons, ih i, List.filter_map, List.map_map]
      have e1 : ((fun j => decide (i + 1 ≤ j)) ∘ Nat.succ) = fun j => decide (i ≤ j) := by
        funext j
        simp
      rw [e1]
      rfl
theorem apart_exch (r q : List Nat) : Si88.apart r q = exch r q := by
  unfold Si88.apart exch
  rw [List.filter_flatMap, List.length_flatMap]
  congr 1
  refine List.map_congr_left fun i _ => ?_
  unfold exAt
  rw [drop_eq_map, List.filter_map, List.length_map, List.filter_map, List.length_map]
  rfl

/-! ### least of a list -/
def Least (m : Nat) (l : List Nat) : Prop := m ∈ l ∧ ∀ y ∈ l, m ≤ y
theorem Least.eq {m n : Nat} {l k : List Nat} (a : Least m l) (b : Least n k) (h : ∀ x, x ∈ l ↔ x ∈ k) : m = n :=
  Nat.le_antisymm (a.2 n ((h n).mpr b.1)) (b.2 m ((h m).mp a.1))
theorem foldl_min : ∀ (r : List Nat) (n : Nat), Least (r.foldl min n) (n :: r)
  | [], n => ⟨by simp, by simp⟩
  | a :: r, n => by
    have h := foldl_min r (min n a)
    rw [List.foldl_cons]
    refine ⟨?_, fun y hy => ?_⟩
    · rcases List.mem_cons.mp h.1 with e | e
      · rw [e]
        by_cases hna : n ≤ a
        · rw [Nat.min_eq_left hna]; simp
        · rw [Nat.min_eq_right (by omega)]; simp
      · simp [e]
    · have h1 := h.2 (min n a) List.mem_cons_self
      rcases List.mem_cons.mp hy with e | e
      · subst e; exact Nat.le_trans h1 (Nat.min_le_left _ _)
      · rcases List.mem_cons.mp e with e | e
        · subst e; exact Nat.le_trans h1 (Nat.min_le_right _ _)
        · exact h.2 y (List.mem_cons_of_mem _ e)
theorem leastOf_is {l : List Nat} (h : l ≠ []) : Least (Si88.leastOf l) l := by
  cases l with
  | nil => exact absurd rfl h
  | cons a r => exact foldl_min r a

/-! ### the rules -/
def low (c : Nat → Nat) (r : List Nat) (t : Nat) : Nat := (r.takeWhile fun u => u != t && decide (c t ≤ c u)).length
theorem takeWhile_no {α : Type} {p : α → Bool} : ∀ {l : List α} {x : α}, l[(l.takeWhile p).length]? = some x → p x = false
  | [], x, h => by simp at h
  | a :: l, x, h => by
    by_cases e : p a = true
    · simp only [List.takeWhile_cons, e, if_true, List.length_cons, List.getElem?_cons_succ] at h
      exact takeWhile_no h
    · simp [e] at h
      rw [← h]
      simpa using e
theorem takeWhile_yes {α : Type} {p : α → Bool} : ∀ {l : List α} {j : Nat} {x : α}, j < (l.takeWhile p).length → l[j]? = some x → p x = true
  | [], j, x, h, _ => by simp at h
  | a :: l, j, x, h, hx => by
    by_cases e : p a = true
    · simp only [List.takeWhile_cons, e, if_true, List.length_cons] at h
      cases j with
      | zero => simp at hx; rw [← hx]; exact e
      | succ j => rw [List.getElem?_cons_succ] at hx; exact takeWhile_yes (by omega) hx
    · simp [List.takeWhile_cons, e] at h
theorem low_le (c : Nat → Nat) {r : List Nat} {t : Nat} (h : t ∈ r) : low c r t ≤ ix r t := by
  by_cases hle : low c r t ≤ ix r t
  · exact hle
  · have h1 := ix_get h
    have h2 := takeWhile_yes (p := fun u => u != t && decide (c t ≤ c u)) (l := r) (j := ix r t) (x := t) (by unfold low at hle; omega) h1
    simp at h2
/-- the places of those that were asked for less often -/
def less (c : Nat → Nat) (r : List Nat) (t n : Nat) : List Nat := (List.range n).filter fun j => decide (c (r.getD j 0) < c t)
theorem low_least (c : Nat → Nat) {r : List Nat} {t : Nat} (h : t ∈ r) : Least (low c r t) (less c r t r.length ++ [ix r t]) := by
  have hl := low_le c h
  have hx := ix_lt h
  refine ⟨?_, fun y hy => ?_⟩
  · by_cases e : low c r t = ix r t
    · rw [e]; simp
    · refine List.mem_append_left _ (List.mem_filter.mpr ⟨List.mem_range.mpr (by omega), ?_⟩)
      have hlt : low c r t < r.length := by omega
      have hg : r[low c r t]? = some (r[low c r t]) := List.getElem?_eq_getElem hlt
      have h1 := takeWhile_no (p := fun u => u != t && decide (c t ≤ c u)) (l := r) hg
      have h2 : r[low c r t] ≠ t := fun q => ix_no (t := t) (r := r) (m := low c r t) (by omega) (by rw [hg, q])
      have h3 : r.getD (low c r t) 0 = r[low c r t] := by simp [List.getD_eq_getElem?_getD, hlt]
      rw [h3]
      simp [h2] at h1
      simpa using h1
  · rcases List.mem_append.mp hy with q | q
    · obtain ⟨q1, q2⟩ := List.mem_filter.mp q
      have hy' := List.mem_range.mp q1
      by_cases hlt : y < low c r t
      · have hg : r[y]? = some (r[y]) := List.getElem?_eq_getElem hy'
        have h1 := takeWhile_yes (p := fun u => u != t && decide (c t ≤ c u)) (l := r) (j := y) hlt hg
        have h3 : r.getD y 0 = r[y] := by simp [List.getD_eq_getElem?_getD, hy']
        rw [h3] at q2
        simp at h1 q2
        omega
      · omega
    · have : y = ix r t := by simpa using q
      omega
theorem put_low (had r : List Nat) (t : Nat) : put r t (low (fun u => had.count u) r t) = Si88.byCount had r t := by
  unfold put Si88.byCount low
  have key : ∀ (p : Nat → Bool) (l : List Nat), (∀ u, p u = true → (u != t) = true) → (l.filter fun u => u != t).take (l.takeWhile p).length = l.takeWhile p ∧ (l.filter fun u => u != t).drop (l.takeWhile p).length = (l.dropWhile p).filter fun u => u != t := by
    intro p l hp
    induction l with
    | nil => simp
    | cons a l ih =>
      by_cases e : p a = true
      · simp only [List.takeWhile_cons, List.dropWhile_cons, e, if_true, List.filter_cons, hp a e, List.length_cons, List.take_succ_cons, List.drop_succ_cons]
        exact ⟨congrArg _ ih.1, ih.2⟩
      · have e' : p a = false := by simpa using e
        simp [List.takeWhile_cons, List.dropWhile_cons, e']
  obtain ⟨k1, k2⟩ := key (fun u => u != t && decide (had.count t ≤ had.count u)) r (fun u h => by simp at h; simp [h.1])
  rw [k1, k2]
/-- where it's put back, by a rule -/
def placeOf (k : Nat) (c : Nat → Nat) (r : List Nat) (t : Nat) : Nat := if k = 0 then 0 else if k = 1 then ix r t - 1 else low c r t
theorem placeOf_le (k : Nat) (c : Nat → Nat) {r : List Nat} {t : Nat} (h : t ∈ r) : placeOf k c r t ≤ ix r t := by
  unfold placeOf
  split
  · omega
  · split
    · omega
    · exact low_le c h
def nextRow (k : Nat) (had r : List Nat) (t : Nat) : List Nat := if k = 0 then Si88.toFront r t else if k = 1 then Si88.oneAhead r t else Si88.byCount had r t
theorem put_next {n : Nat} (h1 : 1 ≤ n) (h4 : n ≤ 4) (k : Nat) (had : List Nat) {r : List Nat} (h : r ∈ allRows n) {t : Nat} (ht : t < n) : put r t (placeOf k (fun u => had.count u) r t) = nextRow k had r t := by
  unfold placeOf nextRow
  by_cases e0 : k = 0
  · rw [if_pos e0, if_pos e0]; rfl
  · rw [if_neg e0, if_neg e0]
    by_cases e1 : k = 1
    · rw [if_pos e1, if_pos e1]; exact ahead_row h1 h4 r h t (List.mem_range.mpr ht)
    · rw [if_neg e1, if_neg e1]; exact put_low had r t
theorem ruled_cons (k : Nat) (had r : List Nat) (t : Nat) (l : List Nat) : Si88.ruled k had r (t :: l) = (Si88.steps r t + (Si88.ruled k (had ++ [t]) (nextRow k (had ++ [t]) r t) l).1, (Si88.ruled k (had ++ [t]) (nextRow k (had ++ [t]) r t) l).2) := rfl
theorem count_snoc (l : List Nat) (t u : Nat) : (l ++ [t]).count u = l.count u + if t = u then 1 else 0 := by
  rw [List.count_append, List.count_singleton]
  by_cases h : t = u
  · simp [h]
  · simp [h]
/-- how often each was asked for -/
def tally (n : Nat) (l : List Nat) : List Nat := (List.range n).map fun u => l.count u
theorem tally_get {n u : Nat} (l : List Nat) (h : u < n) : (tally n l)[u]? = some (l.count u) := by
  unfold tally
  rw [List.getElem?_map, List.getElem?_range h]
  rfl
theorem tally_len (n : Nat) (l : List Nat) : (tally n l).length = n := by simp [tally]
theorem tally_set {n t : Nat} (l : List Nat) (h : t < n) : (tally n l).set t (l.count t + 1) = tally n (l ++ [t]) := by
  apply List.ext_getElem?
  intro i
  by_cases hi : i < n
  · rw [tally_get _ hi, List.getElem?_set]
    by_cases e : t = i
    · subst e
      rw [if_pos rfl, if_pos (by rw [tally_len]; exact h), count_snoc, if_pos rfl]
    · rw [if_neg e, tally_get _ hi, count_snoc, if_neg e]
      rfl
  · rw [List.getElem?_eq_none (by rw [List.length_set, tally_len]; omega), List.getElem?_eq_none (by rw [tally_len]; omega)]
theorem tally_zero (n : Nat) : tally n [] = List.replicate n 0 := by
  unfold tally
  apply List.ext_getElem?
  intro i
  by_cases hi : i < n
  · simp [hi]
  · simp [hi]

/-! ### the best rows -/
def bestTurn (f : List Nat → Nat) (b : Option Best) (r : List Nat) : Option Best := match b with
  | none => some ⟨f r, 1, r⟩
  | some x => if f r < x.steps then some ⟨f r, 1, r⟩ else if f r = x.steps then some { x with many := x.many + 1 } else some x
theorem best_turns (s : Shelf) : s.best = s.rows.foldl (bestTurn fun r => Si88.fixed r s.asked) none := rfl
theorem best_go {f : List Nat → Nat} : ∀ (l p : List (List Nat)) (b : Best), Least b.steps (p.map f) → (p.filter fun r => f r == b.steps).head? = some b.row → b.many = (p.filter fun r => f r == b.steps).length →
    ∃ c : Best, l.foldl (bestTurn f) (some b) = some c ∧ Least c.steps ((p ++ l).map f) ∧ ((p ++ l).filter fun r => f r == c.steps).head? = some c.row ∧ c.many = ((p ++ l).filter fun r => f r == c.steps).length
  | [], p, b, h1, h2, h3 => ⟨b, rfl, by simpa using h1, by simpa using h2, by simpa using h3⟩
  | a :: l, p, b, h1, h2, h3 => by
    have hp : p ++ a :: l = (p ++ [a]) ++ l := by simp
    rw [hp, List.foldl_cons]
    have hsub : ∀ r ∈ p, b.steps ≤ f r := fun r hr => h1.2 _ (List.mem_map.mpr ⟨r, hr, rfl⟩)
    by_cases c1 : f a < b.steps
    · have e0 : (p.filter fun r => f r == f a) = [] := List.filter_eq_nil_iff.mpr fun r hr => by
        have := hsub r hr
        simp; omega
      have st : bestTurn f (some b) a = some ⟨f a, 1, a⟩ := if_pos c1
      rw [st]
      refine best_go l (p ++ [a]) ⟨f a, 1, a⟩ ⟨by simp, fun y hy => ?_⟩ ?_ ?_
      · rw [List.map_append] at hy
        rcases List.mem_append.mp hy with q | q
        · have := h1.2 y q
          show f a ≤ y
          omega
        · have : y = f a := by simpa using q
          show f a ≤ y
          omega
      · rw [List.filter_append, e0]; simp
      · rw [List.filter_append, e0]; simp
    · by_cases c2 : f a = b.steps
      · have st : bestTurn f (some b) a = some { b with many := b.many + 1 } := (if_neg c1).trans (if_pos c2)
        rw [st]
        refine best_go l (p ++ [a]) { b with many := b.many + 1 } ⟨?_, fun y hy => ?_⟩ ?_ ?_
        · rw [List.map_append]
          exact List.mem_append_left _ h1.1
        · rw [List.map_append] at hy
          rcases List.mem_append.mp hy with q | q
          · exact h1.2 y q
          · have : y = f a := by simpa using q
            show b.steps ≤ y
            omega
        · show ((p ++ [a]).filter fun r => f r == b.steps).head? = some b.row
          rw [List.filter_append, List.head?_append, h2]
          rfl
        · show b.many + 1 = ((p ++ [a]).filter fun r => f r == b.steps).length
          rw [List.filter_append, List.length_append, ← h3]
          simp [c2]
      · have st : bestTurn f (some b) a = some b := (if_neg c1).trans (if_neg c2)
        rw [st]
        refine best_go l (p ++ [a]) b ⟨?_, fun y hy => ?_⟩ ?_ ?_
        · rw [List.map_append]
          exact List.mem_append_left _ h1.1
        · rw [List.map_append] at hy
          rcases List.mem_append.mp hy with q | q
          · exact h1.2 y q
          · have : y = f a := by simpa using q
            omega
        · rw [List.filter_append, List.head?_append, h2]
          rfl
        · rw [List.filter_append, List.length_append, ← h3]
          simp [c2]
theorem best_is {f : List Nat → Nat} {m : Nat} {l : List (List Nat)} (hl : l ≠ []) (hm : Least m (l.map f)) :
    ∃ r, (l.filter fun r => f r == m).head? = some r ∧ l.foldl (bestTurn f) none = some ⟨m, (l.filter fun r => f r == m).length, r⟩ := by
  cases l with
  | nil => exact absurd rfl hl
  | cons a l =>
    obtain ⟨c, e, c1, c2, c3⟩ := best_go (f := f) l [a] ⟨f a, 1, a⟩ ⟨by simp, by simp⟩ (by simp) (by simp)
    have em : c.steps = m := c1.eq hm fun x => Iff.rfl
    subst em
    refine ⟨c.row, c2, ?_⟩
    rw [List.foldl_cons]
    show List.foldl (bestTurn f) (some ⟨f a, 1, a⟩) l = _
    rw [e]
    congr 1
    have e3 : c.many = _ := c3
    cases c
    simp only [Best.mk.injEq, true_and, and_true]
    exact e3
theorem first_of {α : Type} {p : α → Bool} {l : List α} {x : α} (h : (l.filter p).head? = some x) : (l.filter p)[0]? = some x := by
  rw [← List.head?_eq_getElem?]; exact h

/-! ### the least at all -/
/-- a way: from a row to a row, all that's asked for, so many steps -/
def Way (rows : List (List Nat)) : List Nat → List Nat → List Nat → Nat → Prop
  | r, [], q, c => q = r ∧ c = 0
  | r, t :: l, q, c => ∃ x ∈ rows, ∃ y ∈ back x t, ∃ c', Way rows y l q c' ∧ c = Si88.apart r x + Si88.steps x t + c'
theorem way_snoc {rows : List (List Nat)} {t : Nat} {q : List Nat} : ∀ {l : List Nat} {r : List Nat} {c : Nat}, Way rows r (l ++ [t]) q c ↔ ∃ m c', Way rows r l m c' ∧ ∃ x ∈ rows, q ∈ back x t ∧ c = c' + Si88.apart m x + Si88.steps x t
  | [], r, c => by
    constructor
    · rintro ⟨x, hx, y, hy, c', ⟨rfl, rfl⟩, rfl⟩
      exact ⟨r, 0, ⟨rfl, rfl⟩, x, hx, hy, by omega⟩
    · rintro ⟨m, c', ⟨rfl, rfl⟩, x, hx, hq, rfl⟩
      exact ⟨x, hx, q, hq, 0, ⟨rfl, rfl⟩, by omega⟩
  | a :: l, r, c => by
    constructor
    · rintro ⟨x, hx, y, hy, c', w, rfl⟩
      obtain ⟨m, c2, w2, x2, hx2, hq, rfl⟩ := way_snoc.mp w
      exact ⟨m, _, ⟨x, hx, y, hy, c2, w2, rfl⟩, x2, hx2, hq, by omega⟩
    · rintro ⟨m, c', ⟨x, hx, y, hy, c2, w2, rfl⟩, x2, hx2, hq, rfl⟩
      exact ⟨x, hx, y, hy, _, way_snoc.mpr ⟨m, c2, w2, x2, hx2, hq, rfl⟩, by omega⟩
theorem way_rows {n : Nat} (h1 : 1 ≤ n) (h4 : n ≤ 4) : ∀ {l : List Nat} {r q : List Nat} {c : Nat}, (∀ t ∈ l, t < n) → r ∈ allRows n → Way (allRows n) r l q c → q ∈ allRows n
  | [], r, q, c, _, hr, h => by rw [h.1]; exact hr
  | t :: l, r, q, c, ht, hr, ⟨x, hx, y, hy, c', w, _⟩ => by
    obtain ⟨i, hi, rfl⟩ := List.mem_map.mp hy
    have htn := ht t List.mem_cons_self
    have hi' := List.mem_range.mp hi
    have hix := ix_lt (row_mem h1 h4 hx htn)
    have hxl := row_len h1 h4 hx
    exact way_rows h1 h4 (fun u hu => ht u (List.mem_cons_of_mem _ hu)) (put_row h1 h4 hx htn (by omega)) w
/-- the least of a set of numbers -/
def LeastP (m : Nat) (P : Nat → Prop) : Prop := P m ∧ ∀ y, P y → m ≤ y
theorem LeastP.eq {m n : Nat} {P Q : Nat → Prop} (a : LeastP m P) (b : LeastP n Q) (h : ∀ x, P x ↔ Q x) : m = n :=
  Nat.le_antisymm (a.2 n ((h n).mpr b.1)) (b.2 m ((h m).mp a.1))
theorem find_map {f : List Nat → Nat} {r : List Nat} : ∀ {rows : List (List Nat)}, r ∈ rows → (((rows.map fun r => (r, f r)).find? fun x => x.1 == r).map fun x => x.2).getD 0 = f r
  | a :: rows, h => by
    rw [List.map_cons, List.find?_cons]
    by_cases e : a = r
    · subst e; simp
    · have hb : (a == r) = false := by simpa using e
      simp only [hb]
      refine find_map ?_
      rcases List.mem_cons.mp h with z | z
      · exact absurd z.symm e
      · exact z
/-- what the specification's table says, as a function -/
def later (rows : List (List Nat)) (l : List Nat) (r : List Nat) : Nat := (((Si88.costs rows l).find? fun x => x.1 == r).map fun x => x.2).getD 0
theorem later_nil {rows : List (List Nat)} {r : List Nat} (h : r ∈ rows) : later rows [] r = 0 := find_map (f := fun _ => 0) h
theorem later_cons {rows : List (List Nat)} {r : List Nat} (t : Nat) (l : List Nat) (h : r ∈ rows) :
    later rows (t :: l) r = Si88.leastOf (rows.map fun x => Si88.apart r x + (Si88.steps x t + Si88.leastOf ((back x t).map fun q => later rows l q))) := by
  have := find_map (f := fun r => Si88.leastOf ((rows.map fun r => (r, Si88.steps r t + Si88.leastOf ((Si88.aheads r t).map fun q => (((Si88.costs rows l).find? fun x => x.1 == q).map fun x => x.2).getD 0))).map fun x => Si88.apart r x.1 + x.2)) h
  refine Eq.trans (show _ = _ from this) ?_
  rw [List.map_map]
  rfl
theorem back_ne (r : List Nat) (t : Nat) : back r t ≠ [] := by
  unfold back
  rw [List.range_succ]
  simp
theorem later_is {n : Nat} (h1 : 1 ≤ n) (h4 : n ≤ 4) : ∀ {l : List Nat} {r : List Nat}, (∀ t ∈ l, t < n) → r ∈ allRows n → LeastP (later (allRows n) l r) fun c => ∃ q, Way (allRows n) r l q c
  | [], r, _, hr => by
    rw [later_nil hr]
    exact ⟨⟨r, rfl, rfl⟩, fun y _ => Nat.zero_le _⟩
  | t :: l, r, ht, hr => by
    have htn := ht t List.mem_cons_self
    have hback : ∀ x ∈ allRows n, ∀ y ∈ back x t, y ∈ allRows n := fun x hx y hy => by
      obtain ⟨i, hi, rfl⟩ := List.mem_map.mp hy
      have hi' := List.mem_range.mp hi
      have hix := ix_lt (row_mem h1 h4 hx htn)
      have hxl := row_len h1 h4 hx
      exact put_row h1 h4 hx htn (by omega)
    have ih := fun (y : List Nat) (hy : y ∈ allRows n) => later_is h1 h4 (l := l) (r := y) (fun u hu => ht u (List.mem_cons_of_mem _ hu)) hy
    rw [later_cons t l hr]
    obtain ⟨m1, m2⟩ := leastOf_is (l := (allRows n).map fun x => Si88.apart r x + (Si88.steps x t + Si88.leastOf ((back x t).map fun q => later (allRows n) l q))) (by
      intro e
      exact rows_ne h1 h4 (List.map_eq_nil_iff.mp e))
    have hb := fun (x : List Nat) => leastOf_is (l := (back x t).map fun q => later (allRows n) l q) (by
      intro e
      exact back_ne x t (List.map_eq_nil_iff.mp e))
    refine ⟨?_, ?_⟩
    · obtain ⟨x, hx, e⟩ := List.mem_map.mp m1
      obtain ⟨y, hy, e2⟩ := List.mem_map.mp (hb x).1
      obtain ⟨⟨q, w⟩, _⟩ := ih y (hback x hx y hy)
      refine ⟨q, x, hx, y, hy, _, w, ?_⟩
      rw [← e, ← e2]
      omega
    · rintro c ⟨q, x, hx, y, hy, c', w, rfl⟩
      have k1 := m2 _ (List.mem_map.mpr ⟨x, hx, rfl⟩)
      have k2 := (hb x).2 _ (List.mem_map.mpr ⟨y, hy, rfl⟩)
      have k3 := (ih y (hback x hx y hy)).2 c' ⟨q, w⟩
      omega
theorem least_later (s : Shelf) : s.least = later s.rows s.asked s.row := rfl
end Cr
set_option autoImplicit false
namespace Cr
open Si88

/-! ### is_row, once more -/
def rowB (n : Nat) (r : List Nat) : Bool := r.length == n && (List.range n).all fun t => r.contains t
theorem rowB_iff {n : Nat} {r : List Nat} : rowB n r = true ↔ r.length = n ∧ ∀ t ∈ List.range n, t ∈ r := by
  unfold rowB
  simp
theorem rowB_row {n : Nat} (h1 : 1 ≤ n) (h4 : n ≤ 4) {r : List Nat} (h : rowB n r = true) : r ∈ allRows n :=
  let ⟨a, b⟩ := rowB_iff.mp h
  isRow_mem h1 h4 a b
theorem row_rowB {n : Nat} (h1 : 1 ≤ n) (h4 : n ≤ 4) {r : List Nat} (h : r ∈ allRows n) : rowB n r = true :=
  rowB_iff.mpr ⟨row_len h1 h4 h, (row_facts h1 h4 r h).2.1⟩
def izs (l : List Nat) : List Int := l.map fun (n : Nat) => (n : Int)
theorem izs_mem {l : List Nat} {t : Nat} : (t : Int) ∈ izs l ↔ t ∈ l := by
  unfold izs
  constructor
  · intro h
    obtain ⟨u, hu, e⟩ := List.mem_map.mp h
    rw [← Int.ofNat.inj e]
    exact hu
  · intro h
    exact List.mem_map.mpr ⟨t, h, rfl⟩
theorem sorted_is {n : Nat} {r : List Nat} {ns : List Int} (hp : ns.Perm (izs r)) (hs : ns.Pairwise (· ≤ ·)) : decide (ns = izs (List.range n)) = rowB n r := by
  have hlen : ns.length = r.length := by rw [hp.length_eq]; simp [izs]
  by_cases h : rowB n r = true
  · rw [h]
    obtain ⟨a, b⟩ := rowB_iff.mp h
    have q : (List.range n).Perm r := perm_of_sub List.nodup_range b (by rw [List.length_range]; omega)
    have q2 : ns.Perm (izs (List.range n)) := hp.trans (q.map _).symm
    refine decide_eq_true (q2.eq_of_pairwise (le := fun a b => a ≤ b) (fun a b _ _ h1 h2 => Int.le_antisymm h1 h2) hs ?_)
    unfold izs
    rw [List.pairwise_map]
    exact List.pairwise_lt_range.imp fun h => by omega
  · have h' : rowB n r = false := by simpa using h
    rw [h']
    refine decide_eq_false fun e => h (rowB_iff.mpr ⟨?_, fun t ht => ?_⟩)
    · rw [← hlen, e]
      simp [izs]
    · have h1 : (t : Int) ∈ ns := by rw [e]; exact izs_mem.mpr ht
      exact izs_mem.mp (hp.mem_iff.mp h1)

/-! ### a table of costs -/
abbrev Tab := List (List Nat × Nat)
def lk (cs : Tab) (q : List Nat) : Option Nat := (cs.find? fun p => decide (p.1 = q)).map (·.2)
def putN (cs : Tab) (q : List Nat) (v : Nat) : Tab := if (cs.any fun p => decide (p.1 = q)) = true then cs.map fun p => if p.1 = q then (p.1, v) else p else cs ++ [(q, v)]
theorem lk_mem {cs : Tab} {q : List Nat} {c : Nat} (h : lk cs q = some c) : (q, c) ∈ cs := by
  unfold lk at h
  cases e : cs.find? (fun p => decide (p.1 = q)) with
  | none => rw [e] at h; cases h
  | some p =>
    rw [e] at h
    have h1 : p.2 = c := Option.some.inj h
    have h2 : p.1 = q := by simpa using List.find?_some e
    have h3 := List.mem_of_find?_eq_some e
    rw [← h1, ← h2]
    exact h3
theorem lk_none {cs : Tab} {q : List Nat} (h : lk cs q = none) : ∀ p ∈ cs, p.1 ≠ q := by
  unfold lk at h
  have h1 : cs.find? (fun p => decide (p.1 = q)) = none := by simpa using h
  intro p hp e
  have := List.find?_eq_none.mp h1 p hp
  simp [e] at this
theorem lk_of {cs : Tab} (hn : (cs.map (·.1)).Nodup) : ∀ {q : List Nat} {c : Nat}, (q, c) ∈ cs → lk cs q = some c := by
  induction cs with
  | nil => intro q c h; cases h
  | cons p cs ih =>
    intro q c h
    rw [List.map_cons, List.nodup_cons] at hn
    unfold lk
    rw [List.find?_cons]
    rcases List.mem_cons.mp h with e | h
    · subst e
      simp
    · have hne : ¬ p.1 = q := fun e => hn.1 (by rw [e]; exact List.mem_map.mpr ⟨(q, c), h, rfl⟩)
      simp only [hne, decide_false]
      exact ih hn.2 h
theorem mem_putN {cs : Tab} {q : List Nat} {v : Nat} {p : List Nat × Nat} : p ∈ putN cs q v ↔ (p ∈ cs ∧ p.1 ≠ q) ∨ p = (q, v) := by
  unfold putN
  by_cases h : (cs.any fun p => decide (p.1 = q)) = true
  · rw [if_pos h, List.mem_map]
    constructor
    · rintro ⟨x, hx, rfl⟩
      by_cases e : x.1 = q
      · rw [if_pos e, e]
        exact .inr rfl
      · rw [if_neg e]
        exact .inl ⟨hx, e⟩
    · rintro (⟨hp, e⟩ | rfl)
      · exact ⟨p, hp, if_neg e⟩
      · obtain ⟨x, hx, e⟩ := List.any_eq_true.mp h
        have e' : x.1 = q := by simpa using e
        exact ⟨x, hx, by rw [if_pos e', e']⟩
  · rw [if_neg h, List.mem_append, List.mem_singleton]
    have hne : ∀ x ∈ cs, x.1 ≠ q := fun x hx e => h (List.any_eq_true.mpr ⟨x, hx, by simp [e]⟩)
    constructor
    · rintro (hp | rfl)
      · exact .inl ⟨hp, hne p hp⟩
      · exact .inr rfl
    · rintro (⟨hp, _⟩ | rfl)
      · exact .inl hp
      · exact .inr rfl
theorem putN_ne (cs : Tab) (q : List Nat) (v : Nat) : putN cs q v ≠ [] := fun e => by
  have h : (q, v) ∈ putN cs q v := mem_putN.mpr (.inr rfl)
  rw [e] at h
  cases h
/-- how few steps lead to a row from a table -/
def cheapOf (cs : Tab) (x : List Nat) : Nat := Si88.leastOf (cs.map fun p => p.2 + Si88.apart p.1 x)
theorem cheapOf_is {cs : Tab} (h : cs ≠ []) (x : List Nat) : Least (cheapOf cs x) (cs.map fun p => p.2 + Si88.apart p.1 x) := leastOf_is fun e => h (List.map_eq_nil_iff.mp e)
def costAt (cs : Tab) (t : Nat) (x : List Nat) : Nat := cheapOf cs x + Si88.steps x t
/-- what a table behind a time holds, as far as these pairs (a row, one that comes of it) have been gone through -/
structure Fill (kost : List Nat → Nat) (D : List Nat → List Nat → Prop) (fs : Tab) : Prop where
  sound : ∀ p ∈ fs, ∃ x, D x p.1 ∧ p.2 = kost x
  full : ∀ x q, D x q → ∃ c, (q, c) ∈ fs ∧ c ≤ kost x
theorem Fill.nil {kost : List Nat → Nat} : Fill kost (fun _ _ => False) [] := ⟨fun p hp => (List.not_mem_nil hp).elim, fun _ _ (h : False) => h.elim⟩
theorem Fill.iff {kost : List Nat → Nat} {D D' : List Nat → List Nat → Prop} {fs : Tab} (h : Fill kost D fs) (e : ∀ x q, D x q ↔ D' x q) : Fill kost D' fs :=
  ⟨fun p hp => let ⟨x, a, b⟩ := h.sound p hp; ⟨x, (e _ _).mp a, b⟩, fun x q d => h.full x q ((e _ _).mpr d)⟩
theorem Fill.put {kost : List Nat → Nat} {D : List Nat → List Nat → Prop} {fs : Tab} (h : Fill kost D fs) (hn : (fs.map (·.1)).Nodup) (x q : List Nat) :
    Fill kost (fun y z => D y z ∨ (y = x ∧ z = q)) (putN fs q (if (lk fs q).getD (kost x) < kost x then (lk fs q).getD (kost x) else kost x)) := by
  refine ⟨fun p hp => ?_, fun y z d => ?_⟩
  · rcases mem_putN.mp hp with ⟨h1, h2⟩ | rfl
    · obtain ⟨y, a, b⟩ := h.sound p h1
      exact ⟨y, .inl a, b⟩
    · cases e : lk fs q with
      | none => exact ⟨x, .inr ⟨rfl, rfl⟩, by simp⟩
      | some c =>
        obtain ⟨y, a, b⟩ := h.sound _ (lk_mem e)
        by_cases hc : c < kost x
        · exact ⟨y, .inl a, by simpa [hc] using b⟩
        · exact ⟨x, .inr ⟨rfl, rfl⟩, by simp [hc]⟩
  · by_cases ez : z = q
    · subst ez
      refine ⟨_, mem_putN.mpr (.inr rfl), ?_⟩
      rcases d with d | ⟨rfl, _⟩
      · obtain ⟨c, hc, hle⟩ := h.full y z d
        rw [lk_of hn hc]
        show (if c < kost x then c else kost x) ≤ kost y
        split <;> omega
      · split <;> omega
    · rcases d with d | ⟨_, e⟩
      · obtain ⟨c, hc, hle⟩ := h.full y z d
        exact ⟨c, mem_putN.mpr (.inl ⟨hc, ez⟩), hle⟩
      · exact absurd e ez
/-- a table tells the ways so far -/
structure Tells (rows : List (List Nat)) (row l : List Nat) (cs : Tab) : Prop where
  ne : cs ≠ []
  keys : ∀ p ∈ cs, p.1 ∈ rows
  sound : ∀ p ∈ cs, Way rows row l p.1 p.2
  full : ∀ q c, Way rows row l q c → ∃ c', (q, c') ∈ cs ∧ c' ≤ c
theorem Tells.start {rows : List (List Nat)} {row : List Nat} (h : row ∈ rows) : Tells rows row [] [(row, 0)] :=
  ⟨(fun e => nomatch e), fun p hp => by rw [List.mem_singleton.mp hp]; exact h, fun p hp => by rw [List.mem_singleton.mp hp]; exact ⟨rfl, rfl⟩, fun q c w => ⟨0, by rw [w.1]; exact List.mem_singleton.mpr rfl, Nat.zero_le _⟩⟩
theorem back_rows {n : Nat} (h1 : 1 ≤ n) (h4 : n ≤ 4) {x : List Nat} (hx : x ∈ allRows n) {t : Nat} (ht : t < n) : ∀ q ∈ back x t, q ∈ allRows n := fun q hq => by
  obtain ⟨i, hi, rfl⟩ := List.mem_map.mp hq
  have hi' := List.mem_range.mp hi
  have hix := ix_lt (row_mem h1 h4 hx ht)
  have hxl := row_len h1 h4 hx
  exact put_row h1 h4 hx ht (by omega)
theorem Tells.next {n : Nat} (h1 : 1 ≤ n) (h4 : n ≤ 4) {row l : List Nat} {cs fs : Tab} {t : Nat} (ht : t < n) (h : Tells (allRows n) row l cs) (f : Fill (costAt cs t) (fun x q => x ∈ allRows n ∧ q ∈ back x t) fs) : Tells (allRows n) row (l ++ [t]) fs := by
  refine ⟨fun e => ?_, fun p hp => ?_, fun p hp => ?_, fun q c w => ?_⟩
  · have hr := range_row h1 h4
    cases hb : back (List.range n) t with
    | nil => exact back_ne _ _ hb
    | cons q _ =>
      obtain ⟨c, hc, _⟩ := f.full (List.range n) q ⟨hr, by rw [hb]; exact List.mem_cons_self⟩
      rw [e] at hc
      cases hc
  · obtain ⟨x, ⟨hx, hq⟩, _⟩ := f.sound p hp
    exact back_rows h1 h4 hx ht _ hq
  · obtain ⟨x, ⟨hx, hq⟩, e⟩ := f.sound p hp
    obtain ⟨m, hm, e2⟩ := List.mem_map.mp (cheapOf_is h.ne x).1
    refine way_snoc.mpr ⟨m.1, m.2, h.sound m hm, x, hx, hq, ?_⟩
    rw [e]
    unfold costAt
    omega
  · obtain ⟨m, c', w', x, hx, hq, rfl⟩ := way_snoc.mp w
    obtain ⟨c2, hc2, hle⟩ := h.full m c' w'
    obtain ⟨c3, hc3, hle3⟩ := f.full x q ⟨hx, hq⟩
    have h3 := (cheapOf_is h.ne x).2 _ (List.mem_map.mpr ⟨(m, c2), hc2, rfl⟩)
    unfold costAt at hle3
    exact ⟨c3, hc3, by simp only at h3; omega⟩
theorem Tells.least {n : Nat} (h1 : 1 ≤ n) (h4 : n ≤ 4) {row l : List Nat} {cs : Tab} (hl : ∀ t ∈ l, t < n) (hr : row ∈ allRows n) (h : Tells (allRows n) row l cs) {m : Nat} (hm : Least m (cs.map (·.2))) : m = later (allRows n) l row := by
  have a : LeastP m fun c => ∃ q, Way (allRows n) row l q c := by
    refine ⟨?_, ?_⟩
    · obtain ⟨p, hp, e⟩ := List.mem_map.mp hm.1
      exact ⟨p.1, by rw [← e]; exact h.sound p hp⟩
    · rintro y ⟨q, w⟩
      obtain ⟨c, hc, hle⟩ := h.full q y w
      have := hm.2 c (List.mem_map.mpr ⟨(q, c), hc, rfl⟩)
      omega
  exact a.eq (later_is h1 h4 hl hr) fun _ => Iff.rfl
theorem later_least {n : Nat} (h1 : 1 ≤ n) (h4 : n ≤ 4) {s : Shelf} (hr : s.row ∈ allRows n) : later (allRows n) s.asked s.row = s.least := by
  rw [least_later]
  have e : s.rows = allRows n := by
    unfold Shelf.rows Shelf.count
    rw [row_len h1 h4 hr, allRows_eq h1 h4]
  rw [e]
end Cr
set_option autoImplicit false
/-! The calls in one list, read one after another: plain law. -/
namespace Cr
open Si88

/-- a shelf at all times -/
structure Good (n : Nat) (s : Shelf) : Prop where
  lo : 1 ≤ n
  hi : n ≤ 4
  row : s.row ∈ allRows n
  len : s.asked.length ≤ 10
  lt : ∀ t ∈ s.asked, t < n
theorem Good.count {n : Nat} {s : Shelf} (g : Good n s) : s.row.length = n := row_len g.lo g.hi g.row
theorem isRow_rowB {n : Nat} {s : Shelf} (g : Good n s) (r : List Nat) : s.isRow r = rowB n r := by
  rw [← g.count]
  rfl
theorem good_init : Good 1 Si88.init := ⟨by decide, by decide, by decide +kernel, by decide, fun t h => nomatch h⟩
theorem step_best {n : Nat} {s : Shelf} (g : Good n s) {m : Nat} (hm : Least m ((allRows n).map fun r => Si88.fixed r s.asked)) :
    ∃ r, ((allRows n).filter fun r => Si88.fixed r s.asked == m)[0]? = some r ∧ Si88.step s .best = (s, ⟨((m : Nat) : Int), Si88.ints (((allRows n).filter fun r => Si88.fixed r s.asked == m).length :: r)⟩) := by
  obtain ⟨r, h1, h2⟩ := best_is (rows_ne g.lo g.hi) hm
  refine ⟨r, first_of h1, ?_⟩
  have e : s.best = some ⟨m, ((allRows n).filter fun r => Si88.fixed r s.asked == m).length, r⟩ := by
    rw [best_turns]
    have er : s.rows = allRows n := by
      unfold Shelf.rows Shelf.count
      rw [g.count, allRows_eq g.lo g.hi]
    rw [er]
    exact h2
  unfold Si88.step
  simp only [e]
theorem ruled_len {n : Nat} (h1 : 1 ≤ n) (h4 : n ≤ 4) (k : Nat) : ∀ (l had r : List Nat), r ∈ allRows n → (∀ t ∈ l, t < n) → (Si88.ruled k had r l).2.length = n
  | [], had, r, hr, _ => row_len h1 h4 hr
  | t :: l, had, r, hr, hl => by
    rw [ruled_cons]
    have ht := hl t List.mem_cons_self
    refine ruled_len h1 h4 k l _ _ ?_ fun u hu => hl u (List.mem_cons_of_mem _ hu)
    rw [← put_next h1 h4 k (had ++ [t]) hr ht]
    have htr := row_mem h1 h4 hr ht
    have e1 := placeOf_le k (fun u => (had ++ [t]).count u) htr
    have e2 := ix_lt htr
    have e3 := row_len h1 h4 hr
    exact put_row h1 h4 hr ht (by omega)
/-- an answer has few numbers -/
theorem ans_len {n : Nat} {s : Shelf} (g : Good n s) (q : Si88.Call) : ((Si88.step s q).2.v :: (Si88.step s q).2.l).length ≤ 6 := by
  have h4 := g.hi
  cases q with
  | begins m =>
    unfold Si88.step
    simp only
    split <;> simp [Si88.ok]
  | laid r =>
    unfold Si88.step
    simp only
    split
    · simp [Si88.ok]
    · split <;> simp [Si88.ok]
  | asks t =>
    unfold Si88.step
    simp only
    split
    · simp [Si88.ok]
    · split <;> simp [Si88.ok]
  | fixed r =>
    unfold Si88.step
    simp only
    split <;> simp [Si88.ok]
  | best =>
    obtain ⟨r, hr, e⟩ := step_best g (leastOf_is (l := (allRows n).map fun r => Si88.fixed r s.asked) fun e => rows_ne g.lo g.hi (List.map_eq_nil_iff.mp e))
    rw [e]
    have hrow : r ∈ allRows n := (List.mem_filter.mp (List.mem_of_getElem? hr)).1
    have := row_len g.lo g.hi hrow
    simp [Si88.ints]
    omega
  | rule k =>
    have hl := ruled_len g.lo g.hi k s.asked [] s.row g.row g.lt
    unfold Si88.step
    simp only
    split
    · simp [Si88.ok]
    · simp [Si88.ints, hl]
      omega
  | least =>
    unfold Si88.step
    simp [Si88.ok]
theorem good_step {n : Nat} {s : Shelf} (g : Good n s) (q : Si88.Call) : ∃ m, Good m (Si88.step s q).1 := by
  cases q with
  | begins m =>
    unfold Si88.step
    simp only
    split
    · exact ⟨n, g⟩
    · rename_i h
      have h1 : 1 ≤ m ∧ m ≤ 4 := by
        unfold THINGS at h
        omega
      exact ⟨m, h1.1, h1.2, range_row h1.1 h1.2, Nat.zero_le _, fun t ht => nomatch ht⟩
  | laid r =>
    unfold Si88.step
    simp only
    split
    · exact ⟨n, g⟩
    · rename_i h
      split
      · exact ⟨n, g⟩
      · refine ⟨n, g.lo, g.hi, rowB_row g.lo g.hi ?_, g.len, g.lt⟩
        rw [isRow_rowB g] at h
        simpa using h
  | asks t =>
    unfold Si88.step
    simp only
    split
    · exact ⟨n, g⟩
    · rename_i h
      split
      · exact ⟨n, g⟩
      · rename_i h2
        have hc : s.count = n := g.count
        unfold ASKED at h2
        refine ⟨n, g.lo, g.hi, g.row, ?_, fun u hu => ?_⟩
        · simp
          omega
        · rcases List.mem_append.mp hu with h3 | h3
          · exact g.lt u h3
          · have : u = t := by simpa using h3
            omega
  | fixed r =>
    unfold Si88.step
    simp only
    split <;> exact ⟨n, g⟩
  | best => exact ⟨n, g⟩
  | rule k =>
    unfold Si88.step
    simp only
    split <;> exact ⟨n, g⟩
  | least => exact ⟨n, g⟩

/-! ### reading one call -/
/-- a call's number, what stands behind it, what is behind the call; its numbers and its row; the call -/
inductive One : Int → List Int → List Int → List (List Int) → Prop
  | n0 (x : Int) (t : List Int) : One 0 (x :: t) t [[0, x]]
  | n1 (m : Nat) (u t : List Int) : u.length = m → One 1 ((m : Int) :: (u ++ t)) t [[1], u]
  | n2 (x : Int) (t : List Int) : One 2 (x :: t) t [[2, x]]
  | n3 (m : Nat) (u t : List Int) : u.length = m → One 3 ((m : Int) :: (u ++ t)) t [[3], u]
  | n4 (t : List Int) : One 4 t t [[4]]
  | n5 (x : Int) (t : List Int) : One 5 (x :: t) t [[5, x]]
  | n6 (t : List Int) : One 6 t t [[6]]
theorem call_num {p : Int} {r t : List Int} {c : List (List Int)} (hs : PySi88.shape p = some (1, 0)) (h : PyFlat.call PySi88.shape (p :: r) = some (c, t)) : ∃ x, r = x :: t ∧ c = [[p, x]] := by
  unfold PyFlat.call at h
  simp only [hs] at h
  cases r with
  | nil => simp at h
  | cons x r =>
    simp [PyFlat.rows] at h
    exact ⟨x, by rw [h.2], h.1.symm⟩
theorem call_row {p : Int} {r t : List Int} {c : List (List Int)} (hs : PySi88.shape p = some (0, 1)) (h : PyFlat.call PySi88.shape (p :: r) = some (c, t)) : ∃ (m : Nat) (u : List Int), u.length = m ∧ r = (m : Int) :: (u ++ t) ∧ c = [[p], u] := by
  unfold PyFlat.call at h
  simp only [hs] at h
  cases r with
  | nil => simp [PyFlat.rows, PyFlat.row] at h
  | cons z r =>
    by_cases hz : 0 ≤ z ∧ z.toNat ≤ r.length
    · simp [PyFlat.rows, PyFlat.row, hz] at h
      refine ⟨z.toNat, r.take z.toNat, by rw [List.length_take]; omega, ?_, h.1.symm⟩
      rw [← h.2, List.take_append_drop, Int.toNat_of_nonneg hz.1]
    · have hz2 : ¬ (0 ≤ z ∧ z ≤ (r.length : Int)) := by omega
      simp [PyFlat.rows, PyFlat.row, hz2] at h
theorem call_bare {p : Int} {r t : List Int} {c : List (List Int)} (hs : PySi88.shape p = some (0, 0)) (h : PyFlat.call PySi88.shape (p :: r) = some (c, t)) : r = t ∧ c = [[p]] := by
  unfold PyFlat.call at h
  simp only [hs] at h
  simp [PyFlat.rows] at h
  exact ⟨h.2, h.1.symm⟩
theorem one_of {p : Int} {r t : List Int} {c : List (List Int)} (h : PyFlat.call PySi88.shape (p :: r) = some (c, t)) : One p r t c := by
  by_cases e0 : p = 0
  · subst e0; obtain ⟨x, rfl, rfl⟩ := call_num rfl h; exact .n0 x t
  by_cases e1 : p = 1
  · subst e1; obtain ⟨m, u, hu, rfl, rfl⟩ := call_row rfl h; exact .n1 m u t hu
  by_cases e2 : p = 2
  · subst e2; obtain ⟨x, rfl, rfl⟩ := call_num rfl h; exact .n2 x t
  by_cases e3 : p = 3
  · subst e3; obtain ⟨m, u, hu, rfl, rfl⟩ := call_row rfl h; exact .n3 m u t hu
  by_cases e4 : p = 4
  · subst e4; obtain ⟨rfl, rfl⟩ := call_bare rfl h; exact .n4 _
  by_cases e5 : p = 5
  · subst e5; obtain ⟨x, rfl, rfl⟩ := call_num rfl h; exact .n5 x t
  by_cases e6 : p = 6
  · subst e6; obtain ⟨rfl, rfl⟩ := call_bare rfl h; exact .n6 _
  · exfalso
    unfold PyFlat.call PySi88.shape at h
    simp [e0, e1, e2, e3, e4, e5, e6] at h
theorem calls_cons {f : Nat} {p : Int} {r : List Int} {raw : List (List (List Int))} (h : PyFlat.calls PySi88.shape f (p :: r) = some raw) : ∃ c t f' cs, One p r t c ∧ PyFlat.calls PySi88.shape f' t = some cs ∧ raw = c :: cs := by
  cases f with
  | zero => simp [PyFlat.calls] at h
  | succ f =>
    unfold PyFlat.calls at h
    cases e : PyFlat.call PySi88.shape (p :: r) with
    | none => rw [e] at h; cases h
    | some ct =>
      obtain ⟨c, t⟩ := ct
      rw [e] at h
      simp only at h
      cases e2 : PyFlat.calls PySi88.shape f t with
      | none => rw [e2] at h; cases h
      | some cs =>
        rw [e2] at h
        exact ⟨c, t, f, cs, one_of e, e2, (Option.some.inj h).symm⟩
theorem calls_nil {f : Nat} {raw : List (List (List Int))} (h : PyFlat.calls PySi88.shape f [] = some raw) : raw = [] := by
  cases f <;> · unfold PyFlat.calls at h; exact (Option.some.inj h).symm
/-- what a call asks of a shelf -/
inductive Means : List (List Int) → Si88.Call → Prop
  | begins (m : Nat) : Means [[0, (m : Int)]] (.begins m)
  | laid (r : List Nat) : Means [[1], izs r] (.laid r)
  | asks (t : Nat) : Means [[2, (t : Int)]] (.asks t)
  | fixed (r : List Nat) : Means [[3], izs r] (.fixed r)
  | best : Means [[4]] .best
  | rule (k : Nat) : Means [[5, (k : Int)]] (.rule k)
  | least : Means [[6]] .least
theorem izs_of {u : List Int} (h : ∀ z ∈ u, 0 ≤ z) : izs (u.map Int.toNat) = u := by
  unfold izs
  rw [List.map_map]
  conv => rhs; rw [← List.map_id u]
  exact List.map_congr_left fun z hz => Int.toNat_of_nonneg (h z hz)
theorem toNat_izs (r : List Nat) : (izs r).map Int.toNat = r := by
  unfold izs
  rw [List.map_map]
  conv => rhs; rw [← List.map_id r]
  exact List.map_congr_left fun z _ => rfl
/-- the specification's step, call by call -/
theorem step_means {c : List (List Int)} {q : Si88.Call} (h : Means c q) (ha : Si88Neutral.asked1 (PySi88.whole c) = true) (s : Shelf) :
    Si88Neutral.step s (PySi88.whole c) = ((Si88.step s q).1, (Si88.step s q).2.v :: (Si88.step s q).2.l) := by
  cases h with
  | begins m => rfl
  | laid r =>
    have e : PySi88.whole [[1], izs r] = [1 :: izs r] := rfl
    rw [e] at ha ⊢
    unfold Si88Neutral.asked1 at ha
    unfold Si88Neutral.step
    have e2 : Si88Neutral.callOf (1 :: izs r) = if r.length ≤ 6 then some (.laid r) else none := by
      unfold Si88Neutral.callOf
      rw [List.map_cons, toNat_izs]
      rfl
    simp only [List.headD_cons, e2] at ha ⊢
    by_cases hr : r.length ≤ 6
    · simp [hr]
    · simp [hr] at ha
  | asks t => rfl
  | fixed r =>
    have e : PySi88.whole [[3], izs r] = [3 :: izs r] := rfl
    rw [e] at ha ⊢
    unfold Si88Neutral.asked1 at ha
    unfold Si88Neutral.step
    have e2 : Si88Neutral.callOf (3 :: izs r) = if r.length ≤ 6 then some (.fixed r) else none := by
      unfold Si88Neutral.callOf
      rw [List.map_cons, toNat_izs]
      rfl
    simp only [List.headD_cons, e2] at ha ⊢
    by_cases hr : r.length ≤ 6
    · simp [hr]
    · simp [hr] at ha
  | best => rfl
  | rule k => rfl
  | least => rfl
/-- what is due behind some calls -/
def due (s : Shelf) (raw : List (List (List Int))) : List Int := PyFlat.told (PyFlat.played Si88Neutral.step s (raw.map PySi88.whole))
theorem due_nil (s : Shelf) : due s [] = [] := rfl
theorem due_cons {c : List (List Int)} {q : Si88.Call} (h : Means c q) (ha : Si88Neutral.asked1 (PySi88.whole c) = true) (s : Shelf) (cs : List (List (List Int))) :
    due s (c :: cs) = (((Si88.step s q).2.v :: (Si88.step s q).2.l).length : Int) :: ((Si88.step s q).2.v :: (Si88.step s q).2.l) ++ due (Si88.step s q).1 cs := by
  have e : PyFlat.played Si88Neutral.step s ((c :: cs).map PySi88.whole) = (Si88Neutral.step s (PySi88.whole c)).2 :: PyFlat.played Si88Neutral.step (Si88Neutral.step s (PySi88.whole c)).1 (cs.map PySi88.whole) := rfl
  show PyFlat.told (PyFlat.played Si88Neutral.step s ((c :: cs).map PySi88.whole)) = _
  rw [e, step_means h ha s]
  rfl
theorem answers_due {l : List Int} {raw : List (List (List Int))} (h : PyFlat.calls PySi88.shape l.length l = some raw) : PySi88.answers l = due Si88.init raw := by
  unfold PySi88.answers PySi88.calls
  rw [h]
  rfl
theorem asked_parts {l : List Int} (h : PySi88.answers_asked l = true) : ∃ raw, PyFlat.calls PySi88.shape l.length l = some raw ∧ raw.length ≤ 60 ∧ ∀ c ∈ raw, Si88Neutral.asked1 (PySi88.whole c) = true := by
  unfold PySi88.answers_asked at h
  cases e : PyFlat.calls PySi88.shape l.length l with
  | none => rw [e] at h; cases h
  | some raw =>
    rw [e] at h
    simp only [Bool.and_eq_true] at h
    refine ⟨raw, rfl, ?_, fun c hc => ?_⟩
    · have := h.1.1.1.2
      unfold PyFlat.atMost at this
      simpa using this
    · have h2 := h.1.2
      unfold Si88Neutral.asked at h2
      simp only [Bool.and_eq_true] at h2
      exact List.all_eq_true.mp h2.1 _ (List.mem_map.mpr ⟨c, hc, rfl⟩)
end Cr
set_option Elab.async false
set_option linter.all false
set_option maxRecDepth 100000
set_option maxHeartbeats 4000000
/-! Tuples whose one object is known (so that their methods may be called): made, joined, asked for a place. -/
namespace Cr
open PySem PySem.Spec PyProof.Rows L2

def vi (r : List Nat) : List V := r.map fun (n : Nat) => V.int (n : Int)
def ki (r : List Nat) : List Key := r.map fun (n : Nat) => (Sum.inl (n : Int) : Key)
theorem vi_ki (r : List Nat) : (ki r).map kV = vi r := by
  unfold ki vi
  rw [List.map_map]
  rfl
theorem vi_len (r : List Nat) : (vi r).length = r.length := by simp [vi]
theorem vi_get {r : List Nat} {i t : Nat} (h : r[i]? = some t) : (vi r)[i]? = some (V.int (t : Int)) := by
  unfold vi
  rw [List.getElem?_map, h]
  rfl
theorem vi_of {r : List Nat} {i : Nat} {v : V} (h : (vi r)[i]? = some v) : ∃ t : Nat, r[i]? = some t ∧ v = V.int (t : Int) := by
  unfold vi at h
  rw [List.getElem?_map] at h
  cases e : r[i]? with
  | none => rw [e] at h; cases h
  | some t => rw [e] at h; exact ⟨t, rfl, (Option.some.inj h).symm⟩
theorem vi_ints (r : List Nat) : vi r = (r.map fun (n : Nat) => (n : Int)).map V.int := by
  unfold vi
  rw [List.map_map]
  rfl
theorem vi_append (r q : List Nat) : vi (r ++ q) = vi r ++ vi q := by simp [vi]
theorem vi_take (r : List Nat) (i : Nat) : vi (r.take i) = (vi r).take i := by simp [vi, List.map_take]
theorem vi_drop (r : List Nat) (i : Nat) : vi (r.drop i) = (vi r).drop i := by simp [vi, List.map_drop]
theorem vi_set (r : List Nat) (i t : Nat) : vi (r.set i t) = (vi r).set i (V.int (t : Int)) := by simp [vi, List.map_set]
theorem vi_flat (r : List Nat) : (vi r).all flatV = true := by
  unfold vi
  rw [List.all_map]
  exact List.all_eq_true.mpr fun _ _ => rfl
theorem ki_inj {a b : List Nat} (h : ki a = ki b) : a = b := by
  induction a generalizing b with
  | nil => cases b with
    | nil => rfl
    | cons _ _ => cases h
  | cons x a ih => cases b with
    | nil => cases h
    | cons y b =>
      have h1 : (Sum.inl (x : Int) : Key) = Sum.inl (y : Int) := (List.cons.inj h).1
      have h2 : (x : Int) = (y : Int) := Sum.inl.inj h1
      rw [Int.ofNat.inj h2, ih (List.cons.inj h).2]

/-- a tuple of these values whose object bears no dict of its own -/
def TupF (H : Hp) (a : Addr) (vs : List V) : Prop := ∃ o : Obj, H a = some (.frz o (.tup vs)) ∧ o.dict = none
/-- a row of things -/
abbrev RowF (H : Hp) (a : Addr) (r : List Nat) : Prop := TupF H a (vi r)
theorem TupF.seq {K : PySem.W.Frag} {H : Hp} {a : Addr} {vs : List V} (h : TupF H a vs) : SqT K H a vs := let ⟨o, e, _⟩ := h; .inl (.inr ⟨o, e⟩)
theorem TupF.same {H H' : Hp} {a : Addr} {vs : List V} (h : TupF H a vs) (e : Same H H') : TupF H' a vs := let ⟨o, q, d⟩ := h; ⟨o, e a _ q, d⟩
theorem TupF.ne {H : Hp} {a p : Addr} {vs : List V} (h : TupF H a vs) (hp : H p = none) : a ≠ p := let ⟨_, q, _⟩ := h; ne_of_none q hp
theorem same_new {H : Hp} {p : Addr} {o : HO} (hp : H p = none) : Same H (upd H p o) := fun b u e => by
  rw [upd_ne (ne_of_none e hp)]
  exact e
/-- an address that the entry did not know may change -/
theorem same_mut {H H' : Hp} {p : Addr} {o : HO} (e : Same H H') (hp : H p = none) : Same H (upd H' p o) := fun b u q => by
  rw [upd_ne (ne_of_none q hp)]
  exact e b u q
theorem same_seqT {K : PySem.W.Frag} {H H' : Hp} {a : Addr} {xs : List V} (e : Same H H') (h : SqT K H a xs) : SqT K H' a xs := by
  rcases h with (h | ⟨o, h⟩) | h
  · exact .inl (.inl (e _ _ h))
  · exact .inl (.inr ⟨o, e _ _ h⟩)
  · exact .inr h
/-- what is to be shown of a new tuple: its address, and that its object is known -/
abbrev NewT (H : Hp) (vs : List V) (Q : VK) : Prop := ∀ (p : Addr) (H' : Hp), H p = none → Same H H' → (∀ b, b ≠ p → H' b = H b) → TupF H' p vs → Q (.ref p) H'
theorem newT_at {X : Cx} {pins : List (Addr × Obj)} {σ : L2.St} {H : Hp} {s : Shared} {vs : List V} {us : List Value} {Q : VK} (I : Inv X pins σ H s) (r : Vals vs us) (z : vs.length ≤ sizeLine) (q : NewT H vs Q) :
    EP X pins σ Q (.ref s.heap.objs.size) { s with heap := s.heap.push { cls := .type "tuple", data := .seq us.toArray } } := by
  have fresh : H s.heap.objs.size = none := I.hok.fresh (Nat.le_refl _)
  refine ⟨.ref s.heap.objs.size, upd H s.heap.objs.size (.frz { cls := .type "tuple", data := .seq us.toArray } (.tup vs)), ?_, rfl, q _ _ fresh (same_new fresh) (fun b hb => upd_ne hb) ⟨_, upd_same, rfl⟩⟩
  refine I.laid (t' := s.toks) (fun c w e => Heap.get?_push_of_some _ e) (Nat.le_refl _) ?_
  exact ⟨Heap.get?_push_size _ rfl, z, us, r, IsTup.new _ _⟩

section
variable {X : Cx}
/-- (a, ..) -/
def tTupF (t : TA) : TE := fun σ H Q => t σ H fun xs H1 => xs.length ≤ sizeLine ∧ NewT H1 xs Q
theorem pe_tupF {es : List Expr} {t : TA} {k : Nat} {pos : Pos} (h : PA X es t) : PE X (.Tuple es k pos) (tTupF t) := ⟨fun pins s σ H Q I hq =>
  wpAny_Tuple_spliced (thn (h.run pos pins s σ H _ I hq) fun us s1 ⟨xs, H1, I1, r, z, q⟩ => ⟨by rw [← r.length]; exact z, newT_at I1 r z q⟩)⟩
/-- t + u: an empty one gives back the other itself -/
def rCatF (K : PySem.W.Frag) : R2 := fun x y H Q => ∃ a b xs ys, x = .ref a ∧ y = .ref b ∧ SqT K H a xs ∧ SqT K H b ys ∧ xs.length + ys.length ≤ sizeLine ∧
  (xs = [] → Q (.ref b) H) ∧ (xs ≠ [] → ys = [] → Q (.ref a) H) ∧ (xs ≠ [] → ys ≠ [] → NewT H (xs ++ ys) Q)
theorem op_catF : OpR X (binaryOp .Add) (rCatF X.K) := by
  intro pins s σ H x y v u Q I rx ry ⟨a, b, xs, ys, ex, ey, ha, hb, hz, q0, q1, q2⟩
  subst ex ey
  obtain rfl : v = Value.ref a := rx
  obtain rfl : u = Value.ref b := ry
  obtain ⟨us, r1, p1, _⟩ := I.tuple ha
  obtain ⟨ws, r2, p2, _⟩ := I.tuple hb
  by_cases hx : xs = []
  · subst hx
    cases r1
    exact cat_tup0 p1 p2 ⟨.ref b, H, I, rfl, q0 rfl⟩
  · refine HT.cat_tup p1 p2 (fun z => hx (r1.nil_iff.mp z)) (fun z => ⟨.ref a, H, I, rfl, q1 hx (r2.nil_iff.mp z)⟩) (fun z => ?_) (by rw [← r1.length, ← r2.length]; exact hz)
    exact newT_at I (r1.append r2) (by rw [List.length_append]; exact hz) (q2 hx fun w => z (r2.nil_iff.mpr w))
theorem op_catK {K : PySem.W.Frag} (e : X.K = K) : OpR X (binaryOp .Add) (rCatF K) := by
  rw [← e]
  exact op_catF
theorem sl_tupK {K : PySem.W.Frag} (e : X.K = K) : SlR X (rSlA K) := by
  rw [← e]
  exact sl_tupA
/-- tuple(a list) -/
theorem call_tupleF : CallR X (.type "tuple") (fun xs H Q => ∃ p ys, xs = [.ref p] ∧ SqL X.K H p ys ∧ NewT H ys Q) := by
  intro pins s σ H xs us Q I r ⟨p, ys, e, hq, q⟩
  subst e
  obtain ⟨u, eu, rx⟩ := vals1 r
  subst eu
  obtain rfl : u = Value.ref p := rx
  obtain ⟨its, r', pl, hz⟩ := I.list hq
  have hlen := r'.length
  refine call_tuple_list pl.isList (fun h' kp => ?_) (by rw [List.size_toArray]; omega)
  have I1 : Inv X pins σ H { s with heap := h' } := I.kept (t' := s.toks) kp
  exact newT_at I1 r' hz q
/-- t.index(x), x in it -/
def tTix (to te : TE) : TE := fun σ H Q => to σ H fun x H1 => ∃ (a : Addr) (r : List Nat), x = .ref a ∧ RowF H1 a r ∧ te σ H1 fun y H2 => ∃ t : Nat, y = .int (t : Int) ∧ RowF H2 a r ∧ t ∈ r ∧ Q (.int (ix r t : Nat)) H2
theorem row_index {pins : List (Addr × Obj)} {s : Shared} {σ : L2.St} {H : Hp} {a : Addr} {r : List Nat} {t : Nat} {u : Value} {Q : VK} (I : Inv X pins σ H s) (h : RowF H a r) (ht : t ∈ r) (ru : RelV (.int (t : Int)) u) (q : Q (.int (ix r t : Nat)) H) :
    wpAny (model X.prog X.w) X.A (call (.builtin "tuple.index") [.ref a, u]) (EP X pins σ Q) X.xe s := by
  obtain ⟨its, rv, pl, hz⟩ := I.tuple (h.seq (K := X.K))
  obtain ⟨⟨cls, dd, dt, sl⟩, ho, hc, n, hd⟩ := pl
  simp only at hc hd
  subst hc hd
  obtain ⟨tk, rfl⟩ := ru
  have hl : its.toArray.size = r.length := by rw [List.size_toArray, ← rv.length, vi_len]
  have hj : ix r t < its.toArray.size := by rw [hl]; exact ix_lt ht
  have at' : ∀ (m : Nat) (hm : m < its.toArray.size), ∃ (y : Nat) (t' : Tok), r[m]? = some y ∧ its.toArray[m] = Value.int (y : Int) t' := fun m hm => by
    have hm' : m < r.length := by rw [← hl]; exact hm
    obtain ⟨w, hw, t', hw'⟩ := rv.get (i := m) (x := .int (r[m] : Nat)) (vi_get (List.getElem?_eq_getElem hm'))
    refine ⟨r[m], t', List.getElem?_eq_getElem hm', ?_⟩
    have e := (List.getElem?_eq_some_iff.mp hw).2
    rw [← hw', ← e]
    simp
  refine call_meets PySem.F.slot_tuple_index ⟨_, ho, rfl⟩ PySem.F.entry_tuple_index (PySem.F.args_tuple_index_2 _ _) (TI.tuple_indexAt a its.toArray n dd sl (.int (t : Int) tk) (eqU (.int (t : Int))) (ix r t) hj ?_ ?_)
    ⟨ho, fun w hw => mem_eqAt (x := .int (t : Int)) ⟨tk, rfl⟩ rfl rv (vi_flat r) w (by simpa using hw), ⟨.int (ix r t : Nat), H, I.tok _, ⟨_, rfl⟩, q⟩⟩
  · obtain ⟨y, t', e1, e2⟩ := at' _ hj
    rw [ix_get ht] at e1
    cases e1
    rw [e2]
    show ((t : Int) == (t : Int)) = true
    exact beq_self_eq_true _
  · intro m hm hmj
    obtain ⟨y, t', e1, e2⟩ := at' m hm
    rw [e2]
    show ((y : Int) == (t : Int)) = false
    refine beq_eq_false_iff_ne.mpr fun e => ix_no hmj ?_
    rw [e1, Int.ofNat.inj e]
theorem pe_tix {o e : Expr} {to te : TE} {apos cpos : Pos} (ho : PE X o to) (he : PE X e te)
    (hbase : attributeBase o "index" X.env (eval o X.env) = eval o X.env := by rfl)
    (hfew : ((backTo cpos (starEach [e] X.env)).all (fun x => !x.1) && (backToKw cpos (keywordEach [] X.env)).all (fun x => x.1.isSome)
      && decide (([e] : List Expr).length + ([] : List Keyword).length + (if ([] : List Keyword).isEmpty then 0 else 1) < 30)) = true := by rfl)
    (hline : (apos.endLine == cpos.line) = true := by rfl) (hs : starEach [e] X.env = (false, eval e X.env) :: starEach [] X.env := by rfl) :
    PE X (.Call (.Attribute o "index" apos) [e] [] cpos) (tTix to te) := by
  refine ⟨fun pins s σ H Q I h => ?_⟩
  refine wpAny_Call_method_late hbase hfew hline rfl (thn (ho.run pins s σ H _ I h) fun v s1 ⟨x, H1, I1, r1, a, r, ex, hr, q1⟩ => ?_)
  subst ex
  obtain rfl : v = Value.ref a := r1
  have hT : s1.TypeIs (.ref a) "tuple" := by
    obtain ⟨_, _, ⟨ob, e1, e2, _⟩, _⟩ := I1.tuple (hr.seq (K := X.K))
    exact ⟨ob, e1, e2⟩
  have hD : ∀ b, Value.ref a = .ref b → ∃ ob, s1.heap.get? b = some ob ∧ ob.dict = none := fun b q => by
    cases q
    obtain ⟨ob, e1, e2⟩ := hr
    exact ⟨ob, (show ObjOk X.prog X.w H1 s1.heap a (.frz ob (.tup (vi r))) from I1.hok a _ e1).1, e2⟩
  refine ⟨"tuple", "tuple.index", PySem.F.plainAttrs_tuple, PySem.F.slot_tuple_index, PySem.F.type_tuple_index, hT, hD, ?_⟩
  have hA := (pa_cons he pa_nil hs).run cpos pins s1 σ H1 (fun vs H2 => ∃ t : Nat, vs = [.int (t : Int)] ∧ RowF H2 a r ∧ t ∈ r ∧ Q (.int (ix r t : Nat)) H2) I1 (by
    refine (?_ : te σ H1 fun y H2 => tNil σ H2 fun vs H3 => ∃ t : Nat, y :: vs = [.int (t : Int)] ∧ RowF H3 a r ∧ t ∈ r ∧ Q (.int (ix r t : Nat)) H3)
    have e2 : (fun (y : V) (H2 : Hp) => ∃ t : Nat, y = .int (t : Int) ∧ RowF H2 a r ∧ t ∈ r ∧ Q (.int (ix r t : Nat)) H2) = fun y H2 => tNil σ H2 fun vs H3 => ∃ t : Nat, y :: vs = [.int (t : Int)] ∧ RowF H3 a r ∧ t ∈ r ∧ Q (.int (ix r t : Nat)) H3 := by
      funext y H2
      refine propext ⟨fun ⟨t, h1, h2⟩ => ⟨t, by rw [h1], h2⟩, fun ⟨t, h1, h2⟩ => ⟨t, (List.cons.inj h1).1, h2⟩⟩
    rw [← e2]
    exact q1)
  rw [hs] at hA ⊢
  refine Calls.callWith_builtin rfl (Calls.evalArgs_plain ?_)
  refine thn hA fun us s2 ⟨vs, H2, I2, r2, t, ev, hr2, ht, q⟩ => ?_
  subst ev
  obtain ⟨u, rfl, ru⟩ := vals1 r2
  exact row_index I2 hr2 ht ru q
/-- tuple(range(n)) -/
def tTupRgF (te : L2.St → Hp → (Int → Int → Hp → Prop) → Prop) : TE := fun σ H Q => te σ H fun a b H1 => RgOk a b ∧ NewT H1 (rgV a b) Q
theorem pe_tupRgF {e : Expr} {te : L2.St → Hp → (Int → Int → Hp → Prop) → Prop} {p pos : Pos} (hc : X.calm = true) (hg : Gl X "tuple") (hm : X.mg "tuple" = none) (he : PRg X e te) (na : starEach [e] X.env = (false, eval e X.env) :: starEach [] X.env := by rfl) :
    PE X (.Call (.Name "tuple" p) [e] [] pos) (tTupRgF te) := by
  refine ⟨fun pins s σ H Q I h => ?_⟩
  refine Call_ (ld_blt I hg hm boot_tuple (PyProof.Rows.callWith_type1 (args_cons (thn (he pins s σ H _ I h) fun x s1 ⟨rr, lo, hi, tk1, tk2, tk3, H1, ex, hr, I1, okk, q⟩ => args_nil ?_) na) na))
  subst ex
  obtain ⟨b1, b2, b3, b4, b5⟩ := okk
  refine call_tuple_range (n := (hi - lo).toNat) (I1.ok.hd hc) hr (small_one b1 b2 b3 b4) (rangeSize_nat lo hi) b5 fun h' tk acc hk hi' => ?_
  have I2 : Inv X pins σ H1 { s1 with heap := h', toks := tk } := I1.kept hk
  have hz : (rgV lo hi).length ≤ sizeLine := by rw [rgV_length, sizeLine_eq]; omega
  have fin := newT_at (us := acc.toList) I2 (vals_rg hi') hz q
  rw [Array.toArray_toList] at fin
  exact fin
end
end Cr
set_option Elab.async false
set_option linter.all false
set_option maxRecDepth 100000
set_option maxHeartbeats 4000000
/-! enumerate over a tuple: made, walked. -/
namespace Cr
open PySem PySem.Spec PyProof.Rows L2
open AutoSeq1 (wpAny_loadPart')

theorem meets_enumT (t : Addr) (items : Array Value) (n : Nat) (dct : Option Addr) (sl : Array (Option Value)) :
    Meets (Builtin.«enumerate.__new__» ⟨[.type "enumerate", .ref t], []⟩) (fun _ R s => s.heap.get? t = some { cls := .type "tuple", dict := dct, data := .seq items n, slots := sl } ∧
      R (.ok (.ret (.ref (s.heap.push { cls := .type "tuple_iterator", data := .fields #[.ref t, .int 0 0] }).objs.size)))
        { s with heap := (s.heap.push { cls := .type "tuple_iterator", data := .fields #[.ref t, .int 0 0] }).push { cls := .type "enumerate", data := .fields #[.none, .bool false, .ref s.heap.objs.size, rawInt 0, .none, .none] } }) :=
  .of_wp fun prog w A R s h => by
    obtain ⟨hp, g, d, tk, os⟩ := s
    obtain ⟨ht, h⟩ := h
    have hsub := sub_enumerate
    have hT : Heap.IsTuple (Shared.heap ⟨hp, g, d, tk, os⟩) t items := ⟨_, ht, rfl, n, rfl⟩
    wp_walk using wpAny_loadPart' ht
    refine wpAny_stack_any fun st => wpAny_pure ?_
    split
    · rename_i c _ _ _ _ _
      cases (c == Value.type "enumerate")
      · wp_walk using wpAny_loadPart' ht, wpAny_pyIter_tuple hT
        exact ⟨_, rfl, h⟩
      · wp_walk using wpAny_loadPart' ht, wpAny_pyIter_tuple hT
        exact ⟨_, rfl, h⟩
    · wp_walk using wpAny_loadPart' ht, wpAny_pyIter_tuple hT
      exact ⟨_, rfl, h⟩
theorem call_enumT {prog : Program} {w : World} {A : Around} {E : Value → Shared → Prop} {s : Shared} {t : Addr} {items : Array Value} {Q : Value → Shared → Prop} (hT : s.heap.IsTuple t items)
    (h : ∀ h', IsEnum h' (s.heap.objs.size + 1) s.heap.objs.size 0 .none → h'.IsTupleIter s.heap.objs.size t 0 →
      (∀ b o, s.heap.get? b = some o → h'.get? b = some o) → Q (.ref (s.heap.objs.size + 1)) { s with heap := h' }) : wpAny (model prog w) A (call (.type "enumerate") [.ref t]) Q E s := by
  obtain ⟨⟨c, dct, dt, sl⟩, ht, hc, n, hd⟩ := hT
  simp only at hc hd
  subst hc hd
  refine callType_new F.called_enumerate (by decide) (F.typeCall_enumerate_1 _) (F.newCall_enumerate_1 _) (fun obj => F.args_object_init_2 obj _) F.entry_enumerate_new
    (meets_enumT t items n dct sl) ⟨ht, ?_⟩
  have hz : (s.heap.push { cls := .type "tuple_iterator", data := .fields #[.ref t, .int 0 0] }).objs.size = s.heap.objs.size + 1 := Heap.size_push ..
  show _ ∧ _
  rw [hz]
  have he : IsEnum ((s.heap.push { cls := .type "tuple_iterator", data := .fields #[.ref t, .int 0 0] }).push
      { cls := .type "enumerate", data := .fields #[.none, .bool false, .ref s.heap.objs.size, rawInt 0, .none, .none] }) (s.heap.objs.size + 1) s.heap.objs.size 0 .none := by
    have q := Heap.get?_push_size (s.heap.push { cls := .type "tuple_iterator", data := .fields #[.ref t, .int 0 0] })
      (o := { cls := .type "enumerate", data := .fields #[.none, .bool false, .ref s.heap.objs.size, rawInt 0, .none, .none] }) rfl
    rw [hz] at q
    exact q
  exact ⟨⟨_, he, rfl⟩, h _ he ⟨_, Heap.get?_push_of_some _ (Heap.get?_push_size _ rfl), rfl, rfl⟩ fun b o x => Heap.get?_push_of_some _ (Heap.get?_push_of_some _ x)⟩

/-- the places and items of the tuple at a, each pair a new tuple -/
def ItE (K : PySem.W.Frag) (a : Addr) : It :=
  ⟨fun i H => ∃ (xs : List V) (x : V), SqT K H a xs ∧ xs[i]? = some x,
    fun i H v H' => ∃ T x, v = .ref T ∧ H T = none ∧ H' = upd H T (.tup [.int (i : Nat), x]) ∧ ∀ xs, SqT K H a xs → xs[i]? = some x,
    fun i H => ∃ xs : List V, SqT K H a xs ∧ xs.length = i⟩
theorem turn_enumT {P : Program} {w : World} {K : PySem.W.Frag} {elts : List Expr} {kk : Nat} {tpos : Pos} (a e it : Addr) (hne : e ≠ it) (hea : a ≠ e) (hia : a ≠ it) :
    Turn P w K (.Tuple elts kk tpos) (ItE K a) [e, it] e (fun i h => (∃ old, IsEnum h e it ((i : Nat) : Int) old) ∧ h.IsTupleIter it a i) where
  mem := by simp
  obj := fun i h st b hb => by
    obtain ⟨⟨old, he⟩, ⟨o, ho, hc, hd⟩⟩ := st
    rcases List.mem_cons.mp hb with z | z
    · rw [z]
      exact ⟨_, he, fun v q => nomatch q⟩
    · rw [List.mem_singleton.mp z]
      exact ⟨o, ho, fun v q => by rw [hd] at q; cases q⟩
  keep := fun i h h' st k => let ⟨⟨old, he⟩, hi⟩ := st; ⟨⟨old, k e (by simp) _ he⟩, hi.at fun o q => k it (by simp) o q⟩
  item := by
    intro X hP hw hK hc i pins s σ H E I hf st hg
    subst hP hw hK
    obtain ⟨⟨old, he⟩, hit⟩ := st
    obtain ⟨xs, x, hq, hx⟩ := hg
    obtain ⟨its, rv, p, hz⟩ := I.tuple hq
    obtain ⟨u, hu, ru⟩ := rv.get hx
    have hel : e < s.heap.objs.size := Heap.lt_size he
    have hil : it < s.heap.objs.size := by
      obtain ⟨_, q, _⟩ := hit
      exact Heap.lt_size q
    have hlt : i < its.toArray.size := by
      rw [List.size_toArray]
      exact (List.getElem?_eq_some_iff.mp hu).1
    have Dr := Draws.tuple (prog := X.prog) (w := X.w) (A := X.A.in1) (I.ok.hd hc) it a hia its.toArray
    refine wpAny_pyNext_enum_itemD Dr he ⟨hit, p⟩ hlt hne (by simp [hne, Ne.symm hea]) fun y h' tk hy ho st' hT hsz hk => ?_
    have ey : y = u := by
      have : its[i]? = some y := by simpa using hy
      rw [hu] at this
      exact (Option.some.inj this).symm
    subst ey
    refine ⟨_, rfl, wpAny_letOwnedTupleGo_enum (s := { s with heap := h', toks := tk + 1 }) ho fun h'' he' sb => ?_⟩
    have hT2 : h''.get? s.heap.objs.size = some { cls := .type "tuple", data := .seq #[.int i tk, y] } := (sb.2 _ (Nat.ne_of_gt hel)).trans hT
    have new : ObjOk X.prog X.w (upd H s.heap.objs.size (.tup [.int (i : Nat), x])) h'' s.heap.objs.size (.tup [.int (i : Nat), x]) :=
      ⟨by show 2 ≤ sizeLine; decide, [.int i tk, y], .cons ⟨_, rfl⟩ (.cons ru .nil), ⟨_, hT2, rfl, _, rfl⟩⟩
    have I1 : Inv X pins σ (upd H s.heap.objs.size (.tup [.int (i : Nat), x])) { s with heap := h'', toks := tk + 1 } :=
      I.turnedNew (ch := [e, it]) (fun c o hb q => (sb.2 c fun z => hb (by rw [z]; simp)).trans (hk c o (fun z => hb (by rw [z]; simp)) (fun z => hb (by rw [z]; simp)) q)) hf (Nat.le_refl _) new
    refine ⟨.ref s.heap.objs.size, _, I1, rfl, ⟨_, x, rfl, I.hok.fresh (Nat.le_refl _), rfl, fun ys hy => by rw [I.tuple_inj hy hq]; exact hx⟩, ⟨⟨y, ?_⟩, st'.1.at fun o q => (sb.2 it (Ne.symm hne)).trans q⟩, fun b hb => ?_⟩
    · have e1 : ((i + 1 : Nat) : Int) = (i : Int) + 1 := by omega
      rw [e1]
      exact he'
    · have hb' : b < s.heap.objs.size := by
        rcases List.mem_cons.mp hb with z | z
        · rw [z]; exact hel
        · rw [List.mem_singleton.mp z]; exact hil
      rw [upd_ne (Nat.ne_of_lt hb')]
      exact (hf b hb).1
  done := by
    intro X hP hw hK hc i pins s σ H E I hf st hg
    subst hP hw hK
    obtain ⟨⟨old, he⟩, hit⟩ := st
    obtain ⟨xs, hq, hx⟩ := hg
    obtain ⟨its, rv, p, hz⟩ := I.tuple hq
    obtain ⟨f0, f1, f2, f3, f4, f5⟩ := hf it (by simp)
    have hn : its.toArray.size = i := by rw [List.size_toArray, ← rv.length, hx]
    have Dr := Draws.tuple (prog := X.prog) (w := X.w) (A := X.A.in1) (I.ok.hd hc) it a hia its.toArray
    refine wpAny_pyNext_enum_endD Dr he ⟨by rw [hn]; exact hit, p⟩ fun h' eb => ⟨rfl, I.turned (t' := s.toks) (fun b o hb q => eb b o hb q) f0 f1 f3 f4 f5⟩
  self := fun A i s Q E st h => let ⟨⟨_, he⟩, _⟩ := st; wpAny_pyIter_enum he h
def iEnumT (K : PySem.W.Frag) (ta : TA) : TI := fun σ H R => ta σ H fun vs H1 => ∃ a xs, vs = [.ref a] ∧ SqT K H1 a xs ∧ R (ItE K a) H1
theorem pi_enumT {X : Cx} {e : Expr} {ta : TA} {p pos tpos : Pos} {elts : List Expr} {kk : Nat} (hg : Gl X "enumerate") (hm : X.mg "enumerate" = none) (ha : PA X [e] ta) (hs : starEach [e] X.env = [(false, eval e X.env)] := by rfl) :
    PI X (.Tuple elts kk tpos) (.Call (.Name "enumerate" p) [e] [] pos) (iEnumT X.K ta) := by
  refine ⟨fun pins s σ H R I h => ?_⟩
  refine Call_ (ld_blt I hg hm boot_enumerate (PyProof.Rows.callWith_type1 (thn (ha.run pos pins s σ H _ I h) fun us s1 ⟨vs, H1, I1, r1, a, xs, ex, hq, q⟩ => ?_) hs rfl))
  subst ex
  obtain ⟨u, rfl, ru⟩ := vals1 r1
  obtain rfl : u = Value.ref a := ru
  obtain ⟨its, rv, p', hz⟩ := I1.tuple hq
  have hal : a < s1.heap.objs.size := p'.lt
  refine call_enumT (items := its.toArray) p' fun h' he hit hk => wpAny_pyIter_enum he ?_
  have I2 : Inv X pins σ H1 { s1 with heap := h' } := I1.kept (t' := s1.toks) hk
  refine ⟨s1.heap.objs.size + 1, [s1.heap.objs.size + 1, s1.heap.objs.size], _, _, H1, rfl, I2, turn_enumT a (s1.heap.objs.size + 1) s1.heap.objs.size (Nat.succ_ne_self _) (Nat.ne_of_lt (Nat.lt_succ_of_lt hal)) (Nat.ne_of_lt hal), ⟨⟨.none, he⟩, hit⟩, fun b hb => ?_, q⟩
  have hle : s1.heap.objs.size ≤ b := by
    rcases List.mem_cons.mp hb with z | z
    · rw [z]; exact Nat.le_add_right _ _
    · rw [List.mem_singleton.mp z]; exact Nat.le_refl _
  exact I1.fpOk hle (I1.hok.fresh hle)
/-- the loop over the pairs of a tuple that stands -/
theorem for_enumT {K : PySem.W.Frag} {a : Addr} {xs : List V} {g : TG} {tb : TS} {D : Ends} {σ : L2.St} {H : Hp} (Pv : Nat → L2.St → Hp → Prop) (h0 : Pv 0 σ H) (hl : ∀ i σ H, i ≤ xs.length → Pv i σ H → SqT K H a xs)
    (hs : ∀ i x T σ H, xs[i]? = some x → H T = none → Pv i σ H → g (.ref T) σ (upd H T (.tup [.int (i : Nat), x])) fun σ2 H2 => tb { D with nx := Pv (i + 1), ct := Pv (i + 1), bk := D.nx } σ2 H2) (hd : ∀ σ H, Pv xs.length σ H → D.nx σ H) :
    ∃ W : Nat → Nat → L2.St → Hp → Prop, (∃ m, W 0 m σ H) ∧ ∀ i m σ H, W i m σ H →
      ((ItE K a).stop i H ∧ D.nx σ H) ∨ ((ItE K a).go i H ∧ ∃ N : L2.St → Hp → Prop, (∀ σ' H', N σ' H' → ∃ m', m' < m ∧ W (i + 1) m' σ' H') ∧ ∀ x H', (ItE K a).yld i H x H' → g x σ H' fun σ2 H2 => tb { D with nx := N, ct := N, bk := D.nx } σ2 H2) := by
  refine ⟨fun i m σ H => m = xs.length - i ∧ i ≤ xs.length ∧ Pv i σ H, ⟨xs.length, rfl, Nat.zero_le _, h0⟩, fun i m σ H ⟨hm, hi, p⟩ => ?_⟩
  have q := hl i σ H hi p
  by_cases hlt : i < xs.length
  · refine .inr ⟨⟨xs, xs[i], q, List.getElem?_eq_getElem hlt⟩, Pv (i + 1), fun σ' H' p' => ⟨xs.length - (i + 1), by omega, rfl, hlt, p'⟩, fun v H' ⟨T, x, ev, hT, eH, hx⟩ => ?_⟩
    subst ev eH
    exact hs i x T σ H (hx xs q) hT p
  · have e : i = xs.length := by omega
    subst e
    exact .inl ⟨⟨xs, q, rfl⟩, hd σ H p⟩
theorem lc_enumT {K : PySem.W.Frag} {a : Addr} {xs : List V} {g : TG} {tt : TT} {te : TE} {vs : List Nat} {σ : L2.St} {H1 : Hp} {D : Addr} {Qd : Hp → Prop} (Pv : Nat → Hp → Prop) (h0 : Pv 0 (upd H1 D (.lst []))) (hl : ∀ i H, i ≤ xs.length → Pv i H → SqT K H a xs)
    (hs : ∀ i x T H, xs[i]? = some x → H T = none → Pv i H → g (.ref T) (wipe σ vs) (upd H T (.tup [.int (i : Nat), x])) fun σ2 H2 => wipe σ2 vs = wipe σ vs ∧ tt σ2 H2 fun b H3 =>
      if b = true then te σ2 H3 fun y H4 => ∃ acc, H4 D = some (.lst acc) ∧ acc.length < sizeLine ∧ Pv (i + 1) (upd H4 D (.lst (acc ++ [y]))) else Pv (i + 1) H3) (hd : ∀ H, Pv xs.length H → Qd H) :
    ∃ W : Nat → Nat → Hp → Prop, (∃ m, W 0 m (upd H1 D (.lst []))) ∧ ∀ i m H, W i m H →
      ((ItE K a).stop i H ∧ Qd H) ∨ ((ItE K a).go i H ∧ ∃ Nx : Hp → Prop, (∀ H', Nx H' → ∃ m', m' < m ∧ W (i + 1) m' H') ∧ ∀ x H', (ItE K a).yld i H x H' → g x (wipe σ vs) H' fun σ2 H2 => wipe σ2 vs = wipe σ vs ∧ tt σ2 H2 fun b H3 =>
        if b = true then te σ2 H3 fun y H4 => ∃ acc, H4 D = some (.lst acc) ∧ acc.length < sizeLine ∧ Nx (upd H4 D (.lst (acc ++ [y]))) else Nx H3) := by
  refine ⟨fun i m H => m = xs.length - i ∧ i ≤ xs.length ∧ Pv i H, ⟨xs.length, rfl, Nat.zero_le _, h0⟩, fun i m H ⟨hm, hi, p⟩ => ?_⟩
  have q := hl i H hi p
  by_cases hlt : i < xs.length
  · refine .inr ⟨⟨xs, xs[i], q, List.getElem?_eq_getElem hlt⟩, Pv (i + 1), fun H' p' => ⟨xs.length - (i + 1), by omega, rfl, hlt, p'⟩, fun v H' ⟨T, x, ev, hT, eH, hx⟩ => ?_⟩
    subst ev eH
    exact hs i x T H (hx xs q) hT p
  · have e : i = xs.length := by omega
    subst e
    exact .inl ⟨⟨xs, q, rfl⟩, hd H p⟩
end Cr
set_option Elab.async false
set_option linter.all false
set_option maxRecDepth 100000
set_option maxHeartbeats 4000000
/-! A dict whose keys are rows, by its one object. -/
namespace Cr
open PySem PySem.Spec PyProof.Rows L2

/-- the heap with its locks away -/
def flat (H : Hp) : Hp := fun a => match H a with
  | some (.frz _ u) => some u
  | x => x
theorem flat_of {H : Hp} {a : Addr} {o : Obj} {u : HO} (h : H a = some (.frz o u)) : flat H a = some u := by
  unfold flat
  rw [h]
theorem flat_tup {H : Hp} {a : Addr} {xs : List V} (h : flat H a = some (.tup xs)) : Rd H a (.tup xs) := by
  unfold flat at h
  cases e : H a with
  | none => rw [e] at h; cases h
  | some w =>
    rw [e] at h
    cases w with
    | frz o u => exact .inr ⟨o, by rw [e, Option.some.inj h]⟩
    | tup ys => exact .inl (by rw [e]; exact h)
    | _ => cases h
theorem TupF.flat {H : Hp} {a : Addr} {vs : List V} (h : TupF H a vs) : flat H a = some (.tup vs) := let ⟨_, e, _⟩ := h; flat_of e
theorem flat_same {H H' : Hp} (e : Same H H') {a : Addr} {xs : List V} (h : flat H a = some (.tup xs)) : flat H' a = some (.tup xs) := by
  rcases flat_tup h with q | ⟨o, q⟩
  · unfold flat
    rw [e _ _ q]
  · exact flat_of (e _ _ q)
theorem flat_seq {K : PySem.W.Frag} {H : Hp} {a : Addr} {xs : List V} (h : flat H a = some (.tup xs)) : SqT K H a xs := .inl (flat_tup h)

abbrev DKey := List Key
/-- the object that stands at d is o -/
def IsO (d : Addr) (o : Obj) : Heap → Prop := fun h => h.get? d = some o
/-- at d a dict of these pairs, keyed by tuples -/
def DX (P : Program) (w : World) (H : Hp) (d : Addr) (kvs : List (DKey × V)) : Prop := (d == sysModules) = false ∧ kvs.length ≤ 1000 ∧ ∃ (o : Obj) (es : Array DictEntry) (ep : Nat) (xs : List (DKey × Addr × Value)),
  H d = some (.ext (IsO d o)) ∧ o.ExactDict ∧ o.data = .dict es ep ∧ es.toList = xs.map (entryOfKey (tupleKind (mixKind P w))) ∧ (xs.map (·.1)).Nodup ∧ KT (flat H) kvs xs
theorem DX.same {P : Program} {w : World} {H H' : Hp} {d : Addr} {kvs : List (DKey × V)} (x : DX P w H d kvs) (e : Same H H') : DX P w H' d kvs := by
  obtain ⟨a, b, o, es, ep, xs, q, c1, c2, c3, c4, c5⟩ := x
  exact ⟨a, b, o, es, ep, xs, e _ _ q, c1, c2, c3, c4, c5.keeps fun c ys h => flat_same e h⟩
theorem ext_ok {P : Program} {w : World} {H : Hp} {h : Heap} {d : Addr} {o : Obj} (q : h.get? d = some o) : ObjOk P w H h d (.ext (IsO d o)) := ⟨q, ⟨o, q⟩, fun _ _ a k => k o a⟩
theorem flat_upd {H : Hp} {d : Addr} {φ ψ : Heap → Prop} (hd : H d = some (.ext φ) ∨ H d = none) {c : Addr} {ys : List V} (h : flat H c = some (.tup ys)) : flat (upd H d (.ext ψ)) c = some (.tup ys) := by
  have hne : c ≠ d := by
    rintro rfl
    unfold flat at h
    rcases hd with e | e <;> rw [e] at h <;> cases h
  unfold flat at h ⊢
  rw [upd_ne hne]
  exact h
section
variable {X : Cx} {pins : List (Addr × Obj)} {σ : L2.St} {H : Hp} {s : Shared} {d : Addr} {kvs : List (DKey × V)}
theorem DX.at (x : DX X.prog X.w H d kvs) (I : Inv X pins σ H s) : ∃ xs : List (DKey × Addr × Value), KT (flat H) kvs xs ∧ s.heap.DictOfH (tupleKind (mixKind X.prog X.w)) d xs := by
  obtain ⟨_, _, o, es, ep, xs, q, c1, c2, c3, c4, c5⟩ := x
  have hget : s.heap.get? d = some o := (show ObjOk X.prog X.w H s.heap d (.ext (IsO d o)) from I.hok d _ q).1
  refine ⟨xs, c5, o, es, ep, hget, c1, c2, c3, ?_, c4⟩
  have all : ∀ {l : List (DKey × V)} {m : List (DKey × Addr × Value)}, KT (flat H) l m → ∀ x ∈ m, (tupleKind (mixKind X.prog X.w)).is s.heap x.1 x.2.1 := by
    intro l m k
    induction k with
    | nil => intro x hx; cases hx
    | @cons p z ps zs hh t ih =>
      intro x hx
      rcases List.mem_cons.mp hx with e | hx
      · subst e
        have hz : flat H x.2.1 = some (.tup (x.1.map kV)) := by rw [← hh.1]; exact hh.2.1
        obtain ⟨_, its, r, ob, e1, e2, n, e3⟩ := (show ObjOk X.prog X.w H s.heap x.2.1 (.tup (x.1.map kV)) from (flat_tup hz).ok I.hok)
        exact ⟨ob, its.toArray, n, e1, e2, e3, by simpa using items_are r⟩
      · exact ih x hx
  exact all c5
theorem key_at (I : Inv X pins σ H s) {b : Addr} {k : DKey} (h : flat H b = some (.tup (k.map kV))) : (tupleKind (mixKind X.prog X.w)).is s.heap k b := by
  obtain ⟨_, its, r, ob, e1, e2, n, e3⟩ := (show ObjOk X.prog X.w H s.heap b (.tup (k.map kV)) from (flat_tup h).ok I.hok)
  exact ⟨ob, its.toArray, n, e1, e2, e3, by simpa using items_are r⟩
theorem DX.typ (x : DX X.prog X.w H d kvs) (I : Inv X pins σ H s) : s.TypeIs (.ref d) "dict" ∧ ∀ b, Value.ref d = .ref b → ∃ ob, s.heap.get? b = some ob ∧ ob.dict = none := by
  obtain ⟨xs, _, dd⟩ := x.at I
  refine ⟨dd.typeIs, fun b q => ?_⟩
  cases q
  obtain ⟨ob, _, _, e1, e2, _⟩ := dd
  exact ⟨ob, e1, e2.2.1⟩
/-- behind a store -/
theorem DX.put (x : DX X.prog X.w H d kvs) (I : Inv X pins σ H s) {h' : Heap} {tk : Nat} {xs : List (DKey × Addr × Value)} {kvs' : List (DKey × V)} (rel : KT (flat H) kvs' xs) (hl : kvs'.length ≤ 1000)
    (dd : h'.DictOfH (tupleKind (mixKind X.prog X.w)) d xs) (hs : Heap.SameBut d s.heap h') : ∃ o : Obj, DX X.prog X.w (upd H d (.ext (IsO d o))) d kvs' ∧ Inv X pins σ (upd H d (.ext (IsO d o))) { s with heap := h', toks := tk } := by
  obtain ⟨hm, _, o, es, ep, ys, q, _⟩ := x
  obtain ⟨o', es', ep', e1, e2, e3, e4, _, e5⟩ := dd
  refine ⟨o', ⟨hm, hl, o', es', ep', xs, upd_same, e2, e3, e4, e5, rel.keeps fun c zs ec => flat_upd (.inl q) ec⟩, ?_⟩
  exact I.un (t' := tk) (Un.write (by rw [q]; exact True.intro) (.inl rfl) (fun b u hb e => (hs.2 b hb).trans e) ⟨o', e1⟩) (I.hok.write (by rw [q]; exact True.intro) (.inl rfl) (fun b u hb e => (hs.2 b hb).trans e) ⟨o', e1⟩ (ext_ok e1))
end

section
variable {X : Cx}
/-- {} -/
def tDNewX (P : Program) (w : World) : TE := fun _ H Q => ∀ p o, H p = none → DX P w (upd H p (.ext (IsO p o))) p [] → Q (.ref p) (upd H p (.ext (IsO p o)))
theorem pe_dnewX {pos : Pos} : PE X (.Dict [] [] pos) (tDNewX X.prog X.w) := ⟨fun pins s σ H Q I h => by
  have fresh : H s.heap.objs.size = none := I.hok.fresh (Nat.le_refl _)
  have hget : (s.heap.push { cls := .type "dict", data := .dict #[] }).get? s.heap.objs.size = some { cls := .type "dict", data := .dict #[] } := Heap.get?_push_size _ rfl
  refine wpAny_Dict_empty ⟨.ref s.heap.objs.size, _, I.laid (a := s.heap.objs.size) (o := .ext (IsO s.heap.objs.size { cls := .type "dict", data := .dict #[] })) (t' := s.toks) (fun _ _ q => Heap.get?_push_of_some _ q) (Nat.le_refl _) (ext_ok hget), rfl, h _ _ fresh ?_⟩
  exact ⟨beq_eq_false_iff_ne.mpr (Ne.symm (Nat.ne_of_lt I.big)), Nat.zero_le _, _, #[], 0, [], upd_same, ⟨rfl, rfl, rfl⟩, rfl, rfl, List.nodup_nil, .nil⟩⟩
/-- {k: v}, k a tuple -/
def tDOneX (P : Program) (w : World) (tk tv : TE) : TE := fun σ H Q => ∀ (p : Addr) (o0 : Obj), H p = none → DX P w (upd H p (.ext (IsO p o0))) p [] → tk σ (upd H p (.ext (IsO p o0))) fun x H1 => tv σ H1 fun y H2 => DX P w H2 p [] ∧
  ∃ (b : Addr) (k : DKey), x = .ref b ∧ flat H2 b = some (.tup (k.map kV)) ∧ ∀ o : Obj, DX P w (upd H2 p (.ext (IsO p o))) p [(k, y)] → Q (.ref p) (upd H2 p (.ext (IsO p o)))
theorem pe_doneX {k v : Expr} {pos : Pos} {tk tv : TE} (hu : X.A.units < cLine) (hk : PE X k tk) (hv : PE X v tv) : PE X (.Dict [some k] [v] pos) (tDOneX X.prog X.w tk tv) := ⟨fun pins s σ H Q I h => by
  have fresh : H s.heap.objs.size = none := I.hok.fresh (Nat.le_refl _)
  have hget : (s.heap.push { cls := .type "dict", data := .dict #[] }).get? s.heap.objs.size = some { cls := .type "dict", data := .dict #[] } := Heap.get?_push_size _ rfl
  have I0 := I.laid (a := s.heap.objs.size) (o := .ext (IsO s.heap.objs.size { cls := .type "dict", data := .dict #[] })) (t' := s.toks) (fun _ _ q => Heap.get?_push_of_some _ q) (Nat.le_refl _) (ext_ok hget)
  have h0 := h s.heap.objs.size { cls := .type "dict", data := .dict #[] } fresh ⟨beq_eq_false_iff_ne.mpr (Ne.symm (Nat.ne_of_lt I.big)), Nat.zero_le _, { cls := .type "dict", data := .dict #[] }, #[], 0, [], upd_same, ⟨rfl, rfl, rfl⟩, rfl, rfl, List.nodup_nil, .nil⟩
  rw [arm_eval_Dict, zip_pairTrees [some k] [v] X.env pos rfl rfl, dictDisplay_pairs (pairTrees [some k] [v] X.env pos) (fun e => nomatch e) (by show 1 < 17; decide)]
  refine wpAny_bind (wpAny_standAt (wpAny_bind (wpAny_subDictH (knd := tupleKind (mixKind X.prog X.w)) (Q := fun d s' => wpAny (model X.prog X.w) X.A (pure (Value.ref d)) (EP X pins σ Q) X.xe s') hu (by show 1 ≤ 15; decide) ?_)))
  refine pairTrees_cons_walk (thn (hk.run pins _ σ _ _ I0 h0) fun u s1 ⟨x, H1, I1, rx, q1⟩ => thn (hv.run pins s1 σ H1 _ I1 q1) fun w2 s2 ⟨y, H2, I2, ry, dx, b, ks, ex, hb, q⟩ => pairTrees_nil_walk ?_)
  subst ex
  obtain rfl : u = Value.ref b := rx
  obtain ⟨ys, rel, dd⟩ := dx.at I2
  cases rel
  refine ⟨[(ks, b, w2)], ⟨rfl, rfl, key_at I2 hb, trivial⟩, dd, fun h' tk' hm' hs' => wpAny_pure ?_⟩
  obtain ⟨ob, dx', I3⟩ := dx.put I2 (tk := tk') (KT.put (H := flat H2) Paired.nil ks hb ry) (by show 1 ≤ 1000; decide) hm' hs'
  exact ⟨.ref s.heap.objs.size, _, I3, rfl, q ob dx'⟩⟩
/-- d[k] -/
def tDGetX (P : Program) (w : World) (td ty : TE) : TE := fun σ H Q => td σ H fun x H1 => ty σ H1 fun y H2 => ∃ (a b : Addr) (kvs : List (DKey × V)) (k : DKey) (v : V), x = .ref a ∧ y = .ref b ∧ DX P w H2 a kvs ∧ flat H2 b = some (.tup (k.map kV)) ∧ valV kvs k = some v ∧ Q v H2
theorem pe_dgetX {o i : Expr} {pos : Pos} {td ty : TE} (hu : X.A.units + 1 < cLine) (ho : PE X o td) (hi : PE X i ty) (hs : NoSl i) : PE X (.Subscript o i pos) (tDGetX X.prog X.w td ty) := by
  refine ⟨fun pins s σ H Q I h => ?_⟩
  refine subD_of PySem.F.slot_dict_getitem.lookup hs (thn (ho.run pins s σ H _ I h) fun u s1 ⟨x, H1, I1, rx, q1⟩ => thn (hi.run pins s1 σ H1 _ I1 q1) fun iv s2 ⟨y, H2, I2, ry, a, b, kvs, k, v, ex, ey, hd, hk, hv, q⟩ => ?_)
  subst ex ey
  obtain rfl : u = Value.ref a := rx
  obtain rfl : iv = Value.ref b := ry
  obtain ⟨xs, rel, dd⟩ := hd.at I2
  obtain ⟨w', hw, rw'⟩ := RelO.some_of (v := v) (o := (atKey xs k).map (·.2)) (by rw [← hv]; exact rel.val k)
  obtain ⟨p, hp, hp2⟩ := Option.map_eq_some_iff.mp hw
  refine ⟨dd.typeIs, wpAny_getItem_heap (tupleKind_room_in1 hu) (key_at I2 hk) dd hp ?_⟩
  rw [hp2]
  exact ⟨v, H2, I2.tok _, rw', q⟩
/-- d.get(k, x) -/
def tDGet2X (P : Program) (w : World) (td ty tx : TE) : TE := fun σ H Q => td σ H fun x H1 => ∃ a kvs, x = .ref a ∧ DX P w H1 a kvs ∧ ty σ H1 fun y H2 => tx σ H2 fun z H3 => DX P w H3 a kvs ∧ ∃ (b : Addr) (k : DKey), y = .ref b ∧ flat H3 b = some (.tup (k.map kV)) ∧ Q ((valV kvs k).getD z) H3
theorem pe_dget2X {o e f : Expr} {apos cpos : Pos} {td ty tx : TE} (hu : X.A.units + 1 < cLine) (ho : PE X o td) (he : PE X e ty) (hf : PE X f tx) (m : M2 X o "get" apos e f cpos) : PE X (.Call (.Attribute o "get" apos) [e, f] [] cpos) (tDGet2X X.prog X.w td ty tx) := by
  refine ⟨fun pins s σ H Q I h => ?_⟩
  refine wpAny_Call_method m.base m.few m.line PySem.F.plainAttrs_dict PySem.F.slot_dict_get PySem.F.type_dict_get (thn (ho.run pins s σ H _ I h) fun u s1 ⟨x, H1, I1, rx, a, kvs, ex, hd, q1⟩ => ?_)
  subst ex
  obtain rfl : u = Value.ref a := rx
  obtain ⟨t1, t2⟩ := hd.typ I1
  refine ⟨t1, t2, ?_⟩
  rw [m.trees]
  refine Calls.callWith_builtin rfl (Calls.evalArgs_plain (Calls.spliced_cons (thn (he.run pins s1 σ H1 _ I1 q1) fun iv s2 ⟨y, H2, I2, ry, q2⟩ =>
    Calls.spliced_cons (thn (hf.run pins s2 σ H2 _ I2 q2) fun fv s3 ⟨z, H3, I3, rz, hd3, b, k, ey, hk, q⟩ => Calls.spliced_nil ?_))))
  subst ey
  obtain rfl : iv = Value.ref b := ry
  obtain ⟨xs, rel, dd⟩ := hd3.at I3
  refine call_meetsIn PySem.F.slot_dict_get dd.typeIs PySem.F.entry_dict_get (PySem.F.args_dict_get_3 _ _ _) (meetsH_dict_get_default (tupleKind (mixKind X.prog X.w)) a b hd3.1 fv) ⟨tupleKind_room_in1 hu, k, xs, key_at I3 hk, dd, ?_⟩
  exact ⟨_, H3, I3.tok _, (rel.val k).getD rz, q⟩
/-- d[k] = v -/
def sDPutX (P : Program) (w : World) (td ty tv : TE) : TS := fun D σ H => tv σ H fun v H1 => td σ H1 fun x H2 => ty σ H2 fun y H3 => ∃ (a b : Addr) (kvs : List (DKey × V)) (k : DKey), x = .ref a ∧ y = .ref b ∧ DX P w H3 a kvs ∧ flat H3 b = some (.tup (k.map kV)) ∧ kvs.length < 1000 ∧
  ∀ o, DX P w (upd H3 a (.ext (IsO a o))) a (putK kvs k v) → D.nx σ (upd H3 a (.ext (IsO a o)))
theorem ps_dputX {o i value : Expr} {pos pos' : Pos} {td ty tv : TE} (hu : X.A.units + 1 < cLine) (ho : PE X o td) (hi : PE X i ty) (hv : PE X value tv) (hs : swapsWith value (some (.Subscript o i pos')) pos.line X.env = pure false) :
    PS X (.Assign [.Subscript o i pos'] value pos) (sDPutX X.prog X.w td ty tv) := by
  refine ⟨fun pins s σ H D I h => ?_⟩
  refine wpAny_Assign_Subscript (thn (hv.run pins s σ H _ I h) fun r s1 ⟨v, H1, I1, rv, q1⟩ => thn (ho.run pins s1 σ H1 _ I1 q1) fun u s2 ⟨x, H2, I2, rx, q2⟩ => thn (hi.run pins s2 σ H2 _ I2 q2) fun iv s3 ⟨y, H3, I3, ry, a, b, kvs, k, ex, ey, hd, hk, hl, q⟩ => ?_) hs
  subst ex ey
  obtain rfl : u = Value.ref a := rx
  obtain rfl : iv = Value.ref b := ry
  obtain ⟨xs, rel, dd⟩ := hd.at I3
  have hz : xs.length ≤ sizeLine := by
    have := Paired.length rel
    rw [sizeLine_eq]
    omega
  refine wpAny_setItem_heap (hsz := hz) (tupleKind_room_in1 hu) (key_at I3 hk) dd fun h' dd' hs' => ?_
  obtain ⟨ob, dx, I4⟩ := hd.put I3 (tk := s3.toks + (tupleKind (mixKind X.prog X.w)).draws k) (rel.put k hk rv) (by have := length_putK kvs k v; omega) dd' hs'
  exact ⟨σ, _, I4, q ob dx⟩
end

/-! ### its keys, one after another -/
/-- these addresses hold the keys -/
abbrev KeysAt (H : Hp) (kvs : List (DKey × V)) (bs : List Addr) : Prop := Paired (fun (p : DKey × V) (b : Addr) => flat H b = some (.tup (p.1.map kV))) kvs bs
theorem KeysAt.same {H H' : Hp} {kvs : List (DKey × V)} {bs : List Addr} (x : KeysAt H kvs bs) (e : Same H H') : KeysAt H' kvs bs := Paired.mapP x fun _ _ z => flat_same e z
theorem keys_of {H : Hp} {kvs : List (DKey × V)} {xs : List (DKey × Addr × Value)} (r : KT (flat H) kvs xs) : KeysAt H kvs (xs.map fun x => x.2.1) := by
  induction r with
  | nil => exact .nil
  | cons h t ih => exact .cons h.2.1 ih
theorem KeysAt.get {H : Hp} : ∀ {kvs : List (DKey × V)} {bs : List Addr} {i : Nat} {b : Addr}, KeysAt H kvs bs → bs[i]? = some b → ∃ k v, kvs[i]? = some (k, v) ∧ flat H b = some (.tup (k.map kV))
  | _, _, i, b, .nil, h => by simp at h
  | _, _, 0, b, @Paired.cons _ _ _ p c _ _ h t, e => by
    have : c = b := by simpa using e
    subst this
    exact ⟨p.1, p.2, rfl, h⟩
  | _, _, i + 1, b, .cons h t, e => KeysAt.get (i := i) t (by simpa using e)
def ItX (d : Addr) (o : Obj) (bs : List Addr) : It :=
  ⟨fun i H => H d = some (.ext (IsO d o)) ∧ i < bs.length, fun i H x H' => H' = H ∧ ∃ b, bs[i]? = some b ∧ x = .ref b, fun i H => H d = some (.ext (IsO d o)) ∧ bs.length ≤ i⟩
theorem turn_keysX {P : Program} {w : World} {K : PySem.W.Frag} {tg : Expr} {d : Addr} {o : Obj} {es : Array DictEntry} {ep : Nat} {bs : List Addr} (it : Addr) (hod : o.data = .dict es ep) (hsz : es.size = bs.length) (ent : ∀ (i : Nat) b, bs[i]? = some b → ∃ en : DictEntry, es[i]? = some en ∧ en.key = .ref b) :
    Turn P w K tg (ItX d o bs) [it] it (fun i h => h.IsKeyIter it d i bs.length ep) where
  mem := by simp
  obj := fun i h st b hb => by
    rw [List.mem_singleton.mp hb]
    obtain ⟨oi, e, c, dd⟩ := st
    exact ⟨oi, e, fun v z => by rw [dd] at z; cases z⟩
  keep := fun i h h' st k => st.at fun oi e => k it (by simp) oi e
  item := by
    intro X hP hw hK hc i pins s σ H E I hf st hg
    subst hP hw hK
    obtain ⟨hd, hi⟩ := hg
    obtain ⟨f0, f1, f2, f3, f4, f5⟩ := hf it (by simp)
    have hget : s.heap.get? d = some o := (show ObjOk X.prog X.w H s.heap d (.ext (IsO d o)) from I.hok d _ hd).1
    have hb : bs[i]? = some bs[i] := List.getElem?_eq_getElem hi
    obtain ⟨en, hen, hkey⟩ := ent i _ hb
    refine next_key_item st hget hod hsz hen fun h' st' sb => ?_
    have I1 : Inv X pins σ H { s with heap := h' } := I.turned (t' := s.toks) (fun b ob hb e => (sb.2 b hb).trans e) f0 f1 f3 f4 f5
    obtain ⟨oi, e, c, dd⟩ := id st'
    exact ⟨en.key, rfl, go_of (s := { s with heap := h' }) e c dd (by decide) ⟨.ref bs[i], H, I1, hkey, ⟨rfl, _, hb, rfl⟩, st', fun b hb => (hf b hb).1⟩⟩
  done := by
    intro X hP hw hK hc i pins s σ H E I hf st hg
    subst hP hw hK
    obtain ⟨hd, hi⟩ := hg
    obtain ⟨f0, f1, f2, f3, f4, f5⟩ := hf it (by simp)
    have hget : s.heap.get? d = some o := (show ObjOk X.prog X.w H s.heap d (.ext (IsO d o)) from I.hok d _ hd).1
    exact next_key_end (I.ok.hd hc) st hget hod hsz hi fun h' eb => ⟨rfl, I.turned (t' := s.toks) (fun b ob hb e => eb b ob hb e) f0 f1 f3 f4 f5⟩
  self := fun A i s Q E st h => by
    refine wpAny_pyIter_slot st.typeIs F.slot_dict_keyiterator_iter (wpAny_call_entry F.slot_dict_keyiterator_iter st.typeIs F.entry_dict_keyiterator_iter ?_ (F.args_dict_keyiterator_iter_1 _))
    show wpAny _ _ (ret (.ref it)) _ _ s
    exact wpAny_pure ⟨_, rfl, "dict_keyiterator", _, st.typeIs, F.slot_dict_keyiterator_next.lookup, h⟩
def iKeysX (P : Program) (w : World) (td : TE) : TI := fun σ H R => td σ H fun x H1 => ∃ d kvs, x = .ref d ∧ DX P w H1 d kvs ∧ ∀ o bs, H1 d = some (.ext (IsO d o)) → KeysAt H1 kvs bs → R (ItX d o bs) H1
theorem pi_keysX {X : Cx} {tg e : Expr} {td : TE} (he : PE X e td) : PI X tg e (iKeysX X.prog X.w td) := by
  refine ⟨fun pins s σ H R I h => ?_⟩
  refine thn (he.run pins s σ H _ I h) fun u s1 ⟨x, H1, I1, rx, d, kvs, ex, dx, q⟩ => ?_
  subst ex
  obtain rfl : u = Value.ref d := rx
  obtain ⟨hm, hl, o, es, ep, xs, hd, c1, c2, c3, c4, c5⟩ := dx
  have hget : s1.heap.get? d = some o := (show ObjOk X.prog X.w H1 s1.heap d (.ext (IsO d o)) from I1.hok d _ hd).1
  have hsz : es.size = (xs.map fun x => x.2.1).length := by rw [List.length_map]; exact size_of_entries c3
  refine iter_keys hm hget c1 c2 (pi_one (tk := s1.toks) I1 _ (turn_keysX _ c2 hsz fun i b hb => ?_) ⟨_, Heap.get?_push_size _ rfl, rfl, ?_⟩ (q o _ hd (keys_of c5)))
  · rw [List.getElem?_map] at hb
    cases e : xs[i]? with
    | none => rw [e] at hb; cases hb
    | some z =>
      rw [e] at hb
      refine ⟨entryOfKey (tupleKind (mixKind X.prog X.w)) z, ?_, ?_⟩
      · rw [entry_at c3 i, e]
        rfl
      · show Value.ref z.2.1 = Value.ref b
        rw [show z.2.1 = b from Option.some.inj hb]
  · rw [hsz]
    rfl
theorem lc_keysX {d : Addr} {o : Obj} {bs : List Addr} {g : TG} {tt : TT} {te : TE} {vs : List Nat} {σ : L2.St} {H1 : Hp} {D : Addr} {Qd : Hp → Prop} (Pv : Nat → Hp → Prop) (h0 : Pv 0 (upd H1 D (.lst []))) (hl : ∀ i H, i ≤ bs.length → Pv i H → H d = some (.ext (IsO d o)))
    (hs : ∀ i b H, bs[i]? = some b → Pv i H → g (.ref b) (wipe σ vs) H fun σ2 H2 => wipe σ2 vs = wipe σ vs ∧ tt σ2 H2 fun b H3 =>
      if b = true then te σ2 H3 fun y H4 => ∃ acc, H4 D = some (.lst acc) ∧ acc.length < sizeLine ∧ Pv (i + 1) (upd H4 D (.lst (acc ++ [y]))) else Pv (i + 1) H3) (hd : ∀ H, Pv bs.length H → Qd H) :
    ∃ W : Nat → Nat → Hp → Prop, (∃ m, W 0 m (upd H1 D (.lst []))) ∧ ∀ i m H, W i m H →
      ((ItX d o bs).stop i H ∧ Qd H) ∨ ((ItX d o bs).go i H ∧ ∃ Nx : Hp → Prop, (∀ H', Nx H' → ∃ m', m' < m ∧ W (i + 1) m' H') ∧ ∀ x H', (ItX d o bs).yld i H x H' → g x (wipe σ vs) H' fun σ2 H2 => wipe σ2 vs = wipe σ vs ∧ tt σ2 H2 fun b H3 =>
        if b = true then te σ2 H3 fun y H4 => ∃ acc, H4 D = some (.lst acc) ∧ acc.length < sizeLine ∧ Nx (upd H4 D (.lst (acc ++ [y]))) else Nx H3) := by
  refine ⟨fun i m H => m = bs.length - i ∧ i ≤ bs.length ∧ Pv i H, ⟨bs.length, rfl, Nat.zero_le _, h0⟩, fun i m H ⟨hm, hi, p⟩ => ?_⟩
  have q := hl i H hi p
  by_cases hlt : i < bs.length
  · refine .inr ⟨⟨q, hlt⟩, Pv (i + 1), fun H' p' => ⟨bs.length - (i + 1), by omega, rfl, hlt, p'⟩, fun v H' ⟨eH, b, hb, ev⟩ => ?_⟩
    subst ev eH
    exact hs i b _ hb p
  · have e : i = bs.length := by omega
    subst e
    exact .inl ⟨⟨q, Nat.le_refl _⟩, hd H p⟩
end Cr
set_option Elab.async false
set_option linter.all false
set_option maxRecDepth 100000
set_option maxHeartbeats 4000000
/-! The text by places, and words that all bodies use. -/
namespace Cr
open PySem PySem.Spec PyProof.Rows L2

def top (i : Nat) : Stmt := PySem.Challenge.pw_counterrow_s01_answers.main.body.getD i (.Pass ⟨0, 0, 0, 0⟩)
abbrev sIsRow : Stmt := top 1
abbrev sLonger : Stmt := top 2
abbrev sAllRows : Stmt := top 3
abbrev sSteps : Stmt := top 4
abbrev sStepsIn : Stmt := top 5
abbrev sPut : Stmt := top 6
abbrev sExch : Stmt := top 7
abbrev sBestRows : Stmt := top 9
abbrev sBack : Stmt := top 10
abbrev sCheap : Stmt := top 11
abbrev sBehind : Stmt := top 12
abbrev sLeastAll : Stmt := top 13
abbrev sByCounts : Stmt := top 18
abbrev sPlaceBack : Stmt := top 19
abbrev sByRule : Stmt := top 20
abbrev sShelf : Stmt := top 28
abbrev sInit : Stmt := inClass sShelf 0
abbrev sBegins : Stmt := inClass sShelf 1
abbrev sLaid : Stmt := inClass sShelf 2
abbrev sAsks : Stmt := inClass sShelf 3
abbrev sFixed : Stmt := inClass sShelf 4
abbrev sBest : Stmt := inClass sShelf 5
abbrev sRule : Stmt := inClass sShelf 6
abbrev sLeast : Stmt := inClass sShelf 7
abbrev sAnswer : Stmt := top 31
abbrev sRowsAt : Stmt := top 32
abbrev sAnswers : Stmt := top 33

/-- built-in names that the module leaves alone -/
structure Blt (mg : Str → Option Value) : Prop where
  sorted : mg "sorted" = none
  list : mg "list" = none
  range : mg "range" = none
  tuple : mg "tuple" = none
  sum : mg "sum" = none
  len : mg "len" = none
  enumerate : mg "enumerate" = none
  min : mg "min" = none
  max : mg "max" = none

/-- a def of the module, by its name: it keeps its promise -/
def Has (P : Program) (w : World) (K : PySem.W.Frag) (mg : Str → Option Value) (base : Heap) (k : Nat) (x : Str) (ps : List Str) (sp : Sp) : Prop :=
  ∃ (f : Addr) (fd : FuncData), FnOk P w K mg base CX0 k f fd ps sp ∧ mg x = some (.ref f) ∧ PySem.W.keepIn K (.ref f) = true ∧ Binds K fd ps []
theorem pe_has {X : Cx} {k : Nat} {x : Str} {ps : List Str} {sp : Sp} {p pos : Pos} {e : Expr} {es : List Expr} {t : TA} (G : Has X.prog X.w X.K X.mg X.base k x ps sp) (hr : Room k X.A) (hg : Gl X x) (ha : PA X (e :: es) t)
    (hdb : (x == ("__debug__" : Str)) = false := by decide) (he : starEach (e :: es) X.env = (false, eval e X.env) :: starEach es X.env := by rfl) (hpl : (backTo pos (starEach es X.env)).any (·.1) = false := by rfl) :
    PE X (.Call (.Name x p) (e :: es) [] pos) (tCall sp [] E0 t) := by
  obtain ⟨f, fd, F, hm, hk, hb⟩ := G
  exact pe_call F hr hg hm hk hb .nil pass0 ha hdb he hpl

theorem op_notInK {X : Cx} {K : PySem.W.Frag} (e : X.K = K) : OpR X (compareOp .NotIn) (rIn K true) := by
  rw [← e]
  exact op_notIn_seq
theorem ix_listK {X : Cx} {K : PySem.W.Frag} (e : X.K = K) : IxR X (rIxL K) := by
  rw [← e]
  exact ix_list
theorem pe_dgetK {X : Cx} {P : Program} {w : World} {o i : Expr} {pos : Pos} {td ty : TE} (eP : X.prog = P) (ew : X.w = w) (hu : X.A.units + 1 < cLine) (ho : PE X o td) (hi : PE X i ty) (hs : NoSl i) : PE X (.Subscript o i pos) (tDGetX P w td ty) := by
  rw [← eP, ← ew]
  exact pe_dgetX hu ho hi hs
theorem yes_go {σ : L2.St} {H : Hp} {Q : Bool → Hp → Prop} (h : Q true H) : tYes σ H Q := h
theorem noPart_go {σ : L2.St} {H : Hp} {Q : Option Int → Hp → Prop} (h : Q none H) : tNoPart σ H Q := h
/-! ### lists of rows -/
abbrev RowsV (H : Hp) (xs : List V) (rs : List (List Nat)) : Prop := Paired (fun (v : V) (r : List Nat) => ∃ a : Addr, v = .ref a ∧ RowF H a r) xs rs
theorem RowsV.same {H H' : Hp} {xs : List V} {rs : List (List Nat)} (x : RowsV H xs rs) (e : Same H H') : RowsV H' xs rs := Paired.mapP x fun _ _ ⟨a, h1, h2⟩ => ⟨a, h1, h2.same e⟩
theorem TupF.updL {H : Hp} {a D : Addr} {vs l : List V} {o : HO} (h : TupF H a vs) (hD : H D = some (.lst l)) : TupF (upd H D o) a vs := by
  obtain ⟨ob, e, d⟩ := h
  exact ⟨ob, by rw [upd_ne (ne_of e hD fun z => nomatch z)]; exact e, d⟩
theorem RowsV.updL {H : Hp} {D : Addr} {xs l : List V} {o : HO} {rs : List (List Nat)} (x : RowsV H xs rs) (hD : H D = some (.lst l)) : RowsV (upd H D o) xs rs := Paired.mapP x fun _ _ ⟨a, h1, h2⟩ => ⟨a, h1, h2.updL hD⟩
theorem RowsV.snoc {H : Hp} {a : Addr} {r : List Nat} {xs : List V} {rs : List (List Nat)} (x : RowsV H xs rs) (h : RowF H a r) : RowsV H (xs ++ [.ref a]) (rs ++ [r]) := Paired.snoc x ⟨a, rfl, h⟩
theorem RowsV.append {H : Hp} {xs ys : List V} {rs qs : List (List Nat)} (x : RowsV H xs rs) (y : RowsV H ys qs) : RowsV H (xs ++ ys) (rs ++ qs) := by
  induction x with
  | nil => exact y
  | cons h t ih => exact .cons h ih
theorem RowsV.get {H : Hp} : ∀ {xs : List V} {rs : List (List Nat)} {i : Nat} {v : V}, RowsV H xs rs → xs[i]? = some v → ∃ (r : List Nat) (a : Addr), rs[i]? = some r ∧ v = .ref a ∧ RowF H a r
  | _, _, i, v, .nil, h => by simp at h
  | _, _, 0, v, @Paired.cons _ _ _ x r _ _ h t, e => by
    have : x = v := by simpa using e
    subst this
    obtain ⟨a, h1, h2⟩ := h
    exact ⟨r, a, rfl, h1, h2⟩
  | _, _, i + 1, v, .cons h t, e => RowsV.get (i := i) t (by simpa using e)
theorem inV_vi (t : Nat) (r : List Nat) : inV (.int (t : Int)) (vi r) = r.contains t := by
  unfold inV vi
  rw [List.any_map, List.contains_eq_any_beq]
  congr 1
  funext u
  show ((u : Int) == (t : Int)) = (t == u)
  by_cases h : u = t
  · subst h
    simp
  · have h1 : ((u : Int) == (t : Int)) = false := beq_eq_false_iff_ne.mpr fun e => h (Int.ofNat.inj e)
    have h2 : (t == u) = false := beq_eq_false_iff_ne.mpr fun e => h e.symm
    rw [h1, h2]
theorem small100 {n : Nat} (h : n ≤ 10000) : n ≤ sizeLine := Nat.le_trans h (by decide)
theorem small100' {n : Nat} (h : n ≤ 10000) : n < sizeLine := Nat.lt_of_le_of_lt h (by decide)
theorem take_snoc {α : Type} {l : List α} {i : Nat} {x : α} (h : l[i]? = some x) : l.take (i + 1) = l.take i ++ [x] := by
  rw [List.take_add_one, h]
  rfl
/-- t + u, whatever comes of it -/
theorem cat_go {K : PySem.W.Frag} {H : Hp} {a b : Addr} {xs ys : List V} {Q : VK} (ha : SqT K H a xs) (hb : SqT K H b ys) (hz : xs.length + ys.length ≤ sizeLine) (fa : ys = [] → TupF H a xs) (fb : xs = [] → TupF H b ys)
    (k : ∀ p H', Same H H' → TupF H' p (xs ++ ys) → Q (.ref p) H') : rCatF K (.ref a) (.ref b) H Q := by
  refine ⟨a, b, xs, ys, rfl, rfl, ha, hb, hz, fun e => ?_, fun _ e => ?_, fun _ _ p H' hp s _ h => k p H' s h⟩
  · exact k b H (Same.refl H) (by rw [e, List.nil_append]; exact fb e)
  · exact k a H (Same.refl H) (by rw [e, List.append_nil]; exact fa e)
/-- t[lo:hi], whatever comes of it -/
theorem slA_go {K : PySem.W.Frag} {H : Hp} {a : Addr} {xs : List V} {lo hi : Option Int} {Q : VK} (ha : SqT K H a xs) (k : ∀ p H', Same H H' → SqT K H' p (cutV xs lo hi) → Q (.ref p) H') : rSlA K (.ref a) lo hi H Q := by
  refine ⟨a, xs, rfl, ha, fun e => ?_, fun _ p hp => k p _ (same_new hp) (SqT.of upd_same)⟩
  refine k a H (Same.refl H) ?_
  unfold cutV
  rw [e.1, e.2, List.drop_zero, Nat.sub_zero, List.take_length]
  exact ha
theorem cut_to (r : List Nat) (p : Nat) : cutV (vi r) none (some (p : Int)) = vi (r.take p) := by
  unfold cutV
  rw [HT.sIx_nat, HT.sIx_none, List.drop_zero, Nat.sub_zero, vi_take, vi_len]
  by_cases h : p ≤ r.length
  · rw [Nat.min_eq_left h]
  · rw [Nat.min_eq_right (by omega), List.take_of_length_le (by rw [vi_len]; omega), List.take_of_length_le (by rw [vi_len]; omega)]
theorem cut_from (r : List Nat) (p : Nat) : cutV (vi r) (some (p : Int)) none = vi (r.drop p) := by
  unfold cutV
  rw [HT.sIx_nat, HT.sIx_none, vi_drop, vi_len]
  by_cases h : p ≤ r.length
  · rw [Nat.min_eq_left h, List.take_of_length_le (by rw [List.length_drop, vi_len]; omega)]
  · rw [Nat.min_eq_right (by omega), List.drop_of_length_le (by rw [vi_len]; omega), List.drop_of_length_le (by rw [vi_len]; omega)]
    simp
end Cr
set_option Elab.async false
set_option linter.all false
set_option maxRecDepth 100000
set_option maxHeartbeats 4000000
/-! rows.py: steps, longer, all_rows, steps_in, put. -/
namespace Cr
open PySem PySem.Spec PyProof.Rows L2
section
variable {P : Program} {w : World} {K : PySem.W.Frag} {mg : Str → Option Value} {base : Heap}

/-! ### steps -/
def spSteps : Sp := fun vs H Q _ => ∃ (a : Addr) (r : List Nat) (t : Nat), vs = [.ref a, .int (t : Int)] ∧ RowF H a r ∧ t ∈ r ∧ Q (.int (Si88.steps r t : Nat)) H
theorem scSteps : FnScope ["row", "thing"] ["row", "thing"] (defScope sSteps) := ⟨rfl, rfl, rfl, by decide +kernel, rfl, by decide +kernel, by decide +kernel⟩
theorem ok_steps {f : Addr} {fd : FuncData} (F : Fun K "steps" "steps" sSteps f fd) : FnOk P w K mg base CX0 1 f fd ["row", "thing"] spSteps := by
  refine F.ok scSteps (fun vs H Q E h => ?_) (fun cdv A outer s H vs Q E hr h => ?_)
  · obtain ⟨a, r, t, rfl, _⟩ := h
    rfl
  · obtain ⟨a, r, t, rfl, ha, ht, k⟩ := h
    refine ⟨_, pss_one (ps_ret (pe_op op_add (pe_tix (pv 0) (pv 1)) pe_int)), ?_⟩
    refine ⟨_, rfl, a, r, rfl, ha, _, rfl, t, rfl, ha, ht, _, _, rfl, rfl, ?_⟩
    exact k

/-! ### longer -/
def longUp (r : List Nat) (i : Nat) : List (List Nat) := ((List.range i).filter fun t => !r.contains t).map fun t => r ++ [t]
theorem longUp_yes {r : List Nat} {i : Nat} (h : r.contains i = false) : longUp r (i + 1) = longUp r i ++ [r ++ [i]] := by
  unfold longUp
  rw [List.range_succ, List.filter_append, List.map_append, List.filter_cons, h]
  rfl
theorem longUp_no {r : List Nat} {i : Nat} (h : r.contains i = true) : longUp r (i + 1) = longUp r i := by
  unfold longUp
  rw [List.range_succ, List.filter_append, List.map_append, List.filter_cons, h]
  simp
theorem longUp_len (r : List Nat) (i : Nat) : (longUp r i).length ≤ i := by
  unfold longUp
  rw [List.length_map]
  have h := List.length_filter_le (fun t => !r.contains t) (List.range i)
  rw [List.length_range] at h
  exact h
def spLonger : Sp := fun vs H Q _ => ∃ (a : Addr) (r : List Nat) (n : Nat), vs = [.ref a, .int (n : Int)] ∧ RowF H a r ∧ n ≤ 4 ∧ r.length ≤ 4 ∧ ∀ (H' : Hp) (D : Addr) (xs : List V), Same H H' → H' D = some (.lst xs) → RowsV H' xs (longer r n) → Q (.ref D) H'
theorem scLonger : FnScope ["row", "many", "thing"] ["row", "many"] (defScope sLonger) := ⟨rfl, rfl, rfl, by decide +kernel, rfl, by decide +kernel, by decide +kernel⟩
theorem ok_longer {f : Addr} {fd : FuncData} (F : Fun K "longer" "longer" sLonger f fd) (T : Blt mg) : FnOk P w K mg base CX0 1 f fd ["row", "many"] (spLonger) := by
  refine F.ok scLonger (fun vs H Q E h => ?_) (fun cdv A outer s H vs Q E hr h => ?_)
  · obtain ⟨a, r, n, rfl, _⟩ := h
    rfl
  · obtain ⟨a, r, n, rfl, ha, hn, hl, k⟩ := h
    refine ⟨_, pss_one (ps_ret (pe_lc (own := [("thing", 2)]) (g := gName 2) rfl scLonger.nd (pi_range1 rfl T.range (pa_cons (pv 1) pa_nil)) (blkOk_by (own := [("thing", 2)]) (N := ["row", "many", "thing"]) (sc := defScope sLonger) (by decide +kernel))
      (fun _ _ _ _ _ => pg_name (i := 2) scLonger.nd rfl (Or.inl rfl)) (fun _ _ _ _ _ => pts_one (pt_cmpR (op_notInK (K := K) rfl) (pv 2) (pv 0) (by rfl))) (fun _ _ _ _ _ => pe_op (op_catK (K := K) rfl) (pv 0) (pe_tupF (pa_cons (pv 2) pa_nil))))), ?_⟩
    refine ⟨_, rfl, (n : Int), rfl, by omega, by omega, fun D hD => lc_range (lo := 0) (n := n) (fun i H' => Same H H' ∧ ∃ xs, H' D = some (.lst xs) ∧ RowsV H' xs (longUp r i)) ⟨same_new hD, [], upd_same, .nil⟩ ?_ ?_⟩
    · rintro i H' hi ⟨s1, xs, hx, hR⟩
      have e0 : (0 : Int) + (i : Int) = (i : Int) := Int.zero_add _
      show gName 2 (V.int ((0 : Int) + (i : Int))) _ _ _
      rw [e0]
      refine ⟨rfl, _, rfl, _, rfl, a, _, rfl, .inr (ha.same s1).seq, rfl, vi_flat r, _, rfl, ?_⟩
      rw [inV_vi]
      cases hc : r.contains i with
      | true =>
        refine iteF ⟨s1, xs, hx, ?_⟩
        rw [longUp_no hc]
        exact hR
      | false =>
        refine iteT ?_
        refine ⟨_, rfl, _, rfl, (by show 1 ≤ sizeLine; decide), fun q H2 hq s2 _ hq2 => ?_⟩
        refine cat_go (ha.same (s1.trans s2)).seq hq2.seq (by rw [vi_len]; exact small100 (by simp; omega)) (fun e => nomatch e) (fun _ => hq2) fun p H3 s3 hp => ?_
        have hx3 : H3 D = some (.lst xs) := s3 _ _ (s2 _ _ hx)
        have hlen : xs.length ≤ 4 := by
          have h1 := Paired.length hR
          have h2 := longUp_len r i
          omega
        refine ⟨xs, hx3, small100' (by omega), same_mut ((s1.trans s2).trans s3) hD, xs ++ [.ref p], upd_same, ?_⟩
        rw [longUp_yes hc]
        have hp' : RowF H3 p (r ++ [i]) := by
          show TupF H3 p (vi (r ++ [i]))
          rw [vi_append]
          exact hp
        exact ((hR.same (s2.trans s3)).updL hx3).snoc (hp'.updL hx3)
    · rintro H' ⟨s1, xs, hx, hR⟩
      exact k H' D xs s1 hx hR

/-! ### all_rows -/
def spAllRows : Sp := fun vs H Q _ => ∃ (n : Nat), vs = [.int (n : Int)] ∧ 1 ≤ n ∧ n ≤ 4 ∧ ∀ (H' : Hp) (D : Addr) (xs : List V), Same H H' → H' D = some (.lst xs) → RowsV H' xs (allRows n) → Q (.ref D) H'
theorem scAllRows : FnScope ["many", "found", "turn", "more", "row"] ["many"] (defScope sAllRows) := ⟨rfl, rfl, rfl, by decide +kernel, rfl, by decide +kernel, by decide +kernel⟩
theorem grow_take {n i : Nat} {fs : List (List Nat)} {r : List Nat} (h : fs[i]? = some r) : (fs.take (i + 1)).flatMap (fun r => longer r n) = (fs.take i).flatMap (fun r => longer r n) ++ longer r n := by
  rw [take_snoc h, List.flatMap_append]
  simp
theorem longer_len (r : List Nat) (n : Nat) : (longer r n).length ≤ n := longUp_len r n
theorem grow_len (n : Nat) : ∀ fs : List (List Nat), (fs.flatMap fun r => longer r n).length ≤ fs.length * n
  | [] => by simp
  | r :: fs => by
    rw [List.flatMap_cons, List.length_append, List.length_cons, Nat.succ_mul]
    have h1 := longer_len r n
    have h2 := grow_len n fs
    omega
theorem ok_all_rows {f : Addr} {fd : FuncData} (F : Fun K "all_rows" "all_rows" sAllRows f fd) (T : Blt mg) (GL : Has P w K mg base 1 "longer" ["row", "many"] spLonger) : FnOk P w K mg base CX0 2 f fd ["many"] spAllRows := by
  refine F.ok scAllRows (fun vs H Q E h => ?_) (fun cdv A outer s H vs Q E hr h => ?_)
  · obtain ⟨n, rfl, _⟩ := h
    rfl
  · obtain ⟨n, rfl, h1, h4, k⟩ := h
    refine ⟨_, pss_cons (ps_set (i := 1) scAllRows.nd rfl (Or.inl rfl) (pe_lst (pa_cons (pe_tupF pa_nil) pa_nil)))
      (pss_cons (ps_for PassesOwn.never rfl (pi_range1 rfl T.range (pa_cons (pv 0) pa_nil)) (pg_name (i := 2) scAllRows.nd rfl (Or.inl rfl))
        (pss_cons (ps_set (i := 3) scAllRows.nd rfl (Or.inl rfl) (pe_lst pa_nil))
        (pss_cons (ps_for PassesOwn.never rfl (pi_list (pv 1)) (pg_name (i := 4) scAllRows.nd rfl (Or.inl rfl))
          (pss_one (ps_expr (pe_bm PySem.F.plainAttrs_list PySem.F.slot_list_extend PySem.F.type_list_extend mt_extend (pv 3) (pa_cons (pe_has GL hr rfl (pa_cons (pv 4) (pa_cons (pv 0) pa_nil))) pa_nil)))))
        (pss_one (ps_set (i := 1) scAllRows.nd rfl (Or.inl rfl) (pv 3))))))
      (pss_one (ps_ret (pv 1)))), ?_⟩
    -- found = [()]
    refine ⟨Nat.zero_le _, fun q H1 hq s1 _ hq1 => ⟨(by show 1 ≤ sizeLine; decide), fun l hl => ?_⟩⟩
    have s2 : Same H (upd H1 l (.lst [.ref q])) := same_mut s1 (s1.free hl)
    have q2 : RowF (upd H1 l (.lst [.ref q])) q [] := hq1.same (same_new hl)
    refine ⟨_, rfl, (n : Int), rfl, by omega, by omega, for_range (lo := 0) (n := n) (fun i σ H' => ∃ (l : Addr) (xs : List V) (v2 v3 v4 : Option V), σ = [some (.int (n : Int)), some (.ref l), v2, v3, v4] ∧ Same H H' ∧ H l = none ∧ H' l = some (.lst xs) ∧ RowsV H' xs (rowsUp n i))
      ⟨l, _, none, none, none, rfl, s2, s1.free hl, upd_same, .cons ⟨q, rfl, q2⟩ .nil⟩ ?_ ?_⟩
    · rintro i σ H' hi ⟨l, xs, v2, v3, v4, rfl, s3, hl0, hl', hR⟩
      have hlen : xs.length ≤ 24 := by
        have e1 := Paired.length hR
        have e2 := rowsUp_len h1 h4 i (List.mem_range.mpr (by omega)) (by omega)
        omega
      -- more = []
      refine ⟨Nat.zero_le _, fun m hm => ?_⟩
      have s4 : Same H' (upd H' m (.lst [])) := same_new hm
      have hm0 : H m = none := s3.free hm
      refine ⟨_, rfl, l, rfl, ⟨_, SqL.of (s4 _ _ hl')⟩, for_list (K := K) (a := l) (xs := xs) (fun j σ H2 => ∃ (ys : List V) (v4 : Option V), σ = [some (.int (n : Int)), some (.ref l), some (.int (0 + (i : Int))), some (.ref m), v4] ∧ Same H H2 ∧ H2 l = some (.lst xs) ∧ RowsV H2 xs (rowsUp n i) ∧ H2 m = some (.lst ys) ∧ RowsV H2 ys (((rowsUp n i).take j).flatMap fun r => longer r n))
        ⟨[], _, rfl, s3.trans s4, s4 _ _ hl', hR.same s4, upd_same, .nil⟩ (fun j σ H2 _ ⟨_, _, _, _, h, _⟩ => SqL.of h) ?_ ?_⟩
      · rintro j y σ H2 hj ⟨ys, v4, rfl, s5, hl2, hR2, hm2, hY⟩
        obtain ⟨r, a, hr', rfl, ha⟩ := hR2.get hj
        have hmem : r ∈ rowsUp n i := List.mem_of_getElem? hr'
        refine ⟨_, rfl, .inl ⟨rfl, _, SqL.of hm2⟩, _, rfl, _, rfl, a, r, n, rfl, ha, h4, rowsUp_row h1 h4 i (List.mem_range.mpr (by omega)) (by omega) r hmem, fun H3 D zs s6 hD hZ => ?_⟩
        have hylen : ys.length ≤ 96 := by
          have e1 := Paired.length hY
          have e2 := grow_len n ((rowsUp n i).take j)
          have e3 : ((rowsUp n i).take j).length ≤ 24 := by
            rw [List.length_take]
            have := rowsUp_len h1 h4 i (List.mem_range.mpr (by omega)) (by omega)
            omega
          have e4 : ((rowsUp n i).take j).length * n ≤ 24 * 4 := Nat.mul_le_mul e3 h4
          omega
        have hzlen : zs.length ≤ 4 := by
          have e1 := Paired.length hZ
          have e2 := longer_len r n
          omega
        have hm3 := s6 _ _ hm2
        refine ⟨m, D, _, _, rfl, rfl, hm3, hD, small100 (by omega), ys ++ zs, _, rfl, same_mut (s5.trans s6) hm0, ?_, ?_, upd_same, ?_⟩
        · rw [upd_ne (fun e => ?_)]
          · exact s6 _ _ hl2
          · rw [e, hm] at hl'
            cases hl'
        · exact (hR2.same s6).updL hm3
        · rw [grow_take hr']
          exact ((hY.same s6).append hZ).updL hm3
      · rintro σ H2 ⟨ys, v4, rfl, s5, hl2, hR2, hm2, hY⟩
        have e1 : (rowsUp n i).take xs.length = rowsUp n i := List.take_of_length_le (Nat.le_of_eq (Paired.length hR2).symm)
        rw [e1] at hY
        exact ⟨_, rfl, m, ys, _, _, _, rfl, s5, hm0, hm2, hY⟩
    · rintro σ H' ⟨l, xs, v2, v3, v4, rfl, s3, hl0, hl', hR⟩
      exact ⟨_, rfl, k H' l xs s3 hl' hR⟩
end
end Cr
set_option Elab.async false
set_option linter.all false
set_option maxRecDepth 100000
set_option maxHeartbeats 4000000
/-! rows.py: steps_in, put, exchanges, is_row. -/
namespace Cr
open PySem PySem.Spec PyProof.Rows L2
section
variable {P : Program} {w : World} {K : PySem.W.Frag} {mg : Str → Option Value} {base : Heap}

/-! ### steps_in -/
theorem sum_cast : ∀ l : List Nat, (l.map fun (n : Nat) => (n : Int)).sum = ((l.sum : Nat) : Int)
  | [] => rfl
  | a :: l => by
    rw [List.map_cons, List.sum_cons, List.sum_cons, sum_cast l]
    omega
def spStepsIn (K : PySem.W.Frag) : Sp := fun vs H Q _ => ∃ (a b : Addr) (r l : List Nat), vs = [.ref a, .ref b] ∧ RowF H a r ∧ SqL K H b (vi l) ∧ l.length ≤ 10 ∧ (∀ t ∈ l, t ∈ r) ∧ ∀ H', Same H H' → Q (.int (Si88.fixed r l : Nat)) H'
theorem scStepsIn : FnScope ["row", "asked", "thing"] ["row", "asked"] (defScope sStepsIn) := ⟨rfl, rfl, rfl, by decide +kernel, rfl, by decide +kernel, by decide +kernel⟩
theorem ok_steps_in {f : Addr} {fd : FuncData} (F : Fun K "steps_in" "steps_in" sStepsIn f fd) (T : Blt mg) (GS : Has P w K mg base 1 "steps" ["row", "thing"] spSteps) : FnOk P w K mg base CX0 2 f fd ["row", "asked"] (spStepsIn K) := by
  refine F.ok scStepsIn (fun vs H Q E h => ?_) (fun cdv A outer s H vs Q E hr h => ?_)
  · obtain ⟨a, b, r, l, rfl, _⟩ := h
    rfl
  · obtain ⟨a, b, r, l, rfl, ha, hb, hl, hm, k⟩ := h
    refine ⟨_, pss_one (ps_ret (pe_callB (cr_sum rfl) (by rfl) T.sum (by decide +kernel) (pa_cons (pe_lc (own := [("thing", 2)]) (g := gName 2) (tt := tYes) rfl scStepsIn.nd (pi_list (pv 1)) (blkOk_by (own := [("thing", 2)]) (N := ["row", "asked", "thing"]) (sc := defScope sStepsIn) (by decide +kernel))
      (fun _ _ _ _ _ => pg_name (i := 2) scStepsIn.nd rfl (Or.inl rfl)) (fun _ _ _ _ _ => pts_nil) (fun _ _ _ _ _ => pe_has GS hr rfl (pa_cons (pv 0) (pa_cons (pv 2) pa_nil)))) pa_nil))), ?_⟩
    refine ⟨_, rfl, b, rfl, ⟨_, hb⟩, fun D hD => lc_list (K := K) (a := b) (xs := vi l) (fun i H' => Same H H' ∧ H' D = some (.lst (vi ((l.take i).map (Si88.steps r))))) ⟨same_new hD, upd_same⟩ (fun i H' _ h => h.1.seq hb) ?_ ?_⟩
    · rintro i x H' hi ⟨s1, hD1⟩
      obtain ⟨t, ht, rfl⟩ := vi_of hi
      refine ⟨rfl, yes_go ?_⟩
      refine iteT ⟨_, rfl, _, rfl, a, r, t, rfl, ha.same s1, hm t (List.mem_of_getElem? ht), _, hD1, ?_, same_mut s1 hD, ?_⟩
      · rw [vi_len, List.length_map, List.length_take]
        exact small100' (by omega)
      · rw [upd_same, take_snoc ht, List.map_append, vi_append]
        rfl
    · rintro H' ⟨s1, hD1⟩
      rw [vi_len, List.take_length] at hD1
      refine ⟨D, (l.map (Si88.steps r)).map fun (n : Nat) => (n : Int), rfl, SqL.of (by rw [← vi_ints]; exact hD1), ?_⟩
      rw [sum_cast]
      exact k H' s1

/-! ### put -/
def spPut : Sp := fun vs H Q _ => ∃ (a : Addr) (r : List Nat) (t p : Nat), vs = [.ref a, .int (t : Int), .int (p : Int)] ∧ RowF H a r ∧ r.length ≤ 4 ∧ ∀ (H' : Hp) (q : Addr), Same H H' → RowF H' q (put r t p) → Q (.ref q) H'
theorem scPut : FnScope ["row", "thing", "place", "others", "other"] ["row", "thing", "place"] (defScope sPut) := ⟨rfl, rfl, rfl, by decide +kernel, rfl, by decide +kernel, by decide +kernel⟩
theorem ok_put {f : Addr} {fd : FuncData} (F : Fun K "put" "put" sPut f fd) (T : Blt mg) : FnOk P w K mg base CX0 1 f fd ["row", "thing", "place"] spPut := by
  refine F.ok scPut (fun vs H Q E h => ?_) (fun cdv A outer s H vs Q E hr h => ?_)
  · obtain ⟨a, r, t, p, rfl, _⟩ := h
    rfl
  · obtain ⟨a, r, t, p, rfl, ha, hl, k⟩ := h
    refine ⟨_, pss_cons (ps_set (i := 3) scPut.nd rfl (Or.inl rfl) (pe_callTy call_tupleF (by rfl) T.tuple (by decide +kernel) (pa_cons (pe_lc (own := [("other", 4)]) (g := gName 4) rfl scPut.nd (pi_tup (pv 0)) (blkOk_by (own := [("other", 4)]) (N := ["row", "thing", "place", "others", "other"]) (sc := defScope sPut) (by decide +kernel))
        (fun _ _ _ _ _ => pg_name (i := 4) scPut.nd rfl (Or.inl rfl)) (fun _ _ _ _ _ => pts_one (pt_cmpR op_ne (pv 4) (pv 1) (nomark _))) (fun _ _ _ _ _ => pv 4)) pa_nil)))
      (pss_one (ps_ret (pe_op (op_catK (K := K) rfl) (pe_op (op_catK (K := K) rfl) (pe_slice (sl_tupK (K := K) rfl) (pv 3) po_none (po_some (pv 2))) (pe_tupF (pa_cons (pv 1) pa_nil))) (pe_slice (sl_tupK (K := K) rfl) (pv 3) (po_some (pv 2)) po_none)))), ?_⟩
    refine ⟨_, rfl, a, rfl, ⟨_, ha.seq⟩, fun D hD => lc_tup (K := K) (a := a) (xs := vi r) (fun i H' => Same H H' ∧ H' D = some (.lst (vi ((r.take i).filter fun u => u != t)))) ⟨same_new hD, upd_same⟩ (fun i H' _ h => (ha.same h.1).seq) ?_ ?_⟩
    · rintro i x H' hi ⟨s1, hD1⟩
      obtain ⟨u, hu, rfl⟩ := vi_of hi
      refine ⟨rfl, _, rfl, _, rfl, rfl, _, rfl, ?_⟩
      have hf : (r.take (i + 1)).filter (fun u => u != t) = (r.take i).filter (fun u => u != t) ++ [u].filter (fun u => u != t) := by rw [take_snoc hu, List.filter_append]
      by_cases e : u = t
      · have hdec : (!decide (V.int (u : Int) = V.int (t : Int))) = false := by rw [e]; simp
        rw [hdec]
        refine iteF ⟨s1, ?_⟩
        rw [hf, e]
        simpa using hD1
      · have hne : ¬ (V.int (u : Int) = V.int (t : Int)) := fun q => e (Int.ofNat.inj (V.int.inj q))
        have hdec : (!decide (V.int (u : Int) = V.int (t : Int))) = true := by rw [decide_eq_false hne]; rfl
        rw [hdec]
        refine iteT ⟨_, rfl, _, hD1, ?_, same_mut s1 hD, ?_⟩
        · rw [vi_len]
          have h1 := List.length_filter_le (fun u => u != t) (r.take i)
          rw [List.length_take] at h1
          exact small100' (by omega)
        · rw [upd_same, hf, vi_append]
          have : [u].filter (fun u => u != t) = [u] := by simp [e]
          rw [this]
          rfl
    · rintro H1 ⟨s1, hD1⟩
      rw [vi_len, List.take_length] at hD1
      refine ⟨D, _, rfl, SqL.of hD1, fun o H2 ho s2 _ hO => ?_⟩
      have hol : (r.filter fun u => u != t).length ≤ 4 := Nat.le_trans (List.length_filter_le _ _) hl
      -- others[:place] + (thing,) + others[place:]
      refine ⟨_, rfl, _, rfl, (p : Int), rfl, slA_go (hO.seq (K := K)) fun c H3 s3 hc => ?_⟩
      refine ⟨_, rfl, (by show 1 ≤ sizeLine; decide), fun d H4 hd s4 _ hd4 => ?_⟩
      rw [cut_to] at hc
      have hlen : ((r.filter fun u => u != t).take p).length ≤ 4 := by rw [List.length_take]; omega
      refine cat_go (same_seqT s4 hc) hd4.seq (by rw [vi_len]; exact small100 (by show _ + 1 ≤ _; omega)) (fun e => nomatch e) (fun _ => hd4) fun g H5 s5 hg => ?_
      refine ⟨_, rfl, _, rfl, (p : Int), rfl, noPart_go (slA_go (TupF.seq (hO.same ((s3.trans s4).trans s5))) fun j H6 s6 hj => ?_)⟩
      rw [cut_from] at hj
      refine cat_go (hg.same s6).seq hj (by rw [List.length_append, vi_len, vi_len, List.length_drop]; exact small100 (by show (_ + 1) + _ ≤ _; omega)) (fun _ => hg.same s6) (fun e => absurd e (by simp)) fun z H7 s7 hz => ?_
      refine k H7 z (((((((s1.trans s2).trans s3).trans s4).trans s5).trans s6)).trans s7) ?_
      have e : vi (put r t p) = (vi ((r.filter fun u => u != t).take p) ++ [V.int (t : Int)]) ++ vi ((r.filter fun u => u != t).drop p) := by
        unfold put
        rw [vi_append, List.append_assoc]
        rfl
      show TupF H7 z (vi (put r t p))
      rw [e]
      exact hz

/-! ### exchanges -/
theorem exAt_get {r : List Nat} {i t : Nat} (q : List Nat) (h : r[i]? = some t) : exAt r q i = ((r.drop (i + 1)).filter fun u => decide (ix q u < ix q t)).length := by
  unfold exAt
  rw [List.getD_eq_getElem?_getD, h]
  rfl
def spExch (K : PySem.W.Frag) : Sp := fun vs H Q _ => ∃ (a b : Addr) (r q : List Nat), vs = [.ref a, .ref b] ∧ SqT K H a (vi r) ∧ RowF H b q ∧ (∀ t ∈ r, t ∈ q) ∧ r.length ≤ 4 ∧ ∀ H', Same H H' → Q (.int (Si88.apart r q : Nat)) H'
theorem scExch : FnScope ["row", "other", "found", "place", "thing", "later"] ["row", "other"] (defScope sExch) := ⟨rfl, rfl, rfl, by decide +kernel, rfl, by decide +kernel, by decide +kernel⟩
theorem ok_exchanges {f : Addr} {fd : FuncData} (F : Fun K "exchanges" "exchanges" sExch f fd) (T : Blt mg) : FnOk P w K mg base CX0 1 f fd ["row", "other"] (spExch K) := by
  refine F.ok scExch (fun vs H Q E h => ?_) (fun cdv A outer s H vs Q E hr h => ?_)
  · obtain ⟨a, b, r, q, rfl, _⟩ := h
    rfl
  · obtain ⟨a, b, r, q, rfl, ha, hb, hm, hl, k⟩ := h
    refine ⟨_, pss_cons (ps_set (i := 2) scExch.nd rfl (Or.inl rfl) pe_int)
      (pss_cons (ps_for PassesOwn.never rfl (pi_enumT (by rfl) T.enumerate (pa_cons (pv 0) pa_nil)) (pg_tup rfl (pgs_cons (pg_name (i := 3) scExch.nd rfl (Or.inl rfl)) (pgs_cons (pg_name (i := 4) scExch.nd rfl (Or.inr rfl)) pgs_nil)))
        (pss_one (ps_set (i := 2) scExch.nd rfl (Or.inl rfl) (pe_op op_add (pv 2) (pe_callB call_len_seq (by rfl) T.len PySem.boot_len (pa_cons
          (pe_lc (own := [("later", 5)]) (g := gName 5) rfl scExch.nd (pi_tup (pe_slice (sl_tupK (K := K) rfl) (pv 0) (po_some (pe_op op_add (pv 3) pe_int)) po_none)) (blkOk_by (own := [("later", 5)]) (N := ["row", "other", "found", "place", "thing", "later"]) (sc := defScope sExch) (by decide +kernel))
            (fun _ _ _ _ _ => pg_name (i := 5) scExch.nd rfl (Or.inl rfl)) (fun _ _ _ _ _ => pts_one (pt_cmpR op_lt (pe_tix (pv 1) (pv 5)) (pe_tix (pv 1) (pv 4)) (nomark _))) (fun _ _ _ _ _ => pv 5)) pa_nil))))))
      (pss_one (ps_ret (pv 2)))), ?_⟩
    refine ⟨_, rfl, a, _, rfl, ha, for_enumT (K := K) (a := a) (xs := vi r) (fun i σ H' => ∃ v3 v4 : Option V, σ = [some (.ref a), some (.ref b), some (.int ((((List.range i).map (exAt r q)).sum : Nat) : Int)), v3, v4, none] ∧ Same H H')
      ⟨none, none, rfl, Same.refl H⟩ (fun i σ H' _ ⟨_, _, _, s1⟩ => same_seqT s1 ha) ?_ ?_⟩
    · rintro i x S σ H' hi hS ⟨v3, v4, rfl, s1⟩
      obtain ⟨t, ht, rfl⟩ := vi_of hi
      have htq : t ∈ q := hm t (List.mem_of_getElem? ht)
      have hS' : Same H' (upd H' S (.tup [.int (i : Nat), .int (t : Int)])) := same_new hS
      refine ⟨S, _, rfl, SqT.of upd_same, rfl, _, _, rfl, _, _, rfl, rfl, ?_⟩
      refine ⟨_, rfl, _, rfl, _, rfl, _, _, rfl, rfl, ((i + 1 : Nat) : Int), rfl, noPart_go (slA_go (same_seqT (s1.trans hS') ha) fun c H2 s2 hc => ?_)⟩
      rw [cut_from] at hc
      have s12 := (s1.trans hS').trans s2
      refine ⟨c, rfl, ⟨_, hc⟩, fun D hD => lc_tup (K := K) (a := c) (xs := vi (r.drop (i + 1))) (fun j H3 => Same H2 H3 ∧ H3 D = some (.lst (vi (((r.drop (i + 1)).take j).filter fun u => decide (ix q u < ix q t))))) ⟨same_new hD, upd_same⟩ (fun j H3 _ h => same_seqT h.1 hc) ?_ ?_⟩
      · rintro j y H3 hj ⟨s3, hD3⟩
        obtain ⟨u, hu, rfl⟩ := vi_of hj
        have huq : u ∈ q := hm u (List.mem_of_mem_drop (List.mem_of_getElem? hu))
        have hb3 : RowF H3 b q := hb.same (s12.trans s3)
        refine ⟨rfl, _, rfl, b, q, rfl, hb3, _, rfl, u, rfl, hb3, huq, _, rfl, b, q, rfl, hb3, _, rfl, t, rfl, hb3, htq, _, _, rfl, rfl, _, rfl, ?_⟩
        have hf : ((r.drop (i + 1)).take (j + 1)).filter (fun u => decide (ix q u < ix q t)) = ((r.drop (i + 1)).take j).filter (fun u => decide (ix q u < ix q t)) ++ [u].filter (fun u => decide (ix q u < ix q t)) := by rw [take_snoc hu, List.filter_append]
        by_cases e : ix q u < ix q t
        · have hdec : decide (((ix q u : Nat) : Int) < ((ix q t : Nat) : Int)) = true := decide_eq_true (by omega)
          rw [hdec]
          refine iteT ⟨_, rfl, _, hD3, ?_, same_mut s3 hD, ?_⟩
          · rw [vi_len]
            have h1 := List.length_filter_le (fun u => decide (ix q u < ix q t)) ((r.drop (i + 1)).take j)
            rw [List.length_take, List.length_drop] at h1
            exact small100' (by omega)
          · rw [upd_same, hf, vi_append]
            have : [u].filter (fun u => decide (ix q u < ix q t)) = [u] := by simp [e]
            rw [this]
            rfl
        · have hdec : decide (((ix q u : Nat) : Int) < ((ix q t : Nat) : Int)) = false := decide_eq_false (by omega)
          rw [hdec]
          refine iteF ⟨s3, ?_⟩
          have : [u].filter (fun u => decide (ix q u < ix q t)) = [] := by simp [e]
          rw [hf, this, List.append_nil]
          exact hD3
      · rintro H3 ⟨s3, hD3⟩
        rw [vi_len, List.take_length] at hD3
        refine ⟨D, _, rfl, .inl (SqL.of hD3), _, _, rfl, rfl, some (.int (i : Nat)), some (.int (t : Int)), ?_, s12.trans s3⟩
        rw [vi_len, ← exAt_get q ht, sum_map_range_succ]
        rfl
    · rintro σ H' ⟨v3, v4, rfl, s1⟩
      refine ⟨_, rfl, ?_⟩
      rw [vi_len]
      have e : ((List.range r.length).map (exAt r q)).sum = Si88.apart r q := (apart_exch r q).symm
      rw [e]
      exact k H' s1
end
end Cr
set_option Elab.async false
set_option linter.all false
set_option maxRecDepth 100000
set_option maxHeartbeats 4000000
/-! rows.py: is_row; rules.py: place_by_counts, place_back, by_rule. -/
namespace Cr
open PySem PySem.Spec PyProof.Rows L2
section
variable {P : Program} {w : World} {K : PySem.W.Frag} {mg : Str → Option Value} {base : Heap}

/-! ### is_row -/
theorem dp_ints {H : Hp} : ∀ ns : List Int, DpAll K H (ns.map V.int) (ns.map PyData.int)
  | [] => .nil
  | n :: r => .cons (.int n) (dp_ints r)
theorem eqv_ints : ∀ ns ms : List Int, PyData.eqvAll (ns.map PyData.int) (ms.map PyData.int) = decide (ns = ms)
  | [], [] => by simp [PyData.eqvAll]
  | [], _ :: _ => by simp [PyData.eqvAll]
  | _ :: _, [] => by simp [PyData.eqvAll]
  | a :: r, b :: t => by
    rw [List.map_cons, List.map_cons, PyData.eqvAll, eqv_ints r t, PyData.eqv]
    by_cases h : a = b <;> by_cases h' : r = t <;> simp [h, h']
theorem rgV_ints (n : Nat) : rgV 0 (n : Int) = (izs (List.range n)).map V.int := by
  unfold rgV izs
  rw [List.map_map]
  have e : ((n : Int) - 0).toNat = n := by omega
  rw [e]
  refine List.map_congr_left fun i _ => ?_
  show V.int (0 + (i : Int)) = V.int (i : Int)
  rw [Int.zero_add]
theorem rgV_vi (n : Nat) : rgV 0 (n : Int) = vi (List.range n) := by rw [rgV_ints, vi_ints]; rfl
def spIsRow (K : PySem.W.Frag) : Sp := fun vs H Q _ => ∃ (a : Addr) (r : List Nat) (n : Nat), vs = [.ref a, .int (n : Int)] ∧ SqL K H a (vi r) ∧ n ≤ 4 ∧ ∀ H', Same H H' → Q (.bl (rowB n r)) H'
theorem scIsRow : FnScope ["some", "many"] ["some", "many"] (defScope sIsRow) := ⟨rfl, rfl, rfl, by decide +kernel, rfl, by decide +kernel, by decide +kernel⟩
theorem ok_is_row {f : Addr} {fd : FuncData} (F : Fun K "is_row" "is_row" sIsRow f fd) (T : Blt mg) : FnOk P w K mg base CX0 1 f fd ["some", "many"] (spIsRow K) := by
  refine F.ok scIsRow (fun vs H Q E h => ?_) (fun cdv A outer s H vs Q E hr h => ?_)
  · obtain ⟨a, r, n, rfl, _⟩ := h
    rfl
  · obtain ⟨a, r, n, rfl, ha, hn, k⟩ := h
    refine ⟨_, pss_one (ps_ret (pe_cmpR (op_eqD hr.units) (pe_callB cr_sortedI (by rfl) T.sorted (by decide +kernel) (pa_cons (pv 0) pa_nil)) (pe_listRg rfl rfl T.list (prg_1 rfl T.range (pv 1))) (nomark _))), ?_⟩
    refine ⟨_, rfl, a, izs r, rfl, (by rw [show (izs r).map V.int = vi r from (vi_ints r).symm]; exact ha), fun ns p hp hs hp0 => ?_⟩
    refine ⟨_, rfl, (n : Int), rfl, RgOk.of_le (by omega) (by omega) (by omega) (by omega), fun q hq => ?_⟩
    have hp1 : upd (upd H p (.lst (ns.map V.int))) q (.lst (rgV 0 (n : Int))) p = some (.lst (ns.map V.int)) := by
      rw [upd_ne (ne_of_none upd_same hq)]
      exact upd_same
    refine ⟨.list (ns.map PyData.int), .list ((izs (List.range n)).map PyData.int), .lst (SqL.of hp1) (dp_ints ns), .lst (SqL.of (by rw [upd_same, rgV_ints])) (dp_ints _), PySem.W.ke_shaped_ints _, PySem.W.ke_shaped_ints _, ?_⟩
    rw [PyData.eqv, eqv_ints, sorted_is hp hs]
    exact k _ ((same_new hp0).trans (same_new hq))

/-! ### place_by_counts -/
def spByCounts (K : PySem.W.Frag) : Sp := fun vs H Q _ => ∃ (a c : Addr) (r cs : List Nat) (t : Nat), vs = [.ref a, .int (t : Int), .ref c] ∧ RowF H a r ∧ r.length ≤ 4 ∧ t ∈ r ∧ H c = some (.lst (vi cs)) ∧ (∀ u ∈ r, u < cs.length) ∧
  ∀ H', Same H H' → Q (.int (low (fun u => cs.getD u 0) r t : Nat)) H'
theorem scByCounts : FnScope ["row", "thing", "counts", "here", "place", "other"] ["row", "thing", "counts"] (defScope sByCounts) := ⟨rfl, rfl, rfl, by decide +kernel, rfl, by decide +kernel, by decide +kernel⟩
theorem less_succ (c : Nat → Nat) (r : List Nat) (t i : Nat) : less c r t (i + 1) = less c r t i ++ [i].filter (fun j => decide (c (r.getD j 0) < c t)) := by
  unfold less
  rw [List.range_succ, List.filter_append]
theorem less_len (c : Nat → Nat) (r : List Nat) (t i : Nat) : (less c r t i).length ≤ i := by
  unfold less
  have h := List.length_filter_le (fun j => decide (c (r.getD j 0) < c t)) (List.range i)
  rw [List.length_range] at h
  exact h
theorem at_vi {cs : List Nat} {u : Nat} (h : u < cs.length) : atI (vi cs) (u : Int) = some (V.int ((cs.getD u 0 : Nat) : Int)) := by
  refine at_of (j := u) rfl ?_
  rw [List.getD_eq_getElem?_getD, List.getElem?_eq_getElem h]
  exact vi_get (List.getElem?_eq_getElem h)
theorem ok_by_counts {f : Addr} {fd : FuncData} (F : Fun K "place_by_counts" "place_by_counts" sByCounts f fd) (T : Blt mg) : FnOk P w K mg base CX0 1 f fd ["row", "thing", "counts"] (spByCounts K) := by
  refine F.ok scByCounts (fun vs H Q E h => ?_) (fun cdv A outer s H vs Q E hr h => ?_)
  · obtain ⟨a, c, r, cs, t, rfl, _⟩ := h
    rfl
  · obtain ⟨a, c, r, cs, t, rfl, ha, hl, ht, hc, hcs, k⟩ := h
    refine ⟨_, pss_cons (ps_set (i := 3) scByCounts.nd rfl (Or.inl rfl) (pe_tix (pv 0) (pv 1)))
      (pss_one (ps_ret (pe_callB (cr_min rfl) (by rfl) T.min (by decide +kernel) (pa_cons (pe_op op_cat
        (pe_lc (own := [("place", 4), ("other", 5)]) (tt := tTest (tOp (rI0 fun i j => .bl (decide (i < j))) (tOp (rIxL K) (tVar 2) (tVar 5)) (tOp (rIxL K) (tVar 2) (tVar 1)))) rfl scByCounts.nd (pi_enumT (by rfl) T.enumerate (pa_cons (pv 0) pa_nil)) (blkOk_by (own := [("place", 4), ("other", 5)]) (N := ["row", "thing", "counts", "here", "place", "other"]) (sc := defScope sByCounts) (by decide +kernel))
          (g := gTup K 2 (gCons (gName 4) (gCons (gName 5) gNil)))
          (fun _ _ _ _ _ => pg_tup rfl (pgs_cons (pg_name (i := 4) scByCounts.nd rfl (Or.inl rfl)) (pgs_cons (pg_name (i := 5) scByCounts.nd rfl (Or.inl rfl)) pgs_nil)))
          (fun _ _ _ _ _ => pts_one (pt_cmpR op_lt (pe_ix (ix_listK (K := K) rfl) (pv 2) (pv 5) (fun _ _ => rfl)) (pe_ix (ix_listK (K := K) rfl) (pv 2) (pv 1) (fun _ _ => rfl)) (nomark _))) (fun _ _ _ _ _ => pv 4))
        (pe_lst (pa_cons (pv 3) pa_nil))) pa_nil)))), ?_⟩
    refine ⟨_, rfl, a, r, rfl, ha, _, rfl, t, rfl, ha, ht, ?_⟩
    have htc : t < cs.length := hcs t ht
    refine ⟨_, rfl, a, _, rfl, ha.seq, fun D hD => lc_enumT (K := K) (a := a) (xs := vi r) (fun i H' => Same H H' ∧ H' D = some (.lst (vi (less (fun u => cs.getD u 0) r t i)))) ⟨same_new hD, upd_same⟩ (fun i H' _ h => (ha.same h.1).seq) ?_ ?_⟩
    · rintro i x S H' hi hS ⟨s1, hD1⟩
      obtain ⟨u, hu, rfl⟩ := vi_of hi
      have huc : u < cs.length := hcs u (List.mem_of_getElem? hu)
      have sS : Same H' (upd H' S (.tup [.int (i : Nat), .int (u : Int)])) := same_new hS
      have hc1 := sS _ _ (s1 _ _ hc)
      refine ⟨S, _, rfl, SqT.of upd_same, rfl, _, _, rfl, _, _, rfl, rfl, rfl, ?_⟩
      refine ⟨_, rfl, _, rfl, c, _, _, _, rfl, rfl, SqL.of hc1, at_vi huc, _, rfl, _, rfl, c, _, _, _, rfl, rfl, SqL.of hc1, at_vi htc, _, _, rfl, rfl, _, rfl, ?_⟩
      have hg : r.getD i 0 = u := by rw [List.getD_eq_getElem?_getD, hu]; rfl
      by_cases e : cs.getD u 0 < cs.getD t 0
      · have hdec : decide (((cs.getD u 0 : Nat) : Int) < ((cs.getD t 0 : Nat) : Int)) = true := decide_eq_true (by omega)
        rw [hdec]
        refine iteT ⟨_, rfl, _, sS _ _ hD1, ?_, same_mut (s1.trans sS) hD, ?_⟩
        · rw [vi_len]
          have h1 := less_len (fun u => cs.getD u 0) r t i
          have h2 := (List.getElem?_eq_some_iff.mp hu).1
          exact small100' (by omega)
        · rw [upd_same, less_succ, vi_append]
          have : [i].filter (fun j => decide (cs.getD (r.getD j 0) 0 < cs.getD t 0)) = [i] := by simp only [List.filter_cons, hg, e, decide_true, if_true, List.filter_nil]
          rw [this]
          rfl
      · have hdec : decide (((cs.getD u 0 : Nat) : Int) < ((cs.getD t 0 : Nat) : Int)) = false := decide_eq_false (by omega)
        rw [hdec]
        refine iteF ⟨s1.trans sS, ?_⟩
        have : [i].filter (fun j => decide (cs.getD (r.getD j 0) 0 < cs.getD t 0)) = [] := by simp only [List.filter_cons, hg, e, decide_false, Bool.false_eq_true, if_false, List.filter_nil]
        rw [less_succ, this, List.append_nil]
        exact sS _ _ hD1
    · rintro H1 ⟨s1, hD1⟩
      rw [vi_len] at hD1
      have hll := less_len (fun u => cs.getD u 0) r t r.length
      refine ⟨_, rfl, (by show 1 ≤ sizeLine; decide), fun z hz => ⟨D, z, _, _, rfl, rfl, same_new hz _ _ hD1, upd_same, (by rw [vi_len]; exact small100 (by show _ + 1 ≤ _; omega)), fun y hy => ?_⟩⟩
      have e : vi (less (fun u => cs.getD u 0) r t r.length) ++ [V.int ((ix r t : Nat) : Int)] = (izs (less (fun u => cs.getD u 0) r t r.length ++ [ix r t])).map V.int := by
        rw [show izs (less (fun u => cs.getD u 0) r t r.length ++ [ix r t]) = (less (fun u => cs.getD u 0) r t r.length ++ [ix r t]).map (fun (n : Nat) => (n : Int)) from rfl, ← vi_ints, vi_append]
        rfl
      refine ⟨y, izs (less (fun u => cs.getD u 0) r t r.length ++ [ix r t]), rfl, SqL.of (by rw [upd_same, e]), (by unfold izs; rw [List.length_map, List.length_append]; show 0 < _ + 1; omega), fun m hm hle => ?_⟩
      have hlow := low_least (fun u => cs.getD u 0) ht
      unfold izs at hm
      obtain ⟨m', hm', rfl⟩ := List.mem_map.mp hm
      have : m' = low (fun u => cs.getD u 0) r t := Least.eq (k := less (fun u => cs.getD u 0) r t r.length ++ [ix r t]) ⟨hm', fun y hy => by
        have := hle (y : Int) (izs_mem.mpr hy)
        omega⟩ hlow fun _ => Iff.rfl
      rw [this]
      exact k _ ((s1.trans (same_new hz)).trans (same_new hy))
end
end Cr
set_option Elab.async false
set_option linter.all false
set_option maxRecDepth 100000
set_option maxHeartbeats 4000000
/-! rules.py: place_back, by_rule. -/
namespace Cr
open PySem PySem.Spec PyProof.Rows L2
/-- a number that the module names -/
abbrev Num (mg : Str → Option Value) (x : Str) (i : Int) : Prop := ∃ t : Tok, mg x = some (.int i t)
theorem pe_num {X : Cx} {x : Str} {i : Int} {pos : Pos} (hg : Gl X x) (h : Num X.mg x i) (hd : (x == ("__debug__" : Str)) = false := by decide) : PE X (.Name x pos) (tC (.int i)) := by
  obtain ⟨t, e⟩ := h
  exact pe_glob hg e ⟨t, rfl⟩ hd
section
variable {P : Program} {w : World} {K : PySem.W.Frag} {mg : Str → Option Value} {base : Heap}

/-! ### place_back -/
def spPlaceBack (K : PySem.W.Frag) : Sp := fun vs H Q _ => ∃ (a c : Addr) (r cs : List Nat) (k t : Nat), vs = [.int (k : Int), .ref a, .int (t : Int), .ref c] ∧ RowF H a r ∧ r.length ≤ 4 ∧ t ∈ r ∧ H c = some (.lst (vi cs)) ∧ (∀ u ∈ r, u < cs.length) ∧
  ∀ H', Same H H' → Q (.int (placeOf k (fun u => cs.getD u 0) r t : Nat)) H'
theorem scPlaceBack : FnScope ["rule", "row", "thing", "counts"] ["rule", "row", "thing", "counts"] (defScope sPlaceBack) := ⟨rfl, rfl, rfl, by decide +kernel, rfl, by decide +kernel, by decide +kernel⟩
theorem ok_place_back {f : Addr} {fd : FuncData} (F : Fun K "place_back" "place_back" sPlaceBack f fd) (T : Blt mg) (C0 : Num mg "TO_FRONT" 0) (C1 : Num mg "ONE_AHEAD" 1) (GB : Has P w K mg base 1 "place_by_counts" ["row", "thing", "counts"] (spByCounts K)) :
    FnOk P w K mg base CX0 2 f fd ["rule", "row", "thing", "counts"] (spPlaceBack K) := by
  refine F.ok scPlaceBack (fun vs H Q E h => ?_) (fun cdv A outer s H vs Q E hr h => ?_)
  · obtain ⟨a, c, r, cs, k, t, rfl, _⟩ := h
    rfl
  · obtain ⟨a, c, r, cs, k, t, rfl, ha, hl, ht, hc, hcs, kk⟩ := h
    refine ⟨_, pss_cons (ps_if (pt_cmpR op_eq (pv 0) (pe_num rfl C0) (nomark _)) (pss_one (ps_ret pe_int)) pss_nil)
      (pss_cons (ps_if (pt_cmpR op_eq (pv 0) (pe_num rfl C1) (nomark _)) (pss_one (ps_ret (pe_callB (call_max2 rfl) (by rfl) T.max (by decide +kernel) (pa_cons pe_int (pa_cons (pe_op op_sub (pe_tix (pv 1) (pv 2)) pe_int) pa_nil))))) pss_nil)
      (pss_one (ps_ret (pe_has GB hr rfl (pa_cons (pv 1) (pa_cons (pv 2) (pa_cons (pv 3) pa_nil))))))), ?_⟩
    refine ⟨_, rfl, rfl, _, rfl, ?_⟩
    by_cases e0 : k = 0
    · have hd : decide (V.int (k : Int) = V.int 0) = true := by rw [e0]; rfl
      rw [hd]
      refine iteT ?_
      have := kk H (Same.refl H)
      unfold placeOf at this
      rw [if_pos e0] at this
      exact this
    · have hd : decide (V.int (k : Int) = V.int 0) = false := decide_eq_false fun q => e0 (Int.ofNat.inj (V.int.inj q))
      rw [hd]
      refine iteF ?_
      refine ⟨_, rfl, rfl, _, rfl, ?_⟩
      by_cases e1 : k = 1
      · have hd1 : decide (V.int (k : Int) = V.int 1) = true := by rw [e1]; rfl
        rw [hd1]
        refine iteT ?_
        refine ⟨_, rfl, a, r, rfl, ha, _, rfl, t, rfl, ha, ht, _, _, rfl, rfl, _, _, rfl, ?_⟩
        have := kk H (Same.refl H)
        unfold placeOf at this
        rw [if_neg e0, if_pos e1] at this
        have e : (if ((ix r t : Nat) : Int) - 1 > 0 then ((ix r t : Nat) : Int) - 1 else 0) = ((ix r t - 1 : Nat) : Int) := by split <;> omega
        rw [e]
        exact this
      · have hd1 : decide (V.int (k : Int) = V.int 1) = false := decide_eq_false fun q => e1 (Int.ofNat.inj (V.int.inj q))
        rw [hd1]
        refine iteF ?_
        refine ⟨_, rfl, _, rfl, _, rfl, a, c, r, cs, t, rfl, ha, hl, ht, hc, hcs, fun H' s1 => ?_⟩
        have := kk H' s1
        unfold placeOf at this
        rw [if_neg e0, if_neg e1] at this
        exact this

/-! ### by_rule -/
theorem takeWhile_same {α : Type} {p q : α → Bool} : ∀ {l : List α}, (∀ x ∈ l, p x = q x) → l.takeWhile p = l.takeWhile q
  | [], _ => rfl
  | a :: l, h => by
    rw [List.takeWhile_cons, List.takeWhile_cons, h a List.mem_cons_self, takeWhile_same fun x hx => h x (List.mem_cons_of_mem _ hx)]
theorem placeOf_same (k : Nat) {c c' : Nat → Nat} {r : List Nat} {t : Nat} (ht : t ∈ r) (h : ∀ u ∈ r, c u = c' u) : placeOf k c r t = placeOf k c' r t := by
  unfold placeOf low
  rw [takeWhile_same (p := fun u => u != t && decide (c t ≤ c u)) (q := fun u => u != t && decide (c' t ≤ c' u)) fun u hu => by rw [h u hu, h t ht]]
theorem tally_getD {n u : Nat} (l : List Nat) (h : u < n) : (tally n l).getD u 0 = l.count u := by
  rw [List.getD_eq_getElem?_getD, tally_get l h]
  rfl
def spByRule (K : PySem.W.Frag) : Sp := fun vs H Q _ => ∃ (a b : Addr) (r l : List Nat) (k n : Nat), vs = [.int (k : Int), .ref a, .ref b] ∧ 1 ≤ n ∧ n ≤ 4 ∧ RowF H a r ∧ r ∈ allRows n ∧ SqL K H b (vi l) ∧ l.length ≤ 10 ∧ (∀ t ∈ l, t < n) ∧
  ∀ (H' : Hp) (p q : Addr), Same H H' → H' p = some (.tup [.int ((Si88.ruled k [] r l).1 : Nat), .ref q]) → RowF H' q (Si88.ruled k [] r l).2 → (Si88.ruled k [] r l).2.length ≤ 4 → Q (.ref p) H'
theorem scByRule : FnScope ["rule", "row", "asked", "thing", "counts", "found"] ["rule", "row", "asked"] (defScope sByRule) := ⟨rfl, rfl, rfl, by decide +kernel, rfl, by decide +kernel, by decide +kernel⟩
theorem zeros_take (r : List Nat) (i : Nat) (h : i < r.length) : vi (List.replicate (i + 1) 0) = vi (List.replicate i 0) ++ [V.int 0] := by
  rw [List.replicate_succ', vi_append]
  rfl
theorem drop_cons {α : Type} {l : List α} {i : Nat} {x : α} (h : l[i]? = some x) : l.drop i = x :: l.drop (i + 1) := by
  obtain ⟨hlt, e⟩ := List.getElem?_eq_some_iff.mp h
  rw [← e]
  exact List.drop_eq_getElem_cons hlt
theorem ok_by_rule {f : Addr} {fd : FuncData} (F : Fun K "by_rule" "by_rule" sByRule f fd) (T : Blt mg) (GS : Has P w K mg base 1 "steps" ["row", "thing"] spSteps) (GP : Has P w K mg base 1 "put" ["row", "thing", "place"] spPut)
    (GB : Has P w K mg base 2 "place_back" ["rule", "row", "thing", "counts"] (spPlaceBack K)) : FnOk P w K mg base CX0 3 f fd ["rule", "row", "asked"] (spByRule K) := by
  refine F.ok scByRule (fun vs H Q E h => ?_) (fun cdv A outer s H vs Q E hr h => ?_)
  · obtain ⟨a, b, r, l, k, n, rfl, _⟩ := h
    rfl
  · obtain ⟨a, b, r, l, k, n, rfl, h1, h4, ha, hrow, hb, hl, hlt, kk⟩ := h
    have hr1 : Room 1 _ := hr.mono (by decide)
    refine ⟨_, pss_cons (ps_setLc (i := 4) (own := [("thing", 3)]) (g := gName 3) (tt := tYes) rfl scByRule.nd rfl rfl (sw_true rfl rfl rfl (by decide +kernel)) (pi_tup (pv 1)) (blkOk_by (own := [("thing", 3)]) (N := ["rule", "row", "asked", "thing", "counts", "found"]) (sc := defScope sByRule) (by decide +kernel))
        (fun _ _ _ _ _ => pg_name (i := 3) scByRule.nd rfl (Or.inl rfl)) (fun _ _ _ _ _ => pts_nil) (fun _ _ _ _ _ => pe_int))
      (pss_cons (ps_set (i := 5) scByRule.nd rfl (Or.inl rfl) pe_int)
      (pss_cons (ps_for PassesOwn.never rfl (pi_list (pv 2)) (pg_name (i := 3) scByRule.nd rfl (Or.inl rfl))
        (pss_cons (ps_set (i := 5) scByRule.nd rfl (Or.inl rfl) (pe_op op_add (pv 5) (pe_has GS hr1 rfl (pa_cons (pv 1) (pa_cons (pv 3) pa_nil)))))
        (pss_cons (ps_asg (pe_op op_add (pe_ix ix_list (pv 4) (pv 3) (fun _ _ => rfl)) pe_int) (pg_sub (pv 4) (pv 3) set_list))
        (pss_one (ps_set (i := 1) scByRule.nd rfl (Or.inl rfl) (pe_has GP hr1 rfl (pa_cons (pv 1) (pa_cons (pv 3) (pa_cons (pe_has GB hr rfl (pa_cons (pv 0) (pa_cons (pv 1) (pa_cons (pv 3) (pa_cons (pv 4) pa_nil))))) pa_nil)))))))))
      (pss_one (ps_ret (pe_tup (pa_cons (pv 5) (pa_cons (pv 1) pa_nil))))))), ?_⟩
    have hrl := row_len h1 h4 hrow
    -- counts = [0 for thing in row]
    refine ⟨_, rfl, a, rfl, ⟨_, ha.seq⟩, fun D hD => lc_tup (K := K) (a := a) (xs := vi r) (fun i H' => Same H H' ∧ H' D = some (.lst (vi (List.replicate i 0)))) ⟨same_new hD, upd_same⟩ (fun i H' _ h => (ha.same h.1).seq) ?_ ?_⟩
    · rintro i x H' hi ⟨s1, hD1⟩
      have hlt' : i < r.length := by
        have := (List.getElem?_eq_some_iff.mp hi).1
        rw [vi_len] at this
        exact this
      refine ⟨rfl, yes_go ?_⟩
      refine iteT ⟨_, hD1, ?_, same_mut s1 hD, ?_⟩
      · rw [vi_len, List.length_replicate]
        exact small100' (by omega)
      · rw [upd_same, zeros_take r i hlt']
    · rintro H1 ⟨s1, hD1⟩
      rw [vi_len, hrl, ← tally_zero] at hD1
      -- the loop
      refine ⟨_, rfl, b, rfl, ⟨_, s1.seq hb⟩, for_list (K := K) (a := b) (xs := vi l) (fun i σ H' => ∃ (a' : Addr) (r' : List Nat) (g : Nat) (v3 : Option V), σ = [some (.int (k : Int)), some (.ref a'), some (.ref b), v3, some (.ref D), some (.int (g : Int))] ∧ Same H H' ∧ H' D = some (.lst (vi (tally n (l.take i)))) ∧ RowF H' a' r' ∧ r' ∈ allRows n ∧
          g + (Si88.ruled k (l.take i) r' (l.drop i)).1 = (Si88.ruled k [] r l).1 ∧ (Si88.ruled k (l.take i) r' (l.drop i)).2 = (Si88.ruled k [] r l).2)
        ⟨a, r, 0, none, rfl, s1, hD1, ha.same s1, hrow, by rw [List.take_zero, List.drop_zero, Nat.zero_add], by rw [List.take_zero, List.drop_zero]⟩ (fun i σ H' _ ⟨_, _, _, _, _, s2, _⟩ => s2.seq hb) ?_ ?_⟩
      · rintro i x σ H' hi ⟨a', r', g, v3, rfl, s2, hc, ha', hr', hg1, hg2⟩
        obtain ⟨t, ht, rfl⟩ := vi_of hi
        have htn : t < n := hlt t (List.mem_of_getElem? ht)
        have htr : t ∈ r' := row_mem h1 h4 hr' htn
        have hrl' := row_len h1 h4 hr'
        rw [drop_cons ht, ruled_cons] at hg1 hg2
        rw [← take_snoc ht] at hg1 hg2
        -- found = found + steps(row, thing)
        refine ⟨_, rfl, _, rfl, _, rfl, a', r', t, rfl, ha', htr, _, _, rfl, rfl, ?_⟩
        -- counts[thing] = counts[thing] + 1
        have htl : t < (tally n (l.take i)).length := by rw [tally_len]; exact htn
        refine ⟨_, rfl, _, rfl, D, _, _, _, rfl, rfl, SqL.of hc, at_vi htl, _, _, rfl, rfl, ?_⟩
        refine ⟨_, rfl, _, rfl, D, _, _, t, rfl, rfl, hc, Evl.ixN_nat (by rw [vi_len]; exact htl), ?_⟩
        have hset : (vi (tally n (l.take i))).set t (V.int (((tally n (l.take i)).getD t 0 : Nat) + 1)) = vi (tally n (l.take (i + 1))) := by
          rw [take_snoc ht, ← tally_set (l.take i) htn, vi_set, tally_getD _ htn]
          rfl
        have hset' : (vi (tally n (l.take i))).set t (V.int ((((tally n (l.take i)).getD t 0 : Nat) : Int) + 1)) = vi (tally n (l.take (i + 1))) := hset
        rw [hset']
        have hDf : H D = none := hD
        have s3 : Same H (upd H' D (.lst (vi (tally n (l.take (i + 1)))))) := same_mut s2 hDf
        have ha3 : RowF (upd H' D (.lst (vi (tally n (l.take (i + 1)))))) a' r' := ha'.updL hc
        -- row = put(row, thing, place_back(..))
        refine ⟨_, rfl, _, rfl, _, rfl, _, rfl, _, rfl, _, rfl, a', D, r', tally n (l.take (i + 1)), k, t, rfl, ha3, by omega, htr, upd_same, fun u hu => ?_, fun H4 s4 => ?_⟩
        · rw [tally_len]
          exact row_lt h1 h4 hr' hu
        · have epl : placeOf k (fun u => (tally n (l.take (i + 1))).getD u 0) r' t = placeOf k (fun u => (l.take (i + 1)).count u) r' t := placeOf_same k htr fun u hu => tally_getD _ (row_lt h1 h4 hr' hu)
          rw [epl]
          refine ⟨a', r', t, placeOf k (fun u => (l.take (i + 1)).count u) r' t, rfl, ha3.same s4, by omega, fun H5 q s5 hq => ?_⟩
          rw [put_next h1 h4 k (l.take (i + 1)) hr' htn] at hq
          have hple : placeOf k (fun u => (l.take (i + 1)).count u) r' t ≤ 4 := by
            have e1 := placeOf_le k (fun u => (l.take (i + 1)).count u) htr
            have e2 := ix_lt htr
            omega
          have hnext : nextRow k (l.take (i + 1)) r' t ∈ allRows n := by
            rw [← put_next h1 h4 k (l.take (i + 1)) hr' htn]
            exact put_row h1 h4 hr' htn hple
          refine ⟨q, nextRow k (l.take (i + 1)) r' t, g + Si88.steps r' t, some (.int (t : Int)), ?_, (s3.trans s4).trans s5, s5 _ _ (s4 _ _ upd_same), hq, hnext, by omega, hg2⟩
          show _ = [some (V.int (k : Int)), some (.ref q), some (.ref b), some (.int (t : Int)), some (.ref D), some (.int ((g + Si88.steps r' t : Nat) : Int))]
          rw [show ((g + Si88.steps r' t : Nat) : Int) = (g : Int) + (Si88.steps r' t : Nat) from by omega]
          rfl
      · rintro σ H' ⟨a', r', g, v3, rfl, s2, hc, ha', hr', hg1, hg2⟩
        rw [vi_len, List.take_length, List.drop_length] at hg1 hg2
        have e1 : g = (Si88.ruled k [] r l).1 := by rw [← hg1]; rfl
        have e2 : r' = (Si88.ruled k [] r l).2 := by rw [← hg2]; rfl
        refine ⟨_, rfl, _, rfl, (by show 2 ≤ sizeLine; decide), fun p hp => ?_⟩
        refine kk _ p a' (s2.trans (same_new hp)) ?_ ?_ ?_
        · rw [upd_same, e1]
        · rw [← e2]
          exact ha'.same (same_new hp)
        · rw [← e2]
          have := row_len h1 h4 hr'
          omega
end
end Cr
set_option Elab.async false
set_option linter.all false
set_option maxRecDepth 100000
set_option maxHeartbeats 4000000
/-! leasts.py. -/
namespace Cr
open PySem PySem.Spec PyProof.Rows L2
theorem vi_izs (l : List Nat) : (izs l).map V.int = vi l := (vi_ints l).symm
theorem least_izs {l : List Nat} {m : Int} (hm : m ∈ izs l) (hle : ∀ y, y ∈ izs l → m ≤ y) : ∃ n : Nat, m = (n : Int) ∧ Least n l := by
  unfold izs at hm
  obtain ⟨n, hn, rfl⟩ := List.mem_map.mp hm
  refine ⟨n, rfl, hn, fun y hy => ?_⟩
  have := hle (y : Int) (izs_mem.mpr hy)
  omega
section
variable {P : Program} {w : World} {K : PySem.W.Frag} {mg : Str → Option Value} {base : Heap}

/-! ### best_rows -/
def goodRows (n : Nat) (l : List Nat) (m : Nat) : List (List Nat) := (allRows n).filter fun r => Si88.fixed r l == m
def spBestRows (K : PySem.W.Frag) : Sp := fun vs H Q _ => ∃ (b : Addr) (l : List Nat) (n : Nat), vs = [.int (n : Int), .ref b] ∧ 1 ≤ n ∧ n ≤ 4 ∧ SqL K H b (vi l) ∧ l.length ≤ 10 ∧ (∀ t ∈ l, t < n) ∧
  ∀ (H' : Hp) (p D : Addr) (xs : List V) (m : Nat), Same H H' → H' p = some (.tup [.int (m : Int), .ref D]) → H' D = some (.lst xs) → RowsV H' xs (goodRows n l m) → Least m ((allRows n).map fun r => Si88.fixed r l) → Q (.ref p) H'
theorem scBestRows : FnScope ["many", "asked", "rows", "least", "row"] ["many", "asked"] (defScope sBestRows) := ⟨rfl, rfl, rfl, by decide +kernel, rfl, by decide +kernel, by decide +kernel⟩
theorem ok_best_rows {f : Addr} {fd : FuncData} (F : Fun K "best_rows" "best_rows" sBestRows f fd) (T : Blt mg) (GA : Has P w K mg base 2 "all_rows" ["many"] spAllRows) (GS : Has P w K mg base 2 "steps_in" ["row", "asked"] (spStepsIn K)) :
    FnOk P w K mg base CX0 3 f fd ["many", "asked"] (spBestRows K) := by
  refine F.ok scBestRows (fun vs H Q E h => ?_) (fun cdv A outer s H vs Q E hr h => ?_)
  · obtain ⟨b, l, n, rfl, _⟩ := h
    rfl
  · obtain ⟨b, l, n, rfl, h1, h4, hb, hl, hlt, k⟩ := h
    refine ⟨_, pss_cons (ps_set (i := 2) scBestRows.nd rfl (Or.inl rfl) (pe_has GA hr rfl (pa_cons (pv 0) pa_nil)))
      (pss_cons (ps_set (i := 3) scBestRows.nd rfl (Or.inr rfl) (pe_callB (cr_min rfl) (by rfl) T.min (by decide +kernel) (pa_cons
        (pe_lc (own := [("row", 4)]) (g := gName 4) (tt := tYes) rfl scBestRows.nd (pi_list (pv 2)) (blkOk_by (own := [("row", 4)]) (N := ["many", "asked", "rows", "least", "row"]) (sc := defScope sBestRows) (by decide +kernel))
          (fun _ _ _ _ _ => pg_name (i := 4) scBestRows.nd rfl (Or.inl rfl)) (fun _ _ _ _ _ => pts_nil) (fun _ _ _ _ _ => pe_has GS hr rfl (pa_cons (pv 4) (pa_cons (pv 1) pa_nil)))) pa_nil)))
      (pss_one (ps_ret (pe_tup (pa_cons (pv 3) (pa_cons
        (pe_lc (own := [("row", 4)]) (g := gName 4) rfl scBestRows.nd (pi_list (pv 2)) (blkOk_by (own := [("row", 4)]) (N := ["many", "asked", "rows", "least", "row"]) (sc := defScope sBestRows) (by decide +kernel))
          (fun _ _ _ _ _ => pg_name (i := 4) scBestRows.nd rfl (Or.inl rfl)) (fun _ _ _ _ _ => pts_one (pt_cmpR op_eq (pe_has GS hr rfl (pa_cons (pv 4) (pa_cons (pv 1) pa_nil))) (pv 3) (nomark _))) (fun _ _ _ _ _ => pv 4)) pa_nil)))))), ?_⟩
    -- rows = all_rows(many)
    refine ⟨_, rfl, n, rfl, h1, h4, fun H1 R xs s1 hR hX => ?_⟩
    have hxl : xs.length = (allRows n).length := Paired.length hX
    have hle := rows_le h1 h4
    -- least = min([..])
    refine ⟨_, rfl, R, rfl, ⟨_, SqL.of hR⟩, fun D hD => lc_list (K := K) (a := R) (xs := xs) (fun i H' => Same H1 H' ∧ H' D = some (.lst (vi (((allRows n).take i).map fun r => Si88.fixed r l)))) ⟨same_new hD, upd_same⟩ (fun i H' _ h => SqL.of (h.1 _ _ hR)) ?_ ?_⟩
    · rintro i x H' hi ⟨s2, hD2⟩
      obtain ⟨r, a, hr', rfl, ha⟩ := (hX.same s2).get hi
      have hrow : r ∈ allRows n := List.mem_of_getElem? hr'
      refine ⟨rfl, yes_go ?_⟩
      refine iteT ⟨_, rfl, _, rfl, a, b, r, l, rfl, ha, (s1.trans s2).seq hb, hl, fun t ht => row_mem h1 h4 hrow (hlt t ht), fun H3 s3 => ⟨_, s3 _ _ hD2, ?_, same_mut (s2.trans s3) hD, ?_⟩⟩
      · rw [vi_len, List.length_map, List.length_take]
        exact small100' (by omega)
      · rw [upd_same, take_snoc hr', List.map_append, vi_append]
        rfl
    · rintro H2 ⟨s2, hD2⟩
      rw [hxl, List.take_length] at hD2
      refine ⟨D, izs ((allRows n).map fun r => Si88.fixed r l), rfl, SqL.of (by rw [vi_izs]; exact hD2), ?_, fun m0 hm0 hle0 => ?_⟩
      · unfold izs
        rw [List.length_map, List.length_map]
        exact List.length_pos_iff.mpr (rows_ne h1 h4)
      · obtain ⟨m, rfl, hm⟩ := least_izs hm0 hle0
        -- return (least, [..])
        refine ⟨_, rfl, _, rfl, R, rfl, ⟨_, SqL.of (s2 _ _ hR)⟩, fun G hG => lc_list (K := K) (a := R) (xs := xs) (fun i H' => Same H2 H' ∧ ∃ ys, H' G = some (.lst ys) ∧ RowsV H' ys (((allRows n).take i).filter fun r => Si88.fixed r l == m)) ⟨same_new hG, [], upd_same, .nil⟩ (fun i H' _ h => SqL.of (h.1 _ _ (s2 _ _ hR))) ?_ ?_⟩
        · rintro i x H' hi ⟨s3, ys, hG3, hY⟩
          obtain ⟨r, a, hr', rfl, ha⟩ := (hX.same (s2.trans s3)).get hi
          have hrow : r ∈ allRows n := List.mem_of_getElem? hr'
          refine ⟨rfl, _, rfl, _, rfl, a, b, r, l, rfl, ha, ((s1.trans s2).trans s3).seq hb, hl, fun t ht => row_mem h1 h4 hrow (hlt t ht), fun H4 s4 => ?_⟩
          refine ⟨_, rfl, rfl, _, rfl, ?_⟩
          have hf : ((allRows n).take (i + 1)).filter (fun r => Si88.fixed r l == m) = ((allRows n).take i).filter (fun r => Si88.fixed r l == m) ++ [r].filter (fun r => Si88.fixed r l == m) := by rw [take_snoc hr', List.filter_append]
          have hylen : ys.length ≤ 24 := by
            have e1 := Paired.length hY
            have e2 := List.length_filter_le (fun r => Si88.fixed r l == m) ((allRows n).take i)
            rw [List.length_take] at e2
            omega
          by_cases e : Si88.fixed r l = m
          · have hdec : decide (V.int ((Si88.fixed r l : Nat) : Int) = V.int (m : Int)) = true := by rw [e]; simp
            rw [hdec]
            refine iteT ⟨_, rfl, ys, s4 _ _ hG3, small100' (by omega), same_mut (s3.trans s4) hG, _, upd_same, ?_⟩
            have : [r].filter (fun r => Si88.fixed r l == m) = [r] := by simp [e]
            rw [hf, this]
            exact ((hY.same s4).updL (s4 _ _ hG3)).snoc ((ha.same s4).updL (s4 _ _ hG3))
          · have hdec : decide (V.int ((Si88.fixed r l : Nat) : Int) = V.int (m : Int)) = false := decide_eq_false fun q => e (Int.ofNat.inj (V.int.inj q))
            rw [hdec]
            refine iteF ⟨s3.trans s4, ys, s4 _ _ hG3, ?_⟩
            have : [r].filter (fun r => Si88.fixed r l == m) = [] := by simp [e]
            rw [hf, this, List.append_nil]
            exact hY.same s4
        · rintro H3 ⟨s3, ys, hG3, hY⟩
          rw [hxl, List.take_length] at hY
          refine ⟨(by show 2 ≤ sizeLine; decide), fun p hp => ?_⟩
          exact k _ p G ys m (((s1.trans s2).trans s3).trans (same_new hp)) upd_same (same_new hp _ _ hG3) (hY.same (same_new hp)) hm

/-! ### rows_back -/
def spBack : Sp := fun vs H Q _ => ∃ (a : Addr) (r : List Nat) (t : Nat), vs = [.ref a, .int (t : Int)] ∧ RowF H a r ∧ r.length ≤ 4 ∧ t ∈ r ∧ ∀ (H' : Hp) (D : Addr) (xs : List V), Same H H' → H' D = some (.lst xs) → RowsV H' xs (back r t) → Q (.ref D) H'
theorem scBack : FnScope ["row", "thing", "place"] ["row", "thing"] (defScope sBack) := ⟨rfl, rfl, rfl, by decide +kernel, rfl, by decide +kernel, by decide +kernel⟩
theorem ok_rows_back {f : Addr} {fd : FuncData} (F : Fun K "rows_back" "rows_back" sBack f fd) (T : Blt mg) (GP : Has P w K mg base 1 "put" ["row", "thing", "place"] spPut) : FnOk P w K mg base CX0 2 f fd ["row", "thing"] spBack := by
  refine F.ok scBack (fun vs H Q E h => ?_) (fun cdv A outer s H vs Q E hr h => ?_)
  · obtain ⟨a, r, t, rfl, _⟩ := h
    rfl
  · obtain ⟨a, r, t, rfl, ha, hl, ht, k⟩ := h
    have hix := ix_lt ht
    refine ⟨_, pss_one (ps_ret (pe_lc (own := [("place", 2)]) (g := gName 2) (tt := tYes) rfl scBack.nd (pi_range1 rfl T.range (pa_cons (pe_op op_add (pe_tix (pv 0) (pv 1)) pe_int) pa_nil)) (blkOk_by (own := [("place", 2)]) (N := ["row", "thing", "place"]) (sc := defScope sBack) (by decide +kernel))
      (fun _ _ _ _ _ => pg_name (i := 2) scBack.nd rfl (Or.inl rfl)) (fun _ _ _ _ _ => pts_nil) (fun _ _ _ _ _ => pe_has GP hr rfl (pa_cons (pv 0) (pa_cons (pv 1) (pa_cons (pv 2) pa_nil)))))), ?_⟩
    refine ⟨_, rfl, a, r, rfl, ha, _, rfl, t, rfl, ha, ht, _, _, rfl, rfl, ((ix r t + 1 : Nat) : Int), rfl, by omega, by omega, fun D hD => lc_range (lo := 0) (n := ix r t + 1) (fun i H' => Same H H' ∧ ∃ xs, H' D = some (.lst xs) ∧ RowsV H' xs ((List.range i).map fun p => put r t p)) ⟨same_new hD, [], upd_same, .nil⟩ ?_ ?_⟩
    · rintro i H' hi ⟨s1, xs, hx, hR⟩
      have e0 : (0 : Int) + (i : Int) = (i : Int) := Int.zero_add _
      show gName 2 (V.int ((0 : Int) + (i : Int))) _ _ _
      rw [e0]
      refine ⟨rfl, yes_go ?_⟩
      refine iteT ⟨_, rfl, _, rfl, _, rfl, a, r, t, i, rfl, ha.same s1, hl, fun H2 q s2 hq => ?_⟩
      have hx2 := s2 _ _ hx
      have hlen : xs.length ≤ 4 := by
        have h1 := Paired.length hR
        rw [List.length_map, List.length_range] at h1
        omega
      refine ⟨xs, hx2, small100' (by omega), same_mut (s1.trans s2) hD, _, upd_same, ?_⟩
      rw [List.range_succ, List.map_append]
      exact ((hR.same s2).updL hx2).snoc (hq.updL hx2)
    · rintro H' ⟨s1, xs, hx, hR⟩
      exact k H' D xs s1 hx hR
end
end Cr
set_option Elab.async false
set_option linter.all false
set_option maxRecDepth 100000
set_option maxHeartbeats 4000000
/-! leasts.py: cheapest_to, costs_behind, least_at_all. -/
namespace Cr
open PySem PySem.Spec PyProof.Rows L2
def kvOf (cs : Tab) : List (DKey × V) := cs.map fun p => (ki p.1, V.int ((p.2 : Nat) : Int))
theorem kvOf_len (cs : Tab) : (kvOf cs).length = cs.length := by simp [kvOf]
theorem kvOf_get {cs : Tab} {i : Nat} {k : DKey} {v : V} (h : (kvOf cs)[i]? = some (k, v)) : ∃ p, cs[i]? = some p ∧ k = ki p.1 ∧ v = V.int ((p.2 : Nat) : Int) := by
  unfold kvOf at h
  rw [List.getElem?_map] at h
  cases e : cs[i]? with
  | none => rw [e] at h; cases h
  | some p =>
    rw [e] at h
    have h' := Option.some.inj h
    exact ⟨p, rfl, (congrArg Prod.fst h').symm, (congrArg Prod.snd h').symm⟩
theorem valV_kvOf (q : List Nat) : ∀ cs : Tab, valV (kvOf cs) (ki q) = (lk cs q).map fun c => V.int ((c : Nat) : Int)
  | [] => rfl
  | p :: cs => by
    have ih := valV_kvOf q cs
    by_cases e : p.1 = q
    · have h1 : valV (kvOf (p :: cs)) (ki q) = some (V.int ((p.2 : Nat) : Int)) := valV_pos (p := (ki p.1, V.int ((p.2 : Nat) : Int))) (r := kvOf cs) (by rw [e])
      rw [h1]
      unfold lk
      rw [List.find?_cons]
      simp [e]
    · have h1 : valV (kvOf (p :: cs)) (ki q) = valV (kvOf cs) (ki q) := valV_neg (p := (ki p.1, V.int ((p.2 : Nat) : Int))) (r := kvOf cs) (fun z => e (ki_inj z))
      rw [h1, ih]
      unfold lk
      rw [List.find?_cons]
      simp [e]
theorem putK_kvOf (cs : Tab) (q : List Nat) (v : Nat) : putK (kvOf cs) (ki q) (V.int (v : Int)) = kvOf (putN cs q v) := by
  have ha : ((kvOf cs).any fun kv => decide (kv.1 = ki q)) = (cs.any fun p => decide (p.1 = q)) := by
    unfold kvOf
    rw [List.any_map]
    congr 1
    funext p
    show decide (ki p.1 = ki q) = decide (p.1 = q)
    by_cases e : p.1 = q
    · rw [e]; simp
    · rw [decide_eq_false e, decide_eq_false fun z => e (ki_inj z)]
  unfold putK putN
  rw [ha]
  by_cases h : (cs.any fun p => decide (p.1 = q)) = true
  · rw [if_pos h, if_pos h]
    unfold kvOf
    rw [List.map_map, List.map_map]
    refine List.map_congr_left fun p _ => ?_
    show (if ki p.1 = ki q then (ki p.1, V.int (v : Int)) else (ki p.1, V.int ((p.2 : Nat) : Int))) = _
    by_cases e : p.1 = q
    · simp [e]
    · simp only [Function.comp, e, if_false]
      rw [if_neg fun z => e (ki_inj z)]
  · rw [if_neg h, if_neg h]
    unfold kvOf
    rw [List.map_append]
    rfl
theorem DX.nodup {P : Program} {w : World} {H : Hp} {d : Addr} {cs : Tab} (x : DX P w H d (kvOf cs)) : (cs.map (·.1)).Nodup := by
  obtain ⟨_, _, o, es, ep, xs, _, _, _, _, c4, c5⟩ := x
  have e : ∀ {l : List (DKey × V)} {m : List (DKey × Addr × Value)}, KT (flat H) l m → l.map (·.1) = m.map (·.1) := by
    intro l m k
    induction k with
    | nil => rfl
    | cons h t ih => rw [List.map_cons, List.map_cons, ih, h.1]
  rw [← e c5] at c4
  have e2 : (kvOf cs).map (·.1) = (cs.map (·.1)).map ki := by
    unfold kvOf
    rw [List.map_map, List.map_map]
    rfl
  rw [e2] at c4
  unfold List.Nodup at c4 ⊢
  rw [List.pairwise_map] at c4
  exact c4.imp fun h z => h (by rw [z])
theorem nodup_len {α : Type} [BEq α] [LawfulBEq α] : ∀ {l m : List α}, l.Nodup → (∀ x ∈ l, x ∈ m) → l.length ≤ m.length
  | [], _, _, _ => Nat.zero_le _
  | a :: l, m, hn, h => by
    have ha := h a List.mem_cons_self
    have hn' := List.nodup_cons.mp hn
    have e := List.length_erase_of_mem ha
    have ih := nodup_len (l := l) (m := m.erase a) hn'.2 fun x hx => (List.mem_erase_of_ne fun (z : x = a) => hn'.1 (z ▸ hx)).mpr (h x (List.mem_cons_of_mem _ hx))
    have hp := List.length_pos_of_mem ha
    rw [List.length_cons]
    omega
theorem TupF.updX {H : Hp} {a d : Addr} {vs : List V} {φ : Heap → Prop} {o : HO} (h : TupF H a vs) (hd : H d = some (.ext φ)) : TupF (upd H d o) a vs := by
  obtain ⟨ob, e, z⟩ := h
  exact ⟨ob, by rw [upd_ne (ne_of e hd fun z => nomatch z)]; exact e, z⟩
theorem RowsV.updX {H : Hp} {d : Addr} {xs : List V} {rs : List (List Nat)} {φ : Heap → Prop} {o : HO} (x : RowsV H xs rs) (hd : H d = some (.ext φ)) : RowsV (upd H d o) xs rs := Paired.mapP x fun _ _ ⟨a, h1, h2⟩ => ⟨a, h1, h2.updX hd⟩
theorem DX.is {P : Program} {w : World} {H : Hp} {d : Addr} {kvs : List (DKey × V)} (x : DX P w H d kvs) : ∃ o, H d = some (.ext (IsO d o)) := let ⟨_, _, o, _, _, _, e, _⟩ := x; ⟨o, e⟩
section
variable {P : Program} {w : World} {K : PySem.W.Frag} {mg : Str → Option Value} {base : Heap}

/-! ### cheapest_to -/
def spCheap (P : Program) (w : World) : Sp := fun vs H Q _ => ∃ (d a : Addr) (cs : Tab) (x : List Nat) (n : Nat), vs = [.ref d, .ref a] ∧ 1 ≤ n ∧ n ≤ 4 ∧ DX P w H d (kvOf cs) ∧ cs ≠ [] ∧ (∀ p ∈ cs, p.1 ∈ allRows n) ∧ RowF H a x ∧ x ∈ allRows n ∧ ∀ H', Same H H' → Q (.int (cheapOf cs x : Nat)) H'
theorem scCheap : FnScope ["costs", "row", "other"] ["costs", "row"] (defScope sCheap) := ⟨rfl, rfl, rfl, by decide +kernel, rfl, by decide +kernel, by decide +kernel⟩
theorem ok_cheapest_to {f : Addr} {fd : FuncData} (F : Fun K "cheapest_to" "cheapest_to" sCheap f fd) (T : Blt mg) (GE : Has P w K mg base 1 "exchanges" ["row", "other"] (spExch K)) : FnOk P w K mg base CX0 2 f fd ["costs", "row"] (spCheap P w) := by
  refine F.ok scCheap (fun vs H Q E h => ?_) (fun cdv A outer s H vs Q E hr h => ?_)
  · obtain ⟨d, a, cs, x, n, rfl, _⟩ := h
    rfl
  · obtain ⟨d, a, cs, x, n, rfl, h1, h4, hd, hne, hrows, ha, hx, k⟩ := h
    refine ⟨_, pss_one (ps_ret (pe_callB (cr_min rfl) (by rfl) T.min (by decide +kernel) (pa_cons (pe_lc (own := [("other", 2)]) (g := gName 2) (tt := tYes) rfl scCheap.nd (pi_keysX (pv 0)) (blkOk_by (own := [("other", 2)]) (N := ["costs", "row", "other"]) (sc := defScope sCheap) (by decide +kernel))
      (fun _ _ _ _ _ => pg_name (i := 2) scCheap.nd rfl (Or.inl rfl)) (fun _ _ _ _ _ => pts_nil) (fun _ _ _ _ _ => pe_op op_add (pe_dgetK (P := P) (w := w) rfl rfl (hu_of hr) (pv 0) (pv 2) (fun _ _ => rfl)) (pe_has GE hr rfl (pa_cons (pv 2) (pa_cons (pv 1) pa_nil))))) pa_nil))), ?_⟩
    have hnd := hd.nodup
    have hcl : cs.length ≤ 1000 := by
      have := hd.2.1
      rw [kvOf_len] at this
      exact this
    refine ⟨_, rfl, d, kvOf cs, rfl, hd, fun o bs ho hK => fun D hD => lc_keysX (d := d) (o := o) (bs := bs) (fun i H' => Same H H' ∧ H' D = some (.lst (vi ((cs.take i).map fun p => p.2 + Si88.apart p.1 x)))) ⟨same_new hD, upd_same⟩ (fun i H' _ h => h.1 _ _ ho) ?_ ?_⟩
    · rintro i b H' hb ⟨s1, hD1⟩
      obtain ⟨k0, v0, hkv, hfl⟩ := (hK.same s1).get hb
      obtain ⟨p, hp, rfl, rfl⟩ := kvOf_get hkv
      have hpm : p ∈ cs := List.mem_of_getElem? hp
      have hprow := hrows p hpm
      have hlk : lk cs p.1 = some p.2 := lk_of hnd hpm
      refine ⟨rfl, yes_go ?_⟩
      refine iteT ⟨_, rfl, _, rfl, d, b, kvOf cs, ki p.1, V.int ((p.2 : Nat) : Int), rfl, rfl, hd.same s1, hfl, (by rw [valV_kvOf, hlk]; rfl), ?_⟩
      have hsq : SqT K H' b (vi p.1) := by
        rw [vi_ki] at hfl
        exact flat_seq hfl
      refine ⟨_, rfl, _, rfl, b, a, p.1, x, rfl, hsq, ha.same s1, fun t ht => row_mem h1 h4 hx (row_lt h1 h4 hprow ht), by rw [row_len h1 h4 hprow]; exact h4, fun H3 s3 => ?_⟩
      refine ⟨_, _, rfl, rfl, _, s3 _ _ hD1, ?_, same_mut (s1.trans s3) hD, ?_⟩
      · rw [vi_len, List.length_map, List.length_take]
        exact small100' (by omega)
      · rw [upd_same, take_snoc hp, List.map_append, vi_append]
        rfl
    · rintro H1 ⟨s1, hD1⟩
      have hbl : bs.length = cs.length := by rw [← Paired.length hK, kvOf_len]
      rw [hbl, List.take_length] at hD1
      refine ⟨D, izs (cs.map fun p => p.2 + Si88.apart p.1 x), rfl, SqL.of (by rw [vi_izs]; exact hD1), ?_, fun m0 hm0 hle0 => ?_⟩
      · unfold izs
        rw [List.length_map, List.length_map]
        exact List.length_pos_iff.mpr hne
      · obtain ⟨m, rfl, hm⟩ := least_izs hm0 hle0
        have e : m = cheapOf cs x := hm.eq (cheapOf_is hne x) fun _ => Iff.rfl
        rw [e]
        exact k H1 s1

/-! ### costs_behind -/
def spBehind (P : Program) (w : World) : Sp := fun vs H Q _ => ∃ (d R : Addr) (cs : Tab) (xs : List V) (t n : Nat), vs = [.ref d, .ref R, .int (t : Int)] ∧ 1 ≤ n ∧ n ≤ 4 ∧ DX P w H d (kvOf cs) ∧ cs ≠ [] ∧ (∀ p ∈ cs, p.1 ∈ allRows n) ∧ H R = some (.lst xs) ∧ RowsV H xs (allRows n) ∧ t < n ∧
  ∀ (H' : Hp) (e : Addr) (fs : Tab), Same H H' → DX P w H' e (kvOf fs) → Fill (costAt cs t) (fun x q => x ∈ allRows n ∧ q ∈ back x t) fs → Q (.ref e) H'
theorem scBehind : FnScope ["costs", "rows", "thing", "found", "row", "cost", "other"] ["costs", "rows", "thing"] (defScope sBehind) := ⟨rfl, rfl, rfl, by decide +kernel, rfl, by decide +kernel, by decide +kernel⟩
theorem ok_costs_behind {f : Addr} {fd : FuncData} (F : Fun K "costs_behind" "costs_behind" sBehind f fd) (T : Blt mg) (GC : Has P w K mg base 2 "cheapest_to" ["costs", "row"] (spCheap P w)) (GS : Has P w K mg base 1 "steps" ["row", "thing"] spSteps)
    (GB : Has P w K mg base 2 "rows_back" ["row", "thing"] spBack) : FnOk P w K mg base CX0 3 f fd ["costs", "rows", "thing"] (spBehind P w) := by
  refine F.ok scBehind (fun vs H Q E h => ?_) (fun cdv A outer s H vs Q E hr h => ?_)
  · obtain ⟨d, R, cs, xs, t, n, rfl, _⟩ := h
    rfl
  · obtain ⟨d, R, cs, xs, t, n, rfl, h1, h4, hd, hne, hrows, hR, hX, ht, k⟩ := h
    have hr1 : Room 1 _ := hr.mono (by decide)
    have hxl : xs.length = (allRows n).length := Paired.length hX
    refine ⟨_, pss_cons (ps_set (i := 3) scBehind.nd rfl (Or.inl rfl) pe_dnewX)
      (pss_cons (ps_for PassesOwn.never rfl (pi_list (pv 1)) (pg_name (i := 4) scBehind.nd rfl (Or.inl rfl))
        (pss_cons (ps_set (i := 5) scBehind.nd rfl (Or.inl rfl) (pe_op op_add (pe_has GC hr rfl (pa_cons (pv 0) (pa_cons (pv 4) pa_nil))) (pe_has GS hr1 rfl (pa_cons (pv 4) (pa_cons (pv 2) pa_nil)))))
        (pss_one (ps_for PassesOwn.never rfl (pi_list (pe_has GB hr rfl (pa_cons (pv 4) (pa_cons (pv 2) pa_nil)))) (pg_name (i := 6) scBehind.nd rfl (Or.inl rfl))
          (pss_one (ps_dputX (hu_of hr) (pv 3) (pv 6) (pe_callB (call_min2 rfl) (by rfl) T.min (by decide +kernel) (pa_cons (pv 5) (pa_cons (pe_dget2X (hu_of hr) (pv 3) (pv 6) (pv 5) ⟨rfl, rfl, rfl, rfl⟩) pa_nil))) rfl))))))
      (pss_one (ps_ret (pv 3)))), ?_⟩
    intro e o0 he hdx0
    refine ⟨_, rfl, R, rfl, ⟨_, SqL.of (same_new he _ _ hR)⟩, for_list (K := K) (a := R) (xs := xs) (fun i σ H' => ∃ (fs : Tab) (v4 v5 v6 : Option V), σ = [some (.ref d), some (.ref R), some (.int (t : Int)), some (.ref e), v4, v5, v6] ∧ Same H H' ∧ DX P w H' e (kvOf fs) ∧ Fill (costAt cs t) (fun x q => x ∈ (allRows n).take i ∧ q ∈ back x t) fs)
      ⟨[], none, none, none, rfl, same_new he, hdx0, Fill.nil.iff fun x q => ⟨fun z => z.elim, fun z => by simpa using z.1⟩⟩ (fun i σ H' _ ⟨_, _, _, _, _, s1, _⟩ => SqL.of (s1 _ _ hR)) ?_ ?_⟩
    · rintro i v σ H' hi ⟨fs, v4, v5, v6, rfl, s1, hdx, hF⟩
      obtain ⟨x, a, hx, rfl, ha⟩ := (hX.same s1).get hi
      have hxm : x ∈ allRows n := List.mem_of_getElem? hx
      have htx : t ∈ x := row_mem h1 h4 hxm ht
      -- cost = cheapest_to(costs, row) + steps(row, thing)
      refine ⟨_, rfl, _, rfl, d, a, cs, x, n, rfl, h1, h4, hd.same s1, hne, hrows, ha, hxm, fun H2 s2 => ?_⟩
      refine ⟨_, rfl, _, rfl, a, x, t, rfl, ha.same s2, htx, _, _, rfl, rfl, ?_⟩
      -- for other in rows_back(row, thing)
      refine ⟨_, rfl, _, rfl, a, x, t, rfl, ha.same s2, by rw [row_len h1 h4 hxm]; exact h4, htx, fun H3 D ys s3 hD hY => ?_⟩
      have hyl : ys.length = (back x t).length := Paired.length hY
      have ecost : ((cheapOf cs x : Nat) : Int) + ((Si88.steps x t : Nat) : Int) = ((costAt cs t x : Nat) : Int) := by unfold costAt; omega
      refine ⟨D, rfl, ⟨_, SqL.of hD⟩, for_list (K := K) (a := D) (xs := ys) (fun j σ H' => ∃ (gs : Tab) (v6 : Option V), σ = [some (.ref d), some (.ref R), some (.int (t : Int)), some (.ref e), some (.ref a), some (.int ((costAt cs t x : Nat) : Int)), v6] ∧ Same H H' ∧ H' D = some (.lst ys) ∧ RowsV H' ys (back x t) ∧ DX P w H' e (kvOf gs) ∧
          Fill (costAt cs t) (fun y q => (y ∈ (allRows n).take i ∧ q ∈ back y t) ∨ (y = x ∧ q ∈ (back x t).take j)) gs)
        ⟨fs, v6, by rw [← ecost]; rfl, (s1.trans s2).trans s3, hD, hY, (hdx.same s2).same s3, hF.iff fun y q => ⟨fun z => .inl z, fun z => z.elim id fun z => by simp at z⟩⟩ (fun j σ H' _ ⟨_, _, _, _, h, _⟩ => SqL.of h) ?_ ?_⟩
      · rintro j v σ H4 hj ⟨gs, v6, rfl, s4, hD4, hY4, hdx4, hG⟩
        obtain ⟨q, b, hq, rfl, hb⟩ := hY4.get hj
        have hqm : q ∈ back x t := List.mem_of_getElem? hq
        have hnd := hdx4.nodup
        have hgl : gs.length ≤ 24 := by
          have e1 := nodup_len (l := gs.map (·.1)) (m := allRows n) hnd fun z hz => by
            obtain ⟨p, hp, rfl⟩ := List.mem_map.mp hz
            obtain ⟨y, hy, _⟩ := hG.sound p hp
            rcases hy with ⟨hy, hq⟩ | ⟨rfl, hq⟩
            · exact back_rows h1 h4 (List.mem_of_mem_take hy) ht _ hq
            · exact back_rows h1 h4 hxm ht _ (List.mem_of_mem_take hq)
          rw [List.length_map] at e1
          have e2 := rows_le h1 h4
          omega
        have hfl : flat H4 b = some (.tup ((ki q).map kV)) := by
          rw [vi_ki]
          exact hb.flat
        -- found[other] = min(cost, found.get(other, cost))
        refine ⟨_, rfl, _, rfl, e, kvOf gs, rfl, hdx4, _, rfl, _, rfl, hdx4, b, ki q, rfl, hfl, ?_⟩
        have eget : (valV (kvOf gs) (ki q)).getD (V.int ((costAt cs t x : Nat) : Int)) = V.int (((lk gs q).getD (costAt cs t x) : Nat) : Int) := by
          rw [valV_kvOf]
          cases lk gs q <;> rfl
        rw [eget]
        refine ⟨_, _, rfl, _, rfl, _, rfl, e, b, kvOf gs, ki q, rfl, rfl, hdx4, hfl, by rw [kvOf_len]; omega, fun ob hdx5 => ?_⟩
        have emin : (if (((lk gs q).getD (costAt cs t x) : Nat) : Int) < ((costAt cs t x : Nat) : Int) then (((lk gs q).getD (costAt cs t x) : Nat) : Int) else ((costAt cs t x : Nat) : Int)) = ((if (lk gs q).getD (costAt cs t x) < costAt cs t x then (lk gs q).getD (costAt cs t x) else costAt cs t x : Nat) : Int) := by
          by_cases z : (lk gs q).getD (costAt cs t x) < costAt cs t x
          · rw [if_pos z, if_pos (by omega)]
          · rw [if_neg z, if_neg (by omega)]
        rw [emin, putK_kvOf] at hdx5
        obtain ⟨o4, ho4⟩ := hdx4.is
        refine ⟨_, _, rfl, same_mut s4 he, ?_, hY4.updX ho4, hdx5, (hG.put hnd x q).iff fun y z => ?_⟩
        · rw [upd_ne (ne_of hD4 ho4 fun z => nomatch z)]
          exact hD4
        · rw [take_snoc hq, List.mem_append, List.mem_singleton]
          constructor
          · rintro ((h | ⟨h, h'⟩) | ⟨h, h'⟩)
            · exact .inl h
            · exact .inr ⟨h, .inl h'⟩
            · exact .inr ⟨h, .inr h'⟩
          · rintro (h | ⟨h, h' | h'⟩)
            · exact .inl (.inl h)
            · exact .inl (.inr ⟨h, h'⟩)
            · exact .inr ⟨h, h'⟩
      · rintro σ H4 ⟨gs, v6, rfl, s4, hD4, hY4, hdx4, hG⟩
        refine ⟨gs, _, _, _, rfl, s4, hdx4, hG.iff fun y q => ?_⟩
        rw [hyl, List.take_length, take_snoc hx, List.mem_append, List.mem_singleton]
        constructor
        · rintro (⟨h, h'⟩ | ⟨rfl, h'⟩)
          · exact ⟨.inl h, h'⟩
          · exact ⟨.inr rfl, h'⟩
        · rintro ⟨h | rfl, h'⟩
          · exact .inl ⟨h, h'⟩
          · exact .inr ⟨rfl, h'⟩
    · rintro σ H' ⟨fs, v4, v5, v6, rfl, s1, hdx, hF⟩
      rw [hxl, List.take_length] at hF
      exact ⟨_, rfl, k H' e fs s1 hdx hF⟩

/-! ### least_at_all -/
def spLeastAll (K : PySem.W.Frag) : Sp := fun vs H Q _ => ∃ (a b : Addr) (r l : List Nat) (n : Nat), vs = [.ref a, .ref b] ∧ 1 ≤ n ∧ n ≤ 4 ∧ RowF H a r ∧ r ∈ allRows n ∧ SqL K H b (vi l) ∧ (∀ t ∈ l, t < n) ∧ ∀ H', Same H H' → Q (.int (later (allRows n) l r : Nat)) H'
theorem scLeastAll : FnScope ["row", "asked", "rows", "costs", "thing", "other"] ["row", "asked"] (defScope sLeastAll) := ⟨rfl, rfl, rfl, by decide +kernel, rfl, by decide +kernel, by decide +kernel⟩
theorem ok_least_at_all {f : Addr} {fd : FuncData} (F : Fun K "least_at_all" "least_at_all" sLeastAll f fd) (T : Blt mg) (GA : Has P w K mg base 2 "all_rows" ["many"] spAllRows) (GB : Has P w K mg base 3 "costs_behind" ["costs", "rows", "thing"] (spBehind P w)) :
    FnOk P w K mg base CX0 4 f fd ["row", "asked"] (spLeastAll K) := by
  refine F.ok scLeastAll (fun vs H Q E h => ?_) (fun cdv A outer s H vs Q E hr h => ?_)
  · obtain ⟨a, b, r, l, n, rfl, _⟩ := h
    rfl
  · obtain ⟨a, b, r, l, n, rfl, h1, h4, ha, hrow, hb, hlt, k⟩ := h
    have hr2 : Room 2 _ := hr.mono (by decide)
    have hrl := row_len h1 h4 hrow
    refine ⟨_, pss_cons (ps_set (i := 2) scLeastAll.nd rfl (Or.inl rfl) (pe_has GA hr2 rfl (pa_cons (pe_callB call_len_seq (by rfl) T.len PySem.boot_len (pa_cons (pv 0) pa_nil)) pa_nil)))
      (pss_cons (ps_set (i := 3) scLeastAll.nd rfl (Or.inr rfl) (pe_doneX hr.units0 (pv 0) pe_int))
      (pss_cons (ps_for PassesOwn.never rfl (pi_list (pv 1)) (pg_name (i := 4) scLeastAll.nd rfl (Or.inl rfl)) (pss_one (ps_set (i := 3) scLeastAll.nd rfl (Or.inr rfl) (pe_has GB hr rfl (pa_cons (pv 3) (pa_cons (pv 2) (pa_cons (pv 4) pa_nil)))))))
      (pss_one (ps_ret (pe_callB (cr_min rfl) (by rfl) T.min (by decide +kernel) (pa_cons (pe_lc (own := [("other", 5)]) (g := gName 5) (tt := tYes) rfl scLeastAll.nd (pi_keysX (pv 3)) (blkOk_by (own := [("other", 5)]) (N := ["row", "asked", "rows", "costs", "thing", "other"]) (sc := defScope sLeastAll) (by decide +kernel))
        (fun _ _ _ _ _ => pg_name (i := 5) scLeastAll.nd rfl (Or.inl rfl)) (fun _ _ _ _ _ => pts_nil) (fun _ _ _ _ _ => pe_dgetK (P := P) (w := w) rfl rfl (hu_of hr) (pv 3) (pv 5) (fun _ _ => rfl))) pa_nil)))))), ?_⟩
    -- rows = all_rows(len(row))
    refine ⟨_, rfl, a, _, rfl, .inr ha.seq, n, (by rw [vi_len, hrl]; rfl), h1, h4, fun H1 R xs s1 hR hX => ?_⟩
    -- costs = {row: 0}
    intro d o0 hd0 hdx0
    have s2 : Same H1 (upd H1 d (.ext (IsO d o0))) := same_new hd0
    have hfl : flat (upd H1 d (.ext (IsO d o0))) a = some (.tup ((ki r).map kV)) := by
      rw [vi_ki]
      exact ((ha.same s1).same s2).flat
    refine ⟨_, rfl, hdx0, a, ki r, rfl, hfl, fun o1 hdx1 => ?_⟩
    have s3 : Same H1 (upd (upd H1 d (.ext (IsO d o0))) d (.ext (IsO d o1))) := same_mut s2 hd0
    refine ⟨_, rfl, b, rfl, ⟨_, (s1.trans s3).seq hb⟩, for_list (K := K) (a := b) (xs := vi l) (fun i σ H' => ∃ (d : Addr) (cs : Tab) (v4 : Option V), σ = [some (.ref a), some (.ref b), some (.ref R), some (.ref d), v4, none] ∧ Same H1 H' ∧ DX P w H' d (kvOf cs) ∧ Tells (allRows n) r (l.take i) cs)
      ⟨d, [(r, 0)], none, rfl, s3, hdx1, by rw [List.take_zero]; exact Tells.start hrow⟩ (fun i σ H' _ ⟨_, _, _, _, s4, _⟩ => (s1.trans s4).seq hb) ?_ ?_⟩
    · rintro i v σ H' hi ⟨d, cs, v4, rfl, s4, hdx, hT⟩
      obtain ⟨t, ht, rfl⟩ := vi_of hi
      have htn := hlt t (List.mem_of_getElem? ht)
      refine ⟨_, rfl, _, rfl, _, rfl, d, R, cs, xs, t, n, rfl, h1, h4, hdx, hT.ne, hT.keys, s4 _ _ hR, hX.same s4, htn, fun H5 e fs s5 hdx5 hF => ?_⟩
      refine ⟨e, fs, _, rfl, s4.trans s5, hdx5, ?_⟩
      rw [take_snoc ht]
      exact hT.next h1 h4 htn hF
    · rintro σ H' ⟨d, cs, v4, rfl, s4, hdx, hT⟩
      rw [vi_len, List.take_length] at hT
      have hnd := hdx.nodup
      have hcl : cs.length ≤ 1000 := by
        have := hdx.2.1
        rw [kvOf_len] at this
        exact this
      refine ⟨_, rfl, d, kvOf cs, rfl, hdx, fun o bs ho hK => fun D hD => lc_keysX (d := d) (o := o) (bs := bs) (fun i H2 => Same H' H2 ∧ H2 D = some (.lst (vi ((cs.take i).map (·.2))))) ⟨same_new hD, upd_same⟩ (fun i H2 _ h => h.1 _ _ ho) ?_ ?_⟩
      · rintro i b' H2 hb' ⟨s5, hD5⟩
        obtain ⟨k0, v0, hkv, hfl⟩ := (hK.same s5).get hb'
        obtain ⟨p, hp, rfl, rfl⟩ := kvOf_get hkv
        have hlk : lk cs p.1 = some p.2 := lk_of hnd (List.mem_of_getElem? hp)
        refine ⟨rfl, yes_go ?_⟩
        refine iteT ⟨_, rfl, _, rfl, d, b', kvOf cs, ki p.1, V.int ((p.2 : Nat) : Int), rfl, rfl, hdx.same s5, hfl, (by rw [valV_kvOf, hlk]; rfl), ?_⟩
        refine ⟨_, hD5, ?_, same_mut s5 hD, ?_⟩
        · rw [vi_len, List.length_map, List.length_take]
          exact small100' (by omega)
        · rw [upd_same, take_snoc hp, List.map_append, vi_append]
          rfl
      · rintro H2 ⟨s5, hD5⟩
        have hbl : bs.length = cs.length := by rw [← Paired.length hK, kvOf_len]
        rw [hbl, List.take_length] at hD5
        refine ⟨D, izs (cs.map (·.2)), rfl, SqL.of (by rw [vi_izs]; exact hD5), ?_, fun m0 hm0 hle0 => ?_⟩
        · unfold izs
          rw [List.length_map, List.length_map]
          exact List.length_pos_iff.mpr hT.ne
        · obtain ⟨m, rfl, hm⟩ := least_izs hm0 hle0
          have e : m = later (allRows n) l r := hT.least h1 h4 hlt hrow hm
          rw [e]
          exact k H2 ((s1.trans s4).trans s5)
end
end Cr
set_option Elab.async false
set_option linter.all false
set_option maxRecDepth 100000
set_option maxHeartbeats 4000000
/-! shelf.py. -/
namespace Cr
open PySem PySem.Spec PyProof.Rows L2
def shF (a b : Addr) : List (Str × V) := [("row", .ref a), ("asked", .ref b)]
theorem lk_now {k : Str} {v : V} {r : List (Str × V)} : List.lookup k ((k, v) :: r) = some v := by
  have e : (k == k) = true := beq_self_eq_true k
  simp only [List.lookup, e]
theorem lk_on {k g : Str} {v : V} {r : List (Str × V)} (h : (k == g) = false) : List.lookup k ((g, v) :: r) = List.lookup k r := by
  simp only [List.lookup, h]
theorem shF_row (a b : Addr) : (shF a b).lookup ("row" : Str) = some (.ref a) := lk_now
theorem shF_asked (a b : Addr) : (shF a b).lookup ("asked" : Str) = some (.ref b) := (lk_on (by decide +kernel)).trans lk_now
theorem shF_no (a b : Addr) {m : Str} (h1 : (m == ("row" : Str)) = false) (h2 : (m == ("asked" : Str)) = false) : (shF a b).lookup m = none := (lk_on h1).trans ((lk_on h2).trans rfl)
theorem shF_putR (a b c : Addr) : putF "row" (.ref c) (shF a b) = shF c b := if_pos rfl
theorem put_on {f g : Str} {v x : V} {r : List (Str × V)} (h : ¬ g = f) : putF f v ((g, x) :: r) = (g, x) :: putF f v r := if_neg h
theorem shF_putA (a b c : Addr) : putF "asked" (.ref c) (shF a b) = shF a c := (put_on (by decide +kernel)).trans (congrArg _ (if_pos rfl))
theorem shF_new (a b : Addr) : putF "asked" (.ref b) (putF "row" (.ref a) []) = shF a b := (put_on (by decide +kernel)).trans rfl
/-- a shelf stands at p, what it was asked for at b -/
def ShelfAt (C : Addr) (H : Hp) (p b : Addr) (s : Si88.Shelf) : Prop := ∃ dx a, H p = some (.ins C dx (shF a b)) ∧ RowF H a s.row ∧ H b = some (.lst (vi s.asked))
theorem ShelfAt.same {C : Addr} {H H' : Hp} {p b : Addr} {s : Si88.Shelf} (h : ShelfAt C H p b s) (e : Same H H') : ShelfAt C H' p b s := let ⟨dx, a, h1, h2, h3⟩ := h; ⟨dx, a, e _ _ h1, h2.same e, e _ _ h3⟩
/-- a call's answer and the shelf behind it; all else stands -/
def Done (C : Addr) (H : Hp) (p b : Addr) (r : Si88.Shelf × Si88.Ans) (Q : VK) : Prop := ∀ (H' : Hp) (D b' : Addr), H D = none → (b' = b ∨ H b' = none) → H' D = some (.lst ((r.2.v :: r.2.l).map V.int)) → ShelfAt C H' p b' r.1 → (∀ b o, H b = some o → b ≠ p → H' b = some o) → Q (.ref D) H'
structure Cst (mg : Str → Option Value) : Prop where
  bad : Num mg "BAD" (-1)
  noThing : Num mg "NO_THING" (-2)
  already : Num mg "ASKED_ALREADY" (-4)
  tooMany : Num mg "TOO_MANY" (-5)
  mostThings : Num mg "MOST_THINGS" 4
  mostTimes : Num mg "MOST_TIMES" 10
  lastRule : Num mg "LAST_RULE" 2
structure ClsT (K : PySem.W.Frag) (C : Addr) : Prop where
  cl : Cls K C
  nR : NoAttr K C "row"
  nA : NoAttr K C "asked"
/-- behind an answer of one number, nothing changed -/
theorem done_one {C p b : Addr} {H : Hp} {s : Si88.Shelf} {z : Int} {Q : VK} (hS : ShelfAt C H p b s) (k : Done C H p b (s, Si88.ok z) Q) {H1 : Hp} (s1 : Same H H1) : ∀ D, H1 D = none → Q (.ref D) (upd H1 D (.lst [V.int z])) := fun D hD =>
  k _ D b (s1.free hD) (.inl rfl) upd_same (hS.same (s1.trans (same_new hD))) fun b o e _ => (s1.trans (same_new hD)) b o e
section
variable {P : Program} {w : World} {K : PySem.W.Frag} {mg : Str → Option Value} {base : Heap} {C : Addr}

/-! ### __init__ -/
def spInit (C : Addr) : Sp := fun vs H Q _ => ∃ (p dx : Addr), vs = [.ref p] ∧ H p = some (.ins C dx []) ∧ ∀ (H' : Hp) (b : Addr), ShelfAt C H' p b Si88.init → (∀ b o, H b = some o → b ≠ p → H' b = some o) → Q .non H'
theorem scInit : FnScope ["self"] ["self"] (defScope sInit) := ⟨rfl, rfl, rfl, by decide +kernel, rfl, by decide +kernel, by decide +kernel⟩
theorem ok_init {f : Addr} {fd : FuncData} (F : Fun K "__init__" "Shelf.__init__" sInit f fd) (T : ClsT K C) : FnOk P w K mg base CX0 1 f fd ["self"] (spInit C) := by
  refine F.ok scInit (fun vs H Q E h => ?_) (fun cdv A outer s H vs Q E hr h => ?_)
  · obtain ⟨p, dx, rfl, _⟩ := h
    rfl
  · obtain ⟨p, dx, rfl, hp, k⟩ := h
    refine ⟨_, pss_cons (ps_fld (pv 0) (pe_tupF (pa_cons pe_int pa_nil)) rfl) (pss_one (ps_fld (pv 0) (pe_lst pa_nil) rfl)), ?_⟩
    refine ⟨(by show 1 ≤ sizeLine; decide), fun a H1 ha s1 o1 ha1 => ?_⟩
    have hpa : p ≠ a := ne_of_none hp ha
    have hp1 : H1 p = some (.ins C dx []) := s1 _ _ hp
    refine ⟨_, rfl, p, C, dx, [], rfl, hp1, T.cl, T.nR, (by show 0 < 1000; decide), ?_⟩
    refine ⟨Nat.zero_le _, fun b hb => ?_⟩
    have hb1 : b ≠ p := fun e => by rw [e, upd_same] at hb; cases hb
    have hb0 : H1 b = none := by rw [upd_ne hb1] at hb; exact hb
    refine ⟨_, rfl, p, C, dx, _, rfl, (by rw [upd_ne (Ne.symm hb1), upd_same]), T.cl, T.nA, (by show 1 < 1000; decide), ?_⟩
    refine k _ b ⟨dx, a, Eq.trans upd_same (congrArg (fun q => some (HO.ins C dx q)) (shF_new a b)), ?_, ?_⟩ fun c o e hc => ?_
    · obtain ⟨ob, e1, e2⟩ := ha1
      exact ⟨ob, by rw [upd_ne (Ne.symm hpa), upd_ne (ne_of_none e1 hb0), upd_ne (Ne.symm hpa)]; exact e1, e2⟩
    · rw [upd_ne hb1, upd_same]
      rfl
    · have e1 := s1 _ _ e
      rw [upd_ne hc, upd_ne (ne_of_none e1 hb0), upd_ne hc]
      exact e1

/-! ### begins -/
def spBegins (C : Addr) : Sp := fun vs H Q _ => ∃ (p b : Addr) (s : Si88.Shelf) (n m : Nat), vs = [.ref p, .int (m : Int)] ∧ ShelfAt C H p b s ∧ Good n s ∧ Done C H p b (Si88.step s (.begins m)) Q
theorem scBegins : FnScope ["self", "many"] ["self", "many"] (defScope sBegins) := ⟨rfl, rfl, rfl, by decide +kernel, rfl, by decide +kernel, by decide +kernel⟩
theorem ok_begins {f : Addr} {fd : FuncData} (F : Fun K "begins" "Shelf.begins" sBegins f fd) (T : ClsT K C) (B : Blt mg) (N : Cst mg) : FnOk P w K mg base CX0 1 f fd ["self", "many"] (spBegins C) := by
  refine F.ok scBegins (fun vs H Q E h => ?_) (fun cdv A outer s H vs Q E hr h => ?_)
  · obtain ⟨p, b0, s, n, m, rfl, _⟩ := h
    rfl
  · obtain ⟨p, b0, s, n, m, rfl, hS, g, k⟩ := h
    refine ⟨_, pss_cons (ps_if (pt_not (pt_chain op_le op_le pe_int (pv 1) (pe_num rfl N.mostThings))) (pss_one (ps_ret (pe_lst (pa_cons (pe_num rfl N.bad) pa_nil)))) pss_nil)
      (pss_cons (ps_fld (pv 0) (pe_tupRgF rfl rfl B.tuple (prg_1 rfl B.range (pv 1))) rfl)
      (pss_cons (ps_fld (pv 0) (pe_lst pa_nil) rfl)
      (pss_one (ps_ret (pe_lst (pa_cons pe_int pa_nil)))))), ?_⟩
    have bad : (m < 1 ∨ 4 < m) → ∀ D, H D = none → Q (.ref D) (upd H D (.lst [V.int (-1)])) := fun hm => by
      have e : Si88.step s (.begins m) = (s, Si88.ok (-1)) := if_pos hm
      rw [e] at k
      exact done_one hS k (Same.refl H)
    refine ⟨_, rfl, _, _, rfl, rfl, _, rfl, ?_⟩
    by_cases h1 : 1 ≤ m
    · have hd : decide ((1 : Int) ≤ (m : Int)) = true := decide_eq_true (by omega)
      rw [hd]
      refine iteT ⟨_, _, rfl, rfl, _, rfl, ?_⟩
      by_cases h4 : m ≤ 4
      · have hd4 : decide ((m : Int) ≤ (4 : Int)) = true := decide_eq_true (by omega)
        rw [hd4]
        refine iteF ?_
        have e : Si88.step s (.begins m) = (⟨List.range m, []⟩, Si88.ok 0) := if_neg (by show ¬ (m < 1 ∨ 4 < m); omega)
        rw [e] at k
        obtain ⟨dx, a0, hp, ha0, hb0⟩ := hS
        refine ⟨_, rfl, (m : Int), rfl, RgOk.of_le (by omega) (by omega) (by omega) (by omega), fun a H1 ha s1 o1 ha1 => ?_⟩
        rw [rgV_vi] at ha1
        have hpa : p ≠ a := ne_of_none hp ha
        have hp1 := s1 _ _ hp
        refine ⟨_, rfl, p, C, dx, _, rfl, hp1, T.cl, T.nR, (by show 2 < 1000; decide), ?_⟩
        refine ⟨Nat.zero_le _, fun b hb => ?_⟩
        have hb1 : b ≠ p := fun e => by rw [e, upd_same] at hb; cases hb
        have hbn : H1 b = none := by rw [upd_ne hb1] at hb; exact hb
        refine ⟨_, rfl, p, C, dx, _, rfl, (by rw [upd_ne (Ne.symm hb1), upd_same]), T.cl, T.nA, (by rw [shF_putR]; show 2 < 1000; decide), ?_⟩
        rw [shF_putR, shF_putA]
        refine ⟨(by show 1 ≤ sizeLine; decide), fun D hD => ?_⟩
        have hDp : D ≠ p := fun e => by rw [e, upd_same] at hD; cases hD
        have hDb : D ≠ b := fun e => by rw [e, upd_ne hb1, upd_same] at hD; cases hD
        have hDn : H1 D = none := by rw [upd_ne hDp, upd_ne hDb, upd_ne hDp] at hD; exact hD
        refine k _ D b (s1.free hDn) (.inr (s1.free hbn)) upd_same ⟨dx, a, ?_, ?_, ?_⟩ fun c o e hc => ?_
        · rw [upd_ne (Ne.symm hDp), upd_same]
        · obtain ⟨ob, e1, e2⟩ := ha1
          exact ⟨ob, by rw [upd_ne (ne_of_none e1 hDn), upd_ne (Ne.symm hpa), upd_ne (ne_of_none e1 hbn), upd_ne (Ne.symm hpa)]; exact e1, e2⟩
        · rw [upd_ne (Ne.symm hDb), upd_ne hb1, upd_same]
          rfl
        · have e1 := s1 _ _ e
          rw [upd_ne (ne_of_none e1 hDn), upd_ne hc, upd_ne (ne_of_none e1 hbn), upd_ne hc]
          exact e1
      · have hd4 : decide ((m : Int) ≤ (4 : Int)) = false := decide_eq_false (by omega)
        rw [hd4]
        exact iteT ⟨(by show 1 ≤ sizeLine; decide), bad (.inr (by omega))⟩
    · have hd : decide ((1 : Int) ≤ (m : Int)) = false := decide_eq_false (by omega)
      rw [hd]
      refine iteF ⟨_, rfl, ?_⟩
      exact iteT ⟨(by show 1 ≤ sizeLine; decide), bad (.inl (by omega))⟩

/-! ### laid -/
def spLaid (K : PySem.W.Frag) (C : Addr) : Sp := fun vs H Q _ => ∃ (p b c : Addr) (s : Si88.Shelf) (n : Nat) (r : List Nat), vs = [.ref p, .ref c] ∧ ShelfAt C H p b s ∧ Good n s ∧ SqL K H c (vi r) ∧ Done C H p b (Si88.step s (.laid r)) Q
theorem scLaid : FnScope ["self", "some"] ["self", "some"] (defScope sLaid) := ⟨rfl, rfl, rfl, by decide +kernel, rfl, by decide +kernel, by decide +kernel⟩
theorem ok_laid {f : Addr} {fd : FuncData} (F : Fun K "laid" "Shelf.laid" sLaid f fd) (T : ClsT K C) (B : Blt mg) (N : Cst mg) (GI : Has P w K mg base 1 "is_row" ["some", "many"] (spIsRow K)) : FnOk P w K mg base CX0 2 f fd ["self", "some"] (spLaid K C) := by
  refine F.ok scLaid (fun vs H Q E h => ?_) (fun cdv A outer s H vs Q E hr h => ?_)
  · obtain ⟨p, b, c, s, n, r, rfl, _⟩ := h
    rfl
  · obtain ⟨p, b, c, s, n, r, rfl, hS, g, hc, k⟩ := h
    refine ⟨_, pss_cons (ps_if (pt_not (pt_val (pe_has GI hr rfl (pa_cons (pv 1) (pa_cons (pe_callB call_len_seq (by rfl) B.len PySem.boot_len (pa_cons (pe_fld (pv 0) rfl) pa_nil)) pa_nil))))) (pss_one (ps_ret (pe_lst (pa_cons (pe_num rfl N.bad) pa_nil)))) pss_nil)
      (pss_cons (ps_if (pt_cmpR (op_neD hr.units) (pe_fld (pv 0) rfl) (pe_lst pa_nil) (nomark _)) (pss_one (ps_ret (pe_lst (pa_cons (pe_num rfl N.already) pa_nil)))) pss_nil)
      (pss_cons (ps_fld (pv 0) (pe_callTy call_tupleF (by rfl) B.tuple (by decide +kernel) (pa_cons (pv 1) pa_nil)) rfl)
      (pss_one (ps_ret (pe_lst (pa_cons pe_int pa_nil)))))), ?_⟩
    have hS0 := hS
    obtain ⟨dx, a, hp, ha, hb⟩ := hS
    refine ⟨_, rfl, _, rfl, p, C, dx, _, _, rfl, hp, T.cl, T.nR, shF_row a b, a, _, rfl, .inr ha.seq, c, r, n, (by rw [vi_len, g.count]; rfl), hc, g.hi, fun H1 s1 => ?_⟩
    refine ⟨_, rfl, ?_⟩
    cases hrow : rowB n r with
    | false =>
      have e : Si88.step s (.laid r) = (s, Si88.ok (-1)) := if_pos (by rw [isRow_rowB g, hrow])
      rw [e] at k
      exact iteT ⟨(by show 1 ≤ sizeLine; decide), done_one hS0 k s1⟩
    | true =>
      refine iteF ?_
      have hp1 := s1 _ _ hp
      refine ⟨_, rfl, p, C, dx, _, _, rfl, hp1, T.cl, T.nA, shF_asked a b, Nat.zero_le _, fun z hz => ?_⟩
      have s2 : Same H (upd H1 z (.lst [])) := s1.trans (same_new hz)
      refine ⟨.list ((izs s.asked).map PyData.int), .list ((izs []).map PyData.int), .lst (SqL.of (s2 _ _ hb)) (by rw [← vi_izs]; exact dp_ints _), .lst (SqL.of upd_same) .nil, PySem.W.ke_shaped_ints _, PySem.W.ke_shaped_ints _, ?_⟩
      rw [PyData.eqv, eqv_ints]
      refine ⟨_, rfl, ?_⟩
      by_cases he : s.asked = []
      · have hd : (!decide (izs s.asked = izs [])) = false := by rw [he]; simp
        rw [hd]
        refine iteF ?_
        have e : Si88.step s (.laid r) = ({ s with row := r }, Si88.ok 0) := (if_neg (by rw [isRow_rowB g, hrow]; simp)).trans (if_neg (by simp [he]))
        rw [e] at k
        refine ⟨_, rfl, c, _, rfl, s2.seq hc, fun q H3 hq s3 o3 hq3 => ?_⟩
        have s13 := s2.trans s3
        have hp3 := s13 _ _ hp
        refine ⟨_, rfl, p, C, dx, _, rfl, hp3, T.cl, T.nR, (by show 2 < 1000; decide), ?_⟩
        rw [shF_putR]
        refine ⟨(by show 1 ≤ sizeLine; decide), fun D hD => ?_⟩
        have hDp : D ≠ p := fun e => by rw [e, upd_same] at hD; cases hD
        have hDn : H3 D = none := by rw [upd_ne hDp] at hD; exact hD
        have hqp : q ≠ p := fun e => by rw [e, s2 _ _ hp] at hq; cases hq
        refine k _ D b (s13.free hDn) (.inl rfl) upd_same ⟨dx, q, ?_, ?_, ?_⟩ fun c o e hc => ?_
        · rw [upd_ne (Ne.symm hDp), upd_same]
        · obtain ⟨ob, e1, e2⟩ := hq3
          exact ⟨ob, by rw [upd_ne (ne_of_none e1 hDn), upd_ne hqp]; exact e1, e2⟩
        · have e1 := s13 _ _ hb
          rw [upd_ne (ne_of_none e1 hDn), upd_ne (ne_of hb hp fun z => nomatch z)]
          exact e1
        · have e1 := s13 _ _ e
          rw [upd_ne (ne_of_none e1 hDn), upd_ne hc]
          exact e1
      · have hne : ¬ izs s.asked = izs [] := fun q => he (List.map_eq_nil_iff.mp q)
        have hd : (!decide (izs s.asked = izs [])) = true := by rw [decide_eq_false hne]; rfl
        rw [hd]
        have e : Si88.step s (.laid r) = (s, Si88.ok (-4)) := (if_neg (by rw [isRow_rowB g, hrow]; simp)).trans (if_pos he)
        rw [e] at k
        exact iteT ⟨(by show 1 ≤ sizeLine; decide), done_one hS0 k s2⟩
end
end Cr
set_option Elab.async false
set_option linter.all false
set_option maxRecDepth 100000
set_option maxHeartbeats 4000000
/-! shelf.py: asks, fixed, best, rule, least. -/
namespace Cr
open PySem PySem.Spec PyProof.Rows L2
section
variable {P : Program} {w : World} {K : PySem.W.Frag} {mg : Str → Option Value} {base : Heap} {C : Addr}

/-! ### asks -/
def spAsks (C : Addr) : Sp := fun vs H Q _ => ∃ (p b : Addr) (s : Si88.Shelf) (n t : Nat), vs = [.ref p, .int (t : Int)] ∧ ShelfAt C H p b s ∧ Good n s ∧ Done C H p b (Si88.step s (.asks t)) Q
theorem scAsks : FnScope ["self", "thing"] ["self", "thing"] (defScope sAsks) := ⟨rfl, rfl, rfl, by decide +kernel, rfl, by decide +kernel, by decide +kernel⟩
theorem ok_asks {f : Addr} {fd : FuncData} (F : Fun K "asks" "Shelf.asks" sAsks f fd) (T : ClsT K C) (B : Blt mg) (N : Cst mg) : FnOk P w K mg base CX0 1 f fd ["self", "thing"] (spAsks C) := by
  refine F.ok scAsks (fun vs H Q E h => ?_) (fun cdv A outer s H vs Q E hr h => ?_)
  · obtain ⟨p, b, s, n, t, rfl, _⟩ := h
    rfl
  · obtain ⟨p, b, s, n, t, rfl, hS, g, k⟩ := h
    refine ⟨_, pss_cons (ps_if (pt_cmpR op_ge (pv 1) (pe_callB call_len_seq (by rfl) B.len PySem.boot_len (pa_cons (pe_fld (pv 0) rfl) pa_nil)) (nomark _)) (pss_one (ps_ret (pe_lst (pa_cons (pe_num rfl N.noThing) pa_nil)))) pss_nil)
      (pss_cons (ps_if (pt_cmpR op_eq (pe_callB call_len_seq (by rfl) B.len PySem.boot_len (pa_cons (pe_fld (pv 0) rfl) pa_nil)) (pe_num rfl N.mostTimes) (nomark _)) (pss_one (ps_ret (pe_lst (pa_cons (pe_num rfl N.tooMany) pa_nil)))) pss_nil)
      (pss_cons (ps_fld (pv 0) (pe_op op_cat (pe_fld (pv 0) rfl) (pe_lst (pa_cons (pv 1) pa_nil))) rfl)
      (pss_one (ps_ret (pe_lst (pa_cons (pe_callB call_len_seq (by rfl) B.len PySem.boot_len (pa_cons (pe_fld (pv 0) rfl) pa_nil)) pa_nil)))))), ?_⟩
    have hS0 := hS
    obtain ⟨dx, a, hp, ha, hb⟩ := hS
    have hcount : s.count = n := g.count
    refine ⟨_, rfl, _, rfl, p, C, dx, _, _, rfl, hp, T.cl, T.nR, shF_row a b, a, _, rfl, .inr ha.seq, _, _, rfl, rfl, _, rfl, ?_⟩
    rw [vi_len, g.count]
    by_cases ht : n ≤ t
    · have hd : decide ((n : Int) ≤ (t : Int)) = true := decide_eq_true (by omega)
      rw [hd]
      have e : Si88.step s (.asks t) = (s, Si88.ok (-2)) := if_pos (by rw [hcount]; exact ht)
      rw [e] at k
      exact iteT ⟨(by show 1 ≤ sizeLine; decide), done_one hS0 k (Same.refl H)⟩
    · have hd : decide ((n : Int) ≤ (t : Int)) = false := decide_eq_false (by omega)
      rw [hd]
      refine iteF ?_
      refine ⟨_, rfl, p, C, dx, _, _, rfl, hp, T.cl, T.nA, shF_asked a b, b, _, rfl, .inl (SqL.of hb), rfl, _, rfl, ?_⟩
      rw [vi_len]
      by_cases hl : s.asked.length = 10
      · have hd2 : decide (V.int (s.asked.length : Int) = V.int 10) = true := by rw [hl]; rfl
        rw [hd2]
        have e : Si88.step s (.asks t) = (s, Si88.ok (-5)) := (if_neg (by rw [hcount]; exact ht)).trans (if_pos (by show 10 ≤ s.asked.length; omega))
        rw [e] at k
        exact iteT ⟨(by show 1 ≤ sizeLine; decide), done_one hS0 k (Same.refl H)⟩
      · have hd2 : decide (V.int (s.asked.length : Int) = V.int 10) = false := decide_eq_false fun q => hl (by have := V.int.inj q; omega)
        rw [hd2]
        refine iteF ?_
        have hlen := g.len
        have e : Si88.step s (.asks t) = ({ s with asked := s.asked ++ [t] }, Si88.ok ((s.asked.length : Nat) + 1)) := (if_neg (by rw [hcount]; exact ht)).trans (if_neg (by show ¬ 10 ≤ s.asked.length; omega))
        rw [e] at k
        refine ⟨_, rfl, p, C, dx, _, _, rfl, hp, T.cl, T.nA, shF_asked a b, _, rfl, (by show 1 ≤ sizeLine; decide), fun z hz => ?_⟩
        have s1 : Same H (upd H z (.lst [V.int (t : Int)])) := same_new hz
        refine ⟨b, z, _, _, rfl, rfl, s1 _ _ hb, upd_same, (by rw [vi_len]; exact small100 (by show _ + 1 ≤ _; omega)), fun y hy => ?_⟩
        have s2 := s1.trans (same_new (o := .lst (vi s.asked ++ [V.int (t : Int)])) hy)
        have hp2 := s2 _ _ hp
        refine ⟨_, rfl, p, C, dx, _, rfl, hp2, T.cl, T.nA, (by show 2 < 1000; decide), ?_⟩
        rw [shF_putA]
        have hyp : y ≠ p := fun e => by rw [e, s1 _ _ hp] at hy; cases hy
        have hy3 : upd (upd (upd H z (.lst [V.int (t : Int)])) y (.lst (vi s.asked ++ [V.int (t : Int)]))) p (.ins C dx (shF a y)) y = some (.lst (vi (s.asked ++ [t]))) := by
          rw [upd_ne hyp, upd_same, vi_append]
          rfl
        refine ⟨_, rfl, p, C, dx, _, _, rfl, upd_same, T.cl, T.nA, shF_asked a y, y, _, rfl, .inl (SqL.of hy3), (by show 1 ≤ sizeLine; decide), fun D hD => ?_⟩
        have hDp : D ≠ p := fun e => by rw [e, upd_same] at hD; cases hD
        have hDn : upd (upd H z (.lst [V.int (t : Int)])) y (.lst (vi s.asked ++ [V.int (t : Int)])) D = none := by rw [upd_ne hDp] at hD; exact hD
        have hDy : D ≠ y := fun e => by rw [e, upd_same] at hDn; cases hDn
        refine k _ D y (s2.free hDn) (.inr (s1.free hy)) ?_ ⟨dx, a, ?_, ?_, ?_⟩ fun c o e hc => ?_
        · rw [upd_same, vi_len, List.length_append]
          rfl
        · rw [upd_ne (Ne.symm hDp), upd_same]
        · obtain ⟨ob, e1, e2⟩ := ha.same s2
          exact ⟨ob, by rw [upd_ne (ne_of_none e1 hDn), upd_ne (ne_of e1 hp2 fun z => nomatch z)]; exact e1, e2⟩
        · rw [upd_ne (Ne.symm hDy)]
          exact hy3
        · have e1 := s2 _ _ e
          rw [upd_ne (ne_of_none e1 hDn), upd_ne hc]
          exact e1

/-! ### fixed -/
def spFixed (K : PySem.W.Frag) (C : Addr) : Sp := fun vs H Q _ => ∃ (p b c : Addr) (s : Si88.Shelf) (n : Nat) (r : List Nat), vs = [.ref p, .ref c] ∧ ShelfAt C H p b s ∧ Good n s ∧ SqL K H c (vi r) ∧ Done C H p b (Si88.step s (.fixed r)) Q
theorem scFixed : FnScope ["self", "some"] ["self", "some"] (defScope sFixed) := ⟨rfl, rfl, rfl, by decide +kernel, rfl, by decide +kernel, by decide +kernel⟩
theorem ok_fixed {f : Addr} {fd : FuncData} (F : Fun K "fixed" "Shelf.fixed" sFixed f fd) (T : ClsT K C) (B : Blt mg) (N : Cst mg) (GI : Has P w K mg base 1 "is_row" ["some", "many"] (spIsRow K)) (GS : Has P w K mg base 2 "steps_in" ["row", "asked"] (spStepsIn K)) :
    FnOk P w K mg base CX0 3 f fd ["self", "some"] (spFixed K C) := by
  refine F.ok scFixed (fun vs H Q E h => ?_) (fun cdv A outer s H vs Q E hr h => ?_)
  · obtain ⟨p, b, c, s, n, r, rfl, _⟩ := h
    rfl
  · obtain ⟨p, b, c, s, n, r, rfl, hS, g, hc, k⟩ := h
    have hr1 : Room 1 _ := hr.mono (by decide)
    refine ⟨_, pss_one (ps_ret (pe_ifExp (pt_val (pe_has GI hr1 rfl (pa_cons (pv 1) (pa_cons (pe_callB call_len_seq (by rfl) B.len PySem.boot_len (pa_cons (pe_fld (pv 0) rfl) pa_nil)) pa_nil))))
      (pe_lst (pa_cons (pe_has GS hr rfl (pa_cons (pe_callTy call_tupleF (by rfl) B.tuple (by decide +kernel) (pa_cons (pv 1) pa_nil)) (pa_cons (pe_fld (pv 0) rfl) pa_nil))) pa_nil))
      (pe_lst (pa_cons (pe_num rfl N.bad) pa_nil)))), ?_⟩
    have hS0 := hS
    obtain ⟨dx, a, hp, ha, hb⟩ := hS
    refine ⟨_, rfl, _, rfl, p, C, dx, _, _, rfl, hp, T.cl, T.nR, shF_row a b, a, _, rfl, .inr ha.seq, c, r, n, (by rw [vi_len, g.count]; rfl), hc, g.hi, fun H1 s1 => ?_⟩
    refine ⟨_, rfl, ?_⟩
    cases hrow : rowB n r with
    | false =>
      have e : Si88.step s (.fixed r) = (s, Si88.ok (-1)) := if_pos (by rw [isRow_rowB g, hrow])
      rw [e] at k
      exact iteF ⟨(by show 1 ≤ sizeLine; decide), done_one hS0 k s1⟩
    | true =>
      have e : Si88.step s (.fixed r) = (s, Si88.ok ((Si88.fixed r s.asked : Nat) : Int)) := if_neg (by rw [isRow_rowB g, hrow]; simp)
      rw [e] at k
      have hrr := rowB_row g.lo g.hi hrow
      refine iteT ⟨_, rfl, c, _, rfl, s1.seq hc, fun q H2 hq s2 o2 hq2 => ?_⟩
      have s12 := s1.trans s2
      refine ⟨_, rfl, p, C, dx, _, _, rfl, s12 _ _ hp, T.cl, T.nA, shF_asked a b, q, b, r, s.asked, rfl, hq2, SqL.of (s12 _ _ hb), g.len, fun t ht => row_mem g.lo g.hi hrr (g.lt t ht), fun H3 s3 => ?_⟩
      exact ⟨(by show 1 ≤ sizeLine; decide), done_one hS0 k (s12.trans s3)⟩

/-! ### best -/
def spBest (C : Addr) : Sp := fun vs H Q _ => ∃ (p b : Addr) (s : Si88.Shelf) (n : Nat), vs = [.ref p] ∧ ShelfAt C H p b s ∧ Good n s ∧ Done C H p b (Si88.step s .best) Q
theorem scBest : FnScope ["self", "found", "rows"] ["self"] (defScope sBest) := ⟨rfl, rfl, rfl, by decide +kernel, rfl, by decide +kernel, by decide +kernel⟩
theorem step_bestG {n : Nat} {s : Si88.Shelf} (g : Good n s) {m : Nat} (hm : Least m ((allRows n).map fun r => Si88.fixed r s.asked)) :
    ∃ r, (goodRows n s.asked m)[0]? = some r ∧ Si88.step s .best = (s, ⟨((m : Nat) : Int), Si88.ints ((goodRows n s.asked m).length :: r)⟩) := step_best g hm
theorem ok_best {f : Addr} {fd : FuncData} (F : Fun K "best" "Shelf.best" sBest f fd) (T : ClsT K C) (B : Blt mg) (GB : Has P w K mg base 3 "best_rows" ["many", "asked"] (spBestRows K)) : FnOk P w K mg base CX0 4 f fd ["self"] (spBest C) := by
  refine F.ok scBest (fun vs H Q E h => ?_) (fun cdv A outer s H vs Q E hr h => ?_)
  · obtain ⟨p, b, s, n, rfl, _⟩ := h
    rfl
  · obtain ⟨p, b, s, n, rfl, hS, g, k⟩ := h
    refine ⟨_, pss_cons (ps_asg (pe_has GB hr rfl (pa_cons (pe_callB call_len_seq (by rfl) B.len PySem.boot_len (pa_cons (pe_fld (pv 0) rfl) pa_nil)) (pa_cons (pe_fld (pv 0) rfl) pa_nil))) (pg_tup rfl (pgs_cons (pg_name (i := 1) scBest.nd rfl (Or.inl rfl)) (pgs_cons (pg_name (i := 2) scBest.nd rfl (Or.inl rfl)) pgs_nil))))
      (pss_one (ps_ret (pe_op op_cat (pe_lst (pa_cons (pv 1) (pa_cons (pe_callB call_len_seq (by rfl) B.len PySem.boot_len (pa_cons (pv 2) pa_nil)) pa_nil))) (pe_callTy call_list_of (by rfl) B.list (by decide +kernel) (pa_cons (pe_ix ix_list (pv 2) pe_int (fun _ _ => rfl)) pa_nil))))), ?_⟩
    have hS0 := hS
    obtain ⟨dx, a, hp, ha, hb⟩ := hS
    refine ⟨_, rfl, p, C, dx, _, _, rfl, hp, T.cl, T.nR, shF_row a b, a, _, rfl, .inr ha.seq, _, rfl, p, C, dx, _, _, rfl, hp, T.cl, T.nA, shF_asked a b, b, s.asked, n, (by rw [vi_len, g.count]; rfl), g.lo, g.hi, SqL.of hb, g.len, g.lt, fun H1 q D xs m s1 hq hD hX hm => ?_⟩
    obtain ⟨r, hr0, e⟩ := step_bestG g hm
    rw [e] at k
    refine ⟨q, _, rfl, SqT.of hq, rfl, _, _, rfl, _, _, rfl, rfl, ?_⟩
    have hxl : xs.length = (goodRows n s.asked m).length := Paired.length hX
    have hrm : r ∈ goodRows n s.asked m := List.mem_of_getElem? hr0
    have hrow : r ∈ allRows n := (List.mem_filter.mp hrm).1
    have hrl := row_len g.lo g.hi hrow
    have hn4 := g.hi
    obtain ⟨v0, hv0⟩ : ∃ v, xs[0]? = some v := by
      have : 0 < xs.length := by
        rw [hxl]
        exact List.length_pos_of_mem hrm
      exact ⟨_, List.getElem?_eq_getElem this⟩
    obtain ⟨r', c, hr', rfl, hc⟩ := hX.get hv0
    rw [hr0] at hr'
    cases hr'
    refine ⟨_, rfl, _, rfl, D, _, rfl, .inl (SqL.of hD), (by show 2 ≤ sizeLine; decide), fun y hy => ?_⟩
    have s2 : Same H1 (upd H1 y (.lst [V.int (m : Int), V.int (xs.length : Int)])) := same_new hy
    refine ⟨_, rfl, D, _, _, _, rfl, rfl, SqL.of (s2 _ _ hD), at_of (j := 0) rfl hv0, c, _, rfl, .inr (hc.same s2).seq, fun z hz => ?_⟩
    have hyz : y ≠ z := fun e => by rw [← e, upd_same] at hz; cases hz
    refine ⟨y, z, _, _, rfl, rfl, (by rw [upd_ne hyz]; exact upd_same), upd_same, (by rw [vi_len, hrl]; exact small100 (by show 2 + _ ≤ _; omega)), fun G hG => ?_⟩
    have s4 := ((s1.trans s2).trans (same_new (o := .lst (vi r)) hz)).trans (same_new (o := .lst ([V.int (m : Int), V.int (xs.length : Int)] ++ vi r)) hG)
    refine k _ G b (((s1.trans s2).trans (same_new hz)).free hG) (.inl rfl) ?_ (hS0.same s4) fun b o e _ => s4 b o e
    rw [upd_same, hxl]
    show _ = some (HO.lst ((((m : Nat) : Int) :: Si88.ints ((goodRows n s.asked m).length :: r)).map V.int))
    rw [vi_ints]
    rfl

/-! ### rule -/
def spRule (C : Addr) : Sp := fun vs H Q _ => ∃ (p b : Addr) (s : Si88.Shelf) (n j : Nat), vs = [.ref p, .int (j : Int)] ∧ ShelfAt C H p b s ∧ Good n s ∧ Done C H p b (Si88.step s (.rule j)) Q
theorem scRule : FnScope ["self", "which", "found", "row"] ["self", "which"] (defScope sRule) := ⟨rfl, rfl, rfl, by decide +kernel, rfl, by decide +kernel, by decide +kernel⟩
theorem ok_rule {f : Addr} {fd : FuncData} (F : Fun K "rule" "Shelf.rule" sRule f fd) (T : ClsT K C) (B : Blt mg) (N : Cst mg) (GB : Has P w K mg base 3 "by_rule" ["rule", "row", "asked"] (spByRule K)) : FnOk P w K mg base CX0 4 f fd ["self", "which"] (spRule C) := by
  refine F.ok scRule (fun vs H Q E h => ?_) (fun cdv A outer s H vs Q E hr h => ?_)
  · obtain ⟨p, b, s, n, j, rfl, _⟩ := h
    rfl
  · obtain ⟨p, b, s, n, j, rfl, hS, g, k⟩ := h
    refine ⟨_, pss_cons (ps_if (pt_cmpR op_gt (pv 1) (pe_num rfl N.lastRule) (nomark _)) (pss_one (ps_ret (pe_lst (pa_cons (pe_num rfl N.bad) pa_nil)))) pss_nil)
      (pss_cons (ps_asg (pe_has GB hr rfl (pa_cons (pv 1) (pa_cons (pe_fld (pv 0) rfl) (pa_cons (pe_fld (pv 0) rfl) pa_nil)))) (pg_tup rfl (pgs_cons (pg_name (i := 2) scRule.nd rfl (Or.inl rfl)) (pgs_cons (pg_name (i := 3) scRule.nd rfl (Or.inl rfl)) pgs_nil))))
      (pss_one (ps_ret (pe_op op_cat (pe_lst (pa_cons (pv 2) pa_nil)) (pe_callTy call_list_of (by rfl) B.list (by decide +kernel) (pa_cons (pv 3) pa_nil)))))), ?_⟩
    have hS0 := hS
    obtain ⟨dx, a, hp, ha, hb⟩ := hS
    refine ⟨_, rfl, _, _, rfl, rfl, _, rfl, ?_⟩
    by_cases hj : 2 < j
    · have hd : decide ((2 : Int) < (j : Int)) = true := decide_eq_true (by omega)
      rw [hd]
      have e : Si88.step s (.rule j) = (s, Si88.ok (-1)) := if_pos hj
      rw [e] at k
      exact iteT ⟨(by show 1 ≤ sizeLine; decide), done_one hS0 k (Same.refl H)⟩
    · have hd : decide ((2 : Int) < (j : Int)) = false := decide_eq_false (by omega)
      rw [hd]
      refine iteF ?_
      have e : Si88.step s (.rule j) = (s, ⟨(((Si88.ruled j [] s.row s.asked).1 : Nat) : Int), Si88.ints (Si88.ruled j [] s.row s.asked).2⟩) := if_neg hj
      rw [e] at k
      refine ⟨_, rfl, _, rfl, p, C, dx, _, _, rfl, hp, T.cl, T.nR, shF_row a b, _, rfl, p, C, dx, _, _, rfl, hp, T.cl, T.nA, shF_asked a b, a, b, s.row, s.asked, j, n, rfl, g.lo, g.hi, ha, g.row, SqL.of hb, g.len, g.lt, fun H1 q c s1 hq hc hl => ?_⟩
      refine ⟨q, _, rfl, SqT.of hq, rfl, _, _, rfl, _, _, rfl, rfl, ?_⟩
      refine ⟨_, rfl, (by show 1 ≤ sizeLine; decide), fun y hy => ?_⟩
      have s2 : Same H1 (upd H1 y (.lst [V.int ((Si88.ruled j [] s.row s.asked).1 : Nat)])) := same_new hy
      refine ⟨_, rfl, c, _, rfl, .inr (hc.same s2).seq, fun z hz => ?_⟩
      have hyz : y ≠ z := fun e => by rw [← e, upd_same] at hz; cases hz
      refine ⟨y, z, _, _, rfl, rfl, (by rw [upd_ne hyz]; exact upd_same), upd_same, (by rw [vi_len]; exact small100 (by show 1 + _ ≤ _; omega)), fun G hG => ?_⟩
      have s4 := ((s1.trans s2).trans (same_new (o := .lst (vi (Si88.ruled j [] s.row s.asked).2)) hz)).trans (same_new (o := .lst ([V.int ((Si88.ruled j [] s.row s.asked).1 : Nat)] ++ vi (Si88.ruled j [] s.row s.asked).2)) hG)
      refine k _ G b (((s1.trans s2).trans (same_new hz)).free hG) (.inl rfl) ?_ (hS0.same s4) fun b o e _ => s4 b o e
      rw [upd_same, vi_ints]
      rfl

/-! ### least -/
def spLeast (C : Addr) : Sp := fun vs H Q _ => ∃ (p b : Addr) (s : Si88.Shelf) (n : Nat), vs = [.ref p] ∧ ShelfAt C H p b s ∧ Good n s ∧ Done C H p b (Si88.step s .least) Q
theorem scLeast : FnScope ["self"] ["self"] (defScope sLeast) := ⟨rfl, rfl, rfl, by decide +kernel, rfl, by decide +kernel, by decide +kernel⟩
theorem ok_least {f : Addr} {fd : FuncData} (F : Fun K "least" "Shelf.least" sLeast f fd) (T : ClsT K C) (GL : Has P w K mg base 4 "least_at_all" ["row", "asked"] (spLeastAll K)) : FnOk P w K mg base CX0 5 f fd ["self"] (spLeast C) := by
  refine F.ok scLeast (fun vs H Q E h => ?_) (fun cdv A outer s H vs Q E hr h => ?_)
  · obtain ⟨p, b, s, n, rfl, _⟩ := h
    rfl
  · obtain ⟨p, b, s, n, rfl, hS, g, k⟩ := h
    refine ⟨_, pss_one (ps_ret (pe_lst (pa_cons (pe_has GL hr rfl (pa_cons (pe_fld (pv 0) rfl) (pa_cons (pe_fld (pv 0) rfl) pa_nil))) pa_nil))), ?_⟩
    have hS0 := hS
    obtain ⟨dx, a, hp, ha, hb⟩ := hS
    refine ⟨_, rfl, p, C, dx, _, _, rfl, hp, T.cl, T.nR, shF_row a b, _, rfl, p, C, dx, _, _, rfl, hp, T.cl, T.nA, shF_asked a b, a, b, s.row, s.asked, n, rfl, g.lo, g.hi, ha, g.row, SqL.of hb, g.lt, fun H1 s1 => ?_⟩
    rw [later_least g.lo g.hi g.row]
    exact ⟨(by show 1 ≤ sizeLine; decide), done_one hS0 k s1⟩
end
end Cr
set_option Elab.async false
set_option linter.all false
set_option maxRecDepth 100000
set_option maxHeartbeats 4000000
/-! shelves.py. -/
namespace Cr
open PySem PySem.Spec PyProof.Rows L2

/-! ### plain words about the calls in one list -/
/-- of each call: how many numbers and how many rows stand behind it -/
def shp : List (Nat × Nat) := [(1, 0), (0, 1), (1, 0), (0, 1), (0, 0), (1, 0), (0, 0)]
/-- a call's number, its numbers, its rows, what it asks -/
inductive Ask : Nat → List Nat → List (List Nat) → Si88.Call → Prop
  | begins (m : Nat) : Ask 0 [m] [] (.begins m)
  | laid (r : List Nat) : Ask 1 [] [r] (.laid r)
  | asks (t : Nat) : Ask 2 [t] [] (.asks t)
  | fixed (r : List Nat) : Ask 3 [] [r] (.fixed r)
  | best : Ask 4 [] [] .best
  | rule (k : Nat) : Ask 5 [k] [] (.rule k)
  | least : Ask 6 [] [] .least
/-- rows, each behind how many numbers it has -/
def flatR (rows : List (List Nat)) : List Int := rows.flatMap fun u => ((u.length : Nat) : Int) :: izs u
theorem izs_len (u : List Nat) : (izs u).length = u.length := by simp [izs]
theorem one_parts {p : Int} {r t : List Int} {c : List (List Int)} (h : One p r t c) (h0 : ∀ z ∈ r, 0 ≤ z) :
    ∃ (j many wide : Nat) (nums : List Nat) (rows : List (List Nat)) (q : Si88.Call), p = (j : Int) ∧ shp[j]? = some (many, wide) ∧ nums.length = many ∧ rows.length = wide ∧ Means c q ∧ Ask j nums rows q ∧ r = izs nums ++ (flatR rows ++ t) := by
  have row : ∀ (m : Nat) (u t : List Int), u.length = m → (∀ z ∈ u, 0 ≤ z) → ((m : Int) :: (u ++ t)) = flatR [u.map Int.toNat] ++ t := fun m u t hu hz => by
    unfold flatR
    rw [List.flatMap_cons, List.flatMap_nil, List.append_nil, izs_of hz, List.length_map, hu]
    rfl
  cases h with
  | n0 x t =>
    have hx := h0 x List.mem_cons_self
    refine ⟨0, 1, 0, [x.toNat], [], .begins x.toNat, rfl, rfl, rfl, rfl, ?_, .begins _, ?_⟩
    · have := Means.begins x.toNat
      rw [Int.toNat_of_nonneg hx] at this
      exact this
    · show x :: t = ((x.toNat : Nat) : Int) :: t
      rw [Int.toNat_of_nonneg hx]
  | n1 m u t hu =>
    have hz : ∀ z ∈ u, 0 ≤ z := fun z hz => h0 z (List.mem_cons_of_mem _ (List.mem_append_left _ hz))
    refine ⟨1, 0, 1, [], [u.map Int.toNat], .laid (u.map Int.toNat), rfl, rfl, rfl, rfl, ?_, .laid _, row m u t hu hz⟩
    have := Means.laid (u.map Int.toNat)
    rw [izs_of hz] at this
    exact this
  | n2 x t =>
    have hx := h0 x List.mem_cons_self
    refine ⟨2, 1, 0, [x.toNat], [], .asks x.toNat, rfl, rfl, rfl, rfl, ?_, .asks _, ?_⟩
    · have := Means.asks x.toNat
      rw [Int.toNat_of_nonneg hx] at this
      exact this
    · show x :: t = ((x.toNat : Nat) : Int) :: t
      rw [Int.toNat_of_nonneg hx]
  | n3 m u t hu =>
    have hz : ∀ z ∈ u, 0 ≤ z := fun z hz => h0 z (List.mem_cons_of_mem _ (List.mem_append_left _ hz))
    refine ⟨3, 0, 1, [], [u.map Int.toNat], .fixed (u.map Int.toNat), rfl, rfl, rfl, rfl, ?_, .fixed _, row m u t hu hz⟩
    have := Means.fixed (u.map Int.toNat)
    rw [izs_of hz] at this
    exact this
  | n4 t => exact ⟨4, 0, 0, [], [], .best, rfl, rfl, rfl, rfl, .best, .best, rfl⟩
  | n5 x t =>
    have hx := h0 x List.mem_cons_self
    refine ⟨5, 1, 0, [x.toNat], [], .rule x.toNat, rfl, rfl, rfl, rfl, ?_, .rule _, ?_⟩
    · have := Means.rule x.toNat
      rw [Int.toNat_of_nonneg hx] at this
      exact this
    · show x :: t = ((x.toNat : Nat) : Int) :: t
      rw [Int.toNat_of_nonneg hx]
  | n6 t => exact ⟨6, 0, 0, [], [], .least, rfl, rfl, rfl, rfl, .least, .least, rfl⟩
theorem drop_at {α : Type} {l r : List α} {i : Nat} {x : α} (h : l.drop i = x :: r) : l[i]? = some x ∧ l.drop (i + 1) = r ∧ i < l.length := by
  have h1 : i < l.length := by
    by_cases c : i < l.length
    · exact c
    · rw [List.drop_of_length_le (by omega)] at h
      cases h
  have h2 := List.drop_eq_getElem_cons h1
  rw [h] at h2
  have e1 : x = l[i] := (List.cons.inj h2).1
  exact ⟨by rw [List.getElem?_eq_getElem h1, e1], (List.cons.inj h2).2.symm, h1⟩
theorem drop_more {α : Type} {l a b : List α} {i : Nat} (h : l.drop i = a ++ b) : l.drop (i + a.length) = b := by
  rw [← List.drop_drop, h, List.drop_left]
theorem cut_mid (zs : List Int) (i k : Nat) : cutV (zs.map V.int) (some (i : Int)) (some ((i + k : Nat) : Int)) = ((zs.drop i).take k).map V.int := by
  unfold cutV
  rw [HT.sIx_nat, HT.sIx_nat, List.map_take, List.map_drop, List.length_map]
  by_cases h : i ≤ zs.length
  · rw [Nat.min_eq_left h]
    by_cases h2 : i + k ≤ zs.length
    · rw [Nat.min_eq_left h2, Nat.add_sub_cancel_left]
    · rw [Nat.min_eq_right (by omega), List.take_of_length_le (by rw [List.length_drop, List.length_map]; omega), List.take_of_length_le (by rw [List.length_drop, List.length_map]; omega)]
  · rw [List.drop_of_length_le (i := min i zs.length) (by rw [List.length_map]; omega), List.drop_of_length_le (i := i) (by rw [List.length_map]; omega)]
    simp
theorem at_zs {zs : List Int} {i : Nat} {x : Int} (h : zs[i]? = some x) : atI (zs.map V.int) (i : Int) = some (V.int x) := at_of (j := i) rfl (by rw [List.getElem?_map, h]; rfl)
theorem go_T {c : Bool} {A B : Prop} (hc : c = true) (h : A) : if c = true then A else B := by
  rw [hc]
  exact iteT h
theorem go_F {c : Bool} {A B : Prop} (hc : c = false) (h : B) : if c = true then A else B := by
  rw [hc]
  exact iteF h
/-- a method of the class, by its name: it keeps its promise -/
def HasM (P : Program) (w : World) (K : PySem.W.Frag) (mg : Str → Option Value) (base : Heap) (C : Addr) (k : Nat) (m : Str) (ps : List Str) (sp : Sp) : Prop :=
  ∃ (f : Addr) (fd : FuncData), Meth K C m f ∧ FnOk P w K mg base CX0 k f fd ps sp ∧ Binds K fd ps []
section
variable {P : Program} {w : World} {K : PySem.W.Frag} {mg : Str → Option Value} {base : Heap} {C : Addr}

/-! ### answer -/
abbrev RowsAt (K : PySem.W.Frag) (H : Hp) (cs : List Addr) (rows : List (List Nat)) : Prop := Paired (fun (c : Addr) (r : List Nat) => SqL K H c (vi r)) cs rows
def spAnswer (K : PySem.W.Frag) (C : Addr) : Sp := fun vs H Q _ => ∃ (p a b e : Addr) (s : Si88.Shelf) (n j : Nat) (nums : List Nat) (cs : List Addr) (rows : List (List Nat)) (q : Si88.Call), vs = [.ref p, .int (j : Int), .ref a, .ref b] ∧ ShelfAt C H p e s ∧ Good n s ∧ SqL K H a (vi nums) ∧ SqL K H b (cs.map V.ref) ∧ RowsAt K H cs rows ∧ Ask j nums rows q ∧ Done C H p e (Si88.step s q) Q
theorem scAnswer : FnScope ["shelf", "call", "some", "rows"] ["shelf", "call", "some", "rows"] (defScope sAnswer) := ⟨rfl, rfl, rfl, by decide +kernel, rfl, by decide +kernel, by decide +kernel⟩
theorem ok_answer {f : Addr} {fd : FuncData} (F : Fun K "answer" "answer" sAnswer f fd) (T : ClsT K C)
    (M0 : HasM P w K mg base C 1 "begins" ["self", "many"] (spBegins C)) (M1 : HasM P w K mg base C 2 "laid" ["self", "some"] (spLaid K C)) (M2 : HasM P w K mg base C 1 "asks" ["self", "thing"] (spAsks C)) (M3 : HasM P w K mg base C 3 "fixed" ["self", "some"] (spFixed K C))
    (M4 : HasM P w K mg base C 4 "best" ["self"] (spBest C)) (M5 : HasM P w K mg base C 4 "rule" ["self", "which"] (spRule C)) (M6 : HasM P w K mg base C 5 "least" ["self"] (spLeast C)) : FnOk P w K mg base CX0 6 f fd ["shelf", "call", "some", "rows"] (spAnswer K C) := by
  obtain ⟨f0, d0, m0, G0, b0⟩ := M0
  obtain ⟨f1, d1, m1, G1, b1⟩ := M1
  obtain ⟨f2, d2, m2, G2, b2⟩ := M2
  obtain ⟨f3, d3, m3, G3, b3⟩ := M3
  obtain ⟨f4, d4, m4, G4, b4⟩ := M4
  obtain ⟨f5, d5, m5, G5, b5⟩ := M5
  obtain ⟨f6, d6, m6, G6, b6⟩ := M6
  refine F.ok scAnswer (fun vs H Q E h => ?_) (fun cdv A outer s H vs Q E hr h => ?_)
  · obtain ⟨p, a, b, e, s, n, j, nums, cs, rows, q, rfl, _⟩ := h
    rfl
  · obtain ⟨p, a, b, e, s, n, j, nums, cs, rows, q, rfl, hS, g, ha, hb, hR, hA, k⟩ := h
    have hr1 : Room 1 _ := hr.mono (by decide)
    have hr2 : Room 2 _ := hr.mono (by decide)
    have hr3 : Room 3 _ := hr.mono (by decide)
    have hr4 : Room 4 _ := hr.mono (by decide)
    refine ⟨_, pss_cons (ps_if (pt_cmpR op_eq (pv 1) pe_int (nomark _)) (pss_one (ps_ret (pe_meth (pv 0) T.cl m0 G0 hr1 b0 .nil pass0 (pa_cons (pe_ix ix_list (pv 2) pe_int (fun _ _ => rfl)) pa_nil)))) pss_nil)
      (pss_cons (ps_if (pt_cmpR op_eq (pv 1) pe_int (nomark _)) (pss_one (ps_ret (pe_meth (pv 0) T.cl m1 G1 hr2 b1 .nil pass0 (pa_cons (pe_ix ix_list (pv 3) pe_int (fun _ _ => rfl)) pa_nil)))) pss_nil)
      (pss_cons (ps_if (pt_cmpR op_eq (pv 1) pe_int (nomark _)) (pss_one (ps_ret (pe_meth (pv 0) T.cl m2 G2 hr1 b2 .nil pass0 (pa_cons (pe_ix ix_list (pv 2) pe_int (fun _ _ => rfl)) pa_nil)))) pss_nil)
      (pss_cons (ps_if (pt_cmpR op_eq (pv 1) pe_int (nomark _)) (pss_one (ps_ret (pe_meth (pv 0) T.cl m3 G3 hr3 b3 .nil pass0 (pa_cons (pe_ix ix_list (pv 3) pe_int (fun _ _ => rfl)) pa_nil)))) pss_nil)
      (pss_cons (ps_if (pt_cmpR op_eq (pv 1) pe_int (nomark _)) (pss_one (ps_ret (pe_meth0 (pv 0) T.cl m4 G4 hr4 b4 .nil pass0))) pss_nil)
      (pss_one (ps_ret (pe_ifExp (pt_cmpR op_eq (pv 1) pe_int (nomark _)) (pe_meth (pv 0) T.cl m5 G5 hr4 b5 .nil pass0 (pa_cons (pe_ix ix_list (pv 2) pe_int (fun _ _ => rfl)) pa_nil)) (pe_meth0 (pv 0) T.cl m6 G6 hr b6 .nil pass0)))))))), ?_⟩
    have hS0 := hS
    obtain ⟨dx, ra, hp, _, _⟩ := hS
    cases hA with
    | begins m =>
      refine ⟨_, rfl, rfl, _, rfl, go_T rfl ?_⟩
      exact ⟨_, rfl, p, dx, _, rfl, hp, shF_no ra e (by decide +kernel) (by decide +kernel), _, rfl, a, _, _, _, rfl, rfl, ha, at_of (j := 0) rfl rfl, p, e, s, n, m, rfl, hS0, g, k⟩
    | laid r =>
      refine ⟨_, rfl, rfl, _, rfl, go_F rfl ?_⟩
      refine ⟨_, rfl, rfl, _, rfl, go_T rfl ?_⟩
      cases hR with
      | cons h1 h2 =>
        cases h2
        exact ⟨_, rfl, p, dx, _, rfl, hp, shF_no ra e (by decide +kernel) (by decide +kernel), _, rfl, b, _, _, _, rfl, rfl, hb, at_of (j := 0) rfl rfl, p, e, _, s, n, r, rfl, hS0, g, h1, k⟩
    | asks t =>
      refine ⟨_, rfl, rfl, _, rfl, go_F rfl ?_⟩
      refine ⟨_, rfl, rfl, _, rfl, go_F rfl ?_⟩
      refine ⟨_, rfl, rfl, _, rfl, go_T rfl ?_⟩
      exact ⟨_, rfl, p, dx, _, rfl, hp, shF_no ra e (by decide +kernel) (by decide +kernel), _, rfl, a, _, _, _, rfl, rfl, ha, at_of (j := 0) rfl rfl, p, e, s, n, t, rfl, hS0, g, k⟩
    | fixed r =>
      refine ⟨_, rfl, rfl, _, rfl, go_F rfl ?_⟩
      refine ⟨_, rfl, rfl, _, rfl, go_F rfl ?_⟩
      refine ⟨_, rfl, rfl, _, rfl, go_F rfl ?_⟩
      refine ⟨_, rfl, rfl, _, rfl, go_T rfl ?_⟩
      cases hR with
      | cons h1 h2 =>
        cases h2
        exact ⟨_, rfl, p, dx, _, rfl, hp, shF_no ra e (by decide +kernel) (by decide +kernel), _, rfl, b, _, _, _, rfl, rfl, hb, at_of (j := 0) rfl rfl, p, e, _, s, n, r, rfl, hS0, g, h1, k⟩
    | best =>
      refine ⟨_, rfl, rfl, _, rfl, go_F rfl ?_⟩
      refine ⟨_, rfl, rfl, _, rfl, go_F rfl ?_⟩
      refine ⟨_, rfl, rfl, _, rfl, go_F rfl ?_⟩
      refine ⟨_, rfl, rfl, _, rfl, go_F rfl ?_⟩
      refine ⟨_, rfl, rfl, _, rfl, go_T rfl ?_⟩
      exact ⟨_, rfl, p, dx, _, rfl, hp, shF_no ra e (by decide +kernel) (by decide +kernel), p, e, s, n, rfl, hS0, g, k⟩
    | rule i =>
      refine ⟨_, rfl, rfl, _, rfl, go_F rfl ?_⟩
      refine ⟨_, rfl, rfl, _, rfl, go_F rfl ?_⟩
      refine ⟨_, rfl, rfl, _, rfl, go_F rfl ?_⟩
      refine ⟨_, rfl, rfl, _, rfl, go_F rfl ?_⟩
      refine ⟨_, rfl, rfl, _, rfl, go_F rfl ?_⟩
      refine ⟨_, rfl, rfl, _, rfl, go_T rfl ?_⟩
      exact ⟨_, rfl, p, dx, _, rfl, hp, shF_no ra e (by decide +kernel) (by decide +kernel), _, rfl, a, _, _, _, rfl, rfl, ha, at_of (j := 0) rfl rfl, p, e, s, n, i, rfl, hS0, g, k⟩
    | least =>
      refine ⟨_, rfl, rfl, _, rfl, go_F rfl ?_⟩
      refine ⟨_, rfl, rfl, _, rfl, go_F rfl ?_⟩
      refine ⟨_, rfl, rfl, _, rfl, go_F rfl ?_⟩
      refine ⟨_, rfl, rfl, _, rfl, go_F rfl ?_⟩
      refine ⟨_, rfl, rfl, _, rfl, go_F rfl ?_⟩
      refine ⟨_, rfl, rfl, _, rfl, go_F rfl ?_⟩
      exact ⟨_, rfl, p, dx, _, rfl, hp, shF_no ra e (by decide +kernel) (by decide +kernel), p, e, s, n, rfl, hS0, g, k⟩

/-! ### rows_at -/
theorem flatR_take {rows : List (List Nat)} {i : Nat} {u : List Nat} (h : rows[i]? = some u) : flatR (rows.take (i + 1)) = flatR (rows.take i) ++ ((u.length : Nat) : Int) :: izs u := by
  unfold flatR
  rw [take_snoc h, List.flatMap_append]
  simp
theorem flatR_split {rows : List (List Nat)} {i : Nat} {u : List Nat} (h : rows[i]? = some u) : flatR rows = flatR (rows.take i) ++ (((u.length : Nat) : Int) :: (izs u ++ flatR (rows.drop (i + 1)))) := by
  conv => lhs; rw [← List.take_append_drop i rows, drop_cons h]
  unfold flatR
  rw [List.flatMap_append, List.flatMap_cons]
  simp
def spRowsAt (K : PySem.W.Frag) : Sp := fun vs H Q _ => ∃ (L : Addr) (zs t : List Int) (at_ : Nat) (rows : List (List Nat)), vs = [.ref L, .int (at_ : Int), .int (rows.length : Int)] ∧ SqL K H L (zs.map V.int) ∧ zs.drop at_ = flatR rows ++ t ∧ rows.length ≤ 1 ∧
  ∀ (H' : Hp) (p D : Addr) (cs : List Addr), Same H H' → H' p = some (.tup [.ref D, .int ((at_ + (flatR rows).length : Nat) : Int)]) → H' D = some (.lst (cs.map V.ref)) → Paired (fun (c : Addr) (r : List Nat) => H' c = some (.lst (vi r))) cs rows → Q (.ref p) H'
theorem scRowsAt : FnScope ["calls", "at", "many", "found", "turn", "end"] ["calls", "at", "many"] (defScope sRowsAt) := ⟨rfl, rfl, rfl, by decide +kernel, rfl, by decide +kernel, by decide +kernel⟩
theorem ok_rows_at {f : Addr} {fd : FuncData} (F : Fun K "rows_at" "rows_at" sRowsAt f fd) (B : Blt mg) : FnOk P w K mg base CX0 1 f fd ["calls", "at", "many"] (spRowsAt K) := by
  refine F.ok scRowsAt (fun vs H Q E h => ?_) (fun cdv A outer s H vs Q E hr h => ?_)
  · obtain ⟨L, zs, t, a0, rows, rfl, _⟩ := h
    rfl
  · obtain ⟨L, zs, t, a0, rows, rfl, hL, hz, hw, k⟩ := h
    refine ⟨_, pss_cons (ps_set (i := 3) scRowsAt.nd rfl (Or.inl rfl) (pe_lst pa_nil))
      (pss_cons (ps_for PassesOwn.never rfl (pi_range1 rfl B.range (pa_cons (pv 2) pa_nil)) (pg_name (i := 4) scRowsAt.nd rfl (Or.inl rfl))
        (pss_cons (ps_set (i := 5) scRowsAt.nd rfl (Or.inl rfl) (pe_op op_add (pe_op op_add (pv 1) pe_int) (pe_ix ix_list (pv 0) (pv 1) (fun _ _ => rfl))))
        (pss_cons (ps_expr (pe_bm PySem.F.plainAttrs_list PySem.F.slot_list_append PySem.F.type_list_append mt_append (pv 3) (pa_cons (pe_slice sl_list (pv 0) (po_some (pe_op op_add (pv 1) pe_int)) (po_some (pv 5))) pa_nil)))
        (pss_one (ps_set (i := 1) scRowsAt.nd rfl (Or.inl rfl) (pv 5))))))
      (pss_one (ps_ret (pe_tup (pa_cons (pv 3) (pa_cons (pv 1) pa_nil)))))), ?_⟩
    refine ⟨Nat.zero_le _, fun D hD => ?_⟩
    refine ⟨_, rfl, (rows.length : Int), rfl, by omega, by omega, for_range (lo := 0) (n := rows.length) (fun i σ H' => ∃ (cs : List Addr) (v4 v5 : Option V), σ = [some (.ref L), some (.int ((a0 + (flatR (rows.take i)).length : Nat) : Int)), some (.int (rows.length : Int)), some (.ref D), v4, v5] ∧ Same H H' ∧ H' D = some (.lst (cs.map V.ref)) ∧ Paired (fun (c : Addr) (r : List Nat) => c ≠ D ∧ H' c = some (.lst (vi r))) cs (rows.take i))
      ⟨[], none, none, rfl, same_new hD, upd_same, .nil⟩ ?_ ?_⟩
    · rintro i σ H' hi ⟨cs, v4, v5, rfl, s1, hD1, hC⟩
      obtain ⟨u, hu⟩ : ∃ u, rows[i]? = some u := ⟨_, List.getElem?_eq_getElem hi⟩
      have hz1 : zs.drop (a0 + (flatR (rows.take i)).length) = ((u.length : Nat) : Int) :: (izs u ++ (flatR (rows.drop (i + 1)) ++ t)) := by
        refine drop_more ?_
        rw [hz, flatR_split hu]
        simp
      obtain ⟨hat, hdr, hlt⟩ := drop_at hz1
      have hL1 := s1.seq hL
      -- end = at + 1 + calls[at]
      refine ⟨_, rfl, _, _, rfl, rfl, _, rfl, _, rfl, L, _, _, _, rfl, rfl, hL1, at_zs hat, _, _, rfl, rfl, ?_⟩
      -- found.append(calls[at + 1:end])
      have ecut : cutV (zs.map V.int) (some (((a0 + (flatR (rows.take i)).length : Nat) : Int) + 1)) (some (((a0 + (flatR (rows.take i)).length : Nat) : Int) + 1 + ((u.length : Nat) : Int))) = vi u := by
        have e := cut_mid zs (a0 + (flatR (rows.take i)).length + 1) u.length
        rw [hdr, List.take_append_of_le_length (Nat.le_of_eq (izs_len u).symm), List.take_of_length_le (Nat.le_of_eq (izs_len u))] at e
        rw [← vi_izs, ← e]
        rfl
      refine ⟨_, rfl, .inl ⟨rfl, _, SqL.of hD1⟩, _, rfl, _, rfl, _, _, rfl, rfl, _, rfl, _, rfl, _, rfl, L, _, rfl, hL1, fun g hg => ?_⟩
      rw [ecut]
      have sg : Same H' (upd H' g (.lst (vi u))) := same_new hg
      have hDg := sg _ _ hD1
      have hclen : cs.length ≤ 1 := by
        have e1 := Paired.length hC
        rw [List.length_take] at e1
        omega
      refine ⟨D, _, _, rfl, rfl, hDg, (by rw [List.length_map]; exact small100' (by omega)), ?_⟩
      -- at = end
      refine ⟨_, rfl, cs ++ [g], some (.int (0 + (i : Int))), some (.int (((a0 + (flatR (rows.take i)).length : Nat) : Int) + 1 + ((u.length : Nat) : Int))), ?_, same_mut (s1.trans sg) hD, ?_, ?_⟩
      · rw [flatR_take hu]
        have e2 : ((a0 + (flatR (rows.take i) ++ ((u.length : Nat) : Int) :: izs u).length : Nat) : Int) = ((a0 + (flatR (rows.take i)).length : Nat) : Int) + 1 + ((u.length : Nat) : Int) := by
          rw [List.length_append, List.length_cons, izs_len]
          omega
        rw [e2]
        rfl
      · rw [upd_same, List.map_append]
        rfl
      · rw [take_snoc hu]
        have hgD : g ≠ D := fun e => by rw [e, hD1] at hg; cases hg
        refine Paired.snoc (Paired.mapP hC fun c r h => ⟨h.1, ?_⟩) ⟨hgD, ?_⟩
        · rw [upd_ne h.1]
          exact sg _ _ h.2
        · rw [upd_ne hgD]
          exact upd_same
    · rintro σ H' ⟨cs, v4, v5, rfl, s1, hD1, hC⟩
      rw [List.take_length] at hC
      refine ⟨_, rfl, _, rfl, (by show 2 ≤ sizeLine; decide), fun p hp => ?_⟩
      refine k _ p D cs (s1.trans (same_new hp)) ?_ (same_new hp _ _ hD1) (Paired.mapP hC fun c r h => same_new hp _ _ h.2)
      rw [upd_same, List.take_length]
end
end Cr
set_option Elab.async false
set_option linter.all false
set_option maxRecDepth 100000
set_option maxHeartbeats 4000000
/-! shelves.py: answers. -/
namespace Cr
open PySem PySem.Spec PyProof.Rows L2
/-- the module's table of shapes -/
structure ShT (K : PySem.W.Frag) (mg : Str → Option Value) (sh : Addr) (ts : List Addr) : Prop where
  mgS : mg "SHAPES" = some (.ref sh)
  seq : ∀ H, SqT K H sh (ts.map V.ref)
  item : ∀ (i m n : Nat), shp[i]? = some (m, n) → ∃ t, ts[i]? = some t ∧ ∀ H, SqT K H t [.int (m : Int), .int (n : Int)]
/-- what stands ahead of each turn -/
def AInv (C : Addr) (H0 : Hp) (L p D : Addr) (l : List Int) (m : Nat) (σ : L2.St) (H' : Hp) : Prop :=
  ∃ (b : Addr) (a f n : Nat) (raw : List (List (List Int))) (s : Si88.Shelf) (out : List Int) (v4 v5 v6 v7 v8 v9 : Option V), m = l.length - a ∧ a ≤ l.length ∧
    σ = [some (.ref L), some (.ref p), some (.ref D), some (.int (a : Int)), v4, v5, v6, v7, v8, v9] ∧ Same H0 H' ∧ ShelfAt C H' p b s ∧ b ≠ D ∧ Good n s ∧ H' D = some (.lst (out.map V.int)) ∧
    PyFlat.calls PySi88.shape f (l.drop a) = some raw ∧ (∀ c ∈ raw, Si88Neutral.asked1 (PySi88.whole c) = true) ∧ out ++ due s raw = PySi88.answers l ∧ out.length + 7 * raw.length ≤ 420
def spAnswers (K : PySem.W.Frag) : Sp := fun vs H Q _ => ∃ (L : Addr) (l : List Int), vs = [.ref L] ∧ SqL K H L (l.map V.int) ∧ (∀ z ∈ l, 0 ≤ z) ∧ PySi88.answers_asked l = true ∧ ∀ (H' : Hp) (D : Addr), H' D = some (.lst ((PySi88.answers l).map V.int)) → Q (.ref D) H'
section
variable {P : Program} {w : World} {K : PySem.W.Frag} {mg : Str → Option Value} {base : Heap} {C : Addr}
theorem scAnswers : FnScope ["calls", "shelf", "found", "at", "many", "wide", "begin", "rows", "end", "told"] ["calls"] (defScope sAnswers) := ⟨rfl, rfl, rfl, by decide +kernel, rfl, by decide +kernel, by decide +kernel⟩
theorem ok_answers {f fI sh : Addr} {fd fdI : FuncData} {ts : List Addr} (F : Fun K "answers" "answers" sAnswers f fd) (B : Blt mg) (mgC : mg "Shelf" = some (.ref C)) (M : Mk K C fI) (GI : FnOk P w K mg base CX0 1 fI fdI ["self"] (spInit C)) (bI : Binds K fdI ["self"] [])
    (S : ShT K mg sh ts) (GR : Has P w K mg base 1 "rows_at" ["calls", "at", "many"] (spRowsAt K)) (GA : Has P w K mg base 6 "answer" ["shelf", "call", "some", "rows"] (spAnswer K C)) : FnOk P w K mg base CX0 7 f fd ["calls"] (spAnswers K) := by
  refine F.ok scAnswers (fun vs H Q E h => ?_) (fun cdv A outer s H vs Q E hr h => ?_)
  · obtain ⟨L, l, rfl, _⟩ := h
    rfl
  · obtain ⟨L, l, rfl, hL, h0, hask, k⟩ := h
    have hr1 : Room 1 _ := hr.mono (by decide)
    have hr2 : Room 2 _ := hr.mono (by decide)
    refine ⟨_, pss_cons (ps_set (i := 1) scAnswers.nd rfl (Or.inl rfl) (pe_make0 M GI hr2 rfl mgC bI .nil pass0))
      (pss_cons (ps_set (i := 2) scAnswers.nd rfl (Or.inl rfl) (pe_lst pa_nil))
      (pss_cons (ps_set (i := 3) scAnswers.nd rfl (Or.inl rfl) pe_int)
      (pss_cons (ps_while PassesOwn.never (pt_cmpR op_lt (pv 3) (pe_callB call_len_seq (by rfl) B.len PySem.boot_len (pa_cons (pv 0) pa_nil)) (nomark _))
        (pss_cons (ps_asg (pe_ix ix_tup (pe_glob (v := .ref sh) rfl S.mgS rfl) (pe_ix ix_list (pv 0) (pv 3) (fun _ _ => rfl)) (fun _ _ => rfl)) (pg_tup rfl (pgs_cons (pg_name (i := 4) scAnswers.nd rfl (Or.inl rfl)) (pgs_cons (pg_name (i := 5) scAnswers.nd rfl (Or.inl rfl)) pgs_nil))))
        (pss_cons (ps_set (i := 6) scAnswers.nd rfl (Or.inl rfl) (pe_op op_add (pe_op op_add (pv 3) pe_int) (pv 4)))
        (pss_cons (ps_asg (pe_has GR hr1 rfl (pa_cons (pv 0) (pa_cons (pv 6) (pa_cons (pv 5) pa_nil)))) (pg_tup rfl (pgs_cons (pg_name (i := 7) scAnswers.nd rfl (Or.inl rfl)) (pgs_cons (pg_name (i := 8) scAnswers.nd rfl (Or.inl rfl)) pgs_nil))))
        (pss_cons (ps_set (i := 9) scAnswers.nd rfl (Or.inl rfl) (pe_has GA hr rfl (pa_cons (pv 1) (pa_cons (pe_ix ix_list (pv 0) (pv 3) (fun _ _ => rfl)) (pa_cons (pe_slice sl_list (pv 0) (po_some (pe_op op_add (pv 3) pe_int)) (po_some (pv 6))) (pa_cons (pv 7) pa_nil))))))
        (pss_cons (ps_set (i := 3) scAnswers.nd rfl (Or.inl rfl) (pv 8))
        (pss_cons (ps_expr (pe_bm PySem.F.plainAttrs_list PySem.F.slot_list_append PySem.F.type_list_append mt_append (pv 2) (pa_cons (pe_callB call_len_seq (by rfl) B.len PySem.boot_len (pa_cons (pv 9) pa_nil)) pa_nil)))
        (pss_one (ps_expr (pe_bm PySem.F.plainAttrs_list PySem.F.slot_list_extend PySem.F.type_list_extend mt_extend (pv 2) (pa_cons (pv 9) pa_nil)))))))))))
      (pss_one (ps_ret (pv 2)))))), ?_⟩
    -- shelf = Shelf()
    intro p dx np ndx ne
    refine ⟨p, dx, rfl, upd_same, fun H1 b1 hS1 kp1 => ⟨rfl, ?_⟩⟩
    have s1 : Same H H1 := Same.made np ndx kp1
    -- found = []
    refine ⟨Nat.zero_le _, fun D hD => ?_⟩
    have hD0 : H D = none := s1.free hD
    have s2 : Same H1 (upd H1 D (.lst [])) := same_new hD
    obtain ⟨raw0, hraw, hmany, hall⟩ := asked_parts hask
    refine ⟨AInv C H L p D l, ⟨l.length - 0, b1, 0, l.length, 1, raw0, Si88.init, [], none, none, none, none, none, none, rfl, Nat.zero_le _, rfl, s1.trans s2, hS1.same s2, (let ⟨_, _, _, _, e⟩ := hS1; ne_of_none e hD), good_init, upd_same, hraw, hall, (answers_due hraw).symm, by simp; omega⟩, ?_⟩
    rintro m σ H' ⟨b, a, f, n, raw, s, out, v4, v5, v6, v7, v8, v9, rfl, hal, rfl, s3, hS, hbD, g, hDl, hcalls, hall, hdue, hlen⟩
    have hL' : SqL K H' L (l.map V.int) := s3.seq hL
    refine ⟨_, rfl, _, rfl, L, _, rfl, .inl hL', _, _, rfl, rfl, _, rfl, ?_⟩
    rw [List.length_map]
    by_cases hlt : a < l.length
    · refine go_T (decide_eq_true (by omega)) ⟨fun σ' H' => ∃ m', m' < l.length - a ∧ AInv C H L p D l m' σ' H', fun _ _ h => h, ?_⟩
      -- one call is read
      have hdr : l.drop a = l[a] :: l.drop (a + 1) := List.drop_eq_getElem_cons hlt
      rw [hdr] at hcalls
      obtain ⟨c, t, f', cs, hone, hcs, rfl⟩ := calls_cons hcalls
      obtain ⟨j, many, wide, nums, rows, q, hp0, hshape, rfl, rfl, hmeans, hAsk, hr'⟩ := one_parts hone fun z hz => h0 z (List.mem_of_mem_drop hz)
      have hat : l[a]? = some (j : Int) := by rw [List.getElem?_eq_getElem hlt, hp0]
      have hwide : rows.length ≤ 1 := by
        have : ∀ (i m n : Nat), shp[i]? = some (m, n) → n ≤ 1 := by
          intro i m n h
          have hm := List.mem_of_getElem? h
          simp [shp] at hm
          omega
        exact this _ _ _ hshape
      obtain ⟨t0, ht0, hsq⟩ := S.item _ _ _ hshape
      -- many, wide = SHAPES[calls[at]]
      refine ⟨_, rfl, _, rfl, L, _, _, _, rfl, rfl, hL', at_zs hat, sh, _, _, .ref t0, rfl, rfl, S.seq H', at_of (j := j) rfl (by rw [List.getElem?_map, ht0]; rfl), t0, _, rfl, hsq H', rfl, _, _, rfl, _, _, rfl, rfl, ?_⟩
      -- begin = at + 1 + many
      refine ⟨_, rfl, _, _, rfl, rfl, _, rfl, _, _, rfl, rfl, ?_⟩
      have hbeg : l.drop (a + 1 + nums.length) = flatR rows ++ t := by
        have e := drop_more (a := izs nums) hr'
        rw [izs_len] at e
        exact e
      have hend : l.drop (a + 1 + nums.length + (flatR rows).length) = t := drop_more hbeg
      have eb : ((a : Int) + 1 + (nums.length : Int)) = ((a + 1 + nums.length : Nat) : Int) := by omega
      -- rows, end = rows_at(calls, begin, wide)
      refine ⟨_, rfl, _, rfl, _, rfl, L, l, t, a + 1 + nums.length, rows, by rw [← eb]; rfl, hL', hbeg, hwide, fun H2 z R rs s4 hz hR hRs => ?_⟩
      refine ⟨z, _, rfl, SqT.of hz, rfl, _, _, rfl, _, _, rfl, rfl, ?_⟩
      have hL2 := s4.seq hL'
      -- told = answer(shelf, calls[at], calls[at + 1:begin], rows)
      have ecut : cutV (l.map V.int) (some ((a : Int) + 1)) (some ((a : Int) + 1 + (nums.length : Int))) = vi nums := by
        have e := cut_mid l (a + 1) nums.length
        rw [hr', List.take_append_of_le_length (Nat.le_of_eq (izs_len nums).symm), List.take_of_length_le (Nat.le_of_eq (izs_len nums))] at e
        rw [← vi_izs, ← e]
        rfl
      refine ⟨_, rfl, _, rfl, _, rfl, L, _, _, _, rfl, rfl, hL2, at_zs hat, _, rfl, _, rfl, _, _, rfl, rfl, _, rfl, _, rfl, _, rfl, L, _, rfl, hL2, fun y hy => ?_⟩
      rw [ecut]
      have s5 : Same H2 (upd H2 y (.lst (vi nums))) := same_new hy
      refine ⟨_, rfl, p, y, R, b, s, n, j, nums, rs, rows, q, rfl, (hS.same s4).same s5, g, SqL.of upd_same, SqL.of (s5 _ _ hR), Paired.mapP hRs fun c r h => SqL.of (s5 _ _ h), hAsk, fun H3 G b' hGn hb' hG hS3 kp3 => ?_⟩
      have s35 : Same H (upd H2 y (.lst (vi nums))) := (s3.trans s4).trans s5
      have hpn : H p = none := np
      have s6 : Same H H3 := fun b o e => kp3 b o (s35 b o e) (ne_of_none e hpn)
      have hD5 : (upd H2 y (.lst (vi nums))) D = some (.lst (out.map V.int)) := s5 _ _ (s4 _ _ hDl)
      have hDp : D ≠ p := by
        obtain ⟨_, _, e, _⟩ := hS
        exact ne_of hDl e fun z => nomatch z
      have hD3 := kp3 _ _ hD5 hDp
      have hGD : G ≠ D := fun e => by rw [e, hD5] at hGn; cases hGn
      have hal6 := ans_len g q
      -- at = end
      refine ⟨_, rfl, ?_⟩
      -- found.append(len(told))
      refine ⟨_, rfl, .inl ⟨rfl, _, SqL.of hD3⟩, _, rfl, G, _, rfl, .inl (SqL.of hG), D, _, _, rfl, rfl, hD3, (by rw [List.length_map]; exact small100' (by omega)), ?_⟩
      rw [List.length_map]
      have hG4 : (upd H3 D (.lst (out.map V.int ++ [V.int ((((Si88.step s q).2.v :: (Si88.step s q).2.l).length : Nat) : Int)]))) G = some (.lst (((Si88.step s q).2.v :: (Si88.step s q).2.l).map V.int)) := by
        rw [upd_ne hGD]
        exact hG
      -- found.extend(told)
      refine ⟨_, rfl, .inl ⟨rfl, _, SqL.of upd_same⟩, _, rfl, D, G, _, _, rfl, rfl, upd_same, hG4, (by rw [List.length_append, List.length_map, List.length_map]; exact small100 (by show _ + 1 + _ ≤ _; omega)), ?_⟩
      obtain ⟨n', g'⟩ := good_step g q
      have hbD' : b' ≠ D := by
        rcases hb' with e | e
        · rw [e]
          exact hbD
        · exact Ne.symm (ne_of_none hD5 e)
      have hac := hall c List.mem_cons_self
      rw [due_cons hmeans hac] at hdue
      have hae : a + 1 + nums.length + (flatR rows).length ≤ l.length := by
        have e := congrArg List.length hbeg
        rw [List.length_drop, List.length_append] at e
        by_cases z : a + 1 + nums.length ≤ l.length
        · omega
        · have e2 := congrArg List.length hr'
          rw [List.length_drop, List.length_append, izs_len, List.length_append] at e2
          omega
      refine ⟨l.length - (a + 1 + nums.length + (flatR rows).length), by omega, b', a + 1 + nums.length + (flatR rows).length, f', n', cs, (Si88.step s q).1, out ++ ((((Si88.step s q).2.v :: (Si88.step s q).2.l).length : Nat) : Int) :: ((Si88.step s q).2.v :: (Si88.step s q).2.l), _, _, _, _, _, _, rfl, hae, rfl, same_mut (same_mut s6 hD0) hD0, ?_, hbD', g', ?_, by rw [hend]; exact hcs, fun c' hc' => hall c' (List.mem_cons_of_mem _ hc'), ?_, ?_⟩
      · obtain ⟨dx', ra, e1, ⟨ob, e2, e3⟩, e4⟩ := hS3
        have ea : ra ≠ D := ne_of e2 hD3 fun z => nomatch z
        refine ⟨dx', ra, ?_, ⟨ob, ?_, e3⟩, ?_⟩
        · rw [upd_ne (Ne.symm hDp), upd_ne (Ne.symm hDp)]
          exact e1
        · rw [upd_ne ea, upd_ne ea]
          exact e2
        · rw [upd_ne hbD', upd_ne hbD']
          exact e4
      · rw [upd_same]
        simp
      · rw [← hdue]
        simp
      · rw [List.length_cons] at hlen
        rw [List.length_append, List.length_cons]
        omega
    · refine go_F (decide_eq_false (by omega)) ?_
      have hnil : l.drop a = [] := List.drop_of_length_le (by omega)
      rw [hnil] at hcalls
      have hraw0 := calls_nil hcalls
      subst hraw0
      rw [due_nil, List.append_nil] at hdue
      exact ⟨_, rfl, k H' D (by rw [← hdue]; exact hDl)⟩
end
end Cr
set_option Elab.async false
set_option linter.all false
set_option maxRecDepth 100000
set_option maxHeartbeats 4000000
namespace Cr
open PySem PySem.Spec PyProof.Rows L2
/-! What the top has written. -/
section
theorem all_mk {P : Program} {w : World} {K : PySem.W.Frag} {h : Heap} {mg : Str → Option Value} {fa C sh t0 t1 t2 t3 t4 t5 t6 : Addr} (X : K.In h) (G : h.Ns mainGlobals mg) (hfa : mg "answers" = some (.ref fa))
    {f0 f1 f2 f3 f4 f5 f6 f7 f8 f9 f10 f11 f12 f13 f14 f15 f16 f17 f18 f19 f20 f21 f22 f23 f24 f25 : Addr} {od0 an0 od1 an1 od2 an2 od3 an3 od4 an4 od5 an5 od6 an6 od7 an7 od8 an8 od9 an9 od10 an10 od11 an11 od12 an12 od13 an13 od14 an14 od15 an15 od16 an16 od17 an17 od18 an18 od19 an19 od20 an20 od21 an21 od22 an22 od23 an23 od24 an24 od25 an25 : Option Addr} {sl0 sl1 sl2 sl3 sl4 sl5 sl6 sl7 sl8 sl9 sl10 sl11 sl12 sl13 sl14 sl15 sl16 sl17 sl18 sl19 sl20 sl21 sl22 sl23 sl24 sl25 : Array (Option Value)}
    {oc0 kV0 dc0 pm0 cd0 ct0 : Value}
    {oc1 kV1 dc1 pm1 cd1 ct1 : Value}
    {oc2 kV2 dc2 pm2 cd2 ct2 : Value}
    {oc3 kV3 dc3 pm3 cd3 ct3 : Value}
    {oc4 kV4 dc4 pm4 cd4 ct4 : Value}
    {oc5 kV5 dc5 pm5 cd5 ct5 : Value}
    {oc6 kV6 dc6 pm6 cd6 ct6 : Value}
    {oc7 kV7 dc7 pm7 cd7 ct7 : Value}
    {oc8 kV8 dc8 pm8 cd8 ct8 : Value}
    {oc9 kV9 dc9 pm9 cd9 ct9 : Value}
    {oc10 kV10 dc10 pm10 cd10 ct10 : Value}
    {oc11 kV11 dc11 pm11 cd11 ct11 : Value}
    {oc12 kV12 dc12 pm12 cd12 ct12 : Value}
    {oc13 kV13 dc13 pm13 cd13 ct13 : Value}
    {oc14 kV14 dc14 pm14 cd14 ct14 : Value}
    {oc15 kV15 dc15 pm15 cd15 ct15 : Value}
    {oc16 kV16 dc16 pm16 cd16 ct16 : Value}
    {oc17 kV17 dc17 pm17 cd17 ct17 : Value}
    {oc18 kV18 dc18 pm18 cd18 ct18 : Value}
    {oc19 kV19 dc19 pm19 cd19 ct19 : Value}
    {oc20 kV20 dc20 pm20 cd20 ct20 : Value}
    {oc21 kV21 dc21 pm21 cd21 ct21 : Value}
    {oc22 kV22 dc22 pm22 cd22 ct22 : Value}
    {oc23 kV23 dc23 pm23 cd23 ct23 : Value}
    {oc24 kV24 dc24 pm24 cd24 ct24 : Value}
    {oc25 kV25 dc25 pm25 cd25 ct25 : Value}
    {kTO_FRONT kONE_AHEAD kLAST_RULE kBAD kNO_THING kASKED_ALREADY kTOO_MANY kMOST_THINGS kMOST_TIMES : Tok} {odS odT0 odT1 odT2 odT3 odT4 odT5 odT6 : Option Addr} {slS slT0 slT1 slT2 slT3 slT4 slT5 slT6 : Array (Option Value)} {nS nT0 nT1 nT2 nT3 nT4 nT5 nT6 : Nat} {u0 v0 u1 v1 u2 v2 u3 v3 u4 v4 u5 v5 u6 v6 : Tok}
    (aC : PySem.W.nsIn K mainGlobals "Shelf" = some (some (.ref C)))
    (a0 : PySem.W.nsIn K mainGlobals "is_row" = some (some (.ref f0)))
    (l0 : K.lookup f0 = some ⟨oc0, od0, .func (PySem.W.fnOf "is_row" "is_row" (defArgs sIsRow) (defBody sIsRow) (defScope sIsRow) .none kV0 dc0 pm0 an0 cd0 ct0), sl0⟩) (c0 : PySem.W.codeIn K cd0 "is_row" = true) (k0 : PySem.W.keepIn K (.ref f0) = true)
    (a1 : PySem.W.nsIn K mainGlobals "longer" = some (some (.ref f1)))
    (l1 : K.lookup f1 = some ⟨oc1, od1, .func (PySem.W.fnOf "longer" "longer" (defArgs sLonger) (defBody sLonger) (defScope sLonger) .none kV1 dc1 pm1 an1 cd1 ct1), sl1⟩) (c1 : PySem.W.codeIn K cd1 "longer" = true) (k1 : PySem.W.keepIn K (.ref f1) = true)
    (a2 : PySem.W.nsIn K mainGlobals "all_rows" = some (some (.ref f2)))
    (l2 : K.lookup f2 = some ⟨oc2, od2, .func (PySem.W.fnOf "all_rows" "all_rows" (defArgs sAllRows) (defBody sAllRows) (defScope sAllRows) .none kV2 dc2 pm2 an2 cd2 ct2), sl2⟩) (c2 : PySem.W.codeIn K cd2 "all_rows" = true) (k2 : PySem.W.keepIn K (.ref f2) = true)
    (a3 : PySem.W.nsIn K mainGlobals "steps" = some (some (.ref f3)))
    (l3 : K.lookup f3 = some ⟨oc3, od3, .func (PySem.W.fnOf "steps" "steps" (defArgs sSteps) (defBody sSteps) (defScope sSteps) .none kV3 dc3 pm3 an3 cd3 ct3), sl3⟩) (c3 : PySem.W.codeIn K cd3 "steps" = true) (k3 : PySem.W.keepIn K (.ref f3) = true)
    (a4 : PySem.W.nsIn K mainGlobals "steps_in" = some (some (.ref f4)))
    (l4 : K.lookup f4 = some ⟨oc4, od4, .func (PySem.W.fnOf "steps_in" "steps_in" (defArgs sStepsIn) (defBody sStepsIn) (defScope sStepsIn) .none kV4 dc4 pm4 an4 cd4 ct4), sl4⟩) (c4 : PySem.W.codeIn K cd4 "steps_in" = true) (k4 : PySem.W.keepIn K (.ref f4) = true)
    (a5 : PySem.W.nsIn K mainGlobals "put" = some (some (.ref f5)))
    (l5 : K.lookup f5 = some ⟨oc5, od5, .func (PySem.W.fnOf "put" "put" (defArgs sPut) (defBody sPut) (defScope sPut) .none kV5 dc5 pm5 an5 cd5 ct5), sl5⟩) (c5 : PySem.W.codeIn K cd5 "put" = true) (k5 : PySem.W.keepIn K (.ref f5) = true)
    (a6 : PySem.W.nsIn K mainGlobals "exchanges" = some (some (.ref f6)))
    (l6 : K.lookup f6 = some ⟨oc6, od6, .func (PySem.W.fnOf "exchanges" "exchanges" (defArgs sExch) (defBody sExch) (defScope sExch) .none kV6 dc6 pm6 an6 cd6 ct6), sl6⟩) (c6 : PySem.W.codeIn K cd6 "exchanges" = true) (k6 : PySem.W.keepIn K (.ref f6) = true)
    (a7 : PySem.W.nsIn K mainGlobals "best_rows" = some (some (.ref f7)))
    (l7 : K.lookup f7 = some ⟨oc7, od7, .func (PySem.W.fnOf "best_rows" "best_rows" (defArgs sBestRows) (defBody sBestRows) (defScope sBestRows) .none kV7 dc7 pm7 an7 cd7 ct7), sl7⟩) (c7 : PySem.W.codeIn K cd7 "best_rows" = true) (k7 : PySem.W.keepIn K (.ref f7) = true)
    (a8 : PySem.W.nsIn K mainGlobals "rows_back" = some (some (.ref f8)))
    (l8 : K.lookup f8 = some ⟨oc8, od8, .func (PySem.W.fnOf "rows_back" "rows_back" (defArgs sBack) (defBody sBack) (defScope sBack) .none kV8 dc8 pm8 an8 cd8 ct8), sl8⟩) (c8 : PySem.W.codeIn K cd8 "rows_back" = true) (k8 : PySem.W.keepIn K (.ref f8) = true)
    (a9 : PySem.W.nsIn K mainGlobals "cheapest_to" = some (some (.ref f9)))
    (l9 : K.lookup f9 = some ⟨oc9, od9, .func (PySem.W.fnOf "cheapest_to" "cheapest_to" (defArgs sCheap) (defBody sCheap) (defScope sCheap) .none kV9 dc9 pm9 an9 cd9 ct9), sl9⟩) (c9 : PySem.W.codeIn K cd9 "cheapest_to" = true) (k9 : PySem.W.keepIn K (.ref f9) = true)
    (a10 : PySem.W.nsIn K mainGlobals "costs_behind" = some (some (.ref f10)))
    (l10 : K.lookup f10 = some ⟨oc10, od10, .func (PySem.W.fnOf "costs_behind" "costs_behind" (defArgs sBehind) (defBody sBehind) (defScope sBehind) .none kV10 dc10 pm10 an10 cd10 ct10), sl10⟩) (c10 : PySem.W.codeIn K cd10 "costs_behind" = true) (k10 : PySem.W.keepIn K (.ref f10) = true)
    (a11 : PySem.W.nsIn K mainGlobals "least_at_all" = some (some (.ref f11)))
    (l11 : K.lookup f11 = some ⟨oc11, od11, .func (PySem.W.fnOf "least_at_all" "least_at_all" (defArgs sLeastAll) (defBody sLeastAll) (defScope sLeastAll) .none kV11 dc11 pm11 an11 cd11 ct11), sl11⟩) (c11 : PySem.W.codeIn K cd11 "least_at_all" = true) (k11 : PySem.W.keepIn K (.ref f11) = true)
    (a12 : PySem.W.nsIn K mainGlobals "place_by_counts" = some (some (.ref f12)))
    (l12 : K.lookup f12 = some ⟨oc12, od12, .func (PySem.W.fnOf "place_by_counts" "place_by_counts" (defArgs sByCounts) (defBody sByCounts) (defScope sByCounts) .none kV12 dc12 pm12 an12 cd12 ct12), sl12⟩) (c12 : PySem.W.codeIn K cd12 "place_by_counts" = true) (k12 : PySem.W.keepIn K (.ref f12) = true)
    (a13 : PySem.W.nsIn K mainGlobals "place_back" = some (some (.ref f13)))
    (l13 : K.lookup f13 = some ⟨oc13, od13, .func (PySem.W.fnOf "place_back" "place_back" (defArgs sPlaceBack) (defBody sPlaceBack) (defScope sPlaceBack) .none kV13 dc13 pm13 an13 cd13 ct13), sl13⟩) (c13 : PySem.W.codeIn K cd13 "place_back" = true) (k13 : PySem.W.keepIn K (.ref f13) = true)
    (a14 : PySem.W.nsIn K mainGlobals "by_rule" = some (some (.ref f14)))
    (l14 : K.lookup f14 = some ⟨oc14, od14, .func (PySem.W.fnOf "by_rule" "by_rule" (defArgs sByRule) (defBody sByRule) (defScope sByRule) .none kV14 dc14 pm14 an14 cd14 ct14), sl14⟩) (c14 : PySem.W.codeIn K cd14 "by_rule" = true) (k14 : PySem.W.keepIn K (.ref f14) = true)
    (a15 : PySem.W.nsIn K mainGlobals "answer" = some (some (.ref f15)))
    (l15 : K.lookup f15 = some ⟨oc15, od15, .func (PySem.W.fnOf "answer" "answer" (defArgs sAnswer) (defBody sAnswer) (defScope sAnswer) .none kV15 dc15 pm15 an15 cd15 ct15), sl15⟩) (c15 : PySem.W.codeIn K cd15 "answer" = true) (k15 : PySem.W.keepIn K (.ref f15) = true)
    (a16 : PySem.W.nsIn K mainGlobals "rows_at" = some (some (.ref f16)))
    (l16 : K.lookup f16 = some ⟨oc16, od16, .func (PySem.W.fnOf "rows_at" "rows_at" (defArgs sRowsAt) (defBody sRowsAt) (defScope sRowsAt) .none kV16 dc16 pm16 an16 cd16 ct16), sl16⟩) (c16 : PySem.W.codeIn K cd16 "rows_at" = true) (k16 : PySem.W.keepIn K (.ref f16) = true)
    (a17 : PySem.W.nsIn K mainGlobals "answers" = some (some (.ref f17)))
    (l17 : K.lookup f17 = some ⟨oc17, od17, .func (PySem.W.fnOf "answers" "answers" (defArgs sAnswers) (defBody sAnswers) (defScope sAnswers) .none kV17 dc17 pm17 an17 cd17 ct17), sl17⟩) (c17 : PySem.W.codeIn K cd17 "answers" = true) (k17 : PySem.W.keepIn K (.ref f17) = true)
    (a18 : PySem.W.findIn K (.ref C) "__init__" = some (some (.ref f18))) (i18 : PySem.W.isFn K (.ref f18) = true)
    (l18 : K.lookup f18 = some ⟨oc18, od18, .func (PySem.W.fnOf "__init__" "Shelf.__init__" (defArgs sInit) (defBody sInit) (defScope sInit) .none kV18 dc18 pm18 an18 cd18 ct18), sl18⟩) (c18 : PySem.W.codeIn K cd18 "Shelf.__init__" = true) (k18 : PySem.W.keepIn K (.ref f18) = true)
    (a19 : PySem.W.findIn K (.ref C) "begins" = some (some (.ref f19))) (i19 : PySem.W.isFn K (.ref f19) = true)
    (l19 : K.lookup f19 = some ⟨oc19, od19, .func (PySem.W.fnOf "begins" "Shelf.begins" (defArgs sBegins) (defBody sBegins) (defScope sBegins) .none kV19 dc19 pm19 an19 cd19 ct19), sl19⟩) (c19 : PySem.W.codeIn K cd19 "Shelf.begins" = true) (k19 : PySem.W.keepIn K (.ref f19) = true)
    (a20 : PySem.W.findIn K (.ref C) "laid" = some (some (.ref f20))) (i20 : PySem.W.isFn K (.ref f20) = true)
    (l20 : K.lookup f20 = some ⟨oc20, od20, .func (PySem.W.fnOf "laid" "Shelf.laid" (defArgs sLaid) (defBody sLaid) (defScope sLaid) .none kV20 dc20 pm20 an20 cd20 ct20), sl20⟩) (c20 : PySem.W.codeIn K cd20 "Shelf.laid" = true) (k20 : PySem.W.keepIn K (.ref f20) = true)
    (a21 : PySem.W.findIn K (.ref C) "asks" = some (some (.ref f21))) (i21 : PySem.W.isFn K (.ref f21) = true)
    (l21 : K.lookup f21 = some ⟨oc21, od21, .func (PySem.W.fnOf "asks" "Shelf.asks" (defArgs sAsks) (defBody sAsks) (defScope sAsks) .none kV21 dc21 pm21 an21 cd21 ct21), sl21⟩) (c21 : PySem.W.codeIn K cd21 "Shelf.asks" = true) (k21 : PySem.W.keepIn K (.ref f21) = true)
    (a22 : PySem.W.findIn K (.ref C) "fixed" = some (some (.ref f22))) (i22 : PySem.W.isFn K (.ref f22) = true)
    (l22 : K.lookup f22 = some ⟨oc22, od22, .func (PySem.W.fnOf "fixed" "Shelf.fixed" (defArgs sFixed) (defBody sFixed) (defScope sFixed) .none kV22 dc22 pm22 an22 cd22 ct22), sl22⟩) (c22 : PySem.W.codeIn K cd22 "Shelf.fixed" = true) (k22 : PySem.W.keepIn K (.ref f22) = true)
    (a23 : PySem.W.findIn K (.ref C) "best" = some (some (.ref f23))) (i23 : PySem.W.isFn K (.ref f23) = true)
    (l23 : K.lookup f23 = some ⟨oc23, od23, .func (PySem.W.fnOf "best" "Shelf.best" (defArgs sBest) (defBody sBest) (defScope sBest) .none kV23 dc23 pm23 an23 cd23 ct23), sl23⟩) (c23 : PySem.W.codeIn K cd23 "Shelf.best" = true) (k23 : PySem.W.keepIn K (.ref f23) = true)
    (a24 : PySem.W.findIn K (.ref C) "rule" = some (some (.ref f24))) (i24 : PySem.W.isFn K (.ref f24) = true)
    (l24 : K.lookup f24 = some ⟨oc24, od24, .func (PySem.W.fnOf "rule" "Shelf.rule" (defArgs sRule) (defBody sRule) (defScope sRule) .none kV24 dc24 pm24 an24 cd24 ct24), sl24⟩) (c24 : PySem.W.codeIn K cd24 "Shelf.rule" = true) (k24 : PySem.W.keepIn K (.ref f24) = true)
    (a25 : PySem.W.findIn K (.ref C) "least" = some (some (.ref f25))) (i25 : PySem.W.isFn K (.ref f25) = true)
    (l25 : K.lookup f25 = some ⟨oc25, od25, .func (PySem.W.fnOf "least" "Shelf.least" (defArgs sLeast) (defBody sLeast) (defScope sLeast) .none kV25 dc25 pm25 an25 cd25 ct25), sl25⟩) (c25 : PySem.W.codeIn K cd25 "Shelf.least" = true) (k25 : PySem.W.keepIn K (.ref f25) = true)
    (pg : PySem.W.plainGet K C Str.empty = true) (hd : PySem.W.hasDictIn K C = true) (po : PySem.W.plainOver K C = true) (sa : PySem.W.findIn K (.ref C) "__setattr__" = some (some (.builtin "object.__setattr__"))) (mk : PySem.W.makesIn K C = true) (kc : PySem.W.keepIn K (.ref C) = true)
    (nR : PySem.W.findIn K (.ref C) "row" = some none) (nA : PySem.W.findIn K (.ref C) "asked" = some none)
    (z_sorted : PySem.W.nsIn K mainGlobals "sorted" = some none)
    (z_list : PySem.W.nsIn K mainGlobals "list" = some none)
    (z_range : PySem.W.nsIn K mainGlobals "range" = some none)
    (z_tuple : PySem.W.nsIn K mainGlobals "tuple" = some none)
    (z_sum : PySem.W.nsIn K mainGlobals "sum" = some none)
    (z_len : PySem.W.nsIn K mainGlobals "len" = some none)
    (z_enumerate : PySem.W.nsIn K mainGlobals "enumerate" = some none)
    (z_min : PySem.W.nsIn K mainGlobals "min" = some none)
    (z_max : PySem.W.nsIn K mainGlobals "max" = some none)
    (n_TO_FRONT : PySem.W.nsIn K mainGlobals "TO_FRONT" = some (some (.int 0 kTO_FRONT)))
    (n_ONE_AHEAD : PySem.W.nsIn K mainGlobals "ONE_AHEAD" = some (some (.int 1 kONE_AHEAD)))
    (n_LAST_RULE : PySem.W.nsIn K mainGlobals "LAST_RULE" = some (some (.int 2 kLAST_RULE)))
    (n_BAD : PySem.W.nsIn K mainGlobals "BAD" = some (some (.int (-1) kBAD)))
    (n_NO_THING : PySem.W.nsIn K mainGlobals "NO_THING" = some (some (.int (-2) kNO_THING)))
    (n_ASKED_ALREADY : PySem.W.nsIn K mainGlobals "ASKED_ALREADY" = some (some (.int (-4) kASKED_ALREADY)))
    (n_TOO_MANY : PySem.W.nsIn K mainGlobals "TOO_MANY" = some (some (.int (-5) kTOO_MANY)))
    (n_MOST_THINGS : PySem.W.nsIn K mainGlobals "MOST_THINGS" = some (some (.int 4 kMOST_THINGS)))
    (n_MOST_TIMES : PySem.W.nsIn K mainGlobals "MOST_TIMES" = some (some (.int 10 kMOST_TIMES)))
    (aS : PySem.W.nsIn K mainGlobals "SHAPES" = some (some (.ref sh))) (lS : K.lookup sh = some ⟨.type "tuple", odS, .seq #[.ref t0, .ref t1, .ref t2, .ref t3, .ref t4, .ref t5, .ref t6] nS, slS⟩)
    (lT0 : K.lookup t0 = some ⟨.type "tuple", odT0, .seq #[.int 1 u0, .int 0 v0] nT0, slT0⟩)
    (lT1 : K.lookup t1 = some ⟨.type "tuple", odT1, .seq #[.int 0 u1, .int 1 v1] nT1, slT1⟩)
    (lT2 : K.lookup t2 = some ⟨.type "tuple", odT2, .seq #[.int 1 u2, .int 0 v2] nT2, slT2⟩)
    (lT3 : K.lookup t3 = some ⟨.type "tuple", odT3, .seq #[.int 0 u3, .int 1 v3] nT3, slT3⟩)
    (lT4 : K.lookup t4 = some ⟨.type "tuple", odT4, .seq #[.int 0 u4, .int 0 v4] nT4, slT4⟩)
    (lT5 : K.lookup t5 = some ⟨.type "tuple", odT5, .seq #[.int 1 u5, .int 0 v5] nT5, slT5⟩)
    (lT6 : K.lookup t6 = some ⟨.type "tuple", odT6, .seq #[.int 0 u6, .int 0 v6] nT6, slT6⟩) :
    ∃ fd : FuncData, (∀ (s : Shared) (us : List Value), us.length = (["calls"] : List Str).length → BindsTo s fd ⟨us, []⟩ ((["calls"] : List Str).zip us)) ∧ ∀ base : Heap, K.In base → base.Ns mainGlobals mg → FnOk P w K mg base CX0 7 fa fd ["calls"] (spAnswers K) := by
  have e := hfa.symm.trans (PySem.W.mg_of X G a17)
  cases e
  have F0 := fun_mk (st := sIsRow) l0 c0 k0
  have b0 := F0.binds (ps := ["some", "many"]) fun _ _ _ _ _ _ us hl => match us, hl with | [_, _], _ => rfl
  have F1 := fun_mk (st := sLonger) l1 c1 k1
  have b1 := F1.binds (ps := ["row", "many"]) fun _ _ _ _ _ _ us hl => match us, hl with | [_, _], _ => rfl
  have F2 := fun_mk (st := sAllRows) l2 c2 k2
  have b2 := F2.binds (ps := ["many"]) fun _ _ _ _ _ _ us hl => match us, hl with | [_], _ => rfl
  have F3 := fun_mk (st := sSteps) l3 c3 k3
  have b3 := F3.binds (ps := ["row", "thing"]) fun _ _ _ _ _ _ us hl => match us, hl with | [_, _], _ => rfl
  have F4 := fun_mk (st := sStepsIn) l4 c4 k4
  have b4 := F4.binds (ps := ["row", "asked"]) fun _ _ _ _ _ _ us hl => match us, hl with | [_, _], _ => rfl
  have F5 := fun_mk (st := sPut) l5 c5 k5
  have b5 := F5.binds (ps := ["row", "thing", "place"]) fun _ _ _ _ _ _ us hl => match us, hl with | [_, _, _], _ => rfl
  have F6 := fun_mk (st := sExch) l6 c6 k6
  have b6 := F6.binds (ps := ["row", "other"]) fun _ _ _ _ _ _ us hl => match us, hl with | [_, _], _ => rfl
  have F7 := fun_mk (st := sBestRows) l7 c7 k7
  have b7 := F7.binds (ps := ["many", "asked"]) fun _ _ _ _ _ _ us hl => match us, hl with | [_, _], _ => rfl
  have F8 := fun_mk (st := sBack) l8 c8 k8
  have b8 := F8.binds (ps := ["row", "thing"]) fun _ _ _ _ _ _ us hl => match us, hl with | [_, _], _ => rfl
  have F9 := fun_mk (st := sCheap) l9 c9 k9
  have b9 := F9.binds (ps := ["costs", "row"]) fun _ _ _ _ _ _ us hl => match us, hl with | [_, _], _ => rfl
  have F10 := fun_mk (st := sBehind) l10 c10 k10
  have b10 := F10.binds (ps := ["costs", "rows", "thing"]) fun _ _ _ _ _ _ us hl => match us, hl with | [_, _, _], _ => rfl
  have F11 := fun_mk (st := sLeastAll) l11 c11 k11
  have b11 := F11.binds (ps := ["row", "asked"]) fun _ _ _ _ _ _ us hl => match us, hl with | [_, _], _ => rfl
  have F12 := fun_mk (st := sByCounts) l12 c12 k12
  have b12 := F12.binds (ps := ["row", "thing", "counts"]) fun _ _ _ _ _ _ us hl => match us, hl with | [_, _, _], _ => rfl
  have F13 := fun_mk (st := sPlaceBack) l13 c13 k13
  have b13 := F13.binds (ps := ["rule", "row", "thing", "counts"]) fun _ _ _ _ _ _ us hl => match us, hl with | [_, _, _, _], _ => rfl
  have F14 := fun_mk (st := sByRule) l14 c14 k14
  have b14 := F14.binds (ps := ["rule", "row", "asked"]) fun _ _ _ _ _ _ us hl => match us, hl with | [_, _, _], _ => rfl
  have F15 := fun_mk (st := sAnswer) l15 c15 k15
  have b15 := F15.binds (ps := ["shelf", "call", "some", "rows"]) fun _ _ _ _ _ _ us hl => match us, hl with | [_, _, _, _], _ => rfl
  have F16 := fun_mk (st := sRowsAt) l16 c16 k16
  have b16 := F16.binds (ps := ["calls", "at", "many"]) fun _ _ _ _ _ _ us hl => match us, hl with | [_, _, _], _ => rfl
  have F17 := fun_mk (st := sAnswers) l17 c17 k17
  have b17 := F17.binds (ps := ["calls"]) fun _ _ _ _ _ _ us hl => match us, hl with | [_], _ => rfl
  have F18 := fun_mk (st := sInit) l18 c18 k18
  have b18 := F18.binds (ps := ["self"]) fun _ _ _ _ _ _ us hl => match us, hl with | [_], _ => rfl
  have F19 := fun_mk (st := sBegins) l19 c19 k19
  have b19 := F19.binds (ps := ["self", "many"]) fun _ _ _ _ _ _ us hl => match us, hl with | [_, _], _ => rfl
  have F20 := fun_mk (st := sLaid) l20 c20 k20
  have b20 := F20.binds (ps := ["self", "some"]) fun _ _ _ _ _ _ us hl => match us, hl with | [_, _], _ => rfl
  have F21 := fun_mk (st := sAsks) l21 c21 k21
  have b21 := F21.binds (ps := ["self", "thing"]) fun _ _ _ _ _ _ us hl => match us, hl with | [_, _], _ => rfl
  have F22 := fun_mk (st := sFixed) l22 c22 k22
  have b22 := F22.binds (ps := ["self", "some"]) fun _ _ _ _ _ _ us hl => match us, hl with | [_, _], _ => rfl
  have F23 := fun_mk (st := sBest) l23 c23 k23
  have b23 := F23.binds (ps := ["self"]) fun _ _ _ _ _ _ us hl => match us, hl with | [_], _ => rfl
  have F24 := fun_mk (st := sRule) l24 c24 k24
  have b24 := F24.binds (ps := ["self", "which"]) fun _ _ _ _ _ _ us hl => match us, hl with | [_, _], _ => rfl
  have F25 := fun_mk (st := sLeast) l25 c25 k25
  have b25 := F25.binds (ps := ["self"]) fun _ _ _ _ _ _ us hl => match us, hl with | [_], _ => rfl
  have B : Blt mg := ⟨PySem.W.mg_none_of X G z_sorted, PySem.W.mg_none_of X G z_list, PySem.W.mg_none_of X G z_range, PySem.W.mg_none_of X G z_tuple, PySem.W.mg_none_of X G z_sum, PySem.W.mg_none_of X G z_len, PySem.W.mg_none_of X G z_enumerate, PySem.W.mg_none_of X G z_min, PySem.W.mg_none_of X G z_max⟩
  have N : Cst mg := ⟨⟨_, PySem.W.mg_of X G n_BAD⟩, ⟨_, PySem.W.mg_of X G n_NO_THING⟩, ⟨_, PySem.W.mg_of X G n_ASKED_ALREADY⟩, ⟨_, PySem.W.mg_of X G n_TOO_MANY⟩, ⟨_, PySem.W.mg_of X G n_MOST_THINGS⟩, ⟨_, PySem.W.mg_of X G n_MOST_TIMES⟩, ⟨_, PySem.W.mg_of X G n_LAST_RULE⟩⟩
  have T : ClsT K C := ⟨⟨pg, hd, po, sa⟩, nR, nA⟩
  have S : ShT K mg sh [t0, t1, t2, t3, t4, t5, t6] := by
    refine ⟨PySem.W.mg_of X G aS, fun H => .inr ⟨_, _, _, lS, rfl, rfl, (by show 7 ≤ sizeLine; decide), .cons rfl (.cons rfl (.cons rfl (.cons rfl (.cons rfl (.cons rfl (.cons rfl .nil))))))⟩, fun i m n hi => ?_⟩
    match i, hi with
    | 0, hi => cases hi; exact ⟨t0, rfl, fun H => .inr ⟨_, _, _, lT0, rfl, rfl, (by show 2 ≤ sizeLine; decide), .cons ⟨_, rfl⟩ (.cons ⟨_, rfl⟩ .nil)⟩⟩
    | 1, hi => cases hi; exact ⟨t1, rfl, fun H => .inr ⟨_, _, _, lT1, rfl, rfl, (by show 2 ≤ sizeLine; decide), .cons ⟨_, rfl⟩ (.cons ⟨_, rfl⟩ .nil)⟩⟩
    | 2, hi => cases hi; exact ⟨t2, rfl, fun H => .inr ⟨_, _, _, lT2, rfl, rfl, (by show 2 ≤ sizeLine; decide), .cons ⟨_, rfl⟩ (.cons ⟨_, rfl⟩ .nil)⟩⟩
    | 3, hi => cases hi; exact ⟨t3, rfl, fun H => .inr ⟨_, _, _, lT3, rfl, rfl, (by show 2 ≤ sizeLine; decide), .cons ⟨_, rfl⟩ (.cons ⟨_, rfl⟩ .nil)⟩⟩
    | 4, hi => cases hi; exact ⟨t4, rfl, fun H => .inr ⟨_, _, _, lT4, rfl, rfl, (by show 2 ≤ sizeLine; decide), .cons ⟨_, rfl⟩ (.cons ⟨_, rfl⟩ .nil)⟩⟩
    | 5, hi => cases hi; exact ⟨t5, rfl, fun H => .inr ⟨_, _, _, lT5, rfl, rfl, (by show 2 ≤ sizeLine; decide), .cons ⟨_, rfl⟩ (.cons ⟨_, rfl⟩ .nil)⟩⟩
    | 6, hi => cases hi; exact ⟨t6, rfl, fun H => .inr ⟨_, _, _, lT6, rfl, rfl, (by show 2 ≤ sizeLine; decide), .cons ⟨_, rfl⟩ (.cons ⟨_, rfl⟩ .nil)⟩⟩
    | i + 7, hi => simp [shp] at hi
  refine ⟨PySem.W.fnOf "answers" "answers" (defArgs sAnswers) (defBody sAnswers) (defScope sAnswers) .none kV17 dc17 pm17 an17 cd17 ct17, fun s us hu => match us, hu with | [_], _ => .of_eq rfl, fun base _ _ => ?_⟩
  have gSteps : Has P w K mg base 1 "steps" ["row", "thing"] spSteps := ⟨f3, _, ok_steps F3, PySem.W.mg_of X G a3, k3, b3⟩
  have gLonger : Has P w K mg base 1 "longer" ["row", "many"] spLonger := ⟨f1, _, ok_longer F1 B, PySem.W.mg_of X G a1, k1, b1⟩
  have gAll : Has P w K mg base 2 "all_rows" ["many"] spAllRows := ⟨f2, _, ok_all_rows F2 B gLonger, PySem.W.mg_of X G a2, k2, b2⟩
  have gStepsIn : Has P w K mg base 2 "steps_in" ["row", "asked"] (spStepsIn K) := ⟨f4, _, ok_steps_in F4 B gSteps, PySem.W.mg_of X G a4, k4, b4⟩
  have gPut : Has P w K mg base 1 "put" ["row", "thing", "place"] spPut := ⟨f5, _, ok_put F5 B, PySem.W.mg_of X G a5, k5, b5⟩
  have gExch : Has P w K mg base 1 "exchanges" ["row", "other"] (spExch K) := ⟨f6, _, ok_exchanges F6 B, PySem.W.mg_of X G a6, k6, b6⟩
  have gIsRow : Has P w K mg base 1 "is_row" ["some", "many"] (spIsRow K) := ⟨f0, _, ok_is_row F0 B, PySem.W.mg_of X G a0, k0, b0⟩
  have gByCounts : Has P w K mg base 1 "place_by_counts" ["row", "thing", "counts"] (spByCounts K) := ⟨f12, _, ok_by_counts F12 B, PySem.W.mg_of X G a12, k12, b12⟩
  have gPlace : Has P w K mg base 2 "place_back" ["rule", "row", "thing", "counts"] (spPlaceBack K) := ⟨f13, _, ok_place_back F13 B ⟨_, PySem.W.mg_of X G n_TO_FRONT⟩ ⟨_, PySem.W.mg_of X G n_ONE_AHEAD⟩ gByCounts, PySem.W.mg_of X G a13, k13, b13⟩
  have gByRule : Has P w K mg base 3 "by_rule" ["rule", "row", "asked"] (spByRule K) := ⟨f14, _, ok_by_rule F14 B gSteps gPut gPlace, PySem.W.mg_of X G a14, k14, b14⟩
  have gBestRows : Has P w K mg base 3 "best_rows" ["many", "asked"] (spBestRows K) := ⟨f7, _, ok_best_rows F7 B gAll gStepsIn, PySem.W.mg_of X G a7, k7, b7⟩
  have gBack : Has P w K mg base 2 "rows_back" ["row", "thing"] spBack := ⟨f8, _, ok_rows_back F8 B gPut, PySem.W.mg_of X G a8, k8, b8⟩
  have gCheap : Has P w K mg base 2 "cheapest_to" ["costs", "row"] (spCheap P w) := ⟨f9, _, ok_cheapest_to F9 B gExch, PySem.W.mg_of X G a9, k9, b9⟩
  have gBehind : Has P w K mg base 3 "costs_behind" ["costs", "rows", "thing"] (spBehind P w) := ⟨f10, _, ok_costs_behind F10 B gCheap gSteps gBack, PySem.W.mg_of X G a10, k10, b10⟩
  have gLeastAll : Has P w K mg base 4 "least_at_all" ["row", "asked"] (spLeastAll K) := ⟨f11, _, ok_least_at_all F11 B gAll gBehind, PySem.W.mg_of X G a11, k11, b11⟩
  have m0 : HasM P w K mg base C 1 "begins" ["self", "many"] (spBegins C) := ⟨f19, _, ⟨a19, i19, k19⟩, ok_begins F19 T B N, b19⟩
  have m1 : HasM P w K mg base C 2 "laid" ["self", "some"] (spLaid K C) := ⟨f20, _, ⟨a20, i20, k20⟩, ok_laid F20 T B N gIsRow, b20⟩
  have m2 : HasM P w K mg base C 1 "asks" ["self", "thing"] (spAsks C) := ⟨f21, _, ⟨a21, i21, k21⟩, ok_asks F21 T B N, b21⟩
  have m3 : HasM P w K mg base C 3 "fixed" ["self", "some"] (spFixed K C) := ⟨f22, _, ⟨a22, i22, k22⟩, ok_fixed F22 T B N gIsRow gStepsIn, b22⟩
  have m4 : HasM P w K mg base C 4 "best" ["self"] (spBest C) := ⟨f23, _, ⟨a23, i23, k23⟩, ok_best F23 T B gBestRows, b23⟩
  have m5 : HasM P w K mg base C 4 "rule" ["self", "which"] (spRule C) := ⟨f24, _, ⟨a24, i24, k24⟩, ok_rule F24 T B N gByRule, b24⟩
  have m6 : HasM P w K mg base C 5 "least" ["self"] (spLeast C) := ⟨f25, _, ⟨a25, i25, k25⟩, ok_least F25 T gLeastAll, b25⟩
  have gAnswer : Has P w K mg base 6 "answer" ["shelf", "call", "some", "rows"] (spAnswer K C) := ⟨f15, _, ok_answer F15 T m0 m1 m2 m3 m4 m5 m6, PySem.W.mg_of X G a15, k15, b15⟩
  have gRowsAt : Has P w K mg base 1 "rows_at" ["calls", "at", "many"] (spRowsAt K) := ⟨f16, _, ok_rows_at F16 B, PySem.W.mg_of X G a16, k16, b16⟩
  exact ok_answers F17 B (PySem.W.mg_of X G aC) ⟨mk, a18, i18, kc⟩ (ok_init F18 T) b18 S gRowsAt gAnswer
end
end Cr
set_option Elab.async false
open PySem PySem.W PyProof.Rows
set_option maxRecDepth 100000 in
set_option maxHeartbeats 0 in
theorem PySem.Challenge.cw_counterrow_s01_answers_holds : PySem.Challenge.rw_counterrow_s01_answers.Holds := by
  w_on; k_headS; (case hw => exact ⟨[.list [.int 4]], by decide +kernel, by decide +kernel⟩)
  k_fillS
  refine L2.walk_specK (r := PySem.Challenge.rw_counterrow_s01_answers) (k := 7) (CX := L2.CX0) (ps := ["calls"]) (sp := Cr.spAnswers) (by decide +kernel) rfl rfl ⟨rfl, by decide, by decide⟩ (fun w h Y => PySem.W.kIn_of Y) ?F ?S (fun _ _ _ _ z => z)
  case F =>
    intro w mg fa h Y KX G hmg
    refine' Cr.all_mk KX G hmg ?aC ?a0 ?l0 ?c0 ?k0 ?a1 ?l1 ?c1 ?k1 ?a2 ?l2 ?c2 ?k2 ?a3 ?l3 ?c3 ?k3 ?a4 ?l4 ?c4 ?k4 ?a5 ?l5 ?c5 ?k5 ?a6 ?l6 ?c6 ?k6 ?a7 ?l7 ?c7 ?k7 ?a8 ?l8 ?c8 ?k8 ?a9 ?l9 ?c9 ?k9 ?a10 ?l10 ?c10 ?k10 ?a11 ?l11 ?c11 ?k11 ?a12 ?l12 ?c12 ?k12 ?a13 ?l13 ?c13 ?k13 ?a14 ?l14 ?c14 ?k14 ?a15 ?l15 ?c15 ?k15 ?a16 ?l16 ?c16 ?k16 ?a17 ?l17 ?c17 ?k17 ?a18 ?i18 ?l18 ?c18 ?k18 ?a19 ?i19 ?l19 ?c19 ?k19 ?a20 ?i20 ?l20 ?c20 ?k20 ?a21 ?i21 ?l21 ?c21 ?k21 ?a22 ?i22 ?l22 ?c22 ?k22 ?a23 ?i23 ?l23 ?c23 ?k23 ?a24 ?i24 ?l24 ?c24 ?k24 ?a25 ?i25 ?l25 ?c25 ?k25 ?pg ?hd ?po ?sa ?mk ?kc ?nR ?nA ?z_sorted ?z_list ?z_range ?z_tuple ?z_sum ?z_len ?z_enumerate ?z_min ?z_max ?n_TO_FRONT ?n_ONE_AHEAD ?n_LAST_RULE ?n_BAD ?n_NO_THING ?n_ASKED_ALREADY ?n_TOO_MANY ?n_MOST_THINGS ?n_MOST_TIMES ?aS ?lS ?lT0 ?lT1 ?lT2 ?lT3 ?lT4 ?lT5 ?lT6
    (case aC => k_is)
    (case a0 => k_is)
    (case l0 => k_is)
    (case c0 => k_is)
    (case k0 => k_is)
    (case a1 => k_is)
    (case l1 => k_is)
    (case c1 => k_is)
    (case k1 => k_is)
    (case a2 => k_is)
    (case l2 => k_is)
    (case c2 => k_is)
    (case k2 => k_is)
    (case a3 => k_is)
    (case l3 => k_is)
    (case c3 => k_is)
    (case k3 => k_is)
    (case a4 => k_is)
    (case l4 => k_is)
    (case c4 => k_is)
    (case k4 => k_is)
    (case a5 => k_is)
    (case l5 => k_is)
    (case c5 => k_is)
    (case k5 => k_is)
    (case a6 => k_is)
    (case l6 => k_is)
    (case c6 => k_is)
    (case k6 => k_is)
    (case a7 => k_is)
    (case l7 => k_is)
    (case c7 => k_is)
    (case k7 => k_is)
    (case a8 => k_is)
    (case l8 => k_is)
    (case c8 => k_is)
    (case k8 => k_is)
    (case a9 => k_is)
    (case l9 => k_is)
    (case c9 => k_is)
    (case k9 => k_is)
    (case a10 => k_is)
    (case l10 => k_is)
    (case c10 => k_is)
    (case k10 => k_is)
    (case a11 => k_is)
    (case l11 => k_is)
    (case c11 => k_is)
    (case k11 => k_is)
    (case a12 => k_is)
    (case l12 => k_is)
    (case c12 => k_is)
    (case k12 => k_is)
    (case a13 => k_is)
    (case l13 => k_is)
    (case c13 => k_is)
    (case k13 => k_is)
    (case a14 => k_is)
    (case l14 => k_is)
    (case c14 => k_is)
    (case k14 => k_is)
    (case a15 => k_is)
    (case l15 => k_is)
    (case c15 => k_is)
    (case k15 => k_is)
    (case a16 => k_is)
    (case l16 => k_is)
    (case c16 => k_is)
    (case k16 => k_is)
    (case a17 => k_is)
    (case l17 => k_is)
    (case c17 => k_is)
    (case k17 => k_is)
    (case a18 => k_is)
    (case i18 => k_is)
    (case l18 => k_is)
    (case c18 => k_is)
    (case k18 => k_is)
    (case a19 => k_is)
    (case i19 => k_is)
    (case l19 => k_is)
    (case c19 => k_is)
    (case k19 => k_is)
    (case a20 => k_is)
    (case i20 => k_is)
    (case l20 => k_is)
    (case c20 => k_is)
    (case k20 => k_is)
    (case a21 => k_is)
    (case i21 => k_is)
    (case l21 => k_is)
    (case c21 => k_is)
    (case k21 => k_is)
    (case a22 => k_is)
    (case i22 => k_is)
    (case l22 => k_is)
    (case c22 => k_is)
    (case k22 => k_is)
    (case a23 => k_is)
    (case i23 => k_is)
    (case l23 => k_is)
    (case c23 => k_is)
    (case k23 => k_is)
    (case a24 => k_is)
    (case i24 => k_is)
    (case l24 => k_is)
    (case c24 => k_is)
    (case k24 => k_is)
    (case a25 => k_is)
    (case i25 => k_is)
    (case l25 => k_is)
    (case c25 => k_is)
    (case k25 => k_is)
    (case pg => k_is)
    (case hd => k_is)
    (case po => k_is)
    (case sa => k_is)
    (case mk => k_is)
    (case kc => k_is)
    (case nR => k_is)
    (case nA => k_is)
    (case z_sorted => k_is)
    (case z_list => k_is)
    (case z_range => k_is)
    (case z_tuple => k_is)
    (case z_sum => k_is)
    (case z_len => k_is)
    (case z_enumerate => k_is)
    (case z_min => k_is)
    (case z_max => k_is)
    (case n_TO_FRONT => k_is)
    (case n_ONE_AHEAD => k_is)
    (case n_LAST_RULE => k_is)
    (case n_BAD => k_is)
    (case n_NO_THING => k_is)
    (case n_ASKED_ALREADY => k_is)
    (case n_TOO_MANY => k_is)
    (case n_MOST_THINGS => k_is)
    (case n_MOST_TIMES => k_is)
    (case aS => k_is)
    (case lS => k_is)
    (case lT0 => k_is)
    (case lT1 => k_is)
    (case lT2 => k_is)
    (case lT3 => k_is)
    (case lT4 => k_is)
    (case lT5 => k_is)
    (case lT6 => k_is)
  case S =>
    intro K H xs a hO hwi hask hx
    cases hx with
    | cons h1 h2 =>
      cases h2
      cases h1 with
      | lst hs ha =>
        have e := L2.ints_dw a.1 _ ha
        subst e
        have q : ((Codec.inLen 0 30000 a.1 && a.1.all (Codec.inInt 0 4294967295)) && true) = true := hwi
        rw [Bool.and_eq_true, Bool.and_eq_true] at q
        have h0 : ∀ z ∈ a.1, 0 ≤ z := fun z hz => (Codec.inInt_iff.mp (List.all_eq_true.mp q.1.2 z hz)).1
        exact ⟨_, a.1, rfl, hs, h0, hask, fun H' p hp => .lst (L2.SqL.of hp) (L2.dw_ints _)⟩
#print axioms PySem.Challenge.cw_counterrow_s01_answers_holds
