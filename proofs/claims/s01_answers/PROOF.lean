import PyProof.Rows.All
import Wide.All
import OpenK.AllK
import Wide.FinOn
import Open.SpecLaws
import KE.OsGo
import HandS.ForSpec
import HandS.Comp
import HandS.Iter
import HandS.Walk
import HandS.Text
import PySem.Challenge.RW_answerdesk_s01_answers
set_option Elab.async false
set_option maxRecDepth 100000
set_option maxHeartbeats 4000000
/-! The mathematics: no program in sight. -/
namespace Ad
open Km358

/-! ### days -/
/-- 1 where a week's bits tell work on a day -/
def hw (w d : Nat) : Int := if w.testBit (d % 7) = true then 1 else 0
/-- n days from f on, by the week alone -/
def cnt (w f : Nat) : Nat → Int
  | 0 => 0
  | n + 1 => cnt w f n + hw w (f + n)
/-- n days from f on, the working days -/
def cntW (l : Land) (f : Nat) : Nat → Nat
  | 0 => 0
  | n + 1 => cntW l f n + (if l.works (f + n) = true then 1 else 0)
/-- the holidays among n days from f on, those that the week has work on -/
def lost (w : Nat) (hs : List Nat) (f n : Nat) : Int := ((hs.filter fun d => decide (f ≤ d) && decide (d < f + n)).map (hw w)).sum

theorem hw_nonneg (w d : Nat) : 0 ≤ hw w d := by unfold hw; split <;> decide
theorem hw_le (w d : Nat) : hw w d ≤ 1 := by unfold hw; split <;> decide
theorem hw_add7 (w d k : Nat) : hw w (d + 7 * k) = hw w d := by
  unfold hw
  rw [Nat.add_mul_mod_self_left]
theorem cnt_add (w f m : Nat) : ∀ n, cnt w f (m + n) = cnt w f m + cnt w (f + m) n
  | 0 => by simp [cnt]
  | n + 1 => by
    show cnt w f (m + n) + hw w (f + (m + n)) = cnt w f m + (cnt w (f + m) n + hw w (f + m + n))
    rw [cnt_add w f m n, Nat.add_assoc f m n]
    omega
theorem cnt_shift (w f k : Nat) : ∀ n, cnt w (f + 7 * k) n = cnt w f n
  | 0 => rfl
  | n + 1 => by
    show cnt w (f + 7 * k) n + hw w (f + 7 * k + n) = cnt w f n + hw w (f + n)
    rw [cnt_shift w f k n, show f + 7 * k + n = (f + n) + 7 * k by omega, hw_add7]
theorem cnt_one (w f : Nat) : cnt w f 1 = hw w f := by
  show (0 : Int) + hw w (f + 0) = hw w f
  rw [Nat.add_zero]; omega
/-- a week counts alike wherever it begins -/
theorem cnt_week (w : Nat) : ∀ f, cnt w f 7 = cnt w 0 7
  | 0 => rfl
  | f + 1 => by
    have h1 := cnt_add w f 1 7
    have h2 := cnt_add w f 7 1
    have e : cnt w f (1 + 7) = cnt w f (7 + 1) := rfl
    rw [cnt_one] at h1 h2
    have h3 := hw_add7 w f 1
    have h4 : f + 7 * 1 = f + 7 := rfl
    rw [h4] at h3
    have := cnt_week w f
    omega
theorem cnt_weeks (w f : Nat) : ∀ k, cnt w f (7 * k) = (k : Int) * cnt w 0 7
  | 0 => by simp [cnt]
  | k + 1 => by
    have e : 7 * (k + 1) = 7 * k + 7 := by omega
    rw [e, cnt_add, cnt_weeks w f k, cnt_week w (f + 7 * k)]
    rw [show ((k + 1 : Nat) : Int) = (k : Int) + 1 by omega, Int.add_mul]
    omega
/-- what work_by_weeks reckons -/
theorem cnt_split (w f n : Nat) : cnt w f n = ((n / 7 : Nat) : Int) * cnt w 0 7 + cnt w (f + 7 * (n / 7)) (n - 7 * (n / 7)) := by
  have e : n = 7 * (n / 7) + (n - 7 * (n / 7)) := by omega
  have h := cnt_add w f (7 * (n / 7)) (n - 7 * (n / 7))
  rw [← e, cnt_weeks] at h
  exact h
theorem cnt_nonneg (w f : Nat) : ∀ n, 0 ≤ cnt w f n
  | 0 => Int.le_refl _
  | n + 1 => by
    show 0 ≤ cnt w f n + hw w (f + n)
    have := cnt_nonneg w f n
    have := hw_nonneg w (f + n)
    omega
theorem cnt_le (w f : Nat) : ∀ n, cnt w f n ≤ (n : Int)
  | 0 => Int.le_refl _
  | n + 1 => by
    show cnt w f n + hw w (f + n) ≤ ((n + 1 : Nat) : Int)
    have := cnt_le w f n
    have := hw_le w (f + n)
    omega
/-- a week of 1 to 127 has a day of work -/
theorem week_one {w : Nat} (h0 : 1 ≤ w) (h1 : w < 128) : 1 ≤ cnt w 0 7 := by
  have h : ∀ w : Fin 128, 1 ≤ w.val → 1 ≤ cnt w.val 0 7 := by decide
  exact h ⟨w, h1⟩ h0

theorem sum_map_nonneg {l : List Nat} {g : Nat → Int} (h : ∀ d, 0 ≤ g d) : 0 ≤ (l.map g).sum := by
  induction l with
  | nil => exact Int.le_refl _
  | cons a r ih =>
    rw [List.map_cons, List.sum_cons]
    have := h a
    omega
theorem lost_le (w : Nat) (hs : List Nat) (f n : Nat) : lost w hs f n ≤ (hs.length : Int) := by
  unfold lost
  induction hs with
  | nil => exact Int.le_refl _
  | cons a r ih =>
    have := hw_le w a
    have := hw_nonneg w a
    rw [List.length_cons]
    by_cases c : (decide (f ≤ a) && decide (a < f + n)) = true
    · rw [List.filter_cons, if_pos c, List.map_cons, List.sum_cons]
      omega
    · rw [List.filter_cons, if_neg c]
      omega
/-- one day more -/
theorem lost_more (w : Nat) (f n : Nat) : ∀ hs : List Nat, hs.Nodup → lost w hs f (n + 1) = lost w hs f n + (if hs.contains (f + n) = true then hw w (f + n) else 0)
  | [], _ => rfl
  | a :: r, nd => by
    have ih := lost_more w f n r (List.nodup_cons.mp nd).2
    have na := (List.nodup_cons.mp nd).1
    unfold lost at ih ⊢
    by_cases e : a = f + n
    · subst e
      have c1 : (decide (f ≤ f + n) && decide (f + n < f + (n + 1))) = true := by simp
      have c2 : ¬ (decide (f ≤ f + n) && decide (f + n < f + n)) = true := by simp
      have c3 : ((f + n) :: r).contains (f + n) = true := by simp
      have c4 : ¬ r.contains (f + n) = true := by simpa using na
      rw [List.filter_cons, if_pos c1, List.filter_cons, if_neg c2, List.map_cons, List.sum_cons, ih, if_pos c3, if_neg c4]
      omega
    · have c3 : (a :: r).contains (f + n) = r.contains (f + n) := by
        have : ¬ f + n = a := fun q => e q.symm
        simp [this]
      rw [c3]
      by_cases c : (decide (f ≤ a) && decide (a < f + n)) = true
      · have c1 : (decide (f ≤ a) && decide (a < f + (n + 1))) = true := by
          simp at c ⊢
          omega
        rw [List.filter_cons, if_pos c1, List.filter_cons, if_pos c, List.map_cons, List.map_cons, List.sum_cons, List.sum_cons, ih]
        omega
      · have c1 : ¬ (decide (f ≤ a) && decide (a < f + (n + 1))) = true := by
          simp at c ⊢
          omega
        rw [List.filter_cons, if_neg c1, List.filter_cons, if_neg c, ih]
theorem lost_zero (w : Nat) (hs : List Nat) (f : Nat) : lost w hs f 0 = 0 := by
  unfold lost
  have e : (hs.filter fun d => decide (f ≤ d) && decide (d < f + 0)) = [] := by
    rw [List.filter_eq_nil_iff]
    intro a _ h
    simp at h
    omega
  rw [e]
  rfl
theorem works_eq (l : Land) (d : Nat) : (if l.works d = true then (1 : Int) else 0) = hw l.week d - (if l.holidays.contains d = true then hw l.week d else 0) := by
  unfold Land.works hw
  cases l.week.testBit (d % 7) <;> cases l.holidays.contains d <;> simp
/-- what working_days reckons is the number of working days -/
theorem cntW_eq (l : Land) (nd : l.holidays.Nodup) (f : Nat) : ∀ n, ((cntW l f n : Nat) : Int) = cnt l.week f n - lost l.week l.holidays f n
  | 0 => by
    rw [lost_zero]
    rfl
  | n + 1 => by
    have ih := cntW_eq l nd f n
    have e := works_eq l (f + n)
    show ((cntW l f n + (if l.works (f + n) = true then 1 else 0) : Nat) : Int) = cnt l.week f n + hw l.week (f + n) - _
    rw [lost_more _ _ _ _ nd]
    have e2 : (((if l.works (f + n) = true then 1 else 0 : Nat)) : Int) = (if l.works (f + n) = true then (1 : Int) else 0) := by split <;> rfl
    rw [Int.natCast_add, e2, e, ih]
    omega
theorem cntW_add (l : Land) (f m : Nat) : ∀ n, cntW l f (m + n) = cntW l f m + cntW l (f + m) n
  | 0 => rfl
  | n + 1 => by
    show cntW l f (m + n) + (if l.works (f + (m + n)) = true then 1 else 0) = cntW l f m + (cntW l (f + m) n + (if l.works (f + m + n) = true then 1 else 0))
    rw [cntW_add l f m n, Nat.add_assoc f m n]
    omega
theorem cntW_mono (l : Land) (f : Nat) {m n : Nat} (h : m ≤ n) : cntW l f m ≤ cntW l f n := by
  have e : n = m + (n - m) := by omega
  rw [e, cntW_add]
  exact Nat.le_add_right _ _
theorem cntW_first (l : Land) (f n : Nat) : cntW l f (n + 1) = (if l.works f = true then 1 else 0) + cntW l (f + 1) n := by
  rw [Nat.add_comm n 1, cntW_add]
  show (0 + (if l.works (f + 0) = true then 1 else 0)) + _ = _
  rw [Nat.add_zero, Nat.zero_add]

/-- a land as the office has it -/
structure GoodLand (l : Land) : Prop where
  w1 : 1 ≤ l.week
  w2 : l.week < 128
  few : l.holidays.length ≤ 32
  nd : l.holidays.Nodup
  le : ∀ d ∈ l.holidays, d ≤ 36500
theorem GoodLand.enough {l : Land} (g : GoodLand l) (f : Nat) : 250 ≤ cntW l f (7 * 282) := by
  have h1 := cntW_eq l g.nd f (7 * 282)
  have h2 := lost_le l.week l.holidays f (7 * 282)
  have h3 := cnt_weeks l.week f 282
  have h4 := week_one g.w1 g.w2
  have h5 := g.few
  have h6 : (282 : Int) * 1 ≤ (282 : Int) * cnt l.week 0 7 := Int.mul_le_mul_of_nonneg_left h4 (by decide)
  rw [h3] at h1
  have h7 : (((282 : Nat)) : Int) = 282 := rfl
  rw [h7] at h1
  omega

/-- where the walk ends -/
theorem walk_some (l : Land) : ∀ (f n d : Nat), 1 ≤ n → n ≤ cntW l d f → ∃ D, l.walk f n d = some D ∧ d ≤ D ∧ D < d + f ∧ cntW l d (D - d) < n ∧ cntW l d (D - d + 1) = n
  | 0, n, d, h1, h2 => by
    have : cntW l d 0 = 0 := rfl
    omega
  | f + 1, n, d, h1, h2 => by
    rw [cntW_first] at h2
    unfold Land.walk
    by_cases c : l.works d = true
    · rw [if_pos c] at h2 ⊢
      by_cases c1 : n ≤ 1
      · rw [if_pos c1]
        refine ⟨d, rfl, Nat.le_refl _, by omega, ?_, ?_⟩
        · rw [Nat.sub_self]
          exact h1
        · rw [Nat.sub_self, cntW_first, if_pos c]
          show 1 + 0 = n
          omega
      · rw [if_neg c1]
        obtain ⟨D, e, a1, a2, a3, a4⟩ := walk_some l f (n - 1) (d + 1) (by omega) (by omega)
        refine ⟨D, e, by omega, by omega, ?_, ?_⟩
        · rw [show D - d = (D - (d + 1)) + 1 by omega, cntW_first, if_pos c]
          omega
        · rw [show D - d + 1 = (D - (d + 1) + 1) + 1 by omega, cntW_first, if_pos c]
          omega
    · rw [if_neg c] at h2 ⊢
      obtain ⟨D, e, a1, a2, a3, a4⟩ := walk_some l f n (d + 1) h1 (by omega)
      refine ⟨D, e, by omega, by omega, ?_, ?_⟩
      · rw [show D - d = (D - (d + 1)) + 1 by omega, cntW_first, if_neg c]
        omega
      · rw [show D - d + 1 = (D - (d + 1) + 1) + 1 by omega, cntW_first, if_neg c]
        omega
theorem GoodLand.walk {l : Land} (g : GoodLand l) {n d : Nat} (h1 : 1 ≤ n) (h2 : n ≤ 250) : ∃ D, l.walk (2 * LAST + 1) n d = some D ∧ d ≤ D ∧ D < d + (2 * LAST + 1) ∧ cntW l d (D - d) < n ∧ cntW l d (D - d + 1) = n := by
  refine walk_some l _ n d h1 ?_
  have h3 := g.enough d
  have h4 := cntW_mono l d (show 7 * 282 ≤ 2 * LAST + 1 by decide)
  omega
/-- before a day just if the term had gone by the day ahead of it -/
theorem due_before {l : Land} {n d D t : Nat} (h1 : d ≤ D) (h2 : cntW l d (D - d) < n) (h3 : cntW l d (D - d + 1) = n) : D < t ↔ n ≤ cntW l d (t - d) := by
  constructor
  · intro h
    rw [← h3]
    exact cntW_mono l d (by omega)
  · intro h
    refine Nat.lt_of_not_le fun q => ?_
    have := cntW_mono l d (show t - d ≤ D - d by omega)
    omega

/-! ### the office -/
structure Good (o : Office) : Prop where
  l1 : o.lands.length ≤ 8
  land : ∀ l ∈ o.lands, GoodLand l
  p1 : o.people.length ≤ 16
  pers : ∀ p ∈ o.people, p.land < o.lands.length ∧ p.deputy ≤ 255 ∧ p.away.length ≤ 8
  t1 : o.letters.length ≤ 64
  lett : ∀ x ∈ o.letters, x.to < o.people.length ∧ 1 ≤ x.term ∧ x.term ≤ 250 ∧ x.came ≤ o.today
  day : o.today ≤ 36500

theorem getD_mem {α : Type} {l : List α} {k : Nat} {x : α} (h : k < l.length) : l.getD k x ∈ l := by
  rw [List.getD_eq_getElem?_getD, List.getElem?_eq_getElem h]
  exact List.getElem_mem h
theorem Good.land_of {o : Office} (g : Good o) {k : Nat} (h : k < o.lands.length) : GoodLand (o.land k) := g.land _ (getD_mem h)
theorem Good.person_of {o : Office} (g : Good o) {k : Nat} (h : k < o.people.length) : (o.person k).land < o.lands.length ∧ (o.person k).deputy ≤ 255 ∧ (o.person k).away.length ≤ 8 := g.pers _ (getD_mem h)
theorem Good.land_to {o : Office} (g : Good o) {x : Letter} (h : x.to < o.people.length) : GoodLand (o.land (o.person x.to).land) := g.land_of (g.person_of h).1

/-! due -/
theorem Good.due_some {o : Office} (g : Good o) {x : Letter} (h : x ∈ o.letters) : ∃ D, o.due x = some D ∧ x.came + 1 ≤ D ∧ cntW (o.land (o.person x.to).land) (x.came + 1) (D - (x.came + 1)) < x.term ∧ cntW (o.land (o.person x.to).land) (x.came + 1) (D - (x.came + 1) + 1) = x.term := by
  obtain ⟨h1, h2, h3, h4⟩ := g.lett x h
  obtain ⟨D, e, a1, _, a2, a3⟩ := (g.land_to h1).walk (d := x.came + 1) h2 h3
  exact ⟨D, e, a1, a2, a3⟩
/-- late, by the working days gone -/
theorem Good.late_iff {o : Office} (g : Good o) {x : Letter} (h : x ∈ o.letters) : o.isLate x = (isOpen x && decide (x.term ≤ cntW (o.land (o.person x.to).land) (x.came + 1) (o.today - (x.came + 1)))) := by
  obtain ⟨D, e, a1, a2, a3⟩ := g.due_some h
  unfold Office.isLate
  rw [e]
  congr 1
  exact decide_eq_decide.mpr (due_before a1 a2 a3)

/-! ### who has a letter -/
theorem nodup_len : ∀ (n : Nat) (l : List Nat), l.Nodup → (∀ x ∈ l, x < n) → l.length ≤ n
  | 0, l, _, h => by
    cases l with
    | nil => exact Nat.le_refl _
    | cons a r => exact absurd (h a (List.mem_cons_self ..)) (Nat.not_lt_zero _)
  | n + 1, l, nd, h => by
    have ih := nodup_len n (l.erase n) (nd.erase n) fun x hx => by
      have q := h x (List.mem_of_mem_erase hx)
      have ne : x ≠ n := fun e => by
        subst e
        exact (List.Nodup.not_mem_erase nd) hx
      omega
    have := List.length_erase (a := n) (l := l)
    by_cases c : n ∈ l
    · rw [if_pos (by simpa using c)] at this
      omega
    · rw [if_neg (by simpa using c)] at this
      omega
theorem seen_all {n : Nat} {seen : List Nat} (nd : seen.Nodup) (h : ∀ x ∈ seen, x < n) (hl : n ≤ seen.length) {k : Nat} (hk : k < n) : seen.contains k = true := by
  by_cases c : k ∈ seen
  · simpa using c
  · have := nodup_len n (k :: seen) (List.nodup_cons.mpr ⟨c, nd⟩) fun x hx => by
      rcases List.mem_cons.mp hx with e | e
      · rw [e]
        exact hk
      · exact h x e
    rw [List.length_cons] at this
    omega
/-- so many turns as there are people are enough -/
theorem finds_more (o : Office) (d : Nat) : ∀ (f : Nat) (seen : List Nat) (k : Nat), seen.Nodup → (∀ x ∈ seen, x < o.people.length) → o.people.length ≤ f + seen.length → o.finds d (f + 1) seen k = o.finds d f seen k
  | 0, seen, k, nd, h, hl => by
    show (if o.people.length ≤ k ∨ seen.contains k = true then none else _) = none
    rw [if_pos]
    by_cases c : o.people.length ≤ k
    · exact .inl c
    · exact .inr (seen_all nd h (by omega) (by omega))
  | f + 1, seen, k, nd, h, hl => by
    show (if o.people.length ≤ k ∨ seen.contains k = true then none else if o.isIn k d = true then some k else o.finds d (f + 1) (seen ++ [k]) (o.person k).deputy) = (if o.people.length ≤ k ∨ seen.contains k = true then none else if o.isIn k d = true then some k else o.finds d f (seen ++ [k]) (o.person k).deputy)
    by_cases c : o.people.length ≤ k ∨ seen.contains k = true
    · rw [if_pos c, if_pos c]
    · rw [if_neg c, if_neg c]
      have c1 : k ∉ seen := fun q => c (.inr (by simpa using q))
      rw [finds_more o d f (seen ++ [k]) (o.person k).deputy ?_ ?_ ?_]
      · rw [List.nodup_append]
        refine ⟨nd, by simp, fun a ha b hb => ?_⟩
        rw [List.mem_singleton] at hb
        subst hb
        exact fun e => c1 (e ▸ ha)
      · intro x hx
        rcases List.mem_append.mp hx with q | q
        · exact h x q
        · rw [List.mem_singleton] at q
          omega
      · rw [List.length_append, List.length_singleton]
        omega
theorem finds_any (o : Office) (d k : Nat) : ∀ m, o.finds d (o.people.length + m) [] k = o.finds d o.people.length [] k
  | 0 => rfl
  | m + 1 => by
    show o.finds d (o.people.length + m + 1) [] k = _
    rw [finds_more o d (o.people.length + m) [] k List.nodup_nil (by simp) (by simp), finds_any o d k m]
theorem Good.holder_is {o : Office} (g : Good o) (x : Letter) (d : Nat) : o.holder x d = o.finds d o.people.length [] x.to := by
  unfold Office.holder
  have e : PEOPLE + 1 = o.people.length + (PEOPLE + 1 - o.people.length) := by
    have := g.p1
    have : PEOPLE = 16 := rfl
    omega
  rw [e]
  exact finds_any o d x.to _
/-- a holder is a person's number -/
theorem finds_lt (o : Office) (d : Nat) : ∀ (f : Nat) (seen : List Nat) (k h : Nat), o.finds d f seen k = some h → h < o.people.length
  | 0, seen, k, h, e => by cases e
  | f + 1, seen, k, h, e => by
    unfold Office.finds at e
    by_cases c : o.people.length ≤ k ∨ seen.contains k = true
    · rw [if_pos c] at e
      cases e
    · rw [if_neg c] at e
      by_cases c2 : o.isIn k d = true
      · rw [if_pos c2] at e
        cases e
        omega
      · rw [if_neg c2] at e
        exact finds_lt o d f _ _ h e
/-- the number that the program gives: -1 where nobody has it -/
def numOf : Option Nat → Int
  | none => -1
  | some k => (k : Int)
theorem numOf_inj {a b : Option Nat} (h : numOf a = numOf b) : a = b := by
  cases a <;> cases b <;> simp [numOf] at h ⊢ <;> omega

/-! ### bits -/
/-- the numbers of the letters of which p holds -/
def idx (p : Letter → Bool) (l : List Letter) : List Nat := (List.range l.length).filter fun i => match l[i]? with
  | none => false
  | some x => p x
theorem idx_snoc (p : Letter → Bool) (l : List Letter) (x : Letter) : idx p (l ++ [x]) = idx p l ++ (if p x = true then [l.length] else []) := by
  unfold idx
  rw [List.length_append, List.length_singleton, List.range_succ, List.filter_append]
  congr 1
  · refine List.filter_congr fun i hi => ?_
    rw [List.mem_range] at hi
    rw [List.getElem?_append_left hi]
  · have e : (l ++ [x])[l.length]? = some x := by simp
    by_cases c : p x = true
    · rw [if_pos c, List.filter_cons_of_pos (by rw [e]; exact c)]
      rfl
    · rw [if_neg c, List.filter_cons_of_neg (by rw [e]; exact c)]
      rfl
theorem snoc_ind {α : Type} {P : List α → Prop} (h0 : P []) (h1 : ∀ l x, P l → P (l ++ [x])) (l : List α) : P l := by
  have h : ∀ r : List α, P r.reverse := by
    intro r
    induction r with
    | nil => exact h0
    | cons a r ih =>
      rw [List.reverse_cons]
      exact h1 _ _ ih
  have := h l.reverse
  rwa [List.reverse_reverse] at this
theorem idx_len (p : Letter → Bool) (l : List Letter) : (idx p l).length = (l.filter p).length := by
  induction l using snoc_ind with
  | h0 => rfl
  | h1 l x ih =>
    rw [idx_snoc, List.filter_append, List.length_append, List.length_append, ih]
    congr 1
    by_cases c : p x = true
    · rw [if_pos c, List.filter_cons_of_pos c]
      rfl
    · rw [if_neg c, List.filter_cons_of_neg c]
      rfl
theorem bits_snoc (p : Letter → Bool) (l : List Letter) (x : Letter) : bits p (l ++ [x]) = bits p l + (if p x = true then 2 ^ l.length else 0) := by
  unfold bits
  rw [List.length_append, List.length_singleton, List.range_succ, List.map_append, List.foldl_append]
  have e : (l ++ [x])[l.length]? = some x := by simp
  show _ + (match (l ++ [x])[l.length]? with | none => 0 | some x => if p x = true then 2 ^ l.length else 0) = _
  rw [e]
  congr 2
  refine List.map_congr_left fun i hi => ?_
  rw [List.mem_range] at hi
  rw [List.getElem?_append_left hi]
theorem idx_bits (p : Letter → Bool) (l : List Letter) : ((idx p l).map fun i => (1 : Int) * 2 ^ ((i : Nat) : Int).toNat).sum = ((bits p l : Nat) : Int) := by
  induction l using snoc_ind with
  | h0 => rfl
  | h1 l x ih =>
    rw [idx_snoc, bits_snoc, List.map_append, List.sum_append, ih, Int.natCast_add]
    congr 1
    by_cases c : p x = true
    · rw [if_pos c, if_pos c]
      simp
    · rw [if_neg c, if_neg c]
      rfl
theorem take_snoc {α : Type} {l : List α} {i : Nat} {x : α} (h : l[i]? = some x) : l.take (i + 1) = l.take i ++ [x] := by
  rw [List.take_succ, h]
  rfl
theorem idx_take (p : Letter → Bool) {l : List Letter} {i : Nat} {x : Letter} (h : l[i]? = some x) : idx p (l.take (i + 1)) = idx p (l.take i) ++ (if p x = true then [i] else []) := by
  have hi : i < l.length := (List.getElem?_eq_some_iff.mp h).1
  rw [take_snoc h, idx_snoc, List.length_take, Nat.min_eq_left (Nat.le_of_lt hi)]
theorem idx_le (p : Letter → Bool) (l : List Letter) : (idx p l).length ≤ l.length := by
  rw [idx_len]
  exact List.length_filter_le _ _
theorem idx_lt (p : Letter → Bool) (l : List Letter) : ∀ i ∈ idx p l, i < l.length := fun i hi => by
  unfold idx at hi
  exact List.mem_range.mp (List.mem_filter.mp hi).1
end Ad

/-! The mathematics of the calls: what each leaves is good; how a line is read. -/
namespace Ad
open Km358

theorem set_mem {α : Type} {l : List α} {k : Nat} {x y : α} (h : y ∈ l.set k x) : y ∈ l ∨ y = x := List.mem_or_eq_of_mem_set h
theorem Good.init {ws : List Nat} (h : okWeeks ws ws.length = true) : Good ⟨ws.map fun w => ⟨w, []⟩, [], [], 0⟩ := by
  unfold okWeeks at h
  simp only [Bool.and_eq_true, decide_eq_true_eq, List.all_eq_true] at h
  obtain ⟨h1, h2, h3⟩ := h
  have h2 : ws.length ≤ 8 := h2
  refine ⟨?_, fun l hl => ?_, Nat.zero_le _, fun p hp => (nomatch hp), Nat.zero_le _, fun x hx => (nomatch hx), Nat.zero_le _⟩
  · show (ws.map _).length ≤ 8
    rw [List.length_map]
    exact h2
  · obtain ⟨w, hw, rfl⟩ := List.mem_map.mp hl
    exact ⟨(h3 w hw).1, (h3 w hw).2, Nat.zero_le _, List.nodup_nil, fun d hd => (nomatch hd)⟩
theorem okDeputy_le {q : Nat} (h : ¬ okDeputy q = false) : q ≤ 255 := by
  have h : okDeputy q = true := by simpa using h
  unfold okDeputy at h
  simp only [Bool.or_eq_true, decide_eq_true_eq] at h
  have a : PEOPLE = 16 := rfl
  have b : NOBODY = 255 := rfl
  omega
theorem Good.holiday {o : Office} (g : Good o) (k d : Nat) : Good (act o (.holiday k d)).1 := by
  show Good (if o.lands.length ≤ k ∨ LAST < d then (o, only (-22)) else if (o.land k).holidays.contains d = true then (o, only (-17)) else if HOLIDAYS ≤ (o.land k).holidays.length then (o, only (-28)) else
      ({ o with lands := o.lands.set k ⟨(o.land k).week, (o.land k).holidays ++ [d]⟩ }, only 0)).1
  split
  · exact g
  split
  · exact g
  split
  · exact g
  rename_i c1 c2 c3
  have hk : k < o.lands.length := by omega
  have hd : d ≤ 36500 := by
    have : LAST = 36500 := rfl
    omega
  have gl := g.land_of hk
  have c3 : (o.land k).holidays.length < 32 := by
    have : HOLIDAYS = 32 := rfl
    omega
  have c2 : d ∉ (o.land k).holidays := by simpa using c2
  refine ⟨?_, fun l hl => ?_, g.p1, fun p hp => ?_, g.t1, g.lett, g.day⟩
  · show (o.lands.set k _).length ≤ 8
    rw [List.length_set]
    exact g.l1
  · rcases set_mem hl with q | q
    · exact g.land l q
    · subst q
      refine ⟨gl.w1, gl.w2, ?_, ?_, fun x hx => ?_⟩
      · show ((o.land k).holidays ++ [d]).length ≤ 32
        rw [List.length_append, List.length_singleton]
        omega
      · show ((o.land k).holidays ++ [d]).Nodup
        rw [List.nodup_append]
        refine ⟨gl.nd, by simp, fun a ha b hb => ?_⟩
        rw [List.mem_singleton] at hb
        subst hb
        exact fun e => c2 (e ▸ ha)
      · rcases List.mem_append.mp hx with q | q
        · exact gl.le x q
        · rw [List.mem_singleton] at q
          omega
  · show p.land < (o.lands.set k _).length ∧ _
    rw [List.length_set]
    exact g.pers p hp
theorem Good.person' {o : Office} (g : Good o) (k q : Nat) : Good (act o (.person k q)).1 := by
  show Good (if o.lands.length ≤ k ∨ okDeputy q = false then (o, only (-22)) else if PEOPLE ≤ o.people.length then (o, only (-28)) else
      ({ o with people := o.people ++ [⟨k, q, []⟩] }, only ((o.people.length : Nat) : Int))).1
  split
  · exact g
  split
  · exact g
  rename_i c1 c2
  have c2 : o.people.length < 16 := by
    have : PEOPLE = 16 := rfl
    omega
  refine ⟨g.l1, g.land, ?_, fun p hp => ?_, g.t1, fun x hx => ?_, g.day⟩
  · show (o.people ++ [_]).length ≤ 16
    rw [List.length_append, List.length_singleton]
    omega
  · rcases List.mem_append.mp hp with r | r
    · exact g.pers p r
    · rw [List.mem_singleton] at r
      subst r
      refine ⟨Nat.lt_of_not_le fun z => c1 (.inl z), okDeputy_le fun z => c1 (.inr z), Nat.zero_le _⟩
  · have := g.lett x hx
    show x.to < (o.people ++ [_]).length ∧ _
    rw [List.length_append, List.length_singleton]
    exact ⟨by omega, this.2⟩
theorem Good.deputy {o : Office} (g : Good o) (k q : Nat) : Good (act o (.deputy k q)).1 := by
  show Good (if okDeputy q = false then (o, only (-22)) else if o.people.length ≤ k then (o, only (-2)) else
      ({ o with people := o.people.set k ⟨(o.person k).land, q, (o.person k).away⟩ }, only 0)).1
  split
  · exact g
  split
  · exact g
  rename_i c1 c2
  have hk : k < o.people.length := by omega
  have gp := g.person_of hk
  refine ⟨g.l1, g.land, ?_, fun p hp => ?_, g.t1, fun x hx => ?_, g.day⟩
  · show (o.people.set k _).length ≤ 16
    rw [List.length_set]
    exact g.p1
  · rcases set_mem hp with r | r
    · exact g.pers p r
    · subst r
      exact ⟨gp.1, okDeputy_le c1, gp.2.2⟩
  · show x.to < (o.people.set k _).length ∧ _
    rw [List.length_set]
    exact g.lett x hx
theorem Good.away {o : Office} (g : Good o) (k a b : Nat) : Good (act o (.away k a b)).1 := by
  show Good (if LAST < b ∨ b < a then (o, only (-22)) else if o.people.length ≤ k then (o, only (-2)) else if LEAVES ≤ (o.person k).away.length then (o, only (-28)) else
      ({ o with people := o.people.set k ⟨(o.person k).land, (o.person k).deputy, (o.person k).away ++ [(a, b)]⟩ }, only 0)).1
  split
  · exact g
  split
  · exact g
  split
  · exact g
  rename_i c1 c2 c3
  have hk : k < o.people.length := by omega
  have gp := g.person_of hk
  have c3 : (o.person k).away.length < 8 := by
    have : LEAVES = 8 := rfl
    omega
  refine ⟨g.l1, g.land, ?_, fun p hp => ?_, g.t1, fun x hx => ?_, g.day⟩
  · show (o.people.set k _).length ≤ 16
    rw [List.length_set]
    exact g.p1
  · rcases set_mem hp with r | r
    · exact g.pers p r
    · subst r
      refine ⟨gp.1, gp.2.1, ?_⟩
      show ((o.person k).away ++ [(a, b)]).length ≤ 8
      rw [List.length_append, List.length_singleton]
      omega
  · show x.to < (o.people.set k _).length ∧ _
    rw [List.length_set]
    exact g.lett x hx
theorem Good.letter {o : Office} (g : Good o) (k t : Nat) : Good (act o (.letter k t)).1 := by
  show Good (if t = 0 ∨ TERM < t then (o, only (-22)) else if o.people.length ≤ k then (o, only (-2)) else if LETTERS ≤ o.letters.length then (o, only (-28)) else
      ({ o with letters := o.letters ++ [⟨k, o.today, t, none⟩] }, only ((o.letters.length : Nat) : Int))).1
  split
  · exact g
  split
  · exact g
  split
  · exact g
  rename_i c1 c2 c3
  have a : LETTERS = 64 := rfl
  have b : TERM = 250 := rfl
  refine ⟨g.l1, g.land, g.p1, g.pers, ?_, fun x hx => ?_, g.day⟩
  · show (o.letters ++ [_]).length ≤ 64
    rw [List.length_append, List.length_singleton]
    omega
  · rcases List.mem_append.mp hx with r | r
    · exact g.lett x r
    · rw [List.mem_singleton] at r
      subst r
      exact ⟨by show k < o.people.length; omega, by show 1 ≤ t; omega, by show t ≤ 250; omega, Nat.le_refl _⟩
theorem Good.answer {o : Office} (g : Good o) (i : Nat) : Good (act o (.answer i)).1 := by
  show Good (match o.letters[i]? with
      | none => (o, only (-2))
      | some x => if isOpen x = false then (o, only (-17)) else
          let y : Letter := ⟨x.to, x.came, x.term, some o.today⟩
          ({ o with letters := o.letters.set i y }, only (if o.isLate x = true then 1 else 0))).1
  cases e : o.letters[i]? with
  | none => exact g
  | some x =>
    show Good (if isOpen x = false then (o, only (-17)) else
          let y : Letter := ⟨x.to, x.came, x.term, some o.today⟩
          ({ o with letters := o.letters.set i y }, only (if o.isLate x = true then 1 else 0))).1
    split
    · exact g
    have hx := g.lett x (List.mem_of_getElem? e)
    refine ⟨g.l1, g.land, g.p1, g.pers, ?_, fun z hz => ?_, g.day⟩
    · show (o.letters.set i _).length ≤ 64
      rw [List.length_set]
      exact g.t1
    · rcases set_mem hz with r | r
      · exact g.lett z r
      · subst r
        exact hx
theorem Good.today {o : Office} (g : Good o) {d : Nat} (h1 : d ≤ 36500) (h2 : o.today ≤ d) : Good { o with today := d } :=
  ⟨g.l1, g.land, g.p1, g.pers, g.t1, fun x hx => let ⟨a, b, c, e⟩ := g.lett x hx; ⟨a, b, c, Nat.le_trans e h2⟩, h1⟩
theorem Good.day' {o : Office} (g : Good o) (d : Nat) : Good (act o (.day d)).1 := by
  show Good (if LAST < d then (o, only (-22)) else if d < o.today then (o, only (-13)) else
      let p : Office := { o with today := d }
      (p, only (((p.letters.filter p.isLate).length : Nat) : Int))).1
  split
  · exact g
  split
  · exact g
  rename_i c1 c2
  have : LAST = 36500 := rfl
  exact g.today (by omega) (by omega)
/-- whatever is called, but a start -/
theorem Good.act {o : Office} (g : Good o) : ∀ {c : Call}, isStart c = false → Good (act o c).1
  | .start _ _, h => nomatch h
  | .holiday k d, _ => g.holiday k d
  | .person k q, _ => g.person' k q
  | .deputy k q, _ => g.deputy k q
  | .away k a b, _ => g.away k a b
  | .letter k t, _ => g.letter k t
  | .answer i, _ => g.answer i
  | .day d, _ => g.day' d
  | .holder i, _ => g
  | .due i, _ => g
  | .list k, _ => g
  | .late, _ => g

/-! ### reading a line -/
open Km358Neutral (step told callOf asked1 may nats nums natural)
theorem whole_id (c : List (List Int)) : PyKm358.whole c = c := by
  unfold PyKm358.whole
  split <;> rfl
theorem wholes_id (cs : List (List (List Int))) : cs.map PyKm358.whole = cs := by
  have e : PyKm358.whole = id := funext whole_id
  rw [e, List.map_id]
/-- how many whole numbers a call but the start has behind its own -/
def sizeOf' (p : Int) : Nat := if p = 1 then 2 else if p = 2 then 2 else if p = 3 then 2 else if p = 4 then 3 else if p = 5 then 2 else if p = 6 then 1 else if p = 7 then 1 else if p = 8 then 1 else if p = 9 then 1 else if p = 10 then 1 else 0
theorem shape_is {p : Int} {x : Nat × Nat} (h : PyKm358.shape p = some x) : (p = 0 ∧ x = (0, 1)) ∨ (1 ≤ p ∧ p ≤ 11 ∧ x = (sizeOf' p, 0)) := by
  unfold PyKm358.shape at h
  by_cases c0 : p = 0
  · subst c0
    exact .inl ⟨rfl, (Option.some.inj h).symm⟩
  · right
    rw [if_neg c0] at h
    unfold sizeOf'
    repeat' split at h
    all_goals first | (cases h; done) | (subst_vars; cases h; refine ⟨by decide, by decide, by decide⟩)
theorem call_is {p : Int} {t : List Int} {c : List (List Int)} {u : List Int} (h : PyFlat.call PyKm358.shape (p :: t) = some (c, u)) :
    (p = 0 ∧ ∃ n t', t = n :: t' ∧ 0 ≤ n ∧ n.toNat ≤ t'.length ∧ c = [[0], t'.take n.toNat] ∧ u = t'.drop n.toNat) ∨
    (1 ≤ p ∧ p ≤ 11 ∧ sizeOf' p ≤ t.length ∧ c = [p :: t.take (sizeOf' p)] ∧ u = t.drop (sizeOf' p)) := by
  unfold PyFlat.call at h
  dsimp only at h
  cases e : PyKm358.shape p with
  | none =>
    rw [e] at h
    cases h
  | some x =>
    rw [e] at h
    rcases shape_is e with ⟨rfl, rfl⟩ | ⟨h1, h2, rfl⟩
    · left
      refine ⟨rfl, ?_⟩
      cases t with
      | nil => cases h
      | cons n t' =>
        refine ⟨n, t', rfl, ?_⟩
        by_cases c1 : 0 ≤ n ∧ n.toNat ≤ t'.length
        · have e2 : PyFlat.row (n :: t') = some (t'.take n.toNat, t'.drop n.toNat) := if_pos c1
          have e3 : PyFlat.rows 1 (n :: t') = some ([t'.take n.toNat], t'.drop n.toNat) := by
            unfold PyFlat.rows
            rw [e2]
            rfl
          have h : (match PyFlat.rows 1 (n :: t') with
            | none => none
            | some (xs, u) => some (((0 : Int) :: ([] : List Int)) :: xs, u)) = some (c, u) := h
          rw [e3] at h
          cases h
          exact ⟨c1.1, c1.2, rfl, rfl⟩
        · have e2 : PyFlat.row (n :: t') = none := if_neg c1
          have e3 : PyFlat.rows 1 (n :: t') = none := by
            unfold PyFlat.rows
            rw [e2]
          have h : (match PyFlat.rows 1 (n :: t') with
            | none => none
            | some (xs, u) => some (((0 : Int) :: ([] : List Int)) :: xs, u)) = some (c, u) := h
          rw [e3] at h
          cases h
    · right
      have h : (if t.length < sizeOf' p then none else some ((p :: t.take (sizeOf' p)) :: [], t.drop (sizeOf' p))) = some (c, u) := h
      split at h
      · cases h
      · cases h
        exact ⟨h1, h2, by omega, rfl, rfl⟩
theorem calls_cons {f : Nat} {p : Int} {t : List Int} {cs : List (List (List Int))} (h : PyFlat.calls PyKm358.shape f (p :: t) = some cs) :
    ∃ f' c u cs', f = f' + 1 ∧ PyFlat.call PyKm358.shape (p :: t) = some (c, u) ∧ PyFlat.calls PyKm358.shape f' u = some cs' ∧ cs = c :: cs' := by
  cases f with
  | zero => cases h
  | succ f =>
    unfold PyFlat.calls at h
    cases e : PyFlat.call PyKm358.shape (p :: t) with
    | none =>
      rw [e] at h
      cases h
    | some x =>
      obtain ⟨c, u⟩ := x
      rw [e] at h
      dsimp only at h
      cases e2 : PyFlat.calls PyKm358.shape f u with
      | none =>
        rw [e2] at h
        cases h
      | some cs' =>
        rw [e2] at h
        cases h
        exact ⟨f, c, u, cs', rfl, rfl, e2, rfl⟩

/-! ### one step of the machine -/
theorem step_bad {s : Km358Neutral.S} {row : List Int} (h : okWeeks (nats row) row.length = false) : step s [[0], row] = (s, [-22]) := by
  have e : ∀ o : Office, act o (.start (nats row) row.length) = (o, only (-22)) := fun o => if_pos h
  cases s with
  | none =>
    show (let y := act ⟨[], [], [], 0⟩ (.start (nats row) row.length)
        let l := told y.2
        ((if l.headD 0 < 0 then none else some y.1, l) : Km358Neutral.S × List Int)) = _
    rw [e]
    rfl
  | some a =>
    show (let y := act a (.start (nats row) row.length)
      ((some y.1, told y.2) : Km358Neutral.S × List Int)) = _
    rw [e]
    rfl
theorem step_new {s : Km358Neutral.S} {row : List Int} (h : okWeeks (nats row) row.length = true) : step s [[0], row] = (some ⟨(nats row).map fun w => ⟨w, []⟩, [], [], 0⟩, [0]) := by
  have e : ∀ o : Office, act o (.start (nats row) row.length) = (⟨(nats row).map fun w => ⟨w, []⟩, [], [], 0⟩, only 0) := fun o => if_neg (by rw [h]; decide)
  cases s with
  | none =>
    show (let y := act ⟨[], [], [], 0⟩ (.start (nats row) row.length)
        let l := told y.2
        ((if l.headD 0 < 0 then none else some y.1, l) : Km358Neutral.S × List Int)) = _
    rw [e]
    rfl
  | some a =>
    show (let y := act a (.start (nats row) row.length)
      ((some y.1, told y.2) : Km358Neutral.S × List Int)) = _
    rw [e]
    rfl
/-- the calls but the start, by the program's numbers -/
def callAt (p : Int) (ns : List Int) : Call :=
  let x := (ns.getD 0 0).toNat
  let y := (ns.getD 1 0).toNat
  if p = 1 then .holiday x y else if p = 2 then .person x y else if p = 3 then .deputy x y else if p = 4 then .away x y (ns.getD 2 0).toNat else if p = 5 then .letter x y else
  if p = 6 then .answer x else if p = 7 then .day x else if p = 8 then .holder x else if p = 9 then .due x else if p = 10 then .list x else .late
theorem callAt_start (p : Int) (ns : List Int) : isStart (callAt p ns) = false := by
  unfold callAt
  dsimp only
  repeat' split
  all_goals rfl
theorem int_cases {p : Int} (h1 : 1 ≤ p) (h2 : p ≤ 11) : p = 1 ∨ p = 2 ∨ p = 3 ∨ p = 4 ∨ p = 5 ∨ p = 6 ∨ p = 7 ∨ p = 8 ∨ p = 9 ∨ p = 10 ∨ p = 11 := by omega
theorem natural32 {z : Int} (h : natural z 32 = true) : 0 ≤ z ∧ z < 4294967296 := by
  unfold natural at h
  simp only [Bool.and_eq_true, decide_eq_true_eq] at h
  exact ⟨h.1, h.2⟩
/-- what a call but the start is, in form: its kind, its numbers (each a natural one below 2^32) -/
theorem call_form {p : Int} {ns : List Int} (h1 : 1 ≤ p) (h2 : p ≤ 11) (hl : ns.length = sizeOf' p) (ha : asked1 [p :: ns] = true) : callOf [p :: ns] = some (callAt p ns) ∧ ∀ z ∈ ns, 0 ≤ z ∧ z < 4294967296 := by
  rcases int_cases h1 h2 with rfl | rfl | rfl | rfl | rfl | rfl | rfl | rfl | rfl | rfl | rfl
  · match ns, hl with
    | [a, b], _ =>
      have ha : (natural a 32 && natural b 32) = true := ha
      rw [Bool.and_eq_true] at ha
      refine ⟨rfl, fun z hz => ?_⟩
      rcases List.mem_cons.mp hz with e | hz
      · rw [e]; exact natural32 ha.1
      · rw [List.mem_singleton.mp hz]; exact natural32 ha.2
  · match ns, hl with
    | [a, b], _ =>
      have ha : (natural a 32 && natural b 32) = true := ha
      rw [Bool.and_eq_true] at ha
      refine ⟨rfl, fun z hz => ?_⟩
      rcases List.mem_cons.mp hz with e | hz
      · rw [e]; exact natural32 ha.1
      · rw [List.mem_singleton.mp hz]; exact natural32 ha.2
  · match ns, hl with
    | [a, b], _ =>
      have ha : (natural a 32 && natural b 32) = true := ha
      rw [Bool.and_eq_true] at ha
      refine ⟨rfl, fun z hz => ?_⟩
      rcases List.mem_cons.mp hz with e | hz
      · rw [e]; exact natural32 ha.1
      · rw [List.mem_singleton.mp hz]; exact natural32 ha.2
  · match ns, hl with
    | [a, b, c], _ =>
      have ha : (natural a 32 && natural b 32 && natural c 32) = true := ha
      rw [Bool.and_eq_true, Bool.and_eq_true] at ha
      refine ⟨rfl, fun z hz => ?_⟩
      rcases List.mem_cons.mp hz with e | hz
      · rw [e]; exact natural32 ha.1.1
      · rcases List.mem_cons.mp hz with e | hz
        · rw [e]; exact natural32 ha.1.2
        · rw [List.mem_singleton.mp hz]; exact natural32 ha.2
  · match ns, hl with
    | [a, b], _ =>
      have ha : (natural a 32 && natural b 32) = true := ha
      rw [Bool.and_eq_true] at ha
      refine ⟨rfl, fun z hz => ?_⟩
      rcases List.mem_cons.mp hz with e | hz
      · rw [e]; exact natural32 ha.1
      · rw [List.mem_singleton.mp hz]; exact natural32 ha.2
  iterate 5
    · match ns, hl with
      | [a], _ =>
        have ha : natural a 32 = true := ha
        refine ⟨rfl, fun z hz => ?_⟩
        rw [List.mem_singleton.mp hz]; exact natural32 ha
  · match ns, hl with
    | [], _ => exact ⟨rfl, fun z hz => (nomatch hz)⟩
theorem callOf_not_start {p : Int} {ns : List Int} {x : Call} (h : callOf [p :: ns] = some x) (h1 : isStart x = false) : step none [p :: ns] = (none, []) := by
  unfold step
  rw [h]
  have h2 : ¬ Km358Neutral.isStart x = true := by
    have e : Km358Neutral.isStart x = isStart x := by cases x <;> rfl
    rw [e, h1]
    decide
  show (if Km358Neutral.isStart x = true then _ else ((none : Km358Neutral.S), ([] : List Int))) = _
  rw [if_neg h2]
theorem step_some {p : Int} {ns : List Int} {x : Call} (a : Office) (h : callOf [p :: ns] = some x) : step (some a) [p :: ns] = (some (act a x).1, told (act a x).2) := by
  unfold step
  rw [h]

/-! ### a line, from a place on -/
/-- what is still to be answered from a place on, in which state -/
structure Rest (r : List Int) (s : Km358Neutral.S) (cs : List (List (List Int))) : Prop where
  read : ∃ f, PyFlat.calls PyKm358.shape f r = some cs
  ask : cs.all asked1 = true
  may : may s cs = true
  good : ∀ a, s = some a → Good a
def toldOf (s : Km358Neutral.S) (cs : List (List (List Int))) : List Int := PyFlat.told (PyFlat.played step s cs)
theorem toldOf_cons (s : Km358Neutral.S) (c : List (List Int)) (cs : List (List (List Int))) : toldOf s (c :: cs) = (((step s c).2.length : Nat) : Int) :: ((step s c).2 ++ toldOf (step s c).1 cs) := rfl
theorem Rest.nil {s : Km358Neutral.S} {cs : List (List (List Int))} (h : Rest [] s cs) : toldOf s cs = [] := by
  obtain ⟨f, e⟩ := h.read
  have : cs = [] := by
    cases f <;> cases e <;> rfl
  subst this
  rfl
theorem may_cons {s : Km358Neutral.S} {c : List (List Int)} {cs : List (List (List Int))} (h : may s (c :: cs) = true) : (step s c).2.isEmpty = false ∧ may (step s c).1 cs = true := by
  have h : (!((step s c).2.isEmpty) && may (step s c).1 cs) = true := h
  rw [Bool.and_eq_true] at h
  exact ⟨by simpa using h.1, h.2⟩
/-- one turn: a start -/
theorem Rest.start {t : List Int} {s : Km358Neutral.S} {cs : List (List (List Int))} (h : Rest ((0 : Int) :: t) s cs) :
    ∃ n t' cs', t = n :: t' ∧ 0 ≤ n ∧ n.toNat ≤ t'.length ∧ (∀ z ∈ t'.take n.toNat, 0 ≤ z ∧ z < 256) ∧
      (okWeeks (nats (t'.take n.toNat)) (t'.take n.toNat).length = false → toldOf s cs = 1 :: -22 :: toldOf s cs' ∧ Rest (t'.drop n.toNat) s cs') ∧
      (okWeeks (nats (t'.take n.toNat)) (t'.take n.toNat).length = true → toldOf s cs = 1 :: 0 :: toldOf (some ⟨(nats (t'.take n.toNat)).map fun w => ⟨w, []⟩, [], [], 0⟩) cs' ∧ Rest (t'.drop n.toNat) (some ⟨(nats (t'.take n.toNat)).map fun w => ⟨w, []⟩, [], [], 0⟩) cs') := by
  obtain ⟨f, e⟩ := h.read
  obtain ⟨f', c, u, cs', rfl, e1, e2, rfl⟩ := calls_cons e
  rcases call_is e1 with ⟨_, n, t', rfl, a1, a2, rfl, rfl⟩ | ⟨a1, _⟩
  · have hask := h.ask
    rw [List.all_cons, Bool.and_eq_true] at hask
    have hm := may_cons h.may
    refine ⟨n, t', cs', rfl, a1, a2, fun z hz => ?_, fun ok => ?_, fun ok => ?_⟩
    · have q : (t'.take n.toNat).all (fun (z : Int) => natural z 8) = true := hask.1
      have q := List.all_eq_true.mp q z hz
      unfold natural at q
      simp only [Bool.and_eq_true, decide_eq_true_eq] at q
      exact ⟨q.1, q.2⟩
    · have es := step_bad (s := s) ok
      rw [toldOf_cons, es]
      rw [es] at hm
      exact ⟨rfl, ⟨f', e2⟩, hask.2, hm.2, h.good⟩
    · have es := step_new (s := s) ok
      rw [toldOf_cons, es]
      rw [es] at hm
      refine ⟨rfl, ⟨f', e2⟩, hask.2, hm.2, fun a ea => ?_⟩
      cases ea
      refine Good.init ?_
      have el : (nats (t'.take n.toNat)).length = (t'.take n.toNat).length := List.length_map ..
      rw [el]
      exact ok
  · exact absurd a1 (by decide)
/-- one turn: another call -/
theorem Rest.call {p : Int} {t : List Int} {s : Km358Neutral.S} {cs : List (List (List Int))} (hp : p ≠ 0) (h : Rest (p :: t) s cs) :
    ∃ a cs', s = some a ∧ Good a ∧ 1 ≤ p ∧ p ≤ 11 ∧ sizeOf' p ≤ t.length ∧ (∀ z ∈ t.take (sizeOf' p), 0 ≤ z ∧ z < 4294967296) ∧
      toldOf s cs = (((told (act a (callAt p (t.take (sizeOf' p)))).2).length : Nat) : Int) :: (told (act a (callAt p (t.take (sizeOf' p)))).2 ++ toldOf (some (act a (callAt p (t.take (sizeOf' p)))).1) cs') ∧
      Rest (t.drop (sizeOf' p)) (some (act a (callAt p (t.take (sizeOf' p)))).1) cs' := by
  obtain ⟨f, e⟩ := h.read
  obtain ⟨f', c, u, cs', rfl, e1, e2, rfl⟩ := calls_cons e
  rcases call_is e1 with ⟨a1, _⟩ | ⟨a1, a2, a3, rfl, rfl⟩
  · exact absurd a1 hp
  · have hask := h.ask
    rw [List.all_cons, Bool.and_eq_true] at hask
    have hm := may_cons h.may
    have hl : (t.take (sizeOf' p)).length = sizeOf' p := by
      rw [List.length_take]
      omega
    obtain ⟨b1, b2⟩ := call_form a1 a2 hl hask.1
    cases s with
    | none =>
      have := callOf_not_start b1 (callAt_start _ _)
      rw [this] at hm
      exact absurd hm.1 (by decide)
    | some a =>
      have ga := h.good a rfl
      have es := step_some a b1
      rw [toldOf_cons, es]
      rw [es] at hm
      refine ⟨a, cs', rfl, ga, a1, a2, a3, b2, rfl, ⟨f', e2⟩, hask.2, hm.2, fun b eb => ?_⟩
      cases eb
      exact ga.act (callAt_start _ _)
/-- at the beginning -/
theorem Rest.first {l : List Int} (h : PyKm358.answers_asked l = true) : ∃ cs, Rest l none cs ∧ PyKm358.answers l = toldOf none cs := by
  unfold PyKm358.answers_asked at h
  cases e : PyFlat.calls PyKm358.shape l.length l with
  | none =>
    rw [e] at h
    cases h
  | some cs =>
    rw [e] at h
    dsimp only at h
    rw [wholes_id] at h
    simp only [Bool.and_eq_true] at h
    obtain ⟨⟨⟨⟨_, _⟩, _⟩, h4⟩, _⟩ := h
    unfold Km358Neutral.asked at h4
    simp only [Bool.and_eq_true] at h4
    obtain ⟨_, _, h5, h6⟩ := h4
    refine ⟨cs, ⟨⟨_, e⟩, h5, h6, fun a ea => (nomatch ea)⟩, ?_⟩
    unfold PyKm358.answers PyKm358.calls
    rw [e]
    dsimp only
    rw [wholes_id]
    rfl
theorem told_len (a : Office) (c : Call) : 1 ≤ (told (act a c).2).length ∧ (told (act a c).2).length ≤ 3 := by
  have h : ∀ v : Int, 1 ≤ (told (only v)).length ∧ (told (only v)).length ≤ 3 := fun v => ⟨by show 1 ≤ 1; decide, by show 1 ≤ 3; decide⟩
  cases c
  case list k =>
    show 1 ≤ (told (if a.people.length ≤ k then only (-2) else ⟨(((a.letters.filter (a.has k)).length : Nat) : Int), [bits (a.has k) a.letters]⟩)).length ∧ _
    unfold act
    dsimp only
    split
    · exact h _
    · exact ⟨by show 1 ≤ 2; decide, by show 2 ≤ 3; decide⟩
  case late => exact ⟨by show 1 ≤ 3; decide, by show 3 ≤ 3; decide⟩
  all_goals
    unfold act
    dsimp only
    repeat' split
    all_goals exact h _
end Ad

/-! The text by places, the office in the heap, what the top has written. -/
namespace Ad
open PySem L2
open Km358 (Office Land Person Letter)

def top (i : Nat) : Stmt := PySem.Challenge.pw_answerdesk_s01_answers.main.body.getD i (.Pass ⟨0, 0, 0, 0⟩)

/-! ### calls of the module's defs -/
/-- a def of the module that may be called by its name -/
structure Cal (P : Program) (w : World) (K : PySem.W.Frag) (mg : Str → Option Value) (base : Heap) (k : Nat) (x : Str) (sp : Sp) : Prop where
  ex : ∃ (f : Addr) (fd : FuncData) (ps : List Str), FnOk P w K mg base CX0 k f fd ps sp ∧ mg x = some (.ref f) ∧ PySem.W.keepIn K (.ref f) = true ∧ Binds K fd ps []
/-- a class of the module that may be made by its name, sp its __init__ -/
structure Mak (P : Program) (w : World) (K : PySem.W.Frag) (mg : Str → Option Value) (base : Heap) (k : Nat) (x : Str) (C : Addr) (sp : Sp) : Prop where
  ex : ∃ (f : Addr) (fd : FuncData) (ps : List Str), Mk K C f ∧ FnOk P w K mg base CX0 k f fd ps sp ∧ mg x = some (.ref C) ∧ Binds K fd ps []
section
variable {X : Cx} {k j : Nat} {C : Addr} {x : Str} {sp : Sp} {p pos : Pos} {e : Expr} {es : List Expr} {t : TA}
theorem pe_cl (c : Cal X.prog X.w X.K X.mg X.base k x sp) (hr : Room j X.A) (hk : k ≤ j) (ha : PA X (e :: es) t) (hg : Gl X x := by rfl)
    (hdb : (x == ("__debug__" : Str)) = false := by decide) (hst : starEach (e :: es) X.env = (false, eval e X.env) :: starEach es X.env := by rfl) (hpl : (backTo pos (starEach es X.env)).any (·.1) = false := by rfl) :
    PE X (.Call (.Name x p) (e :: es) [] pos) (tCall sp [] E0 t) := by
  obtain ⟨f, fd, ps, F, hm, kp, b⟩ := c.ex
  exact pe_call F (hr.mono hk) hg hm kp b .nil pass0 ha hdb hst hpl
theorem pe_mk (c : Mak X.prog X.w X.K X.mg X.base k x C sp) (hr : Room j X.A) (hk : k + 1 ≤ j) (ha : PA X (e :: es) t) (hg : Gl X x := by rfl)
    (hdb : (x == ("__debug__" : Str)) = false := by decide) (hst : starEach (e :: es) X.env = (false, eval e X.env) :: starEach es X.env := by rfl) (hpl : (backTo pos (starEach es X.env)).any (·.1) = false := by rfl) :
    PE X (.Call (.Name x p) (e :: es) [] pos) (tMake C sp [] E0 t) := by
  obtain ⟨f, fd, ps, M, F, hm, b⟩ := c.ex
  exact pe_make M F (hr.mono hk) hg hm b .nil pass0 ha hdb hst hpl
/-- a module's constant, a whole number -/
theorem pe_gi {i : Int} (h : ∃ t, X.mg x = some (.int i t)) (hg : Gl X x := by rfl) (hdb : (x == ("__debug__" : Str)) = false := by decide) : PE X (.Name x pos) (tC (.int i)) := by
  obtain ⟨t, h⟩ := h
  exact pe_glob (v := .int i) hg h ⟨t, rfl⟩ (hd := hdb)
/-- a module's constant, an object -/
theorem pe_gr {a : Addr} (h : X.mg x = some (.ref a)) (hg : Gl X x := by rfl) (hdb : (x == ("__debug__" : Str)) = false := by decide) : PE X (.Name x pos) (tC (.ref a)) := pe_glob (v := .ref a) hg h rfl (hd := hdb)
end

/-! ### the office in the heap -/
/-- what stands at an address of the office's -/
inductive Role where
  | off | weeks | hols | ppl | lets
  | hol (k : Nat) | pers (k : Nat) | lvs (k : Nat) | leave (k j : Nat) | letr (k : Nat)
  deriving DecidableEq
/-- the three classes -/
structure Cs where
  off : Addr
  per : Addr
  let' : Addr
def has (s : Office) : Role → Prop
  | .hol k => k < s.lands.length
  | .pers k => k < s.people.length
  | .lvs k => k < s.people.length
  | .leave k j => k < s.people.length ∧ j < (s.person k).away.length
  | .letr k => k < s.letters.length
  | _ => True
def letter0 : Letter := ⟨0, 0, 0, none⟩
def lett (s : Office) (k : Nat) : Letter := s.letters.getD k letter0
def offF (w h p l : Addr) (t : Nat) : List (Str × V) := [("weeks", .ref w), ("holidays", .ref h), ("people", .ref p), ("letters", .ref l), ("today", .int (t : Nat))]
def perF (l d : Nat) (v : Addr) : List (Str × V) := [("land", .int (l : Nat)), ("deputy", .int (d : Nat)), ("leaves", .ref v)]
def letF (x : Letter) : List (Str × V) := [("to", .int (x.to : Nat)), ("came", .int (x.came : Nat)), ("term", .int (x.term : Nat)), ("is_open", .bl (Km358.isOpen x))]
def numsV (l : List Nat) : List V := l.map fun (d : Nat) => V.int (d : Nat)
/-- the objects by their addresses -/
def refs (ad : Nat → Addr) (n : Nat) : List V := (List.range n).map fun k => V.ref (ad k)
def leaveT (x : Nat × Nat) : HO := .tup [.int (x.1 : Nat), .int (x.2 : Nat)]
def cont (c : Cs) (s : Office) (ad dx : Role → Addr) : Role → HO
  | .off => .ins c.off (dx .off) (offF (ad .weeks) (ad .hols) (ad .ppl) (ad .lets) s.today)
  | .weeks => .lst (numsV (s.lands.map (·.week)))
  | .hols => .lst (refs (fun k => ad (.hol k)) s.lands.length)
  | .ppl => .lst (refs (fun k => ad (.pers k)) s.people.length)
  | .lets => .lst (refs (fun k => ad (.letr k)) s.letters.length)
  | .hol k => .lst (numsV (s.land k).holidays)
  | .pers k => .ins c.per (dx (.pers k)) (perF (s.person k).land (s.person k).deputy (ad (.lvs k)))
  | .lvs k => .lst (refs (fun j => ad (.leave k j)) (s.person k).away.length)
  | .leave k j => leaveT ((s.person k).away.getD j (0, 0))
  | .letr k => .ins c.let' (dx (.letr k)) (letF (lett s k))
/-- the office s lies in H at ad, apart from the frame F -/
structure Lay (c : Cs) (F H : Hp) (ad dx : Role → Addr) (s : Office) : Prop where
  sm : Same F H
  fr : ∀ r, has s r → F (ad r) = none
  inj : ∀ r r', has s r → has s r' → ad r = ad r' → r = r'
  ct : ∀ r, has s r → H (ad r) = some (cont c s ad dx r)
def OffAt (c : Cs) (F H : Hp) (o : Addr) (s : Office) : Prop := ∃ ad dx : Role → Addr, ad .off = o ∧ Lay c F H ad dx s
section
variable {c : Cs} {F H H' : Hp} {ad dx ad' dx' : Role → Addr} {s s' : Office} {o : Addr}
theorem Lay.mono (L : Lay c F H ad dx s) (e : Same H H') : Lay c F H' ad dx s := ⟨L.sm.trans e, L.fr, L.inj, fun r h => e _ _ (L.ct r h)⟩
theorem OffAt.mono (L : OffAt c F H o s) (e : Same H H') : OffAt c F H' o s := let ⟨ad, dx, h1, h2⟩ := L; ⟨ad, dx, h1, h2.mono e⟩
theorem OffAt.same (L : OffAt c F H o s) : Same F H := let ⟨_, _, _, h⟩ := L; h.sm
/-- one object is changed -/
theorem Lay.put (L : Lay c F H ad dx s) (r0 : Role) (h0 : has s r0) (hs : ∀ r, has s' r → has s r) (hc : ∀ r, has s' r → r ≠ r0 → cont c s' ad dx r = cont c s ad dx r) : Lay c F (upd H (ad r0) (cont c s' ad dx r0)) ad dx s' := by
  refine ⟨fun b u e => ?_, fun r h => L.fr r (hs r h), fun r r' h h' => L.inj r r' (hs r h) (hs r' h'), fun r h => ?_⟩
  · have ne : b ≠ ad r0 := fun q => by
      rw [q, L.fr r0 h0] at e
      cases e
    rw [upd_ne ne]
    exact L.sm b u e
  · by_cases e : r = r0
    · subst e
      exact upd_same
    · rw [upd_ne (fun q => e (L.inj r r0 (hs r h) h0 q)), hc r h e]
      exact L.ct r (hs r h)
/-- something of the frame is changed -/
theorem Lay.frame (L : Lay c F H ad dx s) {t : Addr} {u v : HO} (ht : F t = some u) : Lay c (upd F t v) (upd H t v) ad dx s := by
  have ne : ∀ r, has s r → ad r ≠ t := fun r h q => by
    have := L.fr r h
    rw [q, ht] at this
    cases this
  refine ⟨fun b z e => ?_, fun r h => ?_, L.inj, fun r h => ?_⟩
  · by_cases q : b = t
    · subst q
      rw [upd_same] at e ⊢
      exact e
    · rw [upd_ne q] at e ⊢
      exact L.sm b z e
  · rw [upd_ne (ne r h)]
    exact L.fr r h
  · rw [upd_ne (ne r h)]
    exact L.ct r h
theorem OffAt.frame (L : OffAt c F H o s) {t : Addr} {u v : HO} (ht : F t = some u) : OffAt c (upd F t v) (upd H t v) o s := let ⟨ad, dx, h1, h2⟩ := L; ⟨ad, dx, h1, h2.frame ht⟩
/-- an address of the frame's is none of the office's -/
theorem Lay.apart (L : Lay c F H ad dx s) {t : Addr} {u : HO} (ht : F t = some u) {r : Role} (h : has s r) : ad r ≠ t := fun q => by
  have := L.fr r h
  rw [q, ht] at this
  cases this
end

/-! ### reading lists -/
theorem refs_get {ad : Nat → Addr} {n k : Nat} (h : k < n) : (refs ad n)[k]? = some (.ref (ad k)) := by
  unfold refs
  rw [List.getElem?_map, List.getElem?_range h]
  rfl
theorem refs_len (ad : Nat → Addr) (n : Nat) : (refs ad n).length = n := by
  unfold refs
  rw [List.length_map, List.length_range]
theorem refs_at {ad : Nat → Addr} {n k : Nat} (h : k < n) : atI (refs ad n) (k : Int) = some (.ref (ad k)) := atI_nat (refs_get h)
theorem refs_succ (ad : Nat → Addr) (n : Nat) : refs ad (n + 1) = refs ad n ++ [.ref (ad n)] := by
  unfold refs
  rw [List.range_succ, List.map_append]
  rfl
theorem refs_congr {ad ad' : Nat → Addr} {n : Nat} (h : ∀ k, k < n → ad k = ad' k) : refs ad n = refs ad' n := by
  unfold refs
  refine List.map_congr_left fun k hk => ?_
  rw [h k (List.mem_range.mp hk)]
theorem numsV_len (l : List Nat) : (numsV l).length = l.length := List.length_map ..
theorem numsV_get {l : List Nat} {k : Nat} {d : Nat} (h : l[k]? = some d) : (numsV l)[k]? = some (.int (d : Nat)) := by
  unfold numsV
  rw [List.getElem?_map, h]
  rfl
theorem numsV_ints (l : List Nat) : numsV l = (l.map fun (d : Nat) => ((d : Nat) : Int)).map V.int := by
  unfold numsV
  rw [List.map_map]
  rfl
theorem numsV_snoc (l : List Nat) (d : Nat) : numsV (l ++ [d]) = numsV l ++ [.int (d : Nat)] := by
  unfold numsV
  rw [List.map_append]
  rfl
theorem numsV_flat (l : List Nat) : (numsV l).all flatV = true := by
  rw [List.all_eq_true]
  intro x hx
  obtain ⟨d, _, rfl⟩ := List.mem_map.mp hx
  rfl
theorem inV_numsV (d : Nat) (l : List Nat) : inV (.int (d : Nat)) (numsV l) = l.contains d := by
  induction l with
  | nil => rfl
  | cons a r ih =>
    have e : inV (.int (d : Nat)) (numsV (a :: r)) = (eqV (.int (a : Nat)) (.int (d : Nat)) || inV (.int (d : Nat)) (numsV r)) := rfl
    rw [e, ih, List.contains_cons]
    congr 1
    show (((a : Nat) : Int) == ((d : Nat) : Int)) = (d == a)
    rw [Bool.eq_iff_iff]
    simp only [beq_iff_eq]
    omega
theorem weeks_get {s : Office} {k : Nat} (h : k < s.lands.length) : atI (numsV (s.lands.map (·.week))) (k : Int) = some (.int ((s.land k).week : Nat)) := by
  refine atI_nat (numsV_get ?_)
  rw [List.getElem?_map, List.getElem?_eq_getElem h]
  show some (s.lands[k].week) = some (s.lands.getD k Km358.land0).week
  rw [List.getD_eq_getElem?_getD, List.getElem?_eq_getElem h]
  rfl

/-! ### fields -/
theorem lk_here {k : Str} {v : V} {r : List (Str × V)} : List.lookup k ((k, v) :: r) = some v := by
  have e : (k == k) = true := beq_self_eq_true k
  simp only [List.lookup, e]
theorem lk_past {k g : Str} {v : V} {r : List (Str × V)} (h : (k == g) = false) : List.lookup k ((g, v) :: r) = List.lookup k r := by
  simp only [List.lookup, h]
theorem put_here {f : Str} {v x : V} {r : List (Str × V)} : putF f v ((f, x) :: r) = (f, v) :: r := if_pos rfl
theorem put_past {f g : Str} {v x : V} {r : List (Str × V)} (h : ¬ g = f) : putF f v ((g, x) :: r) = (g, x) :: putF f v r := if_neg h
section
variable (w h p l v : Addr) (t a d : Nat) (x : Letter)
theorem offF_weeks : (offF w h p l t).lookup ("weeks" : Str) = some (.ref w) := lk_here
theorem offF_hols : (offF w h p l t).lookup ("holidays" : Str) = some (.ref h) := (lk_past (by decide +kernel)).trans lk_here
theorem offF_ppl : (offF w h p l t).lookup ("people" : Str) = some (.ref p) := (lk_past (by decide +kernel)).trans ((lk_past (by decide +kernel)).trans lk_here)
theorem offF_lets : (offF w h p l t).lookup ("letters" : Str) = some (.ref l) := (lk_past (by decide +kernel)).trans ((lk_past (by decide +kernel)).trans ((lk_past (by decide +kernel)).trans lk_here))
theorem offF_today : (offF w h p l t).lookup ("today" : Str) = some (.int (t : Nat)) := (lk_past (by decide +kernel)).trans ((lk_past (by decide +kernel)).trans ((lk_past (by decide +kernel)).trans ((lk_past (by decide +kernel)).trans lk_here)))
theorem perF_land : (perF a d v).lookup ("land" : Str) = some (.int (a : Nat)) := lk_here
theorem perF_dep : (perF a d v).lookup ("deputy" : Str) = some (.int (d : Nat)) := (lk_past (by decide +kernel)).trans lk_here
theorem perF_lvs : (perF a d v).lookup ("leaves" : Str) = some (.ref v) := (lk_past (by decide +kernel)).trans ((lk_past (by decide +kernel)).trans lk_here)
theorem letF_to : (letF x).lookup ("to" : Str) = some (.int (x.to : Nat)) := lk_here
theorem letF_came : (letF x).lookup ("came" : Str) = some (.int (x.came : Nat)) := (lk_past (by decide +kernel)).trans lk_here
theorem letF_term : (letF x).lookup ("term" : Str) = some (.int (x.term : Nat)) := (lk_past (by decide +kernel)).trans ((lk_past (by decide +kernel)).trans lk_here)
theorem letF_open : (letF x).lookup ("is_open" : Str) = some (.bl (Km358.isOpen x)) := (lk_past (by decide +kernel)).trans ((lk_past (by decide +kernel)).trans ((lk_past (by decide +kernel)).trans lk_here))
end

/-! ### what the top has written -/
def sizes : List V := [.int 0, .int 2, .int 2, .int 2, .int 3, .int 2, .int 1, .int 1, .int 1, .int 1, .int 1, .int 0]
structure Txt (K : PySem.W.Frag) (mg : Str → Option Value) (c : Cs) : Prop where
  cO : Cls K c.off
  cP : Cls K c.per
  cL : Cls K c.let'
  oW : NoAttr K c.off "weeks"
  oH : NoAttr K c.off "holidays"
  oP : NoAttr K c.off "people"
  oL : NoAttr K c.off "letters"
  oT : NoAttr K c.off "today"
  pL : NoAttr K c.per "land"
  pD : NoAttr K c.per "deputy"
  pV : NoAttr K c.per "leaves"
  lT : NoAttr K c.let' "to"
  lC : NoAttr K c.let' "came"
  lM : NoAttr K c.let' "term"
  lO : NoAttr K c.let' "is_open"
  bsum : mg "sum" = none
  brange : mg "range" = none
  bany : mg "any" = none
  ball : mg "all" = none
  blen : mg "len" = none
  benum : mg "enumerate" = none
  bint : mg "int" = none
  blist : mg "list" = none
  gWEEK : ∃ t, mg "WEEK" = some (.int 7 t)
  gLAST : ∃ t, mg "LAST_DAY" = some (.int 36500 t)
  gNOBODY : ∃ t, mg "NOBODY" = some (.int (-1) t)
  gNOT : ∃ t, mg "NOT_THERE" = some (.int (-2) t)
  gBEF : ∃ t, mg "BEFORE" = some (.int (-13) t)
  gIS : ∃ t, mg "IS_THERE" = some (.int (-17) t)
  gBAD : ∃ t, mg "BAD" = some (.int (-22) t)
  gFULL : ∃ t, mg "FULL" = some (.int (-28) t)
  gWAITS : ∃ t, mg "WAITS" = some (.int (-61) t)
  gLANDS : ∃ t, mg "MOST_LANDS" = some (.int 8 t)
  gALL : ∃ t, mg "ALL_DAYS" = some (.int 127 t)
  gHOL : ∃ t, mg "MOST_HOLIDAYS" = some (.int 32 t)
  gPPL : ∃ t, mg "MOST_PEOPLE" = some (.int 16 t)
  gNODEP : ∃ t, mg "NO_DEPUTY" = some (.int 255 t)
  gLVS : ∃ t, mg "MOST_LEAVES" = some (.int 8 t)
  gLETS : ∃ t, mg "MOST_LETTERS" = some (.int 64 t)
  gTERM : ∃ t, mg "MOST_TERM" = some (.int 250 t)
  gSTART : ∃ t, mg "START" = some (.int 0 t)
  gSIZES : ∃ z, mg "SIZES" = some (.ref z) ∧ ∀ H, SqT K H z sizes
end Ad

/-! days: has_work to day_of_term. -/
namespace Ad
open PySem L2
open Km358 (Office Land Person Letter)

/-! ### numbers -/
theorem hw_bits (w d : Nat) : Builtin.bitAnd (((w : Nat) : Int) / 2 ^ ((((d : Nat) : Int) % 7).toNat)) 1 = hw w d := by
  have e1 : (((d : Nat) : Int) % 7).toNat = d % 7 := by omega
  have e3 : (2 : Int) ^ (d % 7) = ((2 ^ (d % 7) : Nat) : Int) := by
    rw [Int.natCast_pow]
    rfl
  rw [e1, e3, ← Int.natCast_ediv, PyProof.Rows.bitAnd_m1]
  unfold hw
  rw [Nat.testBit_eq_decide_div_mod_eq]
  by_cases c : w / 2 ^ (d % 7) % 2 = 1
  · rw [decide_eq_true c, if_pos rfl]
    omega
  · rw [decide_eq_false c, if_neg (by decide)]
    omega
/-- the first n days from f on, day by day -/
def hwl (w f n : Nat) : List Int := (List.range n).map fun j => hw w (f + j)
theorem hwl_succ (w f n : Nat) : hwl w f (n + 1) = hwl w f n ++ [hw w (f + n)] := by
  unfold hwl
  rw [List.range_succ, List.map_append]
  rfl
theorem hwl_len (w f n : Nat) : (hwl w f n).length = n := by
  unfold hwl
  rw [List.length_map, List.length_range]
theorem hwl_sum (w f : Nat) : ∀ n, (hwl w f n).sum = cnt w f n
  | 0 => rfl
  | n + 1 => by
    rw [hwl_succ, List.sum_append, hwl_sum w f n, List.sum_singleton]
    rfl

/-! ### heaps -/
theorem same_upd {H H' : Hp} {D : Addr} {o : HO} (s : Same H H') (n : H D = none) : Same H (upd H' D o) := fun b u e => by
  rw [upd_ne (ne_of_none e n)]
  exact s b u e
theorem same_new {H : Hp} {D : Addr} {o : HO} (n : H D = none) : Same H (upd H D o) := same_upd (.refl H) n

/-! ### promises -/
def spHasWork : Sp := fun vs H Q _ => ∃ (w d : Nat) (z : Int), vs = [.int (w : Nat), .int z] ∧ z = (d : Nat) ∧ Q (.int (hw w d)) H
def spInWeek : Sp := fun vs H Q _ => ∃ w : Nat, vs = [.int (w : Nat)] ∧ ∀ H', Same H H' → Q (.int (cnt w 0 7)) H'
def spByWeeks : Sp := fun vs H Q _ => ∃ (w f n : Nat) (l : Int), vs = [.int (w : Nat), .int (f : Nat), .int l] ∧ l = (f : Int) + n - 1 ∧ f ≤ 100000 ∧ n ≤ 100000 ∧ ∀ H', Same H H' → Q (.int (cnt w f n)) H'
def spWorkingDays (K : PySem.W.Frag) : Sp := fun vs H Q _ => ∃ (l : Land) (a : Addr) (f : Nat) (z y : Int), vs = [.int (l.week : Nat), .ref a, .int y, .int z] ∧ y = (f : Nat) ∧ SqL K H a (numsV l.holidays) ∧ l.holidays.length ≤ 32 ∧ l.holidays.Nodup ∧ f ≤ 50000 ∧ z ≤ 50000 ∧
  ∀ H', Same H H' → Q (.int ((cntW l f (z + 1 - f).toNat : Nat) : Int)) H'
def spIsWorking (K : PySem.W.Frag) : Sp := fun vs H Q _ => ∃ (l : Land) (a : Addr) (d : Nat) (z : Int), vs = [.int (l.week : Nat), .ref a, .int z] ∧ z = (d : Nat) ∧ SqL K H a (numsV l.holidays) ∧ Q (.bl (l.works d)) H
def spDayOfTerm (K : PySem.W.Frag) : Sp := fun vs H Q _ => ∃ (l : Land) (a : Addr) (came term f D : Nat), vs = [.int (l.week : Nat), .ref a, .int (came : Nat), .int (term : Nat)] ∧ SqL K H a (numsV l.holidays) ∧ 1 ≤ term ∧ l.walk f term (came + 1) = some D ∧ Q (.int (D : Nat)) H

section
variable {P : Program} {w : World} {K : PySem.W.Frag} {mg : Str → Option Value} {base : Heap} {c : Cs} {f : Addr} {fd : FuncData}
/-! ### has_work -/
theorem sc3 : FnScope ["week", "day"] ["week", "day"] (defScope (top 3)) := ⟨rfl, rfl, rfl, by decide +kernel, rfl, by decide +kernel, by decide +kernel⟩
theorem ok_has_work (F : Fun K "has_work" "has_work" (top 3) f fd) (T : Txt K mg c) : FnOk P w K mg base CX0 1 f fd ["week", "day"] spHasWork := by
  refine F.ok sc3 (fun vs H Q E h => ?_) (fun cdv A outer s H vs Q E hr h => ?_)
  · obtain ⟨_, _, _, rfl, _⟩ := h
    rfl
  · obtain ⟨n, d, z, rfl, rfl, k⟩ := h
    refine ⟨_, pss_one (ps_ret (pe_op op_and (pe_op op_shr (pv 0) (pe_op op_mod (pv 1) (pe_gi T.gWEEK))) pe_int)), ?_⟩
    refine ⟨_, rfl, _, rfl, _, _, rfl, rfl, (by show (0 : Int) < 7; decide), _, _, rfl, rfl, (by show 0 ≤ ((d : Nat) : Int) % 7; omega), _, _, rfl, rfl, ?_⟩
    rw [← hw_bits] at k
    exact k
/-! ### work_in_week -/
theorem sc4 : FnScope ["week", "day"] ["week"] (defScope (top 4)) := ⟨rfl, rfl, rfl, by decide +kernel, rfl, by decide +kernel, by decide +kernel⟩
theorem ok_in_week (F : Fun K "work_in_week" "work_in_week" (top 4) f fd) (T : Txt K mg c) (c1 : Cal P w K mg base 1 "has_work" spHasWork) : FnOk P w K mg base CX0 2 f fd ["week"] spInWeek := by
  refine F.ok sc4 (fun vs H Q E h => ?_) (fun cdv A outer s H vs Q E hr h => ?_)
  · obtain ⟨_, rfl, _⟩ := h
    rfl
  · obtain ⟨n, rfl, k⟩ := h
    refine ⟨_, pss_one (ps_ret (pe_callB (cr_sum rfl) (by rfl) T.bsum (by decide +kernel) (pa_cons
      (pe_lc (own := [("day", 1)]) (g := gName 1) (tt := tYes) rfl sc4.nd (pi_range1 (by rfl) T.brange (pa_cons (pe_gi T.gWEEK) pa_nil)) (blkOk_by (own := [("day", 1)]) (N := ["week", "day"]) (sc := defScope (top 4)) (by decide +kernel))
        (fun _ _ _ _ _ => pg_name (i := 1) sc4.nd rfl (Or.inl rfl)) (fun _ _ _ _ _ => pts_nil) (fun _ _ _ _ _ => pe_cl c1 hr (by decide) (pa_cons (pv 0) (pa_cons (pv 1) pa_nil)))) pa_nil))), ?_⟩
    refine ⟨7, rfl, by decide, by decide, fun D hD => ?_⟩
    refine lc_range (lo := 0) (n := 7) (fun i H' => Same H H' ∧ H' D = some (.lst ((hwl n 0 i).map V.int))) ⟨same_new hD, upd_same⟩ ?_ ?_
    · rintro i H' hi ⟨s1, hL⟩
      refine ⟨rfl, ?_⟩
      refine ⟨_, rfl, _, rfl, n, i, _, rfl, by omega, _, hL, ?_, ?_⟩
      · rw [List.length_map, hwl_len, sizeLine_eq]
        omega
      · refine ⟨same_upd s1 hD, ?_⟩
        rw [upd_same, hwl_succ, List.map_append, Nat.zero_add]
        rfl
    · rintro H' ⟨s1, hL⟩
      refine ⟨D, _, rfl, SqL.of hL, ?_⟩
      rw [hwl_sum]
      exact k _ s1
/-! ### work_by_weeks -/
theorem sc5 : FnScope ["week", "first", "last", "weeks", "rest", "day"] ["week", "first", "last"] (defScope (top 5)) := ⟨rfl, rfl, rfl, by decide +kernel, rfl, by decide +kernel, by decide +kernel⟩
theorem ok_by_weeks (F : Fun K "work_by_weeks" "work_by_weeks" (top 5) f fd) (T : Txt K mg c) (c1 : Cal P w K mg base 1 "has_work" spHasWork) (c2 : Cal P w K mg base 2 "work_in_week" spInWeek) : FnOk P w K mg base CX0 3 f fd ["week", "first", "last"] spByWeeks := by
  refine F.ok sc5 (fun vs H Q E h => ?_) (fun cdv A outer s H vs Q E hr h => ?_)
  · obtain ⟨_, _, _, _, rfl, _⟩ := h
    rfl
  · obtain ⟨n, f, m, l, rfl, hl, b1, b2, k⟩ := h
    refine ⟨_, pss_cons (ps_set (i := 3) sc5.nd rfl (Or.inl rfl) (pe_op op_fdiv (pe_op op_add (pe_op op_sub (pv 2) (pv 1)) pe_int) (pe_gi T.gWEEK)))
      (pss_cons (ps_set (i := 4) sc5.nd rfl (Or.inl rfl) (pe_callB (cr_sum rfl) (by rfl) T.bsum (by decide +kernel) (pa_cons
        (pe_lc (own := [("day", 5)]) (g := gName 5) (tt := tYes) rfl sc5.nd (pi_range2 (by rfl) T.brange (pa_cons (pe_op op_add (pv 1) (pe_op op_mul (pe_gi T.gWEEK) (pv 3))) (pa_cons (pe_op op_add (pv 2) pe_int) pa_nil)))
          (blkOk_by (own := [("day", 5)]) (N := ["week", "first", "last", "weeks", "rest", "day"]) (sc := defScope (top 5)) (by decide +kernel))
          (fun _ _ _ _ _ => pg_name (i := 5) sc5.nd rfl (Or.inl rfl)) (fun _ _ _ _ _ => pts_nil) (fun _ _ _ _ _ => pe_cl c1 hr (by decide) (pa_cons (pv 0) (pa_cons (pv 5) pa_nil)))) pa_nil)))
      (pss_one (ps_ret (pe_op op_add (pe_op op_mul (pv 3) (pe_cl c2 hr (by decide) (pa_cons (pv 0) pa_nil))) (pv 4))))), ?_⟩
    have eq : (l - ((f : Nat) : Int) + 1) / 7 = ((m / 7 : Nat) : Int) := by omega
    refine ⟨_, rfl, _, rfl, _, _, rfl, rfl, _, _, rfl, rfl, _, _, rfl, rfl, ⟨by decide, by decide⟩, ?_⟩
    refine ⟨_, rfl, _, rfl, _, _, rfl, rfl, .inl ⟨by decide, by decide⟩, _, _, rfl, rfl, _, rfl, _, _, rfl, rfl, ?_⟩
    refine ⟨_, _, rfl, ?_, fun D hD => ?_⟩
    · omega
    have en : (l + 1 - (((f : Nat) : Int) + 7 * ((l - ((f : Nat) : Int) + 1) / 7))).toNat = m - 7 * (m / 7) := by omega
    show ∃ W : Nat → Nat → Hp → Prop, _
    rw [en]
    refine lc_range (fun i H' => Same H H' ∧ H' D = some (.lst ((hwl n (f + 7 * (m / 7)) i).map V.int))) ⟨same_new hD, upd_same⟩ ?_ ?_
    · rintro i H' hi ⟨s1, hL⟩
      refine ⟨rfl, ?_⟩
      refine ⟨_, rfl, _, rfl, n, f + 7 * (m / 7) + i, _, rfl, by omega, _, hL, ?_, ?_⟩
      · rw [List.length_map, hwl_len, sizeLine_eq]
        omega
      · refine ⟨same_upd s1 hD, ?_⟩
        rw [upd_same, hwl_succ, List.map_append]
        rfl
    · rintro H' ⟨s1, hL⟩
      refine ⟨D, _, rfl, SqL.of hL, ?_⟩
      refine ⟨_, rfl, _, rfl, n, rfl, fun H2 s2 => ?_⟩
      refine ⟨_, _, rfl, rfl, .inl ?_, _, rfl, _, _, rfl, rfl, ?_⟩
      · omega
      · have e := cnt_split n f m
        rw [← hwl_sum n (f + 7 * (m / 7))] at e
        rw [e, ← eq] at k
        exact k _ (s1.trans s2)
/-! ### working_days -/
theorem numsV_item {l : List Nat} {i : Nat} {x : V} (h : (numsV l)[i]? = some x) : ∃ d : Nat, l[i]? = some d ∧ x = .int (d : Nat) := by
  unfold numsV at h
  rw [List.getElem?_map] at h
  cases e : l[i]? with
  | none =>
    rw [e] at h
    cases h
  | some d =>
    rw [e] at h
    exact ⟨d, rfl, (Option.some.inj h).symm⟩
theorem filter_take {p : Nat → Bool} {l : List Nat} {i d : Nat} (h : l[i]? = some d) : (l.take (i + 1)).filter p = (l.take i).filter p ++ (if p d = true then [d] else []) := by
  rw [take_snoc h, List.filter_append]
  congr 1
  by_cases q : p d = true
  · rw [if_pos q, List.filter_cons_of_pos q]
    rfl
  · rw [if_neg q, List.filter_cons_of_neg q]
    rfl
theorem sc6 : FnScope ["week", "holidays", "first", "last", "lost", "day"] ["week", "holidays", "first", "last"] (defScope (top 6)) := ⟨rfl, rfl, rfl, by decide +kernel, rfl, by decide +kernel, by decide +kernel⟩
theorem ok_working_days (F : Fun K "working_days" "working_days" (top 6) f fd) (T : Txt K mg c) (c1 : Cal P w K mg base 1 "has_work" spHasWork) (c3 : Cal P w K mg base 3 "work_by_weeks" spByWeeks) : FnOk P w K mg base CX0 4 f fd ["week", "holidays", "first", "last"] (spWorkingDays K) := by
  refine F.ok sc6 (fun vs H Q E h => ?_) (fun cdv A outer s H vs Q E hr h => ?_)
  · obtain ⟨_, _, _, _, _, rfl, _⟩ := h
    rfl
  · obtain ⟨l, a, f, z, y, rfl, rfl, hS, b1, nd, b2, b3, k⟩ := h
    refine ⟨_, pss_cons (ps_if (pt_cmpR op_lt (pv 3) (pv 2) (nomark _)) (pss_one (ps_ret pe_int)) pss_nil)
      (pss_cons (ps_set (i := 4) sc6.nd rfl (Or.inl rfl) (pe_callB (cr_sum rfl) (by rfl) T.bsum (by decide +kernel) (pa_cons
        (pe_lc (own := [("day", 5)]) (g := gName 5) rfl sc6.nd (pi_list (pv 1))
          (blkOk_by (own := [("day", 5)]) (N := ["week", "holidays", "first", "last", "lost", "day"]) (sc := defScope (top 6)) (by decide +kernel))
          (fun _ _ _ _ _ => pg_name (i := 5) sc6.nd rfl (Or.inl rfl)) (fun _ _ _ _ _ => pts_one (pt_chain op_le op_le (pv 2) (pv 5) (pv 3))) (fun _ _ _ _ _ => pe_cl c1 hr (by decide) (pa_cons (pv 0) (pa_cons (pv 5) pa_nil)))) pa_nil)))
      (pss_one (ps_ret (pe_op op_sub (pe_cl c3 hr (by decide) (pa_cons (pv 0) (pa_cons (pv 2) (pa_cons (pv 3) pa_nil)))) (pv 4))))), ?_⟩
    refine ⟨_, rfl, _, rfl, _, _, rfl, rfl, _, rfl, ?_⟩
    by_cases q : z < ((f : Nat) : Int)
    · rw [decide_eq_true q]
      refine iteT ?_
      have e : (z + 1 - ((f : Nat) : Int)).toNat = 0 := by omega
      rw [e] at k
      exact k H (.refl H)
    · rw [decide_eq_false q]
      refine iteF ?_
      obtain ⟨n, en⟩ : ∃ n : Nat, (z + 1 - ((f : Nat) : Int)).toNat = n := ⟨_, rfl⟩
      rw [en] at k
      have ez : z = (f : Int) + n - 1 := by omega
      refine ⟨_, rfl, a, rfl, ⟨_, hS⟩, fun D hD => ?_⟩
      refine lc_list (K := K) (a := a) (xs := numsV l.holidays) (fun i H' => Same H H' ∧ H' D = some (.lst ((((l.holidays.take i).filter fun d => decide (f ≤ d) && decide (d < f + n)).map (hw l.week)).map V.int))) ⟨same_new hD, upd_same⟩ (fun i H' _ ⟨s1, _⟩ => s1.seq hS) ?_ ?_
      · rintro i x H' hi ⟨s1, hL⟩
        obtain ⟨d, hd, rfl⟩ := numsV_item hi
        have hi' : i < l.holidays.length := (List.getElem?_eq_some_iff.mp hd).1
        refine ⟨rfl, ?_⟩
        have ft := filter_take (p := fun d => decide (f ≤ d) && decide (d < f + n)) hd
        refine ⟨_, rfl, _, rfl, _, _, rfl, rfl, _, rfl, ?_⟩
        have no : ¬ (decide (f ≤ d) && decide (d < f + n)) = true → Same H H' ∧ H' D = some (.lst ((((l.holidays.take (i + 1)).filter fun d => decide (f ≤ d) && decide (d < f + n)).map (hw l.week)).map V.int)) := fun q => by
          rw [ft, if_neg q, List.append_nil]
          exact ⟨s1, hL⟩
        by_cases q1 : ((f : Nat) : Int) ≤ ((d : Nat) : Int)
        · rw [decide_eq_true q1]
          refine iteT ⟨_, rfl, _, _, rfl, rfl, _, rfl, ?_⟩
          by_cases q2 : ((d : Nat) : Int) ≤ z
          · rw [decide_eq_true q2]
            refine iteT ⟨_, rfl, _, rfl, l.week, d, _, rfl, rfl, _, hL, ?_, same_upd s1 hD, ?_⟩
            · have h1 := List.length_filter_le (fun d => decide (f ≤ d) && decide (d < f + n)) (l.holidays.take i)
              have h2 := List.length_take_le i l.holidays
              rw [List.length_map, List.length_map, sizeLine_eq]
              omega
            · rw [upd_same, ft, if_pos (by simp; omega), List.map_append, List.map_append]
              rfl
          · rw [decide_eq_false q2]
            exact iteF (no (by simp; omega))
        · rw [decide_eq_false q1]
          exact iteF ⟨_, rfl, iteF (no (by simp; omega))⟩
      · rintro H' ⟨s1, hL⟩
        refine ⟨D, _, rfl, SqL.of hL, ?_⟩
        refine ⟨_, rfl, _, rfl, _, rfl, l.week, f, n, z, rfl, ez, by omega, by omega, fun H2 s2 => ⟨_, rfl, _, _, rfl, rfl, ?_⟩⟩
        have e := cntW_eq l nd f n
        unfold lost at e
        rw [e] at k
        have ek : (numsV l.holidays).length = l.holidays.length := numsV_len _
        rw [ek, List.take_length]
        exact k _ (s1.trans s2)
/-! ### is_working -/
theorem sc7 : FnScope ["week", "holidays", "day"] ["week", "holidays", "day"] (defScope (top 7)) := ⟨rfl, rfl, rfl, by decide +kernel, rfl, by decide +kernel, by decide +kernel⟩
theorem ok_is_working (F : Fun K "is_working" "is_working" (top 7) f fd) (c1 : Cal P w K mg base 1 "has_work" spHasWork) : FnOk P w K mg base CX0 2 f fd ["week", "holidays", "day"] (spIsWorking K) := by
  refine F.ok sc7 (fun vs H Q E h => ?_) (fun cdv A outer s H vs Q E hr h => ?_)
  · obtain ⟨_, _, _, _, rfl, _⟩ := h
    rfl
  · obtain ⟨l, a, d, z, rfl, rfl, hS, k⟩ := h
    refine ⟨_, pss_one (ps_ret (pe_and (pe_cmpR op_eq (pe_cl c1 hr (by decide) (pa_cons (pv 0) (pa_cons (pv 2) pa_nil))) pe_int (nomark _)) (pe_one (pe_cmpR op_notIn_seq (pv 2) (pv 1) (by rfl))))), ?_⟩
    refine ⟨_, rfl, _, rfl, l.week, d, _, rfl, rfl, rfl, _, rfl, ?_⟩
    have e : l.works d = (l.week.testBit (d % 7) && !(l.holidays.contains d)) := rfl
    by_cases q : l.week.testBit (d % 7) = true
    · have e1 : hw l.week d = 1 := if_pos q
      rw [e1, decide_eq_true rfl]
      refine iteT ⟨_, rfl, _, rfl, a, _, rfl, .inl hS, rfl, numsV_flat _, ?_⟩
      rw [e, q, Bool.true_and, ← inV_numsV] at k
      exact k
    · have e1 : hw l.week d = 0 := if_neg q
      have q' : l.week.testBit (d % 7) = false := by simpa using q
      rw [e1, decide_eq_false (by intro z; cases z)]
      rw [e, q', Bool.false_and] at k
      exact iteF k
/-! ### day_of_term -/
theorem sc8 : FnScope ["week", "holidays", "came", "term", "day", "left"] ["week", "holidays", "came", "term"] (defScope (top 8)) := ⟨rfl, rfl, rfl, by decide +kernel, rfl, by decide +kernel, by decide +kernel⟩
theorem ok_day_of_term (F : Fun K "day_of_term" "day_of_term" (top 8) f fd) (c2 : Cal P w K mg base 2 "is_working" (spIsWorking K)) : FnOk P w K mg base CX0 3 f fd ["week", "holidays", "came", "term"] (spDayOfTerm K) := by
  refine F.ok sc8 (fun vs H Q E h => ?_) (fun cdv A outer s H vs Q E hr h => ?_)
  · obtain ⟨_, _, _, _, _, _, rfl, _⟩ := h
    rfl
  · obtain ⟨l, a, came, term, f, D, rfl, hS, h1, hw, k⟩ := h
    refine ⟨_, pss_cons (ps_set (i := 4) sc8.nd rfl (Or.inl rfl) (pv 2)) (pss_cons (ps_set (i := 5) sc8.nd rfl (Or.inl rfl) (pv 3))
      (pss_cons (ps_while PassesOwn.never (pt_cmpR op_gt (pv 5) pe_int (nomark _))
        (pss_cons (ps_set (i := 4) sc8.nd rfl (Or.inl rfl) (pe_op op_add (pv 4) pe_int))
          (pss_one (ps_if (pt_val (pe_cl c2 hr (by decide) (pa_cons (pv 0) (pa_cons (pv 1) (pa_cons (pv 4) pa_nil))))) (pss_one (ps_set (i := 5) sc8.nd rfl (Or.inl rfl) (pe_op op_sub (pv 5) pe_int))) pss_nil))))
      (pss_one (ps_ret (pv 4))))), ?_⟩
    refine ⟨_, rfl, _, rfl, ?_⟩
    refine ⟨fun m σ H' => H' = H ∧ ∃ day left : Nat, σ = [some (.int (l.week : Nat)), some (.ref a), some (.int (came : Nat)), some (.int (term : Nat)), some (.int (day : Nat)), some (.int (left : Nat))] ∧ ((left = 0 ∧ day = D) ∨ (1 ≤ left ∧ l.walk m left (day + 1) = some D)),
      ⟨f, rfl, came, term, rfl, .inr ⟨h1, hw⟩⟩, ?_⟩
    rintro m σ H' ⟨rfl, day, left, rfl, hh⟩
    refine ⟨_, rfl, _, _, rfl, rfl, _, rfl, ?_⟩
    rcases hh with ⟨rfl, rfl⟩ | ⟨h2, h3⟩
    · rw [decide_eq_false (by decide)]
      exact iteF ⟨_, rfl, k⟩
    · rw [decide_eq_true (by omega : (0 : Int) < ((left : Nat) : Int))]
      refine iteT ?_
      cases m with
      | zero => cases h3
      | succ m =>
        unfold Land.walk at h3
        refine ⟨_, fun σ' H2 h => h, ?_⟩
        refine ⟨_, rfl, _, _, rfl, rfl, ?_⟩
        refine ⟨_, rfl, _, rfl, _, rfl, l, a, day + 1, _, rfl, by omega, hS, _, rfl, ?_⟩
        by_cases q : l.works (day + 1) = true
        · rw [if_pos q] at h3
          rw [q]
          refine iteT ⟨_, rfl, _, _, rfl, rfl, ?_⟩
          refine ⟨m, Nat.lt_succ_self m, rfl, day + 1, left - 1, ?_, ?_⟩
          · rw [show ((left - 1 : Nat) : Int) = ((left : Nat) : Int) - 1 by omega]
            rfl
          · by_cases q2 : left ≤ 1
            · rw [if_pos q2] at h3
              exact .inl ⟨by omega, Option.some.inj h3⟩
            · rw [if_neg q2] at h3
              exact .inr ⟨by omega, h3⟩
        · rw [if_neg q] at h3
          have q' : l.works (day + 1) = false := by simpa using q
          rw [q']
          refine iteF ?_
          exact ⟨m, Nat.lt_succ_self m, rfl, day + 1, left, rfl, .inr ⟨h2, h3⟩⟩
end
end Ad

/-! looking: is_away to bits_of. -/
namespace Ad
open PySem L2
open Km358 (Office Land Person Letter)

theorem refs_item {ad : Nat → Addr} {n i : Nat} {x : V} (h : (refs ad n)[i]? = some x) : i < n ∧ x = .ref (ad i) := by
  have hi : i < n := by
    have := (List.getElem?_eq_some_iff.mp h).1
    rw [refs_len] at this
    exact this
  rw [refs_get hi] at h
  exact ⟨hi, (Option.some.inj h).symm⟩
theorem lett_get {s : Office} {k : Nat} (h : k < s.letters.length) : s.letters[k]? = some (lett s k) := by
  unfold lett
  rw [List.getD_eq_getElem?_getD, List.getElem?_eq_getElem h]
  rfl
theorem lett_mem {s : Office} {k : Nat} (h : k < s.letters.length) : lett s k ∈ s.letters := getD_mem h
theorem person_get {s : Office} {k : Nat} (h : k < s.people.length) : s.people[k]? = some (s.person k) := by
  show _ = some (s.people.getD k Km358.person0)
  rw [List.getD_eq_getElem?_getD, List.getElem?_eq_getElem h]
  rfl

/-! ### promises -/
/-- is x's leave on d -/
def leaveOn (d : Nat) (x : Nat × Nat) : Bool := decide (x.1 ≤ d) && decide (d ≤ x.2)
def spIsAway (c : Cs) : Sp := fun vs H Q _ => ∃ (F : Hp) (ad dx : Role → Addr) (s : Office) (k d : Nat), vs = [.ref (ad (.pers k)), .int (d : Nat)] ∧ Lay c F H ad dx s ∧ k < s.people.length ∧ (s.person k).away.length ≤ 8 ∧
  ∀ H', Same H H' → Q (.bl ((s.person k).away.any (leaveOn d))) H'
def spIsIn (c : Cs) : Sp := fun vs H Q _ => ∃ (F : Hp) (ad dx : Role → Addr) (s : Office) (k : Nat), vs = [.ref (ad .off), .int (k : Nat)] ∧ Lay c F H ad dx s ∧ Good s ∧ k < s.people.length ∧ ∀ H', Same H H' → Q (.bl (s.isIn k s.today)) H'
def spHolder (c : Cs) : Sp := fun vs H Q _ => ∃ (F : Hp) (ad dx : Role → Addr) (s : Office) (i : Nat), vs = [.ref (ad .off), .ref (ad (.letr i))] ∧ Lay c F H ad dx s ∧ Good s ∧ i < s.letters.length ∧ ∀ H', Same H H' → Q (.int (numOf (s.holder (lett s i) s.today))) H'
def spDue (c : Cs) : Sp := fun vs H Q _ => ∃ (F : Hp) (ad dx : Role → Addr) (s : Office) (i D : Nat), vs = [.ref (ad .off), .ref (ad (.letr i))] ∧ Lay c F H ad dx s ∧ Good s ∧ i < s.letters.length ∧ s.due (lett s i) = some D ∧ ∀ H', Same H H' → Q (.int (D : Nat)) H'
def spIsLate (c : Cs) : Sp := fun vs H Q _ => ∃ (F : Hp) (ad dx : Role → Addr) (s : Office) (i : Nat), vs = [.ref (ad .off), .ref (ad (.letr i))] ∧ Lay c F H ad dx s ∧ Good s ∧ i < s.letters.length ∧ ∀ H', Same H H' → Q (.bl (s.isLate (lett s i))) H'
def spLateOnes (c : Cs) : Sp := fun vs H Q _ => ∃ (F : Hp) (ad dx : Role → Addr) (s : Office), vs = [.ref (ad .off)] ∧ Lay c F H ad dx s ∧ Good s ∧ ∀ H' p, Same H H' → H p = none → H' p = some (.lst (numsV (idx s.isLate s.letters))) → Q (.ref p) H'
/-- whom a letter is with, by the number that the program gives -/
def heldBy (s : Office) (m : Int) (x : Letter) : Bool := Km358.isOpen x && decide (numOf (s.holder x s.today) = m)
def spHeldBy (c : Cs) : Sp := fun vs H Q _ => ∃ (F : Hp) (ad dx : Role → Addr) (s : Office) (m : Int), vs = [.ref (ad .off), .int m] ∧ Lay c F H ad dx s ∧ Good s ∧ ∀ H' p, Same H H' → H p = none → H' p = some (.lst (numsV (idx (heldBy s m) s.letters))) → Q (.ref p) H'
def spBitsOf (K : PySem.W.Frag) : Sp := fun vs H Q _ => ∃ (a : Addr) (p : Letter → Bool) (l : List Letter), vs = [.ref a] ∧ SqL K H a (numsV (idx p l)) ∧ l.length ≤ 64 ∧ ∀ H', Same H H' → Q (.int ((Km358.bits p l : Nat) : Int)) H'

section
variable {P : Program} {w : World} {K : PySem.W.Frag} {mg : Str → Option Value} {base : Heap} {c : Cs} {f : Addr} {fd : FuncData}
/-! ### is_away -/
theorem sc11 : FnScope ["person", "day", "first", "last"] ["person", "day"] (defScope (top 11)) := ⟨rfl, rfl, rfl, by decide +kernel, rfl, by decide +kernel, by decide +kernel⟩
theorem ok_is_away (F : Fun K "is_away" "is_away" (top 11) f fd) (T : Txt K mg c) : FnOk P w K mg base CX0 1 f fd ["person", "day"] (spIsAway c) := by
  refine F.ok sc11 (fun vs H Q E h => ?_) (fun cdv A outer s H vs Q E hr h => ?_)
  · obtain ⟨_, _, _, _, _, _, rfl, _⟩ := h
    rfl
  · obtain ⟨F0, ad, dx, o, k, d, rfl, L, hk, b1, q⟩ := h
    have hp : H (ad (.pers k)) = some (.ins c.per (dx (.pers k)) (perF (o.person k).land (o.person k).deputy (ad (.lvs k)))) := L.ct (.pers k) hk
    have hv : H (ad (.lvs k)) = some (.lst (refs (fun j => ad (.leave k j)) (o.person k).away.length)) := L.ct (.lvs k) hk
    refine ⟨_, pss_one (ps_ret (pe_callB (cr_any rfl) (by rfl) T.bany (by decide +kernel) (pa_cons
      (pe_lc (own := [("first", 2), ("last", 3)]) (g := gTup K 2 (gCons (gName 2) (gCons (gName 3) gNil))) (tt := tYes) rfl sc11.nd (pi_list (pe_fld (pv 0) rfl))
        (blkOk_by (own := [("first", 2), ("last", 3)]) (N := ["person", "day", "first", "last"]) (sc := defScope (top 11)) (by decide +kernel))
        (fun _ _ _ _ _ => pg_tup rfl (pgs_cons (pg_name (i := 2) sc11.nd rfl (Or.inl rfl)) (pgs_cons (pg_name (i := 3) sc11.nd rfl (Or.inl rfl)) pgs_nil)))
        (fun _ _ _ _ _ => pts_nil) (fun _ _ _ _ _ => pe_chain op_le op_le (pv 2) (pv 1) (pv 3))) pa_nil))), ?_⟩
    refine ⟨_, rfl, _, _, _, _, _, rfl, hp, T.cP, T.pV, perF_lvs _ _ _, _, rfl, ⟨_, SqL.of hv⟩, fun D hD => ?_⟩
    refine lc_list (K := K) (xs := refs (fun j => ad (.leave k j)) (o.person k).away.length) (fun i H' => Same H H' ∧ H' D = some (.lst ((((o.person k).away.take i).map (leaveOn d)).map V.bl))) ⟨same_new hD, upd_same⟩ (fun i H' _ ⟨s1, _⟩ => s1.seq (SqL.of hv)) ?_ ?_
    · rintro i x H' hi ⟨s1, hL⟩
      obtain ⟨hj, rfl⟩ := refs_item hi
      have ht : H' (ad (.leave k i)) = some (leaveT ((o.person k).away.getD i (0, 0))) := s1 _ _ (L.ct (.leave k i) ⟨hk, hj⟩)
      have hg : (o.person k).away[i]? = some ((o.person k).away.getD i (0, 0)) := by
        rw [List.getD_eq_getElem?_getD, List.getElem?_eq_getElem hj]
        rfl
      generalize (o.person k).away.getD i (0, 0) = x at ht hg
      refine ⟨_, _, rfl, SqT.of ht, rfl, _, _, rfl, _, _, rfl, rfl, rfl, ?_⟩
      refine ⟨_, rfl, _, rfl, _, _, rfl, rfl, _, rfl, ?_⟩
      have fin : ∀ b, b = leaveOn d x → ∃ acc, H' D = some (.lst acc) ∧ acc.length < sizeLine ∧ (Same H (upd H' D (.lst (acc ++ [.bl b]))) ∧ upd H' D (.lst (acc ++ [.bl b])) D = some (.lst ((((o.person k).away.take (i + 1)).map (leaveOn d)).map V.bl))) := fun b eb => by
        refine ⟨_, hL, ?_, same_upd s1 hD, ?_⟩
        · have := List.length_take_le i (o.person k).away
          rw [List.length_map, List.length_map, sizeLine_eq]
          omega
        · rw [upd_same, take_snoc hg, List.map_append, List.map_append, eb]
          rfl
      by_cases q1 : ((x.1 : Nat) : Int) ≤ ((d : Nat) : Int)
      · rw [decide_eq_true q1]
        refine iteT ⟨_, rfl, _, _, rfl, rfl, ?_⟩
        refine fin _ ?_
        unfold leaveOn
        rw [decide_eq_true (by omega : x.1 ≤ d), Bool.true_and]
        exact decide_eq_decide.mpr (by omega)
      · rw [decide_eq_false q1]
        refine iteF (fin _ ?_)
        unfold leaveOn
        rw [decide_eq_false (by omega : ¬ x.1 ≤ d), Bool.false_and]
    · rintro H' ⟨s1, hL⟩
      rw [refs_len, List.take_length] at hL
      refine ⟨D, _, rfl, SqL.of hL, ?_⟩
      have e : ((o.person k).away.map (leaveOn d)).any id = (o.person k).away.any (leaveOn d) := by
        rw [List.any_map]
        rfl
      rw [← e] at q
      exact q _ s1
/-! ### is_in -/
theorem isIn_eq (s : Office) (k : Nat) : s.isIn k s.today = ((s.land (s.person k).land).works s.today && !((s.person k).away.any (leaveOn s.today))) := by
  unfold Office.isIn
  congr 1
  rw [List.not_any_eq_all_not]
  refine congrArg (fun g => List.all (s.person k).away g) (funext fun x => ?_)
  unfold leaveOn
  rw [Bool.eq_iff_iff]
  simp only [Bool.or_eq_true, decide_eq_true_eq, Bool.not_eq_true', Bool.and_eq_false_iff, decide_eq_false_iff_not]
  omega
theorem sc12 : FnScope ["office", "number", "person"] ["office", "number"] (defScope (top 12)) := ⟨rfl, rfl, rfl, by decide +kernel, rfl, by decide +kernel, by decide +kernel⟩
theorem ok_is_in (F : Fun K "is_in" "is_in" (top 12) f fd) (T : Txt K mg c) (cW : Cal P w K mg base 2 "is_working" (spIsWorking K)) (cA : Cal P w K mg base 1 "is_away" (spIsAway c)) : FnOk P w K mg base CX0 3 f fd ["office", "number"] (spIsIn c) := by
  refine F.ok sc12 (fun vs H Q E h => ?_) (fun cdv A outer s H vs Q E hr h => ?_)
  · obtain ⟨_, _, _, _, _, rfl, _⟩ := h
    rfl
  · obtain ⟨F0, ad, dx, o, k, rfl, L, g, hk, q⟩ := h
    have hO : H (ad .off) = some (.ins c.off (dx .off) (offF (ad .weeks) (ad .hols) (ad .ppl) (ad .lets) o.today)) := L.ct .off trivial
    have hW : H (ad .weeks) = some (.lst (numsV (o.lands.map (·.week)))) := L.ct .weeks trivial
    have hH : H (ad .hols) = some (.lst (refs (fun k => ad (.hol k)) o.lands.length)) := L.ct .hols trivial
    have hP : H (ad .ppl) = some (.lst (refs (fun k => ad (.pers k)) o.people.length)) := L.ct .ppl trivial
    have hp : H (ad (.pers k)) = some (.ins c.per (dx (.pers k)) (perF (o.person k).land (o.person k).deputy (ad (.lvs k)))) := L.ct (.pers k) hk
    obtain ⟨gl, _, gv⟩ := g.person_of hk
    have hh : H (ad (.hol (o.person k).land)) = some (.lst (numsV (o.land (o.person k).land).holidays)) := L.ct (.hol _) gl
    rw [isIn_eq] at q
    refine ⟨_, pss_cons (ps_set (i := 2) sc12.nd rfl (Or.inl rfl) (pe_ix ix_list (pe_fld (pv 0) rfl) (pv 1) (fun _ _ => rfl)))
      (pss_cons (ps_if (pt_not (pt_val (pe_cl cW hr (by decide) (pa_cons (pe_ix ix_list (pe_fld (pv 0) rfl) (pe_fld (pv 2) rfl) (fun _ _ => rfl)) (pa_cons (pe_ix ix_list (pe_fld (pv 0) rfl) (pe_fld (pv 2) rfl) (fun _ _ => rfl)) (pa_cons (pe_fld (pv 0) rfl) pa_nil)))))) (pss_one (ps_ret pe_bl)) pss_nil)
      (pss_one (ps_ret (pe_not (pe_cl cA hr (by decide) (pa_cons (pv 2) (pa_cons (pe_fld (pv 0) rfl) pa_nil))))))), ?_⟩
    refine ⟨_, rfl, _, _, _, _, _, rfl, hO, T.cO, T.oP, offF_ppl _ _ _ _ _, _, rfl, _, _, _, _, rfl, rfl, SqL.of hP, refs_at hk, ?_⟩
    refine ⟨_, rfl, _, _, _, _, _, rfl, hO, T.cO, T.oW, offF_weeks _ _ _ _ _, _, rfl, _, _, _, _, _, rfl, hp, T.cP, T.pL, perF_land _ _ _, _, _, _, _, rfl, rfl, SqL.of hW, weeks_get gl, ?_⟩
    refine ⟨_, rfl, _, _, _, _, _, rfl, hO, T.cO, T.oH, offF_hols _ _ _ _ _, _, rfl, _, _, _, _, _, rfl, hp, T.cP, T.pL, perF_land _ _ _, _, _, _, _, rfl, rfl, SqL.of hH, refs_at gl, ?_⟩
    refine ⟨_, rfl, _, _, _, _, _, rfl, hO, T.cO, T.oT, offF_today _ _ _ _ _, ?_⟩
    refine ⟨o.land (o.person k).land, _, o.today, _, rfl, rfl, SqL.of hh, _, rfl, ?_⟩
    cases e : (o.land (o.person k).land).works o.today with
    | false =>
      rw [e, Bool.false_and] at q
      exact iteT (q _ (.refl _))
    | true =>
      rw [e, Bool.true_and] at q
      refine iteF ⟨_, rfl, _, rfl, _, _, _, _, _, rfl, hO, T.cO, T.oT, offF_today _ _ _ _ _, F0, ad, dx, o, k, o.today, rfl, L, hk, gv, fun H' s1 => ⟨_, rfl, q _ s1⟩⟩
/-! ### holder -/
theorem sc13 : FnScope ["office", "letter", "number", "seen", "turn"] ["office", "letter"] (defScope (top 13)) := ⟨rfl, rfl, rfl, by decide +kernel, rfl, by decide +kernel, by decide +kernel⟩
theorem ok_holder (F : Fun K "holder" "holder" (top 13) f fd) (T : Txt K mg c) (cI : Cal P w K mg base 3 "is_in" (spIsIn c)) : FnOk P w K mg base CX0 4 f fd ["office", "letter"] (spHolder c) := by
  refine F.ok sc13 (fun vs H Q E h => ?_) (fun cdv A outer s H vs Q E hr h => ?_)
  · obtain ⟨_, _, _, _, _, rfl, _⟩ := h
    rfl
  · obtain ⟨F0, ad, dx, o, i, rfl, L, g, hi, q⟩ := h
    rw [g.holder_is] at q
    obtain ⟨R, eR⟩ : ∃ R, o.finds o.today o.people.length [] (lett o i).to = R := ⟨_, rfl⟩
    rw [eR] at q
    refine ⟨_, pss_cons (ps_set (i := 2) sc13.nd rfl (Or.inl rfl) (pe_fld (pv 1) rfl)) (pss_cons (ps_set (i := 3) sc13.nd rfl (Or.inl rfl) (pe_lst pa_nil))
      (pss_cons (ps_for PassesOwn.never rfl (pi_range1 (by rfl) T.brange (pa_cons (pe_callB call_len_seq (by rfl) T.blen PySem.boot_len (pa_cons (pe_fld (pv 0) rfl) pa_nil)) pa_nil)) (pg_name (i := 4) sc13.nd rfl (Or.inl rfl))
        (pss_cons (ps_if (PW.pt (pw_or (pt_cmpR op_ge (pv 2) (pe_callB call_len_seq (by rfl) T.blen PySem.boot_len (pa_cons (pe_fld (pv 0) rfl) pa_nil)) (nomark _)) (pw_or1 (pt_cmpR op_in_seq (pv 2) (pv 3) (by rfl))))) (pss_one (ps_ret (pe_gi T.gNOBODY))) pss_nil)
        (pss_cons (ps_if (pt_val (pe_cl cI hr (by decide) (pa_cons (pv 0) (pa_cons (pv 2) pa_nil)))) (pss_one (ps_ret (pv 2))) pss_nil)
        (pss_cons (ps_expr (pe_bm PySem.F.plainAttrs_list PySem.F.slot_list_append PySem.F.type_list_append mt_append (pv 3) (pa_cons (pv 2) pa_nil)))
        (pss_one (ps_set (i := 2) sc13.nd rfl (Or.inl rfl) (pe_fld (pe_ix ix_list (pe_fld (pv 0) rfl) (pv 2) (fun _ _ => rfl)) rfl)))))))
      (pss_one (ps_ret (pe_gi T.gNOBODY))))), ?_⟩
    have ofOff : ∀ {H'}, Same H H' → H' (ad .off) = some (.ins c.off (dx .off) (offF (ad .weeks) (ad .hols) (ad .ppl) (ad .lets) o.today)) := fun s1 => s1 _ _ (L.ct .off trivial)
    have ofP : ∀ {H'}, Same H H' → H' (ad .ppl) = some (.lst (refs (fun k => ad (.pers k)) o.people.length)) := fun s1 => s1 _ _ (L.ct .ppl trivial)
    have ht : H (ad (.letr i)) = some (.ins c.let' (dx (.letr i)) (letF (lett o i))) := L.ct (.letr i) hi
    have hto := (g.lett _ (lett_mem hi)).1
    refine ⟨_, rfl, _, _, _, _, _, rfl, ht, T.cL, T.lT, letF_to _, ?_⟩
    refine ⟨Nat.zero_le _, fun D hD => ?_⟩
    have s0 : Same H (upd H D (.lst [])) := same_new hD
    refine ⟨_, rfl, _, _, _, _, _, rfl, ofOff s0, T.cO, T.oP, offF_ppl _ _ _ _ _, _, _, rfl, .inl (SqL.of (ofP s0)), _, rfl, ?_, ?_, ?_⟩
    · omega
    · have := g.p1
      rw [refs_len]
      omega
    rw [refs_len, Int.toNat_natCast]
    refine for_range (fun j σ H' => ∃ (num : Nat) (seen : List Nat) (tv : Option V), σ = [some (.ref (ad .off)), some (.ref (ad (.letr i))), some (.int (num : Nat)), some (.ref D), tv] ∧ Same H H' ∧ H' D = some (.lst (numsV seen)) ∧ seen.length ≤ j ∧ o.finds o.today (o.people.length - j) seen num = R)
      ⟨_, [], none, rfl, s0, upd_same, Nat.le_refl _, eR⟩ ?_ ?_
    · rintro j σ H' hj ⟨num, seen, tv, rfl, s1, hL, hl, hf⟩
      obtain ⟨m, em⟩ : ∃ m, o.people.length - j = m + 1 := ⟨o.people.length - j - 1, by omega⟩
      rw [em] at hf
      unfold Office.finds at hf
      refine ⟨_, rfl, _, rfl, _, _, _, _, _, rfl, ofOff s1, T.cO, T.oP, offF_ppl _ _ _ _ _, _, _, rfl, .inl (SqL.of (ofP s1)), _, _, rfl, rfl, _, rfl, ?_⟩
      rw [refs_len]
      by_cases q1 : o.people.length ≤ num
      · rw [decide_eq_true (by omega : ((o.people.length : Nat) : Int) ≤ ((num : Nat) : Int))]
        rw [if_pos (.inl q1)] at hf
        rw [← hf] at q
        exact iteT (iteT (q _ s1))
      · rw [decide_eq_false (by omega : ¬ ((o.people.length : Nat) : Int) ≤ ((num : Nat) : Int))]
        refine iteF ⟨_, rfl, _, rfl, _, _, rfl, .inl (SqL.of hL), rfl, numsV_flat _, _, rfl, ?_⟩
        rw [inV_numsV]
        by_cases q2 : seen.contains num = true
        · rw [if_pos (.inr q2)] at hf
          rw [← hf] at q
          rw [q2]
          exact iteT (q _ s1)
        · rw [if_neg (by intro z; rcases z with z | z; exact q1 z; exact q2 z)] at hf
          have q2' : seen.contains num = false := by simpa using q2
          rw [q2']
          refine iteF ⟨_, rfl, _, rfl, F0, ad, dx, o, num, rfl, L.mono s1, g, by omega, fun H2 s2 => ⟨_, rfl, ?_⟩⟩
          by_cases q3 : o.isIn num o.today = true
          · rw [if_pos q3] at hf
            rw [← hf] at q
            rw [q3]
            exact iteT ⟨_, rfl, q _ (s1.trans s2)⟩
          · rw [if_neg q3] at hf
            have q3' : o.isIn num o.today = false := by simpa using q3
            rw [q3']
            refine iteF ?_
            have hL2 := s2 _ _ hL
            refine ⟨_, rfl, .inl ⟨rfl, _, SqL.of hL2⟩, _, rfl, _, _, _, rfl, rfl, hL2, ?_, ?_⟩
            · have := g.p1
              rw [numsV_len, sizeLine_eq]
              omega
            have s3 : Same H (upd H2 D (.lst (numsV seen ++ [.int (num : Nat)]))) := same_upd (s1.trans s2) hD
            have hp : (upd H2 D (.lst (numsV seen ++ [.int (num : Nat)]))) (ad (.pers num)) = some (.ins c.per (dx (.pers num)) (perF (o.person num).land (o.person num).deputy (ad (.lvs num)))) := s3 _ _ (L.ct (.pers num) (show num < o.people.length by omega))
            refine ⟨_, rfl, _, _, _, _, _, rfl, ofOff s3, T.cO, T.oP, offF_ppl _ _ _ _ _, _, rfl, _, _, _, _, rfl, rfl, SqL.of (ofP s3), refs_at (by omega), _, _, _, _, _, rfl, hp, T.cP, T.pD, perF_dep _ _ _, ?_⟩
            refine ⟨(o.person num).deputy, seen ++ [num], _, rfl, s3, ?_, ?_, ?_⟩
            · rw [upd_same, numsV_snoc]
            · rw [List.length_append, List.length_singleton]
              omega
            · rw [show o.people.length - (j + 1) = m by omega]
              exact hf
    · rintro σ H' ⟨num, seen, tv, rfl, s1, hL, hl, hf⟩
      rw [Nat.sub_self] at hf
      have hf : none = R := hf
      rw [← hf] at q
      exact q _ s1
/-! ### due_day -/
theorem sc14 : FnScope ["office", "letter", "land"] ["office", "letter"] (defScope (top 14)) := ⟨rfl, rfl, rfl, by decide +kernel, rfl, by decide +kernel, by decide +kernel⟩
theorem ok_due_day (F : Fun K "due_day" "due_day" (top 14) f fd) (T : Txt K mg c) (cD : Cal P w K mg base 3 "day_of_term" (spDayOfTerm K)) : FnOk P w K mg base CX0 4 f fd ["office", "letter"] (spDue c) := by
  refine F.ok sc14 (fun vs H Q E h => ?_) (fun cdv A outer s H vs Q E hr h => ?_)
  · obtain ⟨_, _, _, _, _, _, rfl, _⟩ := h
    rfl
  · obtain ⟨F0, ad, dx, o, i, D, rfl, L, g, hi, hD, q⟩ := h
    have hO : H (ad .off) = some (.ins c.off (dx .off) (offF (ad .weeks) (ad .hols) (ad .ppl) (ad .lets) o.today)) := L.ct .off trivial
    have hW : H (ad .weeks) = some (.lst (numsV (o.lands.map (·.week)))) := L.ct .weeks trivial
    have hH : H (ad .hols) = some (.lst (refs (fun k => ad (.hol k)) o.lands.length)) := L.ct .hols trivial
    have hP : H (ad .ppl) = some (.lst (refs (fun k => ad (.pers k)) o.people.length)) := L.ct .ppl trivial
    have ht : H (ad (.letr i)) = some (.ins c.let' (dx (.letr i)) (letF (lett o i))) := L.ct (.letr i) hi
    obtain ⟨hto, hm, _⟩ := g.lett _ (lett_mem hi)
    have hp : H (ad (.pers (lett o i).to)) = some (.ins c.per (dx (.pers (lett o i).to)) (perF (o.person (lett o i).to).land (o.person (lett o i).to).deputy (ad (.lvs (lett o i).to)))) := L.ct (.pers _) hto
    obtain ⟨gl, _⟩ := g.person_of hto
    have hh : H (ad (.hol (o.person (lett o i).to).land)) = some (.lst (numsV (o.land (o.person (lett o i).to).land).holidays)) := L.ct (.hol _) gl
    refine ⟨_, pss_cons (ps_set (i := 2) sc14.nd rfl (Or.inl rfl) (pe_fld (pe_ix ix_list (pe_fld (pv 0) rfl) (pe_fld (pv 1) rfl) (fun _ _ => rfl)) rfl))
      (pss_one (ps_ret (pe_cl cD hr (by decide) (pa_cons (pe_ix ix_list (pe_fld (pv 0) rfl) (pv 2) (fun _ _ => rfl)) (pa_cons (pe_ix ix_list (pe_fld (pv 0) rfl) (pv 2) (fun _ _ => rfl)) (pa_cons (pe_fld (pv 1) rfl) (pa_cons (pe_fld (pv 1) rfl) pa_nil))))))), ?_⟩
    refine ⟨_, rfl, _, _, _, _, _, rfl, hO, T.cO, T.oP, offF_ppl _ _ _ _ _, _, rfl, _, _, _, _, _, rfl, ht, T.cL, T.lT, letF_to _, _, _, _, _, rfl, rfl, SqL.of hP, refs_at hto, _, _, _, _, _, rfl, hp, T.cP, T.pL, perF_land _ _ _, ?_⟩
    refine ⟨_, rfl, _, _, _, _, _, rfl, hO, T.cO, T.oW, offF_weeks _ _ _ _ _, _, rfl, _, _, _, _, rfl, rfl, SqL.of hW, weeks_get gl, ?_⟩
    refine ⟨_, rfl, _, _, _, _, _, rfl, hO, T.cO, T.oH, offF_hols _ _ _ _ _, _, rfl, _, _, _, _, rfl, rfl, SqL.of hH, refs_at gl, ?_⟩
    refine ⟨_, rfl, _, _, _, _, _, rfl, ht, T.cL, T.lC, letF_came _, _, rfl, _, _, _, _, _, rfl, ht, T.cL, T.lM, letF_term _, ?_⟩
    exact ⟨o.land (o.person (lett o i).to).land, _, (lett o i).came, (lett o i).term, _, D, rfl, SqL.of hh, hm, hD, q _ (.refl _)⟩
/-! ### is_late -/
theorem sc15 : FnScope ["office", "letter", "land", "gone"] ["office", "letter"] (defScope (top 15)) := ⟨rfl, rfl, rfl, by decide +kernel, rfl, by decide +kernel, by decide +kernel⟩
theorem ok_is_late (F : Fun K "is_late" "is_late" (top 15) f fd) (T : Txt K mg c) (cD : Cal P w K mg base 4 "working_days" (spWorkingDays K)) : FnOk P w K mg base CX0 5 f fd ["office", "letter"] (spIsLate c) := by
  refine F.ok sc15 (fun vs H Q E h => ?_) (fun cdv A outer s H vs Q E hr h => ?_)
  · obtain ⟨_, _, _, _, _, rfl, _⟩ := h
    rfl
  · obtain ⟨F0, ad, dx, o, i, rfl, L, g, hi, q⟩ := h
    have hO : H (ad .off) = some (.ins c.off (dx .off) (offF (ad .weeks) (ad .hols) (ad .ppl) (ad .lets) o.today)) := L.ct .off trivial
    have hW : H (ad .weeks) = some (.lst (numsV (o.lands.map (·.week)))) := L.ct .weeks trivial
    have hH : H (ad .hols) = some (.lst (refs (fun k => ad (.hol k)) o.lands.length)) := L.ct .hols trivial
    have hP : H (ad .ppl) = some (.lst (refs (fun k => ad (.pers k)) o.people.length)) := L.ct .ppl trivial
    have ht : H (ad (.letr i)) = some (.ins c.let' (dx (.letr i)) (letF (lett o i))) := L.ct (.letr i) hi
    obtain ⟨hto, hm1, hm2, hcm⟩ := g.lett _ (lett_mem hi)
    have hp : H (ad (.pers (lett o i).to)) = some (.ins c.per (dx (.pers (lett o i).to)) (perF (o.person (lett o i).to).land (o.person (lett o i).to).deputy (ad (.lvs (lett o i).to)))) := L.ct (.pers _) hto
    obtain ⟨gl, _⟩ := g.person_of hto
    have hh : H (ad (.hol (o.person (lett o i).to).land)) = some (.lst (numsV (o.land (o.person (lett o i).to).land).holidays)) := L.ct (.hol _) gl
    have gL := g.land_of gl
    have gd := g.day
    rw [g.late_iff (lett_mem hi)] at q
    refine ⟨_, pss_cons (ps_if (pt_not (pt_val (pe_fld (pv 1) rfl))) (pss_one (ps_ret pe_bl)) pss_nil)
      (pss_cons (ps_set (i := 2) sc15.nd rfl (Or.inl rfl) (pe_fld (pe_ix ix_list (pe_fld (pv 0) rfl) (pe_fld (pv 1) rfl) (fun _ _ => rfl)) rfl))
      (pss_cons (ps_set (i := 3) sc15.nd rfl (Or.inl rfl) (pe_cl cD hr (by decide) (pa_cons (pe_ix ix_list (pe_fld (pv 0) rfl) (pv 2) (fun _ _ => rfl)) (pa_cons (pe_ix ix_list (pe_fld (pv 0) rfl) (pv 2) (fun _ _ => rfl)) (pa_cons (pe_op op_add (pe_fld (pv 1) rfl) pe_int) (pa_cons (pe_op op_sub (pe_fld (pv 0) rfl) pe_int) pa_nil))))))
      (pss_one (ps_ret (pe_cmpR op_ge (pv 3) (pe_fld (pv 1) rfl) (nomark _)))))), ?_⟩
    refine ⟨_, rfl, _, _, _, _, _, rfl, ht, T.cL, T.lO, letF_open _, _, rfl, ?_⟩
    cases e : Km358.isOpen (lett o i) with
    | false =>
      rw [e, Bool.false_and] at q
      exact iteT (q _ (.refl _))
    | true =>
      rw [e, Bool.true_and] at q
      refine iteF ?_
      refine ⟨_, rfl, _, _, _, _, _, rfl, hO, T.cO, T.oP, offF_ppl _ _ _ _ _, _, rfl, _, _, _, _, _, rfl, ht, T.cL, T.lT, letF_to _, _, _, _, _, rfl, rfl, SqL.of hP, refs_at hto, _, _, _, _, _, rfl, hp, T.cP, T.pL, perF_land _ _ _, ?_⟩
      refine ⟨_, rfl, _, _, _, _, _, rfl, hO, T.cO, T.oW, offF_weeks _ _ _ _ _, _, rfl, _, _, _, _, rfl, rfl, SqL.of hW, weeks_get gl, ?_⟩
      refine ⟨_, rfl, _, _, _, _, _, rfl, hO, T.cO, T.oH, offF_hols _ _ _ _ _, _, rfl, _, _, _, _, rfl, rfl, SqL.of hH, refs_at gl, ?_⟩
      refine ⟨_, rfl, _, _, _, _, _, rfl, ht, T.cL, T.lC, letF_came _, _, _, rfl, rfl, _, rfl, _, _, _, _, _, rfl, hO, T.cO, T.oT, offF_today _ _ _ _ _, _, _, rfl, rfl, ?_⟩
      refine ⟨o.land (o.person (lett o i).to).land, _, (lett o i).came + 1, _, _, rfl, by omega, SqL.of hh, gL.few, gL.nd, by omega, by omega, fun H' s1 => ?_⟩
      refine ⟨_, rfl, _, rfl, _, _, _, _, _, rfl, s1 _ _ ht, T.cL, T.lM, letF_term _, _, _, rfl, rfl, ?_⟩
      have en : (((o.today : Nat) : Int) - 1 + 1 - (((lett o i).came + 1 : Nat) : Int)).toNat = o.today - ((lett o i).came + 1) := by omega
      rw [en]
      have ed : decide ((lett o i).term ≤ cntW (o.land (o.person (lett o i).to).land) ((lett o i).came + 1) (o.today - ((lett o i).came + 1))) = decide ((((lett o i).term : Nat) : Int) ≤ ((cntW (o.land (o.person (lett o i).to).land) ((lett o i).came + 1) (o.today - ((lett o i).came + 1)) : Nat) : Int)) := decide_eq_decide.mpr (by omega)
      rw [ed] at q
      exact q _ s1
/-! ### late_ones -/
theorem sc16 : FnScope ["office", "number", "letter"] ["office"] (defScope (top 16)) := ⟨rfl, rfl, rfl, by decide +kernel, rfl, by decide +kernel, by decide +kernel⟩
theorem ok_late_ones (F : Fun K "late_ones" "late_ones" (top 16) f fd) (T : Txt K mg c) (cL : Cal P w K mg base 5 "is_late" (spIsLate c)) : FnOk P w K mg base CX0 6 f fd ["office"] (spLateOnes c) := by
  refine F.ok sc16 (fun vs H Q E h => ?_) (fun cdv A outer s H vs Q E hr h => ?_)
  · obtain ⟨_, _, _, _, rfl, _⟩ := h
    rfl
  · obtain ⟨F0, ad, dx, o, rfl, L, g, q⟩ := h
    have hO : H (ad .off) = some (.ins c.off (dx .off) (offF (ad .weeks) (ad .hols) (ad .ppl) (ad .lets) o.today)) := L.ct .off trivial
    have hl : H (ad .lets) = some (.lst (refs (fun k => ad (.letr k)) o.letters.length)) := L.ct .lets trivial
    refine ⟨_, pss_one (ps_ret (pe_lc (own := [("number", 1), ("letter", 2)]) (g := gTup K 2 (gCons (gName 1) (gCons (gName 2) gNil))) rfl sc16.nd (pi_enum (by rfl) T.benum (pa_cons (pe_fld (pv 0) rfl) pa_nil))
        (blkOk_by (own := [("number", 1), ("letter", 2)]) (N := ["office", "number", "letter"]) (sc := defScope (top 16)) (by decide +kernel))
        (fun _ _ _ _ _ => pg_tup rfl (pgs_cons (pg_name (i := 1) sc16.nd rfl (Or.inl rfl)) (pgs_cons (pg_name (i := 2) sc16.nd rfl (Or.inl rfl)) pgs_nil)))
        (fun _ _ _ _ _ => pts_one (pt_val (pe_cl cL hr (by decide) (pa_cons (pv 0) (pa_cons (pv 2) pa_nil))))) (fun _ _ _ _ _ => pv 1))), ?_⟩
    refine ⟨_, rfl, _, _, _, _, _, rfl, hO, T.cO, T.oL, offF_lets _ _ _ _ _, _, _, rfl, SqL.of hl, fun D hD => ?_⟩
    refine lc_it (walk_enum (K := K)) (fun i H' => Same H H' ∧ H' D = some (.lst (numsV (idx o.isLate (o.letters.take i))))) ⟨same_new hD, upd_same⟩ (fun i H' _ ⟨s1, _⟩ => s1.seq (SqL.of hl)) ?_ ?_
    · rintro i x H1 H' hi ⟨s1, hL⟩ ⟨t, x1, y, rfl, ht, rfl, e1, e2⟩
      cases e1
      obtain ⟨hj, rfl⟩ := refs_item e2
      have ne : D ≠ t := ne_of_none hL ht
      have s2 : Same H (upd H1 t (.tup [.int ((i : Nat) : Int), .ref (ad (.letr i))])) := s1.trans (same_new ht)
      refine ⟨_, _, rfl, SqT.of upd_same, rfl, _, _, rfl, _, _, rfl, rfl, rfl, ?_⟩
      refine ⟨_, rfl, _, rfl, F0, ad, dx, o, i, rfl, L.mono s2, g, hj, fun H3 s3 => ⟨_, rfl, ?_⟩⟩
      have hL3 := s3 _ _ ((upd_ne ne).trans hL)
      have en := idx_take o.isLate (lett_get hj)
      cases e : o.isLate (lett o i) with
      | true =>
        rw [e, if_pos rfl] at en
        refine iteT ⟨_, rfl, _, hL3, ?_, same_upd (s2.trans s3) hD, ?_⟩
        · have := idx_le o.isLate (o.letters.take i)
          have := List.length_take_le i o.letters
          have := g.t1
          rw [numsV_len, sizeLine_eq]
          omega
        · rw [upd_same, en, numsV_snoc]
      | false =>
        rw [e, if_neg (by decide), List.append_nil] at en
        rw [← en] at hL3
        exact iteF ⟨s2.trans s3, hL3⟩
    · rintro H' ⟨s1, hL⟩
      rw [refs_len, List.take_length] at hL
      exact q _ _ s1 hD hL
/-! ### held_by -/
theorem sc17 : FnScope ["office", "person", "found", "number", "letter"] ["office", "person"] (defScope (top 17)) := ⟨rfl, rfl, rfl, by decide +kernel, rfl, by decide +kernel, by decide +kernel⟩
theorem ok_held_by (F : Fun K "held_by" "held_by" (top 17) f fd) (T : Txt K mg c) (cH : Cal P w K mg base 4 "holder" (spHolder c)) : FnOk P w K mg base CX0 5 f fd ["office", "person"] (spHeldBy c) := by
  refine F.ok sc17 (fun vs H Q E h => ?_) (fun cdv A outer s H vs Q E hr h => ?_)
  · obtain ⟨_, _, _, _, _, rfl, _⟩ := h
    rfl
  · obtain ⟨F0, ad, dx, o, m, rfl, L, g, q⟩ := h
    refine ⟨_, pss_cons (ps_set (i := 2) sc17.nd rfl (Or.inl rfl) (pe_lst pa_nil))
      (pss_cons (ps_for PassesOwn.never rfl (pi_enum (by rfl) T.benum (pa_cons (pe_fld (pv 0) rfl) pa_nil)) (pg_tup rfl (pgs_cons (pg_name (i := 3) sc17.nd rfl (Or.inl rfl)) (pgs_cons (pg_name (i := 4) sc17.nd rfl (Or.inl rfl)) pgs_nil)))
        (pss_one (ps_if (PW.pt (pw_and (pt_val (pe_fld (pv 4) rfl)) (pw_and1 (pt_cmpR op_eq (pe_cl cH hr (by decide) (pa_cons (pv 0) (pa_cons (pv 4) pa_nil))) (pv 1) (nomark _)))))
          (pss_one (ps_expr (pe_bm PySem.F.plainAttrs_list PySem.F.slot_list_append PySem.F.type_list_append mt_append (pv 2) (pa_cons (pv 3) pa_nil)))) pss_nil)))
      (pss_one (ps_ret (pv 2)))), ?_⟩
    refine ⟨Nat.zero_le _, fun D hD => ?_⟩
    have s0 : Same H (upd H D (.lst [])) := same_new hD
    have hO : ∀ {H'}, Same H H' → H' (ad .off) = some (.ins c.off (dx .off) (offF (ad .weeks) (ad .hols) (ad .ppl) (ad .lets) o.today)) := fun s1 => s1 _ _ (L.ct .off trivial)
    have hl : ∀ {H'}, Same H H' → H' (ad .lets) = some (.lst (refs (fun k => ad (.letr k)) o.letters.length)) := fun s1 => s1 _ _ (L.ct .lets trivial)
    refine ⟨_, rfl, _, _, _, _, _, rfl, hO s0, T.cO, T.oL, offF_lets _ _ _ _ _, _, _, rfl, SqL.of (hl s0), ?_⟩
    refine for_it (walk_enum (K := K)) (fun i σ H' => ∃ (a b : Option V), σ = [some (.ref (ad .off)), some (.int m), some (.ref D), a, b] ∧ Same H H' ∧ H' D = some (.lst (numsV (idx (heldBy o m) (o.letters.take i))))) ⟨none, none, rfl, s0, upd_same⟩ (fun i σ H' _ ⟨_, _, _, s1, _⟩ => SqL.of (hl s1)) ?_ ?_
    · rintro i x σ H1 H' hi ⟨a, b, rfl, s1, hL⟩ ⟨t, x1, y, rfl, ht, rfl, e1, e2⟩
      cases e1
      obtain ⟨hj, rfl⟩ := refs_item e2
      have ne : D ≠ t := ne_of_none hL ht
      have s2 : Same H (upd H1 t (.tup [.int ((i : Nat) : Int), .ref (ad (.letr i))])) := s1.trans (same_new ht)
      have hx : ∀ {H'}, Same H H' → H' (ad (.letr i)) = some (.ins c.let' (dx (.letr i)) (letF (lett o i))) := fun s1 => s1 _ _ (L.ct (.letr i) hj)
      refine ⟨_, _, rfl, SqT.of upd_same, rfl, _, _, rfl, _, _, rfl, rfl, ?_⟩
      refine ⟨_, rfl, _, _, _, _, _, rfl, hx s2, T.cL, T.lO, letF_open _, _, rfl, ?_⟩
      have en := idx_take (heldBy o m) (lett_get hj)
      have eh : heldBy o m (lett o i) = (Km358.isOpen (lett o i) && decide (numOf (o.holder (lett o i) o.today) = m)) := rfl
      have hL2 : upd H1 t (.tup [.int ((i : Nat) : Int), .ref (ad (.letr i))]) D = some (.lst (numsV (idx (heldBy o m) (o.letters.take i)))) := (upd_ne ne).trans hL
      cases e : Km358.isOpen (lett o i) with
      | false =>
        rw [e, Bool.false_and] at eh
        rw [eh, if_neg (by decide), List.append_nil] at en
        rw [← en] at hL2
        exact iteF (iteF ⟨_, _, rfl, s2, hL2⟩)
      | true =>
        rw [e, Bool.true_and] at eh
        refine iteT ⟨_, rfl, _, rfl, F0, ad, dx, o, i, rfl, L.mono s2, g, hj, fun H3 s3 => ⟨_, rfl, rfl, _, rfl, ?_⟩⟩
        have hL3 := s3 _ _ hL2
        by_cases e3 : numOf (o.holder (lett o i) o.today) = m
        · rw [decide_eq_true e3] at eh
          rw [eh, if_pos rfl] at en
          rw [e3, decide_eq_true rfl]
          refine iteT ⟨_, rfl, .inl ⟨rfl, _, SqL.of hL3⟩, _, rfl, _, _, _, rfl, rfl, hL3, ?_, _, _, rfl, same_upd (s2.trans s3) hD, ?_⟩
          · have := idx_le (heldBy o m) (o.letters.take i)
            have := List.length_take_le i o.letters
            have := g.t1
            rw [numsV_len, sizeLine_eq]
            omega
          · rw [upd_same, en, numsV_snoc]
        · rw [decide_eq_false e3] at eh
          rw [eh, if_neg (by decide), List.append_nil] at en
          rw [← en] at hL3
          rw [decide_eq_false (fun z => e3 (V.int.inj z))]
          exact iteF ⟨_, _, rfl, s2.trans s3, hL3⟩
    · rintro σ H' ⟨a, b, rfl, s1, hL⟩
      rw [refs_len, List.take_length] at hL
      exact ⟨_, rfl, q _ _ s1 hD hL⟩
/-! ### bits_of -/
theorem sc18 : FnScope ["numbers", "number"] ["numbers"] (defScope (top 18)) := ⟨rfl, rfl, rfl, by decide +kernel, rfl, by decide +kernel, by decide +kernel⟩
theorem ok_bits_of (F : Fun K "bits_of" "bits_of" (top 18) f fd) (T : Txt K mg c) : FnOk P w K mg base CX0 1 f fd ["numbers"] (spBitsOf K) := by
  refine F.ok sc18 (fun vs H Q E h => ?_) (fun cdv A outer s H vs Q E hr h => ?_)
  · obtain ⟨_, _, _, rfl, _⟩ := h
    rfl
  · obtain ⟨a, p, l, rfl, hS, b1, q⟩ := h
    refine ⟨_, pss_one (ps_ret (pe_callB (cr_sum rfl) (by rfl) T.bsum (by decide +kernel) (pa_cons
      (pe_lc (own := [("number", 1)]) (g := gName 1) (tt := tYes) rfl sc18.nd (pi_list (pv 0)) (blkOk_by (own := [("number", 1)]) (N := ["numbers", "number"]) (sc := defScope (top 18)) (by decide +kernel))
        (fun _ _ _ _ _ => pg_name (i := 1) sc18.nd rfl (Or.inl rfl)) (fun _ _ _ _ _ => pts_nil) (fun _ _ _ _ _ => pe_op op_shl pe_int (pv 1))) pa_nil))), ?_⟩
    refine ⟨_, rfl, a, rfl, ⟨_, hS⟩, fun D hD => ?_⟩
    refine lc_list (K := K) (a := a) (xs := numsV (idx p l)) (fun i H' => Same H H' ∧ H' D = some (.lst ((((idx p l).take i).map fun (i : Nat) => (1 : Int) * 2 ^ ((i : Nat) : Int).toNat).map V.int))) ⟨same_new hD, upd_same⟩ (fun i H' _ ⟨s1, _⟩ => s1.seq hS) ?_ ?_
    · rintro i x H' hi ⟨s1, hL⟩
      obtain ⟨d, hd, rfl⟩ := numsV_item hi
      have h64 := idx_lt p l d (List.mem_of_getElem? hd)
      refine ⟨rfl, ?_⟩
      refine ⟨_, rfl, _, _, rfl, rfl, ⟨by omega, by omega, by decide⟩, _, hL, ?_, same_upd s1 hD, ?_⟩
      · have := List.length_take_le i (idx p l)
        have := idx_le p l
        have h3 : ((idx p l).take i).length ≤ (idx p l).length := by
          rw [List.length_take]
          exact Nat.min_le_right _ _
        rw [List.length_map, List.length_map, sizeLine_eq]
        omega
      · rw [upd_same, take_snoc hd, List.map_append, List.map_append]
        rfl
    · rintro H' ⟨s1, hL⟩
      rw [numsV_len, List.take_length] at hL
      refine ⟨D, _, rfl, SqL.of hL, ?_⟩
      rw [← idx_bits] at q
      exact q _ s1
end
end Ad

/-! things: the three __init__; how an office grows. -/
namespace Ad
open PySem L2
open Km358 (Office Land Person Letter act only)
open Km358Neutral (told)

/-! ### how an office grows -/
section
variable {c : Cs} {F H H' : Hp} {ad dx ad' dx' : Role → Addr} {s s' : Office} {o : Addr}
theorem Lay.grow (L : Lay c F H ad dx s) (old : ∀ r, has s r → ad' r = ad r) (new : ∀ r, has s' r → ¬ has s r → H (ad' r) = none)
    (ninj : ∀ r r', has s' r → has s' r' → ¬ has s r → ¬ has s r' → ad' r = ad' r' → r = r') (sm : Same F H') (ct : ∀ r, has s' r → H' (ad' r) = some (cont c s' ad' dx' r)) : Lay c F H' ad' dx' s' := by
  refine ⟨sm, fun r h => ?_, fun r r' h h' e => ?_, ct⟩
  · by_cases q : has s r
    · rw [old r q]
      exact L.fr r q
    · exact L.sm.free (new r h q)
  · by_cases q : has s r
    · by_cases q' : has s r'
      · rw [old r q, old r' q'] at e
        exact L.inj r r' q q' e
      · have a := L.ct r q
        rw [← old r q, e, new r' h' q'] at a
        cases a
    · by_cases q' : has s r'
      · have a := L.ct r' q'
        rw [← old r' q', ← e, new r h q] at a
        cases a
      · exact ninj r r' h h' q q' e
end
theorem getD_set {α : Type} {l : List α} {k j : Nat} {x y : α} (h : k < l.length) : (l.set k x).getD j y = if j = k then x else l.getD j y := by
  rw [List.getD_eq_getElem?_getD, List.getD_eq_getElem?_getD, List.getElem?_set]
  by_cases e : j = k
  · subst e
    rw [if_pos rfl, if_pos rfl, if_pos h]
    rfl
  · rw [if_neg (fun z => e z.symm), if_neg e]
theorem getD_snoc {α : Type} {l : List α} {j : Nat} {x y : α} (h : j < l.length) : (l ++ [x]).getD j y = l.getD j y := by
  rw [List.getD_eq_getElem?_getD, List.getD_eq_getElem?_getD, List.getElem?_append_left h]
theorem getD_last {α : Type} {l : List α} {x y : α} : (l ++ [x]).getD l.length y = x := by
  rw [List.getD_eq_getElem?_getD]
  simp

/-! ### fields stored -/
theorem perF_new (a d : Nat) (l : Addr) : putF "leaves" (.ref l) (putF "deputy" (.int (d : Nat)) (putF "land" (.int (a : Nat)) [])) = perF a d l := by
  rw [show putF "land" (.int (a : Nat)) [] = [(("land" : Str), V.int (a : Nat))] from rfl, put_past (by decide +kernel)]
  rw [show putF "deputy" (.int (d : Nat)) [] = [(("deputy" : Str), V.int (d : Nat))] from rfl, put_past (by decide +kernel), put_past (by decide +kernel)]
  rfl
theorem perF_putD (a d e : Nat) (l : Addr) : putF "deputy" (.int (e : Nat)) (perF a d l) = perF a e l := by
  unfold perF
  rw [put_past (by decide +kernel), put_here]
theorem letF_new (a b t : Nat) : putF "is_open" (.bl true) (putF "term" (.int (t : Nat)) (putF "came" (.int (b : Nat)) (putF "to" (.int (a : Nat)) []))) = letF ⟨a, b, t, none⟩ := by
  have e1 : putF "came" (.int (b : Nat)) (putF "to" (.int (a : Nat)) []) = [(("to" : Str), V.int (a : Nat)), ("came", .int (b : Nat))] := put_past (by decide +kernel)
  have e2 : putF "term" (.int (t : Nat)) [(("to" : Str), V.int (a : Nat)), ("came", .int (b : Nat))] = [(("to" : Str), V.int (a : Nat)), ("came", .int (b : Nat)), ("term", .int (t : Nat))] := (put_past (by decide +kernel)).trans (congrArg _ (put_past (by decide +kernel)))
  have e3 : putF "is_open" (.bl true) [(("to" : Str), V.int (a : Nat)), ("came", .int (b : Nat)), ("term", .int (t : Nat))] = letF ⟨a, b, t, none⟩ := (put_past (by decide +kernel)).trans (congrArg _ ((put_past (by decide +kernel)).trans (congrArg _ (put_past (by decide +kernel)))))
  rw [e1, e2, e3]
theorem letF_close (x : Letter) (d : Nat) : putF "is_open" (.bl false) (letF x) = letF ⟨x.to, x.came, x.term, some d⟩ := by
  unfold letF
  rw [put_past (by decide +kernel), put_past (by decide +kernel), put_past (by decide +kernel), put_here]
  rfl
theorem offF_day (w h p l : Addr) (t d : Nat) : putF "today" (.int (d : Nat)) (offF w h p l t) = offF w h p l d := by
  unfold offF
  rw [put_past (by decide +kernel), put_past (by decide +kernel), put_past (by decide +kernel), put_past (by decide +kernel), put_here]
theorem offF_2 (w h : Addr) : putF "holidays" (.ref h) (putF "weeks" (.ref w) []) = [(("weeks" : Str), V.ref w), ("holidays", .ref h)] := put_past (by decide +kernel)
theorem offF_3 (w h p : Addr) : putF "people" (.ref p) [(("weeks" : Str), V.ref w), ("holidays", .ref h)] = [(("weeks" : Str), V.ref w), ("holidays", .ref h), ("people", .ref p)] := (put_past (by decide +kernel)).trans (congrArg _ (put_past (by decide +kernel)))
theorem offF_4 (w h p l : Addr) : putF "letters" (.ref l) [(("weeks" : Str), V.ref w), ("holidays", .ref h), ("people", .ref p)] = [(("weeks" : Str), V.ref w), ("holidays", .ref h), ("people", .ref p), ("letters", .ref l)] := (put_past (by decide +kernel)).trans (congrArg _ ((put_past (by decide +kernel)).trans (congrArg _ (put_past (by decide +kernel)))))
theorem offF_5 (w h p l : Addr) : putF "today" (.int 0) [(("weeks" : Str), V.ref w), ("holidays", .ref h), ("people", .ref p), ("letters", .ref l)] = offF w h p l 0 := (put_past (by decide +kernel)).trans (congrArg _ ((put_past (by decide +kernel)).trans (congrArg _ ((put_past (by decide +kernel)).trans (congrArg _ (put_past (by decide +kernel)))))))
/-! ### promises -/
def spPerson (c : Cs) : Sp := fun vs H Q _ => ∃ (p dx : Addr) (a d : Nat), vs = [.ref p, .int (a : Nat), .int (d : Nat)] ∧ H p = some (.ins c.per dx []) ∧
  ∀ H' l, H l = none → H' p = some (.ins c.per dx (perF a d l)) → H' l = some (.lst []) → (∀ b u, H b = some u → b ≠ p → H' b = some u) → Q .non H'
def spLetter (c : Cs) : Sp := fun vs H Q _ => ∃ (p dx : Addr) (a b t : Nat), vs = [.ref p, .int (a : Nat), .int (b : Nat), .int (t : Nat)] ∧ H p = some (.ins c.let' dx []) ∧
  ∀ H', H' p = some (.ins c.let' dx (letF ⟨a, b, t, none⟩)) → (∀ b u, H b = some u → b ≠ p → H' b = some u) → Q .non H'
/-- a new office -/
def newOff (ws : List Nat) : Office := ⟨ws.map fun w => ⟨w, []⟩, [], [], 0⟩
def spOffice (c : Cs) (K : PySem.W.Frag) : Sp := fun vs H Q _ => ∃ (F : Hp) (p dx a : Addr) (ws : List Nat), vs = [.ref p, .ref a] ∧ H p = some (.ins c.off dx []) ∧ Same F H ∧ F p = none ∧ SqL K H a (numsV ws) ∧ ws.length ≤ 1000 ∧
  ∀ H', OffAt c F H' p (newOff ws) → Q .non H'

section
variable {P : Program} {w : World} {K : PySem.W.Frag} {mg : Str → Option Value} {base : Heap} {c : Cs} {f : Addr} {fd : FuncData}
abbrev sPer : Stmt := inClass (top 20) 0
abbrev sLet : Stmt := inClass (top 21) 0
abbrev sOff : Stmt := inClass (top 22) 0
theorem sc20 : FnScope ["self", "land", "deputy"] ["self", "land", "deputy"] (defScope sPer) := ⟨rfl, rfl, rfl, by decide +kernel, rfl, by decide +kernel, by decide +kernel⟩
theorem ok_person (F : Fun K "__init__" "Person.__init__" sPer f fd) (T : Txt K mg c) : FnOk P w K mg base CX0 1 f fd ["self", "land", "deputy"] (spPerson c) := by
  refine F.ok sc20 (fun vs H Q E h => ?_) (fun cdv A outer s H vs Q E hr h => ?_)
  · obtain ⟨_, _, _, _, rfl, _⟩ := h
    rfl
  · obtain ⟨p, dx, a, d, rfl, hp, q⟩ := h
    refine ⟨_, pss_cons (ps_fld (pv 0) (pv 1) rfl) (pss_cons (ps_fld (pv 0) (pv 2) rfl) (pss_one (ps_fld (pv 0) (pe_lst pa_nil) rfl))), ?_⟩
    refine ⟨_, rfl, _, rfl, p, c.per, dx, _, rfl, hp, T.cP, T.pL, (by show 0 < 1000; decide), ?_⟩
    refine ⟨_, rfl, _, rfl, p, c.per, dx, _, rfl, upd_same, T.cP, T.pD, (by show 1 < 1000; decide), ?_⟩
    refine ⟨Nat.zero_le _, fun l hl => ?_⟩
    have npl : p ≠ l := ne_of_none upd_same hl
    have hl0 : H l = none := by
      rw [upd_ne npl.symm, upd_ne npl.symm] at hl
      exact hl
    refine ⟨_, rfl, p, c.per, dx, _, rfl, Eq.trans (upd_ne npl) upd_same, T.cP, T.pV, ?_, ?_⟩
    · rw [show putF "land" (.int (a : Nat)) [] = [(("land" : Str), V.int (a : Nat))] from rfl, put_past (by decide +kernel)]
      show 2 < 1000
      decide
    · refine q _ l hl0 ?_ ?_ fun b u e nb => ?_
      · rw [upd_same, perF_new]
      · rw [upd_ne npl.symm, upd_same]
      · rw [upd_ne nb, upd_ne (ne_of_none e hl0), upd_ne nb, upd_ne nb]
        exact e
theorem sc21 : FnScope ["self", "to", "came", "term"] ["self", "to", "came", "term"] (defScope sLet) := ⟨rfl, rfl, rfl, by decide +kernel, rfl, by decide +kernel, by decide +kernel⟩
theorem ok_letter (F : Fun K "__init__" "Letter.__init__" sLet f fd) (T : Txt K mg c) : FnOk P w K mg base CX0 1 f fd ["self", "to", "came", "term"] (spLetter c) := by
  refine F.ok sc21 (fun vs H Q E h => ?_) (fun cdv A outer s H vs Q E hr h => ?_)
  · obtain ⟨_, _, _, _, _, rfl, _⟩ := h
    rfl
  · obtain ⟨p, dx, a, b, t, rfl, hp, q⟩ := h
    refine ⟨_, pss_cons (ps_fld (pv 0) (pv 1) rfl) (pss_cons (ps_fld (pv 0) (pv 2) rfl) (pss_cons (ps_fld (pv 0) (pv 3) rfl) (pss_one (ps_fld (pv 0) pe_bl rfl)))), ?_⟩
    refine ⟨_, rfl, _, rfl, p, c.let', dx, _, rfl, hp, T.cL, T.lT, (by show 0 < 1000; decide), ?_⟩
    refine ⟨_, rfl, _, rfl, p, c.let', dx, _, rfl, upd_same, T.cL, T.lC, (by show 1 < 1000; decide), ?_⟩
    refine ⟨_, rfl, _, rfl, p, c.let', dx, _, rfl, upd_same, T.cL, T.lM, ?_, ?_⟩
    · rw [show putF "to" (.int (a : Nat)) [] = [(("to" : Str), V.int (a : Nat))] from rfl, put_past (by decide +kernel)]
      show 2 < 1000
      decide
    refine ⟨_, rfl, p, c.let', dx, _, rfl, upd_same, T.cL, T.lO, ?_, ?_⟩
    · rw [show putF "to" (.int (a : Nat)) [] = [(("to" : Str), V.int (a : Nat))] from rfl, put_past (by decide +kernel)]
      rw [show putF "came" (.int (b : Nat)) [] = [(("came" : Str), V.int (b : Nat))] from rfl, put_past (by decide +kernel), put_past (by decide +kernel)]
      show 3 < 1000
      decide
    · refine q _ ?_ fun z u e nb => ?_
      · rw [upd_same, letF_new]
      · rw [upd_ne nb, upd_ne nb, upd_ne nb, upd_ne nb]
        exact e
theorem sc22 : FnScope ["self", "weeks", "week"] ["self", "weeks"] (defScope sOff) := ⟨rfl, rfl, rfl, by decide +kernel, rfl, by decide +kernel, by decide +kernel⟩
/-- where the parts of a new office lie -/
def newAd (p aw ah ap al : Addr) (hs : Nat → Addr) : Role → Addr
  | .off => p
  | .weeks => aw
  | .hols => ah
  | .ppl => ap
  | .lets => al
  | .hol k => hs k
  | _ => 0
theorem newOff_land (ws : List Nat) (k : Nat) : ((newOff ws).land k).holidays = [] := by
  show ((ws.map fun w => (⟨w, []⟩ : Land)).getD k Km358.land0).holidays = []
  rw [List.getD_eq_getElem?_getD, List.getElem?_map]
  cases ws[k]? <;> rfl
theorem new_lay {F H : Hp} {ws : List Nat} {p aw ah ap al dx : Addr} {hs : Nat → Addr} (sm : Same F H) (f1 : F p = none) (f2 : F aw = none) (f3 : F ah = none) (f4 : F ap = none) (f5 : F al = none) (f6 : ∀ k, k < ws.length → F (hs k) = none)
    (n1 : aw ≠ ah) (n2 : aw ≠ ap) (n3 : aw ≠ al) (n4 : ∀ k, k < ws.length → aw ≠ hs k) (n5 : ah ≠ ap) (n6 : ah ≠ al) (n7 : ∀ k, k < ws.length → ah ≠ hs k) (n8 : ap ≠ al) (n9 : ∀ k, k < ws.length → ap ≠ hs k) (n10 : ∀ k, k < ws.length → al ≠ hs k)
    (ni : ∀ i j, i < ws.length → j < ws.length → hs i = hs j → i = j)
    (h1 : H p = some (.ins c.off dx (offF aw ah ap al 0))) (h2 : H aw = some (.lst (numsV ws))) (h3 : H ah = some (.lst (refs hs ws.length))) (h4 : H ap = some (.lst [])) (h5 : H al = some (.lst [])) (h6 : ∀ k, k < ws.length → H (hs k) = some (.lst [])) :
    OffAt c F H p (newOff ws) := by
  have el : (newOff ws).lands.length = ws.length := List.length_map ..
  have nins : ∀ {a : Addr} {xs : List V}, H a = some (.lst xs) → p ≠ a := fun h => ne_of h1 h (by intro z; cases z)
  refine ⟨newAd p aw ah ap al hs, fun _ => dx, rfl, sm, fun r h => ?_, fun r r' h h' e => ?_, fun r h => ?_⟩
  · cases r with
    | off => exact f1
    | weeks => exact f2
    | hols => exact f3
    | ppl => exact f4
    | lets => exact f5
    | hol k => exact f6 k (el ▸ h)
    | pers k => exact absurd h (Nat.not_lt_zero _)
    | lvs k => exact absurd h (Nat.not_lt_zero _)
    | leave k j => exact absurd h.1 (Nat.not_lt_zero _)
    | letr k => exact absurd h (Nat.not_lt_zero _)
  · cases r with
    | off =>
      cases r' with
      | off => rfl
      | weeks => exact absurd e (nins h2)
      | hols => exact absurd e (nins h3)
      | ppl => exact absurd e (nins h4)
      | lets => exact absurd e (nins h5)
      | hol k => exact absurd e (nins (h6 k (el ▸ h')))
      | pers k => exact absurd h' (Nat.not_lt_zero _)
      | lvs k => exact absurd h' (Nat.not_lt_zero _)
      | leave k j => exact absurd h'.1 (Nat.not_lt_zero _)
      | letr k => exact absurd h' (Nat.not_lt_zero _)
    | weeks =>
      cases r' with
      | off => exact absurd e.symm (nins h2)
      | weeks => rfl
      | hols => exact absurd e n1
      | ppl => exact absurd e n2
      | lets => exact absurd e n3
      | hol k => exact absurd e (n4 k (el ▸ h'))
      | pers k => exact absurd h' (Nat.not_lt_zero _)
      | lvs k => exact absurd h' (Nat.not_lt_zero _)
      | leave k j => exact absurd h'.1 (Nat.not_lt_zero _)
      | letr k => exact absurd h' (Nat.not_lt_zero _)
    | hols =>
      cases r' with
      | off => exact absurd e.symm (nins h3)
      | weeks => exact absurd e.symm n1
      | hols => rfl
      | ppl => exact absurd e n5
      | lets => exact absurd e n6
      | hol k => exact absurd e (n7 k (el ▸ h'))
      | pers k => exact absurd h' (Nat.not_lt_zero _)
      | lvs k => exact absurd h' (Nat.not_lt_zero _)
      | leave k j => exact absurd h'.1 (Nat.not_lt_zero _)
      | letr k => exact absurd h' (Nat.not_lt_zero _)
    | ppl =>
      cases r' with
      | off => exact absurd e.symm (nins h4)
      | weeks => exact absurd e.symm n2
      | hols => exact absurd e.symm n5
      | ppl => rfl
      | lets => exact absurd e n8
      | hol k => exact absurd e (n9 k (el ▸ h'))
      | pers k => exact absurd h' (Nat.not_lt_zero _)
      | lvs k => exact absurd h' (Nat.not_lt_zero _)
      | leave k j => exact absurd h'.1 (Nat.not_lt_zero _)
      | letr k => exact absurd h' (Nat.not_lt_zero _)
    | lets =>
      cases r' with
      | off => exact absurd e.symm (nins h5)
      | weeks => exact absurd e.symm n3
      | hols => exact absurd e.symm n6
      | ppl => exact absurd e.symm n8
      | lets => rfl
      | hol k => exact absurd e (n10 k (el ▸ h'))
      | pers k => exact absurd h' (Nat.not_lt_zero _)
      | lvs k => exact absurd h' (Nat.not_lt_zero _)
      | leave k j => exact absurd h'.1 (Nat.not_lt_zero _)
      | letr k => exact absurd h' (Nat.not_lt_zero _)
    | hol i =>
      cases r' with
      | off => exact absurd e.symm (nins (h6 i (el ▸ h)))
      | weeks => exact absurd e.symm (n4 i (el ▸ h))
      | hols => exact absurd e.symm (n7 i (el ▸ h))
      | ppl => exact absurd e.symm (n9 i (el ▸ h))
      | lets => exact absurd e.symm (n10 i (el ▸ h))
      | hol k => rw [ni i k (el ▸ h) (el ▸ h') e]
      | pers k => exact absurd h' (Nat.not_lt_zero _)
      | lvs k => exact absurd h' (Nat.not_lt_zero _)
      | leave k j => exact absurd h'.1 (Nat.not_lt_zero _)
      | letr k => exact absurd h' (Nat.not_lt_zero _)
    | pers k => exact absurd h (Nat.not_lt_zero _)
    | lvs k => exact absurd h (Nat.not_lt_zero _)
    | leave k j => exact absurd h.1 (Nat.not_lt_zero _)
    | letr k => exact absurd h (Nat.not_lt_zero _)
  · cases r with
    | off => exact h1
    | weeks =>
      have e : (newOff ws).lands.map (·.week) = ws := by
        show (ws.map fun w => (⟨w, []⟩ : Land)).map (·.week) = ws
        rw [List.map_map]
        exact List.map_id' ws
      show H aw = some (.lst (numsV ((newOff ws).lands.map (·.week))))
      rw [e]
      exact h2
    | hols =>
      show H ah = some (.lst (refs (fun k => hs k) (newOff ws).lands.length))
      rw [el]
      exact h3
    | ppl => exact h4
    | lets => exact h5
    | hol k =>
      show H (hs k) = some (.lst (numsV ((newOff ws).land k).holidays))
      rw [newOff_land]
      exact h6 k (el ▸ h)
    | pers k => exact absurd h (Nat.not_lt_zero _)
    | lvs k => exact absurd h (Nat.not_lt_zero _)
    | leave k j => exact absurd h.1 (Nat.not_lt_zero _)
    | letr k => exact absurd h (Nat.not_lt_zero _)
theorem ok_office (F : Fun K "__init__" "Office.__init__" sOff f fd) (T : Txt K mg c) : FnOk P w K mg base CX0 1 f fd ["self", "weeks"] (spOffice c K) := by
  refine F.ok sc22 (fun vs H Q E h => ?_) (fun cdv A outer s H vs Q E hr h => ?_)
  · obtain ⟨_, _, _, _, _, rfl, _⟩ := h
    rfl
  · obtain ⟨F0, p, dx, a, ws, rfl, hp, sF, fp, hS, b1, q⟩ := h
    refine ⟨_, pss_cons (ps_fld (pv 0) (pe_callTy call_list_of (by rfl) T.blist (by decide +kernel) (pa_cons (pv 1) pa_nil)) rfl)
      (pss_cons (ps_fld (pv 0) (pe_lc (own := [("week", 2)]) (g := gName 2) (tt := tYes) rfl sc22.nd (pi_list (pv 1)) (blkOk_by (own := [("week", 2)]) (N := ["self", "weeks", "week"]) (sc := defScope sOff) (by decide +kernel))
        (fun _ _ _ _ _ => pg_name (i := 2) sc22.nd rfl (Or.inl rfl)) (fun _ _ _ _ _ => pts_nil) (fun _ _ _ _ _ => pe_lst pa_nil)) rfl)
      (pss_cons (ps_fld (pv 0) (pe_lst pa_nil) rfl) (pss_cons (ps_fld (pv 0) (pe_lst pa_nil) rfl) (pss_one (ps_fld (pv 0) pe_int rfl))))), ?_⟩
    -- self.weeks = list(weeks)
    refine ⟨_, rfl, a, _, rfl, .inl hS, fun aw haw => ?_⟩
    have npw : p ≠ aw := ne_of_none hp haw
    refine ⟨_, rfl, p, c.off, dx, _, rfl, (upd_ne npw).trans hp, T.cO, T.oW, (by show 0 < 1000; decide), ?_⟩
    -- what stands in the heap but at p stays
    have sA : ∀ b u, H b = some u → b ≠ p → upd (upd H aw (.lst (numsV ws))) p (.ins c.off dx (putF "weeks" (.ref aw) [])) b = some u := fun b u e nb => by
      rw [upd_ne nb, upd_ne (ne_of_none e haw)]
      exact e
    have hw1 : upd (upd H aw (.lst (numsV ws))) p (.ins c.off dx (putF "weeks" (.ref aw) [])) aw = some (.lst (numsV ws)) := by
      rw [upd_ne npw.symm, upd_same]
    have hp1 : upd (upd H aw (.lst (numsV ws))) p (.ins c.off dx (putF "weeks" (.ref aw) [])) p = some (.ins c.off dx (putF "weeks" (.ref aw) [])) := upd_same
    have faw : F0 aw = none := sF.free haw
    generalize upd (upd H aw (.lst (numsV ws))) p (.ins c.off dx (putF "weeks" (.ref aw) [])) = H1 at sA hw1 hp1
    have sF1 : Same F0 H1 := fun b u e => sA b u (sF b u e) (ne_of_none e fp)
    have hS1 : SqL K H1 a (numsV ws) := by
      have nap : ∀ {z : HO}, H a = some z → (∀ C d g, z ≠ .ins C d g) → a ≠ p := fun {z} h1 h2 e => by
        rw [e, hp] at h1
        exact h2 _ _ _ (Option.some.inj h1).symm
      rcases hS with (h | ⟨u, h⟩) | h
      · exact .inl (.inl (sA _ _ h (nap h (by intro _ _ _ z; cases z))))
      · exact .inl (.inr ⟨u, sA _ _ h (nap h (by intro _ _ _ z; cases z))⟩)
      · exact .inr h
    -- self.holidays = [[] for week in weeks]
    refine ⟨_, rfl, a, rfl, ⟨_, hS1⟩, fun ah hah => ?_⟩
    refine lc_list (K := K) (a := a) (xs := numsV ws) (fun i H' => Same H1 H' ∧ ∃ hs : Nat → Addr, H' ah = some (.lst (refs hs i)) ∧ (∀ k, k < i → H' (hs k) = some (.lst []) ∧ H1 (hs k) = none ∧ ah ≠ hs k) ∧ ∀ i' j, i' < i → j < i → hs i' = hs j → i' = j)
      ⟨same_new hah, fun _ => 0, upd_same, fun k hk => absurd hk (Nat.not_lt_zero _), fun i j hi => absurd hi (Nat.not_lt_zero _)⟩ (fun i H' _ ⟨s1, _⟩ => s1.seq hS1) ?_ ?_
    · rintro i x H' hi ⟨s1, hs, hL, hk, hinj⟩
      have hi' : i < ws.length := by
        have := (List.getElem?_eq_some_iff.mp hi).1
        rw [numsV_len] at this
        exact this
      refine ⟨rfl, ?_⟩
      refine ⟨Nat.zero_le _, fun l hl => ?_⟩
      have nal : ah ≠ l := ne_of_none hL hl
      refine ⟨_, (upd_ne nal).trans hL, ?_, same_upd (s1.trans (same_new hl)) hah, fun k => if k = i then l else hs k, ?_, fun k hk' => ?_, fun i' j h1 h2 e => ?_⟩
      · rw [refs_len, sizeLine_eq]
        omega
      · rw [upd_same, refs_succ, if_pos rfl, refs_congr (ad := hs) (ad' := fun k => if k = i then l else hs k) fun k hk => by rw [if_neg (Nat.ne_of_lt hk)]]
      · dsimp only
        by_cases e : k = i
        · rw [if_pos e]
          exact ⟨by rw [upd_ne nal.symm, upd_same], s1.free hl, nal⟩
        · rw [if_neg e]
          obtain ⟨a1, a2, a3⟩ := hk k (by omega)
          exact ⟨by rw [upd_ne a3.symm, upd_ne (ne_of_none a1 hl)]; exact a1, a2, a3⟩
      · dsimp only at e
        by_cases e1 : i' = i
        · by_cases e2 : j = i
          · omega
          · rw [if_pos e1, if_neg e2] at e
            have := (hk j (by omega)).1
            rw [← e, hl] at this
            cases this
        · by_cases e2 : j = i
          · rw [if_neg e1, if_pos e2] at e
            have := (hk i' (by omega)).1
            rw [e, hl] at this
            cases this
          · rw [if_neg e1, if_neg e2] at e
            exact hinj i' j (by omega) (by omega) e
    · rintro H2 ⟨s1, hs, hL, hk, hinj⟩
      rw [numsV_len] at hL hk hinj
      have hp2 := s1 _ _ hp1
      have hw2 := s1 _ _ hw1
      have nap : p ≠ ah := ne_of_none hp1 hah
      have naw : aw ≠ ah := ne_of_none hw1 hah
      have nph : ∀ k, k < ws.length → p ≠ hs k := fun k h => ne_of_none hp1 (hk k h).2.1
      have nwh : ∀ k, k < ws.length → aw ≠ hs k := fun k h => ne_of_none hw1 (hk k h).2.1
      refine ⟨_, rfl, p, c.off, dx, _, rfl, hp2, T.cO, T.oH, (by show 1 < 1000; decide), ?_⟩
      rw [offF_2]
      refine ⟨Nat.zero_le _, fun ap hap => ?_⟩
      have npp : p ≠ ap := ne_of_none upd_same hap
      have hap2 : H2 ap = none := by
        rw [upd_ne npp.symm] at hap
        exact hap
      refine ⟨_, rfl, p, c.off, dx, _, rfl, (upd_ne npp).trans upd_same, T.cO, T.oP, (by show 2 < 1000; decide), ?_⟩
      rw [offF_3]
      refine ⟨Nat.zero_le _, fun al hal => ?_⟩
      have npl : p ≠ al := ne_of_none upd_same hal
      have nal : ap ≠ al := fun e => by
        rw [← e, upd_ne npp.symm, upd_same] at hal
        cases hal
      have hal2 : H2 al = none := by
        rw [upd_ne npl.symm, upd_ne nal.symm, upd_ne npl.symm] at hal
        exact hal
      refine ⟨_, rfl, p, c.off, dx, _, rfl, (upd_ne npl).trans upd_same, T.cO, T.oL, (by show 3 < 1000; decide), ?_⟩
      rw [offF_4]
      refine ⟨_, rfl, p, c.off, dx, _, rfl, upd_same, T.cO, T.oT, (by show 4 < 1000; decide), ?_⟩
      rw [offF_5]
      have keep : ∀ b u, H2 b = some u → b ≠ p → upd (upd (upd (upd (upd (upd H2 p (.ins c.off dx [("weeks", V.ref aw), ("holidays", V.ref ah)])) ap (.lst [])) p (.ins c.off dx [("weeks", V.ref aw), ("holidays", V.ref ah), ("people", V.ref ap)])) al (.lst [])) p (.ins c.off dx [("weeks", V.ref aw), ("holidays", V.ref ah), ("people", V.ref ap), ("letters", V.ref al)])) p (.ins c.off dx (offF aw ah ap al 0)) b = some u := fun b u e nb => by
        rw [upd_ne nb, upd_ne nb, upd_ne (ne_of_none e hal2), upd_ne nb, upd_ne (ne_of_none e hap2), upd_ne nb]
        exact e
      have sF2 : Same F0 H2 := sF1.trans s1
      refine q _ (new_lay (aw := aw) (ah := ah) (ap := ap) (al := al) (hs := hs) (dx := dx) (fun b u e => keep b u (sF2 b u e) (ne_of_none e fp)) fp faw (sF1.free hah) (sF2.free hap2) (sF2.free hal2) (fun k h => sF1.free (hk k h).2.1)
        naw (ne_of_none hw2 hap2) (ne_of_none hw2 hal2) nwh (ne_of_none hL hap2) (ne_of_none hL hal2) (fun k h => (hk k h).2.2) nal (fun k h => (ne_of_none (hk k h).1 hap2).symm) (fun k h => (ne_of_none (hk k h).1 hal2).symm) hinj
        upd_same (keep _ _ hw2 npw.symm) (keep _ _ hL nap.symm) ?_ ?_ fun k h => keep _ _ (hk k h).1 (nph k h).symm)
      · rw [upd_ne npp.symm, upd_ne npp.symm, upd_ne nal, upd_ne npp.symm, upd_same]
      · rw [upd_ne npl.symm, upd_ne npl.symm, upd_same]
end
end Ad

/-! How each call changes the office in the heap. -/
namespace Ad
open PySem L2
open Km358 (Office Land Person Letter act only)
open Km358Neutral (told)
section
variable {c : Cs} {F H H' : Hp} {ad dx : Role → Addr} {s : Office}
theorem lay_holiday (L : Lay c F H ad dx s) {k d : Nat} (hk : k < s.lands.length) :
    Lay c F (upd H (ad (.hol k)) (.lst (numsV (s.land k).holidays ++ [.int (d : Nat)]))) ad dx { s with lands := s.lands.set k ⟨(s.land k).week, (s.land k).holidays ++ [d]⟩ } := by
  have eL : ∀ j, Office.land { s with lands := s.lands.set k ⟨(s.land k).week, (s.land k).holidays ++ [d]⟩ } j = if j = k then ⟨(s.land k).week, (s.land k).holidays ++ [d]⟩ else s.land j := fun j => getD_set hk
  have hle : ∀ r, has { s with lands := s.lands.set k ⟨(s.land k).week, (s.land k).holidays ++ [d]⟩ } r → has s r := fun r h => by
    cases r with
    | hol j =>
      have h : j < (s.lands.set k _).length := h
      rw [List.length_set] at h
      exact h
    | _ => exact h
  have := L.put (s' := { s with lands := s.lands.set k ⟨(s.land k).week, (s.land k).holidays ++ [d]⟩ }) (.hol k) hk hle fun r h ne => by
    cases r with
    | weeks =>
      have e : (s.lands.set k ⟨(s.land k).week, (s.land k).holidays ++ [d]⟩).map (·.week) = s.lands.map (·.week) := by
        refine List.ext_getElem? fun j => ?_
        rw [List.getElem?_map, List.getElem?_map, List.getElem?_set]
        by_cases e : k = j
        · subst e
          rw [if_pos rfl, if_pos hk, List.getElem?_eq_getElem hk]
          show some ((s.lands.getD k Km358.land0).week) = some (s.lands[k].week)
          rw [List.getD_eq_getElem?_getD, List.getElem?_eq_getElem hk]
          rfl
        · rw [if_neg e]
      exact congrArg (fun l => HO.lst (numsV l)) e
    | hols =>
      show HO.lst (refs _ (s.lands.set k _).length) = _
      rw [List.length_set]
      rfl
    | hol j =>
      have nj : ¬ j = k := fun e => ne (by rw [e])
      show HO.lst (numsV (Office.land _ j).holidays) = HO.lst (numsV (s.land j).holidays)
      rw [eL, if_neg nj]
    | _ => rfl
  have e : cont c { s with lands := s.lands.set k ⟨(s.land k).week, (s.land k).holidays ++ [d]⟩ } ad dx (.hol k) = .lst (numsV (s.land k).holidays ++ [.int (d : Nat)]) := by
    show HO.lst (numsV (Office.land _ k).holidays) = _
    rw [eL, if_pos rfl, numsV_snoc]
  rw [e] at this
  exact this
theorem lay_deputy (L : Lay c F H ad dx s) {k q : Nat} (hk : k < s.people.length) :
    Lay c F (upd H (ad (.pers k)) (.ins c.per (dx (.pers k)) (perF (s.person k).land q (ad (.lvs k))))) ad dx { s with people := s.people.set k ⟨(s.person k).land, q, (s.person k).away⟩ } := by
  have eP : ∀ j, Office.person { s with people := s.people.set k ⟨(s.person k).land, q, (s.person k).away⟩ } j = if j = k then ⟨(s.person k).land, q, (s.person k).away⟩ else s.person j := fun j => getD_set hk
  have eA : ∀ j, (Office.person { s with people := s.people.set k ⟨(s.person k).land, q, (s.person k).away⟩ } j).away = (s.person j).away := fun j => by
    rw [eP]
    by_cases e : j = k
    · rw [if_pos e, e]
    · rw [if_neg e]
  have el : (s.people.set k ⟨(s.person k).land, q, (s.person k).away⟩).length = s.people.length := List.length_set ..
  have hle : ∀ r, has { s with people := s.people.set k ⟨(s.person k).land, q, (s.person k).away⟩ } r → has s r := fun r h => by
    cases r with
    | pers j => exact (el ▸ h : j < s.people.length)
    | lvs j => exact (el ▸ h : j < s.people.length)
    | leave j i =>
      have h : j < (s.people.set k _).length ∧ i < (Office.person _ j).away.length := h
      rw [el, eA] at h
      exact h
    | _ => exact h
  have := L.put (s' := { s with people := s.people.set k ⟨(s.person k).land, q, (s.person k).away⟩ }) (.pers k) hk hle fun r h ne => by
    cases r with
    | ppl =>
      show HO.lst (refs _ (s.people.set k _).length) = _
      rw [el]
      rfl
    | pers j =>
      have nj : ¬ j = k := fun e => ne (by rw [e])
      show HO.ins c.per (dx (.pers j)) (perF (Office.person _ j).land (Office.person _ j).deputy _) = HO.ins c.per (dx (.pers j)) (perF (s.person j).land (s.person j).deputy _)
      rw [eP, if_neg nj]
    | lvs j =>
      show HO.lst (refs _ (Office.person _ j).away.length) = HO.lst (refs _ (s.person j).away.length)
      rw [eA]
    | leave j i =>
      show leaveT ((Office.person _ j).away.getD i (0, 0)) = leaveT ((s.person j).away.getD i (0, 0))
      rw [eA]
    | _ => rfl
  have e : cont c { s with people := s.people.set k ⟨(s.person k).land, q, (s.person k).away⟩ } ad dx (.pers k) = .ins c.per (dx (.pers k)) (perF (s.person k).land q (ad (.lvs k))) := by
    show HO.ins c.per (dx (.pers k)) (perF (Office.person _ k).land (Office.person _ k).deputy _) = _
    rw [eP, if_pos rfl]
  rw [e] at this
  exact this
theorem lay_answer (L : Lay c F H ad dx s) {i : Nat} (hi : i < s.letters.length) (x : Letter) :
    Lay c F (upd H (ad (.letr i)) (.ins c.let' (dx (.letr i)) (letF x))) ad dx { s with letters := s.letters.set i x } := by
  have eL : ∀ j, lett { s with letters := s.letters.set i x } j = if j = i then x else lett s j := fun j => getD_set hi
  have el : (s.letters.set i x).length = s.letters.length := List.length_set ..
  have hle : ∀ r, has { s with letters := s.letters.set i x } r → has s r := fun r h => by
    cases r with
    | letr j => exact (el ▸ h : j < s.letters.length)
    | _ => exact h
  have := L.put (s' := { s with letters := s.letters.set i x }) (.letr i) hi hle fun r h ne => by
    cases r with
    | lets =>
      show HO.lst (refs _ (s.letters.set i _).length) = _
      rw [el]
      rfl
    | letr j =>
      have nj : ¬ j = i := fun e => ne (by rw [e])
      show HO.ins c.let' (dx (.letr j)) (letF (lett _ j)) = HO.ins c.let' (dx (.letr j)) (letF (lett s j))
      rw [eL, if_neg nj]
    | _ => rfl
  have e : cont c { s with letters := s.letters.set i x } ad dx (.letr i) = .ins c.let' (dx (.letr i)) (letF x) := by
    show HO.ins c.let' (dx (.letr i)) (letF (lett _ i)) = _
    rw [eL, if_pos rfl]
  rw [e] at this
  exact this
theorem lay_day (L : Lay c F H ad dx s) (d : Nat) : Lay c F (upd H (ad .off) (.ins c.off (dx .off) (offF (ad .weeks) (ad .hols) (ad .ppl) (ad .lets) d))) ad dx { s with today := d } :=
  L.put (s' := { s with today := d }) .off trivial (fun r h => by cases r <;> exact h) fun r h ne => by
    cases r with
    | off => exact absurd rfl ne
    | _ => rfl
/-- ad with p at r0 -/
def setR (ad : Role → Addr) (r0 : Role) (p : Addr) : Role → Addr := fun r => if r = r0 then p else ad r
theorem setR_at {r0 : Role} {p : Addr} : setR ad r0 p r0 = p := if_pos rfl
theorem setR_ne {r r0 : Role} {p : Addr} (h : r ≠ r0) : setR ad r0 p r = ad r := if_neg h
/-- a letter more, at p -/
theorem lay_letter (L : Lay c F H ad dx s) {p d0 : Addr} {x : Letter} (hp : H p = none) (sm : ∀ b u, H b = some u → b ≠ ad .lets → H' b = some u) (hx : H' p = some (.ins c.let' d0 (letF x)))
    (hl : H' (ad .lets) = some (.lst (refs (fun k => ad (.letr k)) s.letters.length ++ [.ref p]))) :
    Lay c F H' (setR ad (.letr s.letters.length) p) (setR dx (.letr s.letters.length) d0) { s with letters := s.letters ++ [x] } := by
  have eL : ∀ j, j < s.letters.length → lett { s with letters := s.letters ++ [x] } j = lett s j := fun j h => getD_snoc h
  have eN : lett { s with letters := s.letters ++ [x] } s.letters.length = x := getD_last
  have el : (s.letters ++ [x]).length = s.letters.length + 1 := by rw [List.length_append, List.length_singleton]
  have old : ∀ r, has s r → r ≠ .letr s.letters.length := fun r h e => by
    rw [e] at h
    exact Nat.lt_irrefl _ h
  have split : ∀ r, has { s with letters := s.letters ++ [x] } r → has s r ∨ r = .letr s.letters.length := fun r h => by
    cases r with
    | letr j =>
      have h : j < (s.letters ++ [x]).length := h
      rw [el] at h
      by_cases e : j = s.letters.length
      · exact .inr (by rw [e])
      · exact .inl (show j < s.letters.length by omega)
    | _ => exact .inl h
  refine L.grow (fun r h => setR_ne (old r h)) (fun r h nh => ?_) (fun r r' h h' nh nh' _ => ?_) (fun b u e => ?_) fun r h => ?_
  · rcases split r h with q | rfl
    · exact absurd q nh
    · rw [setR_at]
      exact hp
  · rcases split r h with q | rfl
    · exact absurd q nh
    · rcases split r' h' with q | rfl
      · exact absurd q nh'
      · rfl
  · refine sm b u (L.sm b u e) fun z => ?_
    have := L.fr .lets trivial
    rw [← z, e] at this
    cases this
  · rcases split r h with q | rfl
    · rw [setR_ne (old r q)]
      by_cases el' : r = .lets
      · subst el'
        rw [hl]
        show _ = some (HO.lst (refs (fun k => setR ad (.letr s.letters.length) p (.letr k)) (s.letters ++ [x]).length))
        rw [el, refs_succ, setR_at, refs_congr (ad := fun k => setR ad (.letr s.letters.length) p (.letr k)) (ad' := fun k => ad (.letr k)) fun k hk => setR_ne (old (.letr k) hk)]
      · have ne : ad r ≠ ad .lets := fun z => el' (L.inj r .lets q trivial z)
        rw [sm _ _ (L.ct r q) ne]
        cases r with
        | lets => exact absurd rfl el'
        | letr j =>
          show some (HO.ins c.let' (dx (.letr j)) (letF (lett s j))) = some (HO.ins c.let' (setR dx _ d0 (.letr j)) (letF (lett _ j)))
          rw [eL j q, setR_ne (old _ q)]
        | _ => rfl
    · rw [setR_at, hx]
      show _ = some (HO.ins c.let' (setR dx _ d0 (.letr s.letters.length)) (letF (lett _ s.letters.length)))
      rw [eN, setR_at]
/-- a person more, at p, the leaves at v -/
theorem lay_person (L : Lay c F H ad dx s) {p d0 v : Addr} {k q : Nat} (hp : H p = none) (hv : H v = none) (nv : p ≠ v) (sm : ∀ b u, H b = some u → b ≠ ad .ppl → H' b = some u) (hx : H' p = some (.ins c.per d0 (perF k q v))) (hl : H' v = some (.lst []))
    (hP : H' (ad .ppl) = some (.lst (refs (fun k => ad (.pers k)) s.people.length ++ [.ref p]))) :
    Lay c F H' (setR (setR ad (.pers s.people.length) p) (.lvs s.people.length) v) (setR dx (.pers s.people.length) d0) { s with people := s.people ++ [⟨k, q, []⟩] } := by
  have eP : ∀ j, j < s.people.length → Office.person { s with people := s.people ++ [⟨k, q, []⟩] } j = s.person j := fun j h => getD_snoc h
  have eN : Office.person { s with people := s.people ++ [⟨k, q, []⟩] } s.people.length = ⟨k, q, []⟩ := getD_last
  have el : (s.people ++ [(⟨k, q, []⟩ : Person)]).length = s.people.length + 1 := by rw [List.length_append, List.length_singleton]
  have o1 : ∀ r, has s r → r ≠ .pers s.people.length := fun r h e => by
    rw [e] at h
    exact Nat.lt_irrefl _ h
  have o2 : ∀ r, has s r → r ≠ .lvs s.people.length := fun r h e => by
    rw [e] at h
    exact Nat.lt_irrefl _ h
  have oA : ∀ r, has s r → setR (setR ad (.pers s.people.length) p) (.lvs s.people.length) v r = ad r := fun r h => (setR_ne (o2 r h)).trans (setR_ne (o1 r h))
  have aP : setR (setR ad (.pers s.people.length) p) (.lvs s.people.length) v (.pers s.people.length) = p := (setR_ne (show Role.pers s.people.length ≠ Role.lvs s.people.length from fun z => by cases z)).trans setR_at
  have aV : setR (setR ad (.pers s.people.length) p) (.lvs s.people.length) v (.lvs s.people.length) = v := setR_at
  have split : ∀ r, has { s with people := s.people ++ [⟨k, q, []⟩] } r → has s r ∨ r = .pers s.people.length ∨ r = .lvs s.people.length := fun r h => by
    cases r with
    | pers j =>
      have h : j < (s.people ++ [_]).length := h
      rw [el] at h
      by_cases e : j = s.people.length
      · exact .inr (.inl (by rw [e]))
      · exact .inl (show j < s.people.length by omega)
    | lvs j =>
      have h : j < (s.people ++ [_]).length := h
      rw [el] at h
      by_cases e : j = s.people.length
      · exact .inr (.inr (by rw [e]))
      · exact .inl (show j < s.people.length by omega)
    | leave j i =>
      have h : j < (s.people ++ [_]).length ∧ i < (Office.person _ j).away.length := h
      rw [el] at h
      by_cases e : j = s.people.length
      · subst e
        rw [eN] at h
        exact absurd h.2 (Nat.not_lt_zero _)
      · have hj : j < s.people.length := by omega
        rw [eP j hj] at h
        exact .inl ⟨hj, h.2⟩
    | _ => exact .inl h
  refine L.grow oA (fun r h nh => ?_) (fun r r' h h' nh nh' e => ?_) (fun b u e => ?_) fun r h => ?_
  · rcases split r h with z | rfl | rfl
    · exact absurd z nh
    · rw [aP]
      exact hp
    · rw [aV]
      exact hv
  · rcases split r h with z | rfl | rfl
    · exact absurd z nh
    · rcases split r' h' with z | rfl | rfl
      · exact absurd z nh'
      · rfl
      · rw [aP, aV] at e
        exact absurd e nv
    · rcases split r' h' with z | rfl | rfl
      · exact absurd z nh'
      · rw [aP, aV] at e
        exact absurd e.symm nv
      · rfl
  · refine sm b u (L.sm b u e) fun z => ?_
    have := L.fr .ppl trivial
    rw [← z, e] at this
    cases this
  · rcases split r h with z | rfl | rfl
    · rw [oA r z]
      by_cases el' : r = .ppl
      · subst el'
        rw [hP]
        show _ = some (HO.lst (refs (fun j => setR (setR ad (.pers s.people.length) p) (.lvs s.people.length) v (.pers j)) (s.people ++ [_]).length))
        rw [el, refs_succ, aP, refs_congr (ad := fun j => setR (setR ad (.pers s.people.length) p) (.lvs s.people.length) v (.pers j)) (ad' := fun j => ad (.pers j)) fun j hj => oA (.pers j) hj]
      · have ne : ad r ≠ ad .ppl := fun y => el' (L.inj r .ppl z trivial y)
        rw [sm _ _ (L.ct r z) ne]
        cases r with
        | ppl => exact absurd rfl el'
        | pers j =>
          show some (HO.ins c.per (dx (.pers j)) (perF (s.person j).land (s.person j).deputy (ad (.lvs j)))) = some (HO.ins c.per (setR dx _ d0 (.pers j)) (perF (Office.person _ j).land (Office.person _ j).deputy (setR (setR ad (.pers s.people.length) p) (.lvs s.people.length) v (.lvs j))))
          rw [eP j z, setR_ne (o1 _ z), oA (.lvs j) z]
        | lvs j =>
          show some (HO.lst (refs (fun i => ad (.leave j i)) (s.person j).away.length)) = some (HO.lst (refs (fun i => setR (setR ad (.pers s.people.length) p) (.lvs s.people.length) v (.leave j i)) (Office.person _ j).away.length))
          rw [eP j z, refs_congr (ad := fun i => ad (.leave j i)) (ad' := fun i => setR (setR ad (.pers s.people.length) p) (.lvs s.people.length) v (.leave j i)) fun i hi => (oA (.leave j i) ⟨z, hi⟩).symm]
        | leave j i =>
          show some (leaveT ((s.person j).away.getD i (0, 0))) = some (leaveT ((Office.person _ j).away.getD i (0, 0)))
          rw [eP j z.1]
        | _ => rfl
    · rw [aP, hx]
      show _ = some (HO.ins c.per (setR dx _ d0 (.pers s.people.length)) (perF (Office.person _ s.people.length).land (Office.person _ s.people.length).deputy (setR (setR ad (.pers s.people.length) p) (.lvs s.people.length) v (.lvs s.people.length))))
      rw [eN, setR_at, aV]
    · rw [aV, hl]
      show _ = some (HO.lst (refs _ (Office.person _ s.people.length).away.length))
      rw [eN]
      rfl
/-- a leave more, the pair at t -/
theorem lay_away (L : Lay c F H ad dx s) {k a b : Nat} {t : Addr} (hk : k < s.people.length) (ht : H t = none) (sm : ∀ b u, H b = some u → b ≠ ad (.lvs k) → H' b = some u) (hx : H' t = some (.tup [.int (a : Nat), .int (b : Nat)]))
    (hv : H' (ad (.lvs k)) = some (.lst (refs (fun j => ad (.leave k j)) (s.person k).away.length ++ [.ref t]))) :
    Lay c F H' (setR ad (.leave k (s.person k).away.length) t) dx { s with people := s.people.set k ⟨(s.person k).land, (s.person k).deputy, (s.person k).away ++ [(a, b)]⟩ } := by
  have eP : ∀ j, Office.person { s with people := s.people.set k ⟨(s.person k).land, (s.person k).deputy, (s.person k).away ++ [(a, b)]⟩ } j = if j = k then ⟨(s.person k).land, (s.person k).deputy, (s.person k).away ++ [(a, b)]⟩ else s.person j := fun j => getD_set hk
  have el : (s.people.set k ⟨(s.person k).land, (s.person k).deputy, (s.person k).away ++ [(a, b)]⟩).length = s.people.length := List.length_set ..
  have ea : ((s.person k).away ++ [(a, b)]).length = (s.person k).away.length + 1 := by rw [List.length_append, List.length_singleton]
  have old : ∀ r, has s r → r ≠ .leave k (s.person k).away.length := fun r h e => by
    rw [e] at h
    exact Nat.lt_irrefl _ h.2
  have oA : ∀ r, has s r → setR ad (.leave k (s.person k).away.length) t r = ad r := fun r h => setR_ne (old r h)
  have split : ∀ r, has { s with people := s.people.set k ⟨(s.person k).land, (s.person k).deputy, (s.person k).away ++ [(a, b)]⟩ } r → has s r ∨ r = .leave k (s.person k).away.length := fun r h => by
    cases r with
    | pers j => exact .inl (el ▸ h : j < s.people.length)
    | lvs j => exact .inl (el ▸ h : j < s.people.length)
    | leave j i =>
      have h : j < (s.people.set k _).length ∧ i < (Office.person _ j).away.length := h
      rw [el, eP] at h
      by_cases e : j = k
      · subst e
        rw [if_pos rfl] at h
        have h2 : i < ((s.person j).away ++ [(a, b)]).length := h.2
        rw [ea] at h2
        by_cases e2 : i = (s.person j).away.length
        · exact .inr (by rw [e2])
        · exact .inl ⟨h.1, by omega⟩
      · rw [if_neg e] at h
        exact .inl h
    | _ => exact .inl h
  refine L.grow oA (fun r h nh => ?_) (fun r r' h h' nh nh' _ => ?_) (fun z u e => ?_) fun r h => ?_
  · rcases split r h with q | rfl
    · exact absurd q nh
    · rw [setR_at]
      exact ht
  · rcases split r h with q | rfl
    · exact absurd q nh
    · rcases split r' h' with q | rfl
      · exact absurd q nh'
      · rfl
  · refine sm z u (L.sm z u e) fun y => ?_
    have := L.fr (.lvs k) hk
    rw [← y, e] at this
    cases this
  · rcases split r h with q | rfl
    · rw [oA r q]
      by_cases el' : r = .lvs k
      · subst el'
        rw [hv]
        show _ = some (HO.lst (refs (fun j => setR ad (.leave k (s.person k).away.length) t (.leave k j)) (Office.person _ k).away.length))
        rw [eP, if_pos rfl]
        show _ = some (HO.lst (refs (fun j => setR ad (.leave k (s.person k).away.length) t (.leave k j)) ((s.person k).away ++ [(a, b)]).length))
        rw [ea, refs_succ, setR_at, refs_congr (ad := fun j => setR ad (.leave k (s.person k).away.length) t (.leave k j)) (ad' := fun j => ad (.leave k j)) fun j hj => oA (.leave k j) ⟨hk, hj⟩]
      · have ne : ad r ≠ ad (.lvs k) := fun y => el' (L.inj r (.lvs k) q hk y)
        rw [sm _ _ (L.ct r q) ne]
        cases r with
        | ppl =>
          show some (HO.lst (refs (fun j => ad (.pers j)) s.people.length)) = some (HO.lst (refs _ (s.people.set k _).length))
          rw [el]
          rfl
        | pers j =>
          show some (HO.ins c.per (dx (.pers j)) (perF (s.person j).land (s.person j).deputy (ad (.lvs j)))) = some (HO.ins c.per (dx (.pers j)) (perF (Office.person _ j).land (Office.person _ j).deputy (setR ad (.leave k (s.person k).away.length) t (.lvs j))))
          rw [eP, oA (.lvs j) q]
          by_cases e : j = k
          · rw [if_pos e, e]
          · rw [if_neg e]
        | lvs j =>
          have nj : ¬ j = k := fun e => el' (by rw [e])
          show some (HO.lst (refs (fun i => ad (.leave j i)) (s.person j).away.length)) = some (HO.lst (refs (fun i => setR ad (.leave k (s.person k).away.length) t (.leave j i)) (Office.person _ j).away.length))
          rw [eP, if_neg nj, refs_congr (ad := fun i => ad (.leave j i)) (ad' := fun i => setR ad (.leave k (s.person k).away.length) t (.leave j i)) fun i hi => (oA (.leave j i) ⟨q, hi⟩).symm]
        | leave j i =>
          show some (leaveT ((s.person j).away.getD i (0, 0))) = some (leaveT ((Office.person _ j).away.getD i (0, 0)))
          rw [eP]
          by_cases e : j = k
          · subst e
            rw [if_pos rfl]
            show _ = some (leaveT (((s.person j).away ++ [(a, b)]).getD i (0, 0)))
            rw [getD_snoc q.2]
          · rw [if_neg e]
        | _ => rfl
    · rw [setR_at, hx]
      show _ = some (leaveT ((Office.person _ k).away.getD (s.person k).away.length (0, 0)))
      rw [eP, if_pos rfl]
      show _ = some (leaveT (((s.person k).away ++ [(a, b)]).getD (s.person k).away.length (0, 0)))
      rw [getD_last]
      rfl
end
end Ad

/-! asking: the calls on an office. -/
namespace Ad
open PySem L2
open Km358 (Office Land Person Letter act only okWeeks okDeputy)
open Km358Neutral (told)

/-! ### whom a letter is with -/
theorem heldBy_has (s : Office) (k : Nat) : heldBy s ((k : Nat) : Int) = s.has k := by
  funext x
  unfold heldBy Office.has
  congr 1
  cases s.holder x s.today with
  | none => exact decide_eq_false (by show ¬ (-1 : Int) = (k : Int); omega)
  | some h =>
    show decide (((h : Nat) : Int) = ((k : Nat) : Int)) = (h == k)
    rw [Bool.eq_iff_iff]
    simp only [decide_eq_true_eq, beq_iff_eq]
    omega
theorem heldBy_waits (s : Office) : heldBy s (-1) = s.waits := by
  funext x
  unfold heldBy Office.waits
  congr 1
  cases s.holder x s.today with
  | none => rfl
  | some h => exact decide_eq_false (by show ¬ ((h : Nat) : Int) = -1; omega)

/-! ### promises -/
/-- what a call answers, and what it makes of the office at o -/
def Ans (c : Cs) (F : Hp) (o : Addr) (s : Office) (x : Km358.Call) (Q : VK) : Prop :=
  ∀ (H' : Hp) (p : Addr), OffAt c F H' o (act s x).1 → F p = none → H' p = some (.lst ((told (act s x).2).map V.int)) → Q (.ref p) H'
theorem Ans.ret {c : Cs} {F H : Hp} {o p : Addr} {s s' : Office} {x : Km358.Call} {Q : VK} {a : Km358.Ans} {vs : List V} (A : Ans c F o s x Q) (e : act s x = (s', a)) (ev : (told a).map V.int = vs) (L : OffAt c F H o s') (hp : H p = none) : Q (.ref p) (upd H p (.lst vs)) := by
  refine A _ p ?_ (L.same.free hp) ?_
  · rw [e]
    exact L.mono (same_new hp)
  · rw [e, upd_same, ev]
def spIsLand (c : Cs) : Sp := fun vs H Q _ => ∃ (F : Hp) (o : Addr) (s : Office) (k : Nat), vs = [.ref o, .int (k : Nat)] ∧ OffAt c F H o s ∧ Q (.bl (decide (k < s.lands.length))) H
def spIsPerson (c : Cs) : Sp := fun vs H Q _ => ∃ (F : Hp) (o : Addr) (s : Office) (k : Nat), vs = [.ref o, .int (k : Nat)] ∧ OffAt c F H o s ∧ Q (.bl (decide (k < s.people.length))) H
def spIsLetter (c : Cs) : Sp := fun vs H Q _ => ∃ (F : Hp) (o : Addr) (s : Office) (k : Nat), vs = [.ref o, .int (k : Nat)] ∧ OffAt c F H o s ∧ Q (.bl (decide (k < s.letters.length))) H
def spIsDeputy : Sp := fun vs H Q _ => ∃ k : Nat, vs = [.int (k : Nat)] ∧ Q (.bl (okDeputy k)) H
def spAreWeeks (K : PySem.W.Frag) : Sp := fun vs H Q _ => ∃ (a : Addr) (ws : List Nat), vs = [.ref a] ∧ SqL K H a (numsV ws) ∧ ∀ H', Same H H' → Q (.bl (okWeeks ws ws.length)) H'
/-- a call with one, two, three numbers -/
def spAsk0 (c : Cs) (x : Km358.Call) : Sp := fun vs H Q _ => ∃ (F : Hp) (o : Addr) (s : Office), vs = [.ref o] ∧ OffAt c F H o s ∧ Good s ∧ Ans c F o s x Q
def spAsk1 (c : Cs) (x : Nat → Km358.Call) : Sp := fun vs H Q _ => ∃ (F : Hp) (o : Addr) (s : Office) (a : Nat), vs = [.ref o, .int (a : Nat)] ∧ OffAt c F H o s ∧ Good s ∧ Ans c F o s (x a) Q
def spAsk2 (c : Cs) (x : Nat → Nat → Km358.Call) : Sp := fun vs H Q _ => ∃ (F : Hp) (o : Addr) (s : Office) (a b : Nat), vs = [.ref o, .int (a : Nat), .int (b : Nat)] ∧ OffAt c F H o s ∧ Good s ∧ Ans c F o s (x a b) Q
def spAsk3 (c : Cs) (x : Nat → Nat → Nat → Km358.Call) : Sp := fun vs H Q _ => ∃ (F : Hp) (o : Addr) (s : Office) (a b d : Nat), vs = [.ref o, .int (a : Nat), .int (b : Nat), .int (d : Nat)] ∧ OffAt c F H o s ∧ Good s ∧ Ans c F o s (x a b d) Q

section
variable {P : Program} {w : World} {K : PySem.W.Frag} {mg : Str → Option Value} {base : Heap} {c : Cs} {f : Addr} {fd : FuncData}
/-! ### are_weeks -/
theorem sc38 : FnScope ["weeks", "week"] ["weeks"] (defScope (top 38)) := ⟨rfl, rfl, rfl, by decide +kernel, rfl, by decide +kernel, by decide +kernel⟩
theorem ok_are_weeks (F : Fun K "are_weeks" "are_weeks" (top 38) f fd) (T : Txt K mg c) : FnOk P w K mg base CX0 1 f fd ["weeks"] (spAreWeeks K) := by
  refine F.ok sc38 (fun vs H Q E h => ?_) (fun cdv A outer s H vs Q E hr h => ?_)
  · obtain ⟨_, _, rfl, _⟩ := h
    rfl
  · obtain ⟨a, ws, rfl, hS, q⟩ := h
    refine ⟨_, pss_one (ps_ret (pe_and (pe_chain op_le op_le pe_int (pe_callB call_len_seq (by rfl) T.blen PySem.boot_len (pa_cons (pv 0) pa_nil)) (pe_gi T.gLANDS))
      (pe_one (pe_callB (cr_all rfl) (by rfl) T.ball (by decide +kernel) (pa_cons
        (pe_lc (own := [("week", 1)]) (g := gName 1) (tt := tYes) rfl sc38.nd (pi_list (pv 0)) (blkOk_by (own := [("week", 1)]) (N := ["weeks", "week"]) (sc := defScope (top 38)) (by decide +kernel))
          (fun _ _ _ _ _ => pg_name (i := 1) sc38.nd rfl (Or.inl rfl)) (fun _ _ _ _ _ => pts_nil) (fun _ _ _ _ _ => pe_chain op_le op_le pe_int (pv 1) (pe_gi T.gALL))) pa_nil))))), ?_⟩
    refine ⟨_, rfl, a, _, rfl, .inl hS, _, _, rfl, rfl, _, rfl, ?_⟩
    rw [numsV_len]
    have eo : okWeeks ws ws.length = (decide (1 ≤ ws.length) && (decide (ws.length ≤ 8) && ws.all fun w => decide (1 ≤ w) && decide (w < 128))) := rfl
    rw [eo] at q
    by_cases q1 : 1 ≤ ws.length
    · rw [decide_eq_true (by omega : (1 : Int) ≤ ((ws.length : Nat) : Int))]
      rw [decide_eq_true q1, Bool.true_and] at q
      refine iteT ⟨_, _, rfl, rfl, _, rfl, ?_⟩
      by_cases q2 : ws.length ≤ 8
      · rw [decide_eq_true (by omega : ((ws.length : Nat) : Int) ≤ 8)]
        rw [decide_eq_true q2, Bool.true_and] at q
        refine iteT ⟨_, rfl, a, rfl, ⟨_, hS⟩, fun D hD => ?_⟩
        refine lc_list (K := K) (a := a) (xs := numsV ws) (fun i H' => Same H H' ∧ H' D = some (.lst (((ws.take i).map fun w => decide (1 ≤ w) && decide (w < 128)).map V.bl))) ⟨same_new hD, upd_same⟩ (fun i H' _ ⟨s1, _⟩ => s1.seq hS) ?_ ?_
        · rintro i x H' hi ⟨s1, hL⟩
          obtain ⟨d, hd, rfl⟩ := numsV_item hi
          refine ⟨rfl, ?_⟩
          have fin : ∀ b, b = (decide (1 ≤ d) && decide (d < 128)) → ∃ acc, H' D = some (.lst acc) ∧ acc.length < sizeLine ∧ (Same H (upd H' D (.lst (acc ++ [.bl b]))) ∧ upd H' D (.lst (acc ++ [.bl b])) D = some (.lst (((ws.take (i + 1)).map fun w => decide (1 ≤ w) && decide (w < 128)).map V.bl))) := fun b eb => by
            refine ⟨_, hL, ?_, same_upd s1 hD, ?_⟩
            · have := List.length_take_le i ws
              rw [List.length_map, List.length_map, sizeLine_eq]
              have h3 : (ws.take i).length ≤ ws.length := by
                rw [List.length_take]
                exact Nat.min_le_right _ _
              omega
            · rw [upd_same, take_snoc hd, List.map_append, List.map_append, eb]
              rfl
          refine ⟨_, rfl, _, _, rfl, rfl, _, rfl, ?_⟩
          by_cases q3 : (1 : Int) ≤ ((d : Nat) : Int)
          · rw [decide_eq_true q3]
            refine iteT ⟨_, _, rfl, rfl, fin _ ?_⟩
            rw [decide_eq_true (by omega : 1 ≤ d), Bool.true_and]
            exact decide_eq_decide.mpr (by omega)
          · rw [decide_eq_false q3]
            refine iteF (fin _ ?_)
            rw [decide_eq_false (by omega : ¬ 1 ≤ d), Bool.false_and]
        · rintro H' ⟨s1, hL⟩
          rw [numsV_len, List.take_length] at hL
          refine ⟨D, _, rfl, SqL.of hL, ?_⟩
          have e : (ws.map fun w => decide (1 ≤ w) && decide (w < 128)).all id = ws.all fun w => decide (1 ≤ w) && decide (w < 128) := by
            rw [List.all_map]
            rfl
          rw [← e] at q
          exact q _ s1
      · rw [decide_eq_false (by omega : ¬ ((ws.length : Nat) : Int) ≤ 8)]
        rw [decide_eq_false q2, Bool.false_and] at q
        exact iteF (q _ (.refl _))
    · rw [decide_eq_false (by omega : ¬ (1 : Int) ≤ ((ws.length : Nat) : Int))]
      rw [decide_eq_false q1, Bool.false_and] at q
      exact iteF ⟨_, rfl, iteF (q _ (.refl _))⟩
/-! ### is_land, is_deputy, is_person, is_letter -/
theorem sc39 : FnScope ["office", "land"] ["office", "land"] (defScope (top 39)) := ⟨rfl, rfl, rfl, by decide +kernel, rfl, by decide +kernel, by decide +kernel⟩
theorem ok_is_land (F : Fun K "is_land" "is_land" (top 39) f fd) (T : Txt K mg c) : FnOk P w K mg base CX0 1 f fd ["office", "land"] (spIsLand c) := by
  refine F.ok sc39 (fun vs H Q E h => ?_) (fun cdv A outer s H vs Q E hr h => ?_)
  · obtain ⟨_, _, _, _, rfl, _⟩ := h
    rfl
  · obtain ⟨F0, _, o, k, rfl, ⟨ad, dx, rfl, L⟩, q⟩ := h
    have hO : H (ad .off) = some (.ins c.off (dx .off) (offF (ad .weeks) (ad .hols) (ad .ppl) (ad .lets) o.today)) := L.ct .off trivial
    have hW : H (ad .weeks) = some (.lst (numsV (o.lands.map (·.week)))) := L.ct .weeks trivial
    refine ⟨_, pss_one (ps_ret (pe_cmpR op_lt (pv 1) (pe_callB call_len_seq (by rfl) T.blen PySem.boot_len (pa_cons (pe_fld (pv 0) rfl) pa_nil)) (nomark _))), ?_⟩
    refine ⟨_, rfl, _, rfl, _, _, _, _, _, rfl, hO, T.cO, T.oW, offF_weeks _ _ _ _ _, _, _, rfl, .inl (SqL.of hW), _, _, rfl, rfl, ?_⟩
    rw [numsV_len, List.length_map]
    have e : decide (k < o.lands.length) = decide (((k : Nat) : Int) < ((o.lands.length : Nat) : Int)) := decide_eq_decide.mpr (by omega)
    rw [e] at q
    exact q
theorem sc40 : FnScope ["deputy"] ["deputy"] (defScope (top 40)) := ⟨rfl, rfl, rfl, by decide +kernel, rfl, by decide +kernel, by decide +kernel⟩
theorem ok_is_deputy (F : Fun K "is_deputy" "is_deputy" (top 40) f fd) (T : Txt K mg c) : FnOk P w K mg base CX0 1 f fd ["deputy"] spIsDeputy := by
  refine F.ok sc40 (fun vs H Q E h => ?_) (fun cdv A outer s H vs Q E hr h => ?_)
  · obtain ⟨_, rfl, _⟩ := h
    rfl
  · obtain ⟨k, rfl, q⟩ := h
    refine ⟨_, pss_one (ps_ret (pe_or (pe_cmpR op_lt (pv 0) (pe_gi T.gPPL) (nomark _)) (pe_one (pe_cmpR op_eq (pv 0) (pe_gi T.gNODEP) (nomark _))))), ?_⟩
    refine ⟨_, rfl, _, _, rfl, rfl, _, rfl, ?_⟩
    have eo : okDeputy k = (decide (k < 16) || decide (k = 255)) := rfl
    rw [eo] at q
    by_cases q1 : k < 16
    · rw [decide_eq_true (by omega : ((k : Nat) : Int) < 16)]
      rw [decide_eq_true q1, Bool.true_or] at q
      exact iteT q
    · rw [decide_eq_false (by omega : ¬ ((k : Nat) : Int) < 16)]
      rw [decide_eq_false q1, Bool.false_or] at q
      refine iteF ⟨_, rfl, rfl, ?_⟩
      have e : decide (k = 255) = decide (V.int ((k : Nat) : Int) = V.int 255) := decide_eq_decide.mpr ⟨fun h => by rw [h]; rfl, fun h => by have := V.int.inj h; omega⟩
      rw [e] at q
      exact q
theorem sc41 : FnScope ["office", "person"] ["office", "person"] (defScope (top 41)) := ⟨rfl, rfl, rfl, by decide +kernel, rfl, by decide +kernel, by decide +kernel⟩
theorem ok_is_person (F : Fun K "is_person" "is_person" (top 41) f fd) (T : Txt K mg c) : FnOk P w K mg base CX0 1 f fd ["office", "person"] (spIsPerson c) := by
  refine F.ok sc41 (fun vs H Q E h => ?_) (fun cdv A outer s H vs Q E hr h => ?_)
  · obtain ⟨_, _, _, _, rfl, _⟩ := h
    rfl
  · obtain ⟨F0, _, o, k, rfl, ⟨ad, dx, rfl, L⟩, q⟩ := h
    have hO : H (ad .off) = some (.ins c.off (dx .off) (offF (ad .weeks) (ad .hols) (ad .ppl) (ad .lets) o.today)) := L.ct .off trivial
    have hW : H (ad .ppl) = some (.lst (refs (fun k => ad (.pers k)) o.people.length)) := L.ct .ppl trivial
    refine ⟨_, pss_one (ps_ret (pe_cmpR op_lt (pv 1) (pe_callB call_len_seq (by rfl) T.blen PySem.boot_len (pa_cons (pe_fld (pv 0) rfl) pa_nil)) (nomark _))), ?_⟩
    refine ⟨_, rfl, _, rfl, _, _, _, _, _, rfl, hO, T.cO, T.oP, offF_ppl _ _ _ _ _, _, _, rfl, .inl (SqL.of hW), _, _, rfl, rfl, ?_⟩
    rw [refs_len]
    have e : decide (k < o.people.length) = decide (((k : Nat) : Int) < ((o.people.length : Nat) : Int)) := decide_eq_decide.mpr (by omega)
    rw [e] at q
    exact q
theorem sc42 : FnScope ["office", "letter"] ["office", "letter"] (defScope (top 42)) := ⟨rfl, rfl, rfl, by decide +kernel, rfl, by decide +kernel, by decide +kernel⟩
theorem ok_is_letter (F : Fun K "is_letter" "is_letter" (top 42) f fd) (T : Txt K mg c) : FnOk P w K mg base CX0 1 f fd ["office", "letter"] (spIsLetter c) := by
  refine F.ok sc42 (fun vs H Q E h => ?_) (fun cdv A outer s H vs Q E hr h => ?_)
  · obtain ⟨_, _, _, _, rfl, _⟩ := h
    rfl
  · obtain ⟨F0, _, o, k, rfl, ⟨ad, dx, rfl, L⟩, q⟩ := h
    have hO : H (ad .off) = some (.ins c.off (dx .off) (offF (ad .weeks) (ad .hols) (ad .ppl) (ad .lets) o.today)) := L.ct .off trivial
    have hW : H (ad .lets) = some (.lst (refs (fun k => ad (.letr k)) o.letters.length)) := L.ct .lets trivial
    refine ⟨_, pss_one (ps_ret (pe_cmpR op_lt (pv 1) (pe_callB call_len_seq (by rfl) T.blen PySem.boot_len (pa_cons (pe_fld (pv 0) rfl) pa_nil)) (nomark _))), ?_⟩
    refine ⟨_, rfl, _, rfl, _, _, _, _, _, rfl, hO, T.cO, T.oL, offF_lets _ _ _ _ _, _, _, rfl, .inl (SqL.of hW), _, _, rfl, rfl, ?_⟩
    rw [refs_len]
    have e : decide (k < o.letters.length) = decide (((k : Nat) : Int) < ((o.letters.length : Nat) : Int)) := decide_eq_decide.mpr (by omega)
    rw [e] at q
    exact q
/-! ### ask_holiday -/
theorem sc43 : FnScope ["office", "land", "day"] ["office", "land", "day"] (defScope (top 43)) := ⟨rfl, rfl, rfl, by decide +kernel, rfl, by decide +kernel, by decide +kernel⟩
theorem ok_ask_holiday (F : Fun K "ask_holiday" "ask_holiday" (top 43) f fd) (T : Txt K mg c) (cL : Cal P w K mg base 1 "is_land" (spIsLand c)) : FnOk P w K mg base CX0 2 f fd ["office", "land", "day"] (spAsk2 c .holiday) := by
  refine F.ok sc43 (fun vs H Q E h => ?_) (fun cdv A outer s H vs Q E hr h => ?_)
  · obtain ⟨_, _, _, _, _, rfl, _⟩ := h
    rfl
  · obtain ⟨F0, _, o, k, d, rfl, ⟨ad, dx, rfl, L⟩, g, q⟩ := h
    have hO : H (ad .off) = some (.ins c.off (dx .off) (offF (ad .weeks) (ad .hols) (ad .ppl) (ad .lets) o.today)) := L.ct .off trivial
    have hH : H (ad .hols) = some (.lst (refs (fun k => ad (.hol k)) o.lands.length)) := L.ct .hols trivial
    have OL : OffAt c F0 H (ad .off) o := ⟨ad, dx, rfl, L⟩
    refine ⟨_, pss_cons (ps_if (PW.pt (pw_or (pt_not (pt_val (pe_cl cL hr (by decide) (pa_cons (pv 0) (pa_cons (pv 1) pa_nil))))) (pw_or1 (pt_cmpR op_gt (pv 2) (pe_gi T.gLAST) (nomark _))))) (pss_one (ps_ret (pe_lst (pa_cons (pe_gi T.gBAD) pa_nil)))) pss_nil)
      (pss_cons (ps_if (pt_cmpR op_in_seq (pv 2) (pe_ix ix_list (pe_fld (pv 0) rfl) (pv 1) (fun _ _ => rfl)) (by rfl)) (pss_one (ps_ret (pe_lst (pa_cons (pe_gi T.gIS) pa_nil)))) pss_nil)
      (pss_cons (ps_if (pt_cmpR op_ge (pe_callB call_len_seq (by rfl) T.blen PySem.boot_len (pa_cons (pe_ix ix_list (pe_fld (pv 0) rfl) (pv 1) (fun _ _ => rfl)) pa_nil)) (pe_gi T.gHOL) (nomark _)) (pss_one (ps_ret (pe_lst (pa_cons (pe_gi T.gFULL) pa_nil)))) pss_nil)
      (pss_cons (ps_expr (pe_bm PySem.F.plainAttrs_list PySem.F.slot_list_append PySem.F.type_list_append mt_append (pe_ix ix_list (pe_fld (pv 0) rfl) (pv 1) (fun _ _ => rfl)) (pa_cons (pv 2) pa_nil)))
      (pss_one (ps_ret (pe_lst (pa_cons pe_int pa_nil))))))), ?_⟩
    refine ⟨_, rfl, _, rfl, F0, ad .off, o, k, rfl, OL, _, rfl, ?_⟩
    by_cases q1 : k < o.lands.length
    · rw [decide_eq_true q1]
      refine iteF ⟨_, rfl, _, _, rfl, rfl, _, rfl, ?_⟩
      by_cases q2 : (36500 : Int) < ((d : Nat) : Int)
      · rw [decide_eq_true q2]
        refine iteT ⟨(by show 1 ≤ sizeLine; decide), fun p hp => q.ret (if_pos (.inr (by show 36500 < d; omega))) rfl OL hp⟩
      · rw [decide_eq_false q2]
        refine iteF ?_
        have n1 : ¬ (o.lands.length ≤ k ∨ Km358.LAST < d) := by
          have : Km358.LAST = 36500 := rfl
          omega
        have hh : H (ad (.hol k)) = some (.lst (numsV (o.land k).holidays)) := L.ct (.hol k) q1
        refine ⟨_, rfl, _, rfl, _, _, _, _, _, rfl, hO, T.cO, T.oH, offF_hols _ _ _ _ _, _, rfl, _, _, _, _, rfl, rfl, SqL.of hH, refs_at q1, _, _, rfl, .inl (SqL.of hh), rfl, numsV_flat _, _, rfl, ?_⟩
        rw [inV_numsV]
        cases q3 : (o.land k).holidays.contains d with
        | true => exact iteT ⟨(by show 1 ≤ sizeLine; decide), fun p hp => q.ret ((if_neg n1).trans (if_pos q3)) rfl OL hp⟩
        | false =>
          have n2 : ¬ (o.land k).holidays.contains d = true := by rw [q3]; decide
          refine iteF ?_
          refine ⟨_, rfl, _, _, _, _, _, rfl, hO, T.cO, T.oH, offF_hols _ _ _ _ _, _, rfl, _, _, _, _, rfl, rfl, SqL.of hH, refs_at q1, _, _, rfl, .inl (SqL.of hh), _, _, rfl, rfl, _, rfl, ?_⟩
          rw [numsV_len]
          by_cases q4 : (32 : Int) ≤ (((o.land k).holidays.length : Nat) : Int)
          · rw [decide_eq_true q4]
            exact iteT ⟨(by show 1 ≤ sizeLine; decide), fun p hp => q.ret ((if_neg n1).trans ((if_neg n2).trans (if_pos (by show 32 ≤ (o.land k).holidays.length; omega)))) rfl OL hp⟩
          · rw [decide_eq_false q4]
            refine iteF ?_
            refine ⟨_, rfl, _, _, _, _, _, rfl, hO, T.cO, T.oH, offF_hols _ _ _ _ _, _, rfl, _, _, _, _, rfl, rfl, SqL.of hH, refs_at q1, .inl ⟨rfl, _, SqL.of hh⟩, _, rfl, _, _, _, rfl, rfl, hh, ?_, ?_⟩
            · rw [numsV_len, sizeLine_eq]
              omega
            · refine ⟨(by show 1 ≤ sizeLine; decide), fun p hp => q.ret ((if_neg n1).trans ((if_neg n2).trans (if_neg (by show ¬ 32 ≤ (o.land k).holidays.length; omega)))) rfl ⟨ad, dx, rfl, lay_holiday L q1⟩ hp⟩
    · rw [decide_eq_false q1]
      exact iteT (iteT ⟨(by show 1 ≤ sizeLine; decide), fun p hp => q.ret (if_pos (.inl (by omega))) rfl OL hp⟩)
/-! ### ask_person -/
theorem sc44 : FnScope ["office", "land", "deputy"] ["office", "land", "deputy"] (defScope (top 44)) := ⟨rfl, rfl, rfl, by decide +kernel, rfl, by decide +kernel, by decide +kernel⟩
theorem ok_ask_person (F : Fun K "ask_person" "ask_person" (top 44) f fd) (T : Txt K mg c) (cL : Cal P w K mg base 1 "is_land" (spIsLand c)) (cD : Cal P w K mg base 1 "is_deputy" spIsDeputy) (cP : Mak P w K mg base 1 "Person" c.per (spPerson c)) : FnOk P w K mg base CX0 3 f fd ["office", "land", "deputy"] (spAsk2 c .person) := by
  refine F.ok sc44 (fun vs H Q E h => ?_) (fun cdv A outer s H vs Q E hr h => ?_)
  · obtain ⟨_, _, _, _, _, rfl, _⟩ := h
    rfl
  · obtain ⟨F0, _, o, k, d, rfl, ⟨ad, dx, rfl, L⟩, g, q⟩ := h
    have hO : H (ad .off) = some (.ins c.off (dx .off) (offF (ad .weeks) (ad .hols) (ad .ppl) (ad .lets) o.today)) := L.ct .off trivial
    have hP : H (ad .ppl) = some (.lst (refs (fun k => ad (.pers k)) o.people.length)) := L.ct .ppl trivial
    have OL : OffAt c F0 H (ad .off) o := ⟨ad, dx, rfl, L⟩
    refine ⟨_, pss_cons (ps_if (PW.pt (pw_or (pt_not (pt_val (pe_cl cL hr (by decide) (pa_cons (pv 0) (pa_cons (pv 1) pa_nil))))) (pw_or1 (pt_not (pt_val (pe_cl cD hr (by decide) (pa_cons (pv 2) pa_nil))))))) (pss_one (ps_ret (pe_lst (pa_cons (pe_gi T.gBAD) pa_nil)))) pss_nil)
      (pss_cons (ps_if (pt_cmpR op_ge (pe_callB call_len_seq (by rfl) T.blen PySem.boot_len (pa_cons (pe_fld (pv 0) rfl) pa_nil)) (pe_gi T.gPPL) (nomark _)) (pss_one (ps_ret (pe_lst (pa_cons (pe_gi T.gFULL) pa_nil)))) pss_nil)
      (pss_cons (ps_expr (pe_bm PySem.F.plainAttrs_list PySem.F.slot_list_append PySem.F.type_list_append mt_append (pe_fld (pv 0) rfl) (pa_cons (pe_mk cP hr (by decide) (pa_cons (pv 1) (pa_cons (pv 2) pa_nil))) pa_nil)))
      (pss_one (ps_ret (pe_lst (pa_cons (pe_op op_sub (pe_callB call_len_seq (by rfl) T.blen PySem.boot_len (pa_cons (pe_fld (pv 0) rfl) pa_nil)) pe_int) pa_nil)))))), ?_⟩
    refine ⟨_, rfl, _, rfl, F0, ad .off, o, k, rfl, OL, _, rfl, ?_⟩
    by_cases q1 : k < o.lands.length
    · rw [decide_eq_true q1]
      refine iteF ⟨_, rfl, d, rfl, _, rfl, ?_⟩
      cases q2 : okDeputy d with
      | false => exact iteT ⟨(by show 1 ≤ sizeLine; decide), fun p hp => q.ret (if_pos (.inr q2)) rfl OL hp⟩
      | true =>
        refine iteF ?_
        have n1 : ¬ (o.lands.length ≤ k ∨ okDeputy d = false) := by
          rw [q2]
          intro z
          rcases z with z | z
          · omega
          · cases z
        refine ⟨_, rfl, _, _, _, _, _, rfl, hO, T.cO, T.oP, offF_ppl _ _ _ _ _, _, _, rfl, .inl (SqL.of hP), _, _, rfl, rfl, _, rfl, ?_⟩
        rw [refs_len]
        by_cases q3 : (16 : Int) ≤ ((o.people.length : Nat) : Int)
        · rw [decide_eq_true q3]
          exact iteT ⟨(by show 1 ≤ sizeLine; decide), fun p hp => q.ret ((if_neg n1).trans (if_pos (by show 16 ≤ o.people.length; omega))) rfl OL hp⟩
        · rw [decide_eq_false q3]
          refine iteF ?_
          refine ⟨_, rfl, _, _, _, _, _, rfl, hO, T.cO, T.oP, offF_ppl _ _ _ _ _, .inl ⟨rfl, _, SqL.of hP⟩, _, rfl, _, rfl, ?_⟩
          intro x d0 nx nd ne
          refine ⟨x, d0, k, d, rfl, upd_same, fun H1 v hv hx hl keep => ⟨rfl, ?_⟩⟩
          have k1 : ∀ b u, H b = some u → H1 b = some u := fun b u e => keep b u (by rw [upd_ne (ne_of_none e nx), upd_ne (ne_of_none e nd)]; exact e) (ne_of_none e nx)
          have nv : x ≠ v := ne_of_none upd_same hv
          have hv0 : H v = none := by
            rw [upd_ne nv.symm] at hv
            by_cases e : v = d0
            · rw [e, upd_same] at hv
              cases hv
            · rw [upd_ne e] at hv
              exact hv
          have hP1 := k1 _ _ hP
          have hO1 := k1 _ _ hO
          refine ⟨_, _, _, rfl, rfl, hP1, ?_, ?_⟩
          · rw [refs_len, sizeLine_eq]
            omega
          have nO : ad .off ≠ ad .ppl := fun z => by cases L.inj .off .ppl trivial trivial z
          have nxP : x ≠ ad .ppl := (ne_of_none hP nx).symm
          have nvP : v ≠ ad .ppl := (ne_of_none hP hv0).symm
          refine ⟨_, rfl, _, _, _, _, _, rfl, (upd_ne nO).trans hO1, T.cO, T.oP, offF_ppl _ _ _ _ _, _, _, rfl, .inl (SqL.of upd_same), _, _, rfl, rfl, (by show 1 ≤ sizeLine; decide), fun p hp => ?_⟩
          refine q.ret ((if_neg n1).trans (if_neg (by show ¬ 16 ≤ o.people.length; omega))) ?_ ⟨_, _, ?_, lay_person L nx hv0 nv (fun b u e nb => (upd_ne nb).trans (k1 b u e)) ((upd_ne nxP).trans hx) ((upd_ne nvP).trans hl) upd_same⟩ hp
          · rw [List.length_append, refs_len, List.length_singleton]
            show [V.int ((o.people.length : Nat) : Int)] = [V.int (((o.people.length + 1 : Nat) : Int) - 1)]
            rw [show ((o.people.length + 1 : Nat) : Int) - 1 = ((o.people.length : Nat) : Int) by omega]
          · rw [setR_ne (fun z => by cases z), setR_ne (fun z => by cases z)]
    · rw [decide_eq_false q1]
      exact iteT (iteT ⟨(by show 1 ≤ sizeLine; decide), fun p hp => q.ret (if_pos (.inl (by omega))) rfl OL hp⟩)
/-! ### ask_deputy -/
theorem sc45 : FnScope ["office", "person", "deputy"] ["office", "person", "deputy"] (defScope (top 45)) := ⟨rfl, rfl, rfl, by decide +kernel, rfl, by decide +kernel, by decide +kernel⟩
theorem ok_ask_deputy (F : Fun K "ask_deputy" "ask_deputy" (top 45) f fd) (T : Txt K mg c) (cD : Cal P w K mg base 1 "is_deputy" spIsDeputy) (cP : Cal P w K mg base 1 "is_person" (spIsPerson c)) : FnOk P w K mg base CX0 2 f fd ["office", "person", "deputy"] (spAsk2 c .deputy) := by
  refine F.ok sc45 (fun vs H Q E h => ?_) (fun cdv A outer s H vs Q E hr h => ?_)
  · obtain ⟨_, _, _, _, _, rfl, _⟩ := h
    rfl
  · obtain ⟨F0, _, o, k, d, rfl, ⟨ad, dx, rfl, L⟩, g, q⟩ := h
    have hO : H (ad .off) = some (.ins c.off (dx .off) (offF (ad .weeks) (ad .hols) (ad .ppl) (ad .lets) o.today)) := L.ct .off trivial
    have hP : H (ad .ppl) = some (.lst (refs (fun k => ad (.pers k)) o.people.length)) := L.ct .ppl trivial
    have OL : OffAt c F0 H (ad .off) o := ⟨ad, dx, rfl, L⟩
    refine ⟨_, pss_cons (ps_if (pt_not (pt_val (pe_cl cD hr (by decide) (pa_cons (pv 2) pa_nil)))) (pss_one (ps_ret (pe_lst (pa_cons (pe_gi T.gBAD) pa_nil)))) pss_nil)
      (pss_cons (ps_if (pt_not (pt_val (pe_cl cP hr (by decide) (pa_cons (pv 0) (pa_cons (pv 1) pa_nil))))) (pss_one (ps_ret (pe_lst (pa_cons (pe_gi T.gNOT) pa_nil)))) pss_nil)
      (pss_cons (ps_fld (pe_ix ix_list (pe_fld (pv 0) rfl) (pv 1) (fun _ _ => rfl)) (pv 2) rfl)
      (pss_one (ps_ret (pe_lst (pa_cons pe_int pa_nil)))))), ?_⟩
    refine ⟨_, rfl, d, rfl, _, rfl, ?_⟩
    cases q2 : okDeputy d with
    | false => exact iteT ⟨(by show 1 ≤ sizeLine; decide), fun p hp => q.ret (if_pos q2) rfl OL hp⟩
    | true =>
      have n1 : ¬ okDeputy d = false := by rw [q2]; decide
      refine iteF ⟨_, rfl, _, rfl, F0, ad .off, o, k, rfl, OL, _, rfl, ?_⟩
      by_cases q1 : k < o.people.length
      · rw [decide_eq_true q1]
        refine iteF ?_
        have hp : H (ad (.pers k)) = some (.ins c.per (dx (.pers k)) (perF (o.person k).land (o.person k).deputy (ad (.lvs k)))) := L.ct (.pers k) q1
        refine ⟨_, rfl, _, rfl, _, _, _, _, _, rfl, hO, T.cO, T.oP, offF_ppl _ _ _ _ _, _, rfl, _, _, _, _, rfl, rfl, SqL.of hP, refs_at q1, _, _, _, _, rfl, hp, T.cP, T.pD, (by show 3 < 1000; decide), ?_⟩
        rw [perF_putD]
        exact ⟨(by show 1 ≤ sizeLine; decide), fun p hp => q.ret ((if_neg n1).trans (if_neg (by omega))) rfl ⟨ad, dx, rfl, lay_deputy L q1⟩ hp⟩
      · rw [decide_eq_false q1]
        exact iteT ⟨(by show 1 ≤ sizeLine; decide), fun p hp => q.ret ((if_neg n1).trans (if_pos (by omega))) rfl OL hp⟩
/-! ### ask_away -/
theorem sc46 : FnScope ["office", "person", "first", "last"] ["office", "person", "first", "last"] (defScope (top 46)) := ⟨rfl, rfl, rfl, by decide +kernel, rfl, by decide +kernel, by decide +kernel⟩
theorem ok_ask_away (F : Fun K "ask_away" "ask_away" (top 46) f fd) (T : Txt K mg c) (cP : Cal P w K mg base 1 "is_person" (spIsPerson c)) : FnOk P w K mg base CX0 2 f fd ["office", "person", "first", "last"] (spAsk3 c .away) := by
  refine F.ok sc46 (fun vs H Q E h => ?_) (fun cdv A outer s H vs Q E hr h => ?_)
  · obtain ⟨_, _, _, _, _, _, rfl, _⟩ := h
    rfl
  · obtain ⟨F0, _, o, k, a, b, rfl, ⟨ad, dx, rfl, L⟩, g, q⟩ := h
    have hO : H (ad .off) = some (.ins c.off (dx .off) (offF (ad .weeks) (ad .hols) (ad .ppl) (ad .lets) o.today)) := L.ct .off trivial
    have hP : H (ad .ppl) = some (.lst (refs (fun k => ad (.pers k)) o.people.length)) := L.ct .ppl trivial
    have OL : OffAt c F0 H (ad .off) o := ⟨ad, dx, rfl, L⟩
    refine ⟨_, pss_cons (ps_if (PW.pt (pw_or (pt_cmpR op_gt (pv 3) (pe_gi T.gLAST) (nomark _)) (pw_or1 (pt_cmpR op_lt (pv 3) (pv 2) (nomark _))))) (pss_one (ps_ret (pe_lst (pa_cons (pe_gi T.gBAD) pa_nil)))) pss_nil)
      (pss_cons (ps_if (pt_not (pt_val (pe_cl cP hr (by decide) (pa_cons (pv 0) (pa_cons (pv 1) pa_nil))))) (pss_one (ps_ret (pe_lst (pa_cons (pe_gi T.gNOT) pa_nil)))) pss_nil)
      (pss_cons (ps_if (pt_cmpR op_ge (pe_callB call_len_seq (by rfl) T.blen PySem.boot_len (pa_cons (pe_fld (pe_ix ix_list (pe_fld (pv 0) rfl) (pv 1) (fun _ _ => rfl)) rfl) pa_nil)) (pe_gi T.gLVS) (nomark _)) (pss_one (ps_ret (pe_lst (pa_cons (pe_gi T.gFULL) pa_nil)))) pss_nil)
      (pss_cons (ps_expr (pe_bm PySem.F.plainAttrs_list PySem.F.slot_list_append PySem.F.type_list_append mt_append (pe_fld (pe_ix ix_list (pe_fld (pv 0) rfl) (pv 1) (fun _ _ => rfl)) rfl) (pa_cons (pe_tup (pa_cons (pv 2) (pa_cons (pv 3) pa_nil))) pa_nil)))
      (pss_one (ps_ret (pe_lst (pa_cons pe_int pa_nil))))))), ?_⟩
    refine ⟨_, rfl, _, _, rfl, rfl, _, rfl, ?_⟩
    have last : Km358.LAST = 36500 := rfl
    by_cases q1 : (36500 : Int) < ((b : Nat) : Int)
    · rw [decide_eq_true q1]
      exact iteT (iteT ⟨(by show 1 ≤ sizeLine; decide), fun p hp => q.ret (if_pos (.inl (by omega))) rfl OL hp⟩)
    · rw [decide_eq_false q1]
      refine iteF ⟨_, rfl, _, rfl, _, _, rfl, rfl, _, rfl, ?_⟩
      by_cases q2 : ((b : Nat) : Int) < ((a : Nat) : Int)
      · rw [decide_eq_true q2]
        exact iteT ⟨(by show 1 ≤ sizeLine; decide), fun p hp => q.ret (if_pos (.inr (by omega))) rfl OL hp⟩
      · rw [decide_eq_false q2]
        have n1 : ¬ (Km358.LAST < b ∨ b < a) := by omega
        refine iteF ⟨_, rfl, _, rfl, F0, ad .off, o, k, rfl, OL, _, rfl, ?_⟩
        by_cases q3 : k < o.people.length
        · rw [decide_eq_true q3]
          refine iteF ?_
          have n2 : ¬ o.people.length ≤ k := by omega
          have hp : H (ad (.pers k)) = some (.ins c.per (dx (.pers k)) (perF (o.person k).land (o.person k).deputy (ad (.lvs k)))) := L.ct (.pers k) q3
          have hv : H (ad (.lvs k)) = some (.lst (refs (fun j => ad (.leave k j)) (o.person k).away.length)) := L.ct (.lvs k) q3
          refine ⟨_, rfl, _, _, _, _, _, rfl, hO, T.cO, T.oP, offF_ppl _ _ _ _ _, _, rfl, _, _, _, _, rfl, rfl, SqL.of hP, refs_at q3, _, _, _, _, _, rfl, hp, T.cP, T.pV, perF_lvs _ _ _, _, _, rfl, .inl (SqL.of hv), _, _, rfl, rfl, _, rfl, ?_⟩
          rw [refs_len]
          by_cases q4 : (8 : Int) ≤ (((o.person k).away.length : Nat) : Int)
          · rw [decide_eq_true q4]
            exact iteT ⟨(by show 1 ≤ sizeLine; decide), fun p hp => q.ret ((if_neg n1).trans ((if_neg n2).trans (if_pos (by show 8 ≤ (o.person k).away.length; omega)))) rfl OL hp⟩
          · rw [decide_eq_false q4]
            refine iteF ?_
            refine ⟨_, rfl, _, _, _, _, _, rfl, hO, T.cO, T.oP, offF_ppl _ _ _ _ _, _, rfl, _, _, _, _, rfl, rfl, SqL.of hP, refs_at q3, _, _, _, _, _, rfl, hp, T.cP, T.pV, perF_lvs _ _ _, .inl ⟨rfl, _, SqL.of hv⟩, ?_⟩
            refine ⟨_, rfl, _, rfl, (by show 2 ≤ sizeLine; decide), fun t ht => ?_⟩
            have nvt : ad (.lvs k) ≠ t := ne_of_none hv ht
            refine ⟨_, _, _, rfl, rfl, (upd_ne nvt).trans hv, ?_, ?_⟩
            · rw [refs_len, sizeLine_eq]
              omega
            refine ⟨(by show 1 ≤ sizeLine; decide), fun p hp => q.ret ((if_neg n1).trans ((if_neg n2).trans (if_neg (by show ¬ 8 ≤ (o.person k).away.length; omega)))) rfl
              ⟨_, _, ?_, lay_away L q3 ht (fun z u e nz => (upd_ne nz).trans ((upd_ne (ne_of_none e ht)).trans e)) ((upd_ne nvt.symm).trans upd_same) upd_same⟩ hp⟩
            rw [setR_ne (fun z => by cases z)]
        · rw [decide_eq_false q3]
          exact iteT ⟨(by show 1 ≤ sizeLine; decide), fun p hp => q.ret ((if_neg n1).trans (if_pos (by omega))) rfl OL hp⟩
/-! ### ask_letter -/
theorem sc47 : FnScope ["office", "to", "term"] ["office", "to", "term"] (defScope (top 47)) := ⟨rfl, rfl, rfl, by decide +kernel, rfl, by decide +kernel, by decide +kernel⟩
theorem ok_ask_letter (F : Fun K "ask_letter" "ask_letter" (top 47) f fd) (T : Txt K mg c) (cP : Cal P w K mg base 1 "is_person" (spIsPerson c)) (cM : Mak P w K mg base 1 "Letter" c.let' (spLetter c)) : FnOk P w K mg base CX0 3 f fd ["office", "to", "term"] (spAsk2 c .letter) := by
  refine F.ok sc47 (fun vs H Q E h => ?_) (fun cdv A outer s H vs Q E hr h => ?_)
  · obtain ⟨_, _, _, _, _, rfl, _⟩ := h
    rfl
  · obtain ⟨F0, _, o, k, t, rfl, ⟨ad, dx, rfl, L⟩, g, q⟩ := h
    have hO : H (ad .off) = some (.ins c.off (dx .off) (offF (ad .weeks) (ad .hols) (ad .ppl) (ad .lets) o.today)) := L.ct .off trivial
    have hl : H (ad .lets) = some (.lst (refs (fun k => ad (.letr k)) o.letters.length)) := L.ct .lets trivial
    have OL : OffAt c F0 H (ad .off) o := ⟨ad, dx, rfl, L⟩
    refine ⟨_, pss_cons (ps_if (pt_not (pt_chain op_le op_le pe_int (pv 2) (pe_gi T.gTERM))) (pss_one (ps_ret (pe_lst (pa_cons (pe_gi T.gBAD) pa_nil)))) pss_nil)
      (pss_cons (ps_if (pt_not (pt_val (pe_cl cP hr (by decide) (pa_cons (pv 0) (pa_cons (pv 1) pa_nil))))) (pss_one (ps_ret (pe_lst (pa_cons (pe_gi T.gNOT) pa_nil)))) pss_nil)
      (pss_cons (ps_if (pt_cmpR op_ge (pe_callB call_len_seq (by rfl) T.blen PySem.boot_len (pa_cons (pe_fld (pv 0) rfl) pa_nil)) (pe_gi T.gLETS) (nomark _)) (pss_one (ps_ret (pe_lst (pa_cons (pe_gi T.gFULL) pa_nil)))) pss_nil)
      (pss_cons (ps_expr (pe_bm PySem.F.plainAttrs_list PySem.F.slot_list_append PySem.F.type_list_append mt_append (pe_fld (pv 0) rfl) (pa_cons (pe_mk cM hr (by decide) (pa_cons (pv 1) (pa_cons (pe_fld (pv 0) rfl) (pa_cons (pv 2) pa_nil)))) pa_nil)))
      (pss_one (ps_ret (pe_lst (pa_cons (pe_op op_sub (pe_callB call_len_seq (by rfl) T.blen PySem.boot_len (pa_cons (pe_fld (pv 0) rfl) pa_nil)) pe_int) pa_nil))))))), ?_⟩
    refine ⟨_, rfl, _, _, rfl, rfl, _, rfl, ?_⟩
    have bt : Km358.TERM = 250 := rfl
    have bad : (t = 0 ∨ Km358.TERM < t) → act o (.letter k t) = (o, only (-22)) := fun h => if_pos h
    by_cases q1 : (1 : Int) ≤ ((t : Nat) : Int)
    · rw [decide_eq_true q1]
      refine iteT ⟨_, _, rfl, rfl, _, rfl, ?_⟩
      by_cases q2 : ((t : Nat) : Int) ≤ 250
      · rw [decide_eq_true q2]
        have n1 : ¬ (t = 0 ∨ Km358.TERM < t) := by omega
        refine iteF ⟨_, rfl, _, rfl, F0, ad .off, o, k, rfl, OL, _, rfl, ?_⟩
        by_cases q3 : k < o.people.length
        · rw [decide_eq_true q3]
          have n2 : ¬ o.people.length ≤ k := by omega
          refine iteF ?_
          refine ⟨_, rfl, _, _, _, _, _, rfl, hO, T.cO, T.oL, offF_lets _ _ _ _ _, _, _, rfl, .inl (SqL.of hl), _, _, rfl, rfl, _, rfl, ?_⟩
          rw [refs_len]
          by_cases q4 : (64 : Int) ≤ ((o.letters.length : Nat) : Int)
          · rw [decide_eq_true q4]
            exact iteT ⟨(by show 1 ≤ sizeLine; decide), fun p hp => q.ret ((if_neg n1).trans ((if_neg n2).trans (if_pos (by show 64 ≤ o.letters.length; omega)))) rfl OL hp⟩
          · rw [decide_eq_false q4]
            refine iteF ?_
            refine ⟨_, rfl, _, _, _, _, _, rfl, hO, T.cO, T.oL, offF_lets _ _ _ _ _, .inl ⟨rfl, _, SqL.of hl⟩, _, rfl, _, rfl, _, _, _, _, _, rfl, hO, T.cO, T.oT, offF_today _ _ _ _ _, _, rfl, ?_⟩
            intro x d0 nx nd ne
            refine ⟨x, d0, k, o.today, t, rfl, upd_same, fun H1 hx keep => ⟨rfl, ?_⟩⟩
            have k1 : ∀ b u, H b = some u → H1 b = some u := fun b u e => keep b u (by rw [upd_ne (ne_of_none e nx), upd_ne (ne_of_none e nd)]; exact e) (ne_of_none e nx)
            have hl1 := k1 _ _ hl
            have hO1 := k1 _ _ hO
            refine ⟨_, _, _, rfl, rfl, hl1, ?_, ?_⟩
            · rw [refs_len, sizeLine_eq]
              omega
            have nO : ad .off ≠ ad .lets := fun z => by cases L.inj .off .lets trivial trivial z
            have nxP : x ≠ ad .lets := (ne_of_none hl nx).symm
            refine ⟨_, rfl, _, _, _, _, _, rfl, (upd_ne nO).trans hO1, T.cO, T.oL, offF_lets _ _ _ _ _, _, _, rfl, .inl (SqL.of upd_same), _, _, rfl, rfl, (by show 1 ≤ sizeLine; decide), fun p hp => ?_⟩
            refine q.ret ((if_neg n1).trans ((if_neg n2).trans (if_neg (by show ¬ 64 ≤ o.letters.length; omega)))) ?_ ⟨_, _, ?_, lay_letter L nx (fun b u e nb => (upd_ne nb).trans (k1 b u e)) ((upd_ne nxP).trans hx) upd_same⟩ hp
            · rw [List.length_append, refs_len, List.length_singleton]
              show [V.int ((o.letters.length : Nat) : Int)] = [V.int (((o.letters.length + 1 : Nat) : Int) - 1)]
              rw [show ((o.letters.length + 1 : Nat) : Int) - 1 = ((o.letters.length : Nat) : Int) by omega]
            · rw [setR_ne (fun z => by cases z)]
        · rw [decide_eq_false q3]
          exact iteT ⟨(by show 1 ≤ sizeLine; decide), fun p hp => q.ret ((if_neg n1).trans (if_pos (by omega))) rfl OL hp⟩
      · rw [decide_eq_false q2]
        exact iteT ⟨(by show 1 ≤ sizeLine; decide), fun p hp => q.ret (bad (by omega)) rfl OL hp⟩
    · rw [decide_eq_false q1]
      exact iteF ⟨_, rfl, iteT ⟨(by show 1 ≤ sizeLine; decide), fun p hp => q.ret (bad (by omega)) rfl OL hp⟩⟩
end
end Ad

/-! asking, the calls 6 to 11. -/
namespace Ad
open PySem L2
open Km358 (Office Land Person Letter act only okWeeks okDeputy)
open Km358Neutral (told)

/-! ### what the specification says -/
theorem act_answer0 {o : Office} {i : Nat} (h : ¬ i < o.letters.length) : act o (.answer i) = (o, only (-2)) := by
  unfold act
  dsimp only
  rw [List.getElem?_eq_none (by omega)]
theorem act_answer1 {o : Office} {i : Nat} (h : i < o.letters.length) (ho : Km358.isOpen (lett o i) = false) : act o (.answer i) = (o, only (-17)) := by
  unfold act
  dsimp only
  rw [lett_get h]
  exact if_pos ho
theorem act_answer2 {o : Office} {i : Nat} (h : i < o.letters.length) (ho : Km358.isOpen (lett o i) = true) :
    act o (.answer i) = ({ o with letters := o.letters.set i ⟨(lett o i).to, (lett o i).came, (lett o i).term, some o.today⟩ }, only (if o.isLate (lett o i) = true then 1 else 0)) := by
  unfold act
  dsimp only
  rw [lett_get h]
  exact if_neg (by rw [ho]; decide)
theorem act_holder0 {o : Office} {i : Nat} (h : ¬ i < o.letters.length) : act o (.holder i) = (o, only (-2)) := by
  unfold act
  dsimp only
  rw [List.getElem?_eq_none (by omega)]
theorem act_holder1 {o : Office} {i : Nat} (h : i < o.letters.length) (ho : Km358.isOpen (lett o i) = false) : act o (.holder i) = (o, only (-17)) := by
  unfold act
  dsimp only
  rw [lett_get h]
  exact congrArg (Prod.mk o) (if_pos ho)
theorem act_holder2 {o : Office} {i : Nat} (h : i < o.letters.length) (ho : Km358.isOpen (lett o i) = true) (hn : o.holder (lett o i) o.today = none) : act o (.holder i) = (o, only (-61)) := by
  unfold act
  dsimp only
  rw [lett_get h]
  dsimp only
  rw [if_neg (by rw [ho]; decide), hn]
theorem act_holder3 {o : Office} {i k : Nat} (h : i < o.letters.length) (ho : Km358.isOpen (lett o i) = true) (hn : o.holder (lett o i) o.today = some k) : act o (.holder i) = (o, only ((k : Nat) : Int)) := by
  unfold act
  dsimp only
  rw [lett_get h]
  dsimp only
  rw [if_neg (by rw [ho]; decide), hn]
theorem act_due0 {o : Office} {i : Nat} (h : ¬ i < o.letters.length) : act o (.due i) = (o, only (-2)) := by
  unfold act
  dsimp only
  rw [List.getElem?_eq_none (by omega)]
theorem act_due1 {o : Office} {i D : Nat} (h : i < o.letters.length) (hd : o.due (lett o i) = some D) : act o (.due i) = (o, only ((D : Nat) : Int)) := by
  unfold act
  dsimp only
  rw [lett_get h]
  dsimp only
  rw [hd]

section
variable {P : Program} {w : World} {K : PySem.W.Frag} {mg : Str → Option Value} {base : Heap} {c : Cs} {f : Addr} {fd : FuncData}
/-! ### ask_answer -/
theorem sc48 : FnScope ["office", "number", "letter", "was_late"] ["office", "number"] (defScope (top 48)) := ⟨rfl, rfl, rfl, by decide +kernel, rfl, by decide +kernel, by decide +kernel⟩
theorem ok_ask_answer (F : Fun K "ask_answer" "ask_answer" (top 48) f fd) (T : Txt K mg c) (cI : Cal P w K mg base 1 "is_letter" (spIsLetter c)) (cL : Cal P w K mg base 5 "is_late" (spIsLate c)) : FnOk P w K mg base CX0 6 f fd ["office", "number"] (spAsk1 c .answer) := by
  refine F.ok sc48 (fun vs H Q E h => ?_) (fun cdv A outer s H vs Q E hr h => ?_)
  · obtain ⟨_, _, _, _, rfl, _⟩ := h
    rfl
  · obtain ⟨F0, _, o, i, rfl, ⟨ad, dx, rfl, L⟩, g, q⟩ := h
    have hO : H (ad .off) = some (.ins c.off (dx .off) (offF (ad .weeks) (ad .hols) (ad .ppl) (ad .lets) o.today)) := L.ct .off trivial
    have hl : H (ad .lets) = some (.lst (refs (fun k => ad (.letr k)) o.letters.length)) := L.ct .lets trivial
    have OL : OffAt c F0 H (ad .off) o := ⟨ad, dx, rfl, L⟩
    refine ⟨_, pss_cons (ps_if (pt_not (pt_val (pe_cl cI hr (by decide) (pa_cons (pv 0) (pa_cons (pv 1) pa_nil))))) (pss_one (ps_ret (pe_lst (pa_cons (pe_gi T.gNOT) pa_nil)))) pss_nil)
      (pss_cons (ps_set (i := 2) sc48.nd rfl (Or.inl rfl) (pe_ix ix_list (pe_fld (pv 0) rfl) (pv 1) (fun _ _ => rfl)))
      (pss_cons (ps_if (pt_not (pt_val (pe_fld (pv 2) rfl))) (pss_one (ps_ret (pe_lst (pa_cons (pe_gi T.gIS) pa_nil)))) pss_nil)
      (pss_cons (ps_set (i := 3) sc48.nd rfl (Or.inl rfl) (pe_cl cL hr (by decide) (pa_cons (pv 0) (pa_cons (pv 2) pa_nil))))
      (pss_cons (ps_fld (pv 2) pe_bl rfl)
      (pss_one (ps_ret (pe_lst (pa_cons (pe_callTy call_int1 (by rfl) T.bint (by decide +kernel) (pa_cons (pv 3) pa_nil)) pa_nil)))))))), ?_⟩
    refine ⟨_, rfl, _, rfl, F0, ad .off, o, i, rfl, OL, _, rfl, ?_⟩
    by_cases q1 : i < o.letters.length
    · rw [decide_eq_true q1]
      refine iteF ?_
      have hx : H (ad (.letr i)) = some (.ins c.let' (dx (.letr i)) (letF (lett o i))) := L.ct (.letr i) q1
      refine ⟨_, rfl, _, _, _, _, _, rfl, hO, T.cO, T.oL, offF_lets _ _ _ _ _, _, rfl, _, _, _, _, rfl, rfl, SqL.of hl, refs_at q1, ?_⟩
      refine ⟨_, rfl, _, _, _, _, _, rfl, hx, T.cL, T.lO, letF_open _, _, rfl, ?_⟩
      cases q2 : Km358.isOpen (lett o i) with
      | false => exact iteT ⟨(by show 1 ≤ sizeLine; decide), fun p hp => q.ret (act_answer1 q1 q2) rfl OL hp⟩
      | true =>
        refine iteF ⟨_, rfl, _, rfl, F0, ad, dx, o, i, rfl, L, g, q1, fun H1 s1 => ?_⟩
        refine ⟨_, rfl, _, _, _, _, rfl, s1 _ _ hx, T.cL, T.lO, (by show 4 < 1000; decide), ?_⟩
        rw [letF_close _ o.today]
        refine ⟨_, rfl, .inr ⟨_, rfl, (by show 1 ≤ sizeLine; decide), fun p hp => ?_⟩⟩
        refine q.ret (act_answer2 q1 q2) ?_ ⟨ad, dx, rfl, lay_answer (L.mono s1) q1 _⟩ hp
        cases o.isLate (lett o i) <;> rfl
    · rw [decide_eq_false q1]
      exact iteT ⟨(by show 1 ≤ sizeLine; decide), fun p hp => q.ret (act_answer0 q1) rfl OL hp⟩
/-! ### ask_day -/
theorem sc49 : FnScope ["office", "day"] ["office", "day"] (defScope (top 49)) := ⟨rfl, rfl, rfl, by decide +kernel, rfl, by decide +kernel, by decide +kernel⟩
theorem ok_ask_day (F : Fun K "ask_day" "ask_day" (top 49) f fd) (T : Txt K mg c) (cL : Cal P w K mg base 6 "late_ones" (spLateOnes c)) : FnOk P w K mg base CX0 7 f fd ["office", "day"] (spAsk1 c .day) := by
  refine F.ok sc49 (fun vs H Q E h => ?_) (fun cdv A outer s H vs Q E hr h => ?_)
  · obtain ⟨_, _, _, _, rfl, _⟩ := h
    rfl
  · obtain ⟨F0, _, o, d, rfl, ⟨ad, dx, rfl, L⟩, g, q⟩ := h
    have hO : H (ad .off) = some (.ins c.off (dx .off) (offF (ad .weeks) (ad .hols) (ad .ppl) (ad .lets) o.today)) := L.ct .off trivial
    have OL : OffAt c F0 H (ad .off) o := ⟨ad, dx, rfl, L⟩
    refine ⟨_, pss_cons (ps_if (pt_cmpR op_gt (pv 1) (pe_gi T.gLAST) (nomark _)) (pss_one (ps_ret (pe_lst (pa_cons (pe_gi T.gBAD) pa_nil)))) pss_nil)
      (pss_cons (ps_if (pt_cmpR op_lt (pv 1) (pe_fld (pv 0) rfl) (nomark _)) (pss_one (ps_ret (pe_lst (pa_cons (pe_gi T.gBEF) pa_nil)))) pss_nil)
      (pss_cons (ps_fld (pv 0) (pv 1) rfl)
      (pss_one (ps_ret (pe_lst (pa_cons (pe_callB call_len_seq (by rfl) T.blen PySem.boot_len (pa_cons (pe_cl cL hr (by decide) (pa_cons (pv 0) pa_nil)) pa_nil)) pa_nil)))))), ?_⟩
    have last : Km358.LAST = 36500 := rfl
    refine ⟨_, rfl, _, _, rfl, rfl, _, rfl, ?_⟩
    by_cases q1 : (36500 : Int) < ((d : Nat) : Int)
    · rw [decide_eq_true q1]
      exact iteT ⟨(by show 1 ≤ sizeLine; decide), fun p hp => q.ret (if_pos (by omega)) rfl OL hp⟩
    · rw [decide_eq_false q1]
      have n1 : ¬ Km358.LAST < d := by omega
      refine iteF ⟨_, rfl, _, rfl, _, _, _, _, _, rfl, hO, T.cO, T.oT, offF_today _ _ _ _ _, _, _, rfl, rfl, _, rfl, ?_⟩
      by_cases q2 : ((d : Nat) : Int) < ((o.today : Nat) : Int)
      · rw [decide_eq_true q2]
        exact iteT ⟨(by show 1 ≤ sizeLine; decide), fun p hp => q.ret ((if_neg n1).trans (if_pos (by omega))) rfl OL hp⟩
      · rw [decide_eq_false q2]
        have n2 : ¬ d < o.today := by omega
        refine iteF ⟨_, rfl, _, rfl, _, _, _, _, rfl, hO, T.cO, T.oT, (by show 5 < 1000; decide), ?_⟩
        rw [offF_day]
        have L1 := lay_day L d
        have g1 : Good { o with today := d } := g.today (by omega) (by omega)
        refine ⟨_, rfl, F0, ad, dx, { o with today := d }, rfl, L1, g1, fun H1 t s1 ht hL => ?_⟩
        refine ⟨t, _, rfl, .inl (SqL.of hL), (by show 1 ≤ sizeLine; decide), fun p hp => ?_⟩
        refine q.ret ((if_neg n1).trans (if_neg n2)) ?_ ⟨ad, dx, rfl, L1.mono s1⟩ hp
        rw [numsV_len, idx_len]
        rfl
/-! ### ask_holder -/
theorem sc50 : FnScope ["office", "number", "letter", "found"] ["office", "number"] (defScope (top 50)) := ⟨rfl, rfl, rfl, by decide +kernel, rfl, by decide +kernel, by decide +kernel⟩
theorem ok_ask_holder (F : Fun K "ask_holder" "ask_holder" (top 50) f fd) (T : Txt K mg c) (cI : Cal P w K mg base 1 "is_letter" (spIsLetter c)) (cH : Cal P w K mg base 4 "holder" (spHolder c)) : FnOk P w K mg base CX0 5 f fd ["office", "number"] (spAsk1 c .holder) := by
  refine F.ok sc50 (fun vs H Q E h => ?_) (fun cdv A outer s H vs Q E hr h => ?_)
  · obtain ⟨_, _, _, _, rfl, _⟩ := h
    rfl
  · obtain ⟨F0, _, o, i, rfl, ⟨ad, dx, rfl, L⟩, g, q⟩ := h
    have hO : H (ad .off) = some (.ins c.off (dx .off) (offF (ad .weeks) (ad .hols) (ad .ppl) (ad .lets) o.today)) := L.ct .off trivial
    have hl : H (ad .lets) = some (.lst (refs (fun k => ad (.letr k)) o.letters.length)) := L.ct .lets trivial
    have OL : OffAt c F0 H (ad .off) o := ⟨ad, dx, rfl, L⟩
    refine ⟨_, pss_cons (ps_if (pt_not (pt_val (pe_cl cI hr (by decide) (pa_cons (pv 0) (pa_cons (pv 1) pa_nil))))) (pss_one (ps_ret (pe_lst (pa_cons (pe_gi T.gNOT) pa_nil)))) pss_nil)
      (pss_cons (ps_set (i := 2) sc50.nd rfl (Or.inl rfl) (pe_ix ix_list (pe_fld (pv 0) rfl) (pv 1) (fun _ _ => rfl)))
      (pss_cons (ps_if (pt_not (pt_val (pe_fld (pv 2) rfl))) (pss_one (ps_ret (pe_lst (pa_cons (pe_gi T.gIS) pa_nil)))) pss_nil)
      (pss_cons (ps_set (i := 3) sc50.nd rfl (Or.inl rfl) (pe_cl cH hr (by decide) (pa_cons (pv 0) (pa_cons (pv 2) pa_nil))))
      (pss_cons (ps_if (pt_cmpR op_eq (pv 3) (pe_gi T.gNOBODY) (nomark _)) (pss_one (ps_ret (pe_lst (pa_cons (pe_gi T.gWAITS) pa_nil)))) pss_nil)
      (pss_one (ps_ret (pe_lst (pa_cons (pv 3) pa_nil)))))))), ?_⟩
    refine ⟨_, rfl, _, rfl, F0, ad .off, o, i, rfl, OL, _, rfl, ?_⟩
    by_cases q1 : i < o.letters.length
    · rw [decide_eq_true q1]
      refine iteF ?_
      have hx : H (ad (.letr i)) = some (.ins c.let' (dx (.letr i)) (letF (lett o i))) := L.ct (.letr i) q1
      refine ⟨_, rfl, _, _, _, _, _, rfl, hO, T.cO, T.oL, offF_lets _ _ _ _ _, _, rfl, _, _, _, _, rfl, rfl, SqL.of hl, refs_at q1, ?_⟩
      refine ⟨_, rfl, _, _, _, _, _, rfl, hx, T.cL, T.lO, letF_open _, _, rfl, ?_⟩
      cases q2 : Km358.isOpen (lett o i) with
      | false => exact iteT ⟨(by show 1 ≤ sizeLine; decide), fun p hp => q.ret (act_holder1 q1 q2) rfl OL hp⟩
      | true =>
        refine iteF ⟨_, rfl, _, rfl, F0, ad, dx, o, i, rfl, L, g, q1, fun H1 s1 => ?_⟩
        refine ⟨_, rfl, rfl, _, rfl, ?_⟩
        cases q3 : o.holder (lett o i) o.today with
        | none =>
          rw [decide_eq_true (show V.int (numOf none) = V.int (-1) from rfl)]
          exact iteT ⟨(by show 1 ≤ sizeLine; decide), fun p hp => q.ret (act_holder2 q1 q2 q3) rfl (OL.mono s1) hp⟩
        | some k =>
          rw [decide_eq_false (show ¬ V.int (numOf (some k)) = V.int (-1) from fun z => by have : ((k : Nat) : Int) = -1 := V.int.inj z; omega)]
          exact iteF ⟨_, rfl, (by show 1 ≤ sizeLine; decide), fun p hp => q.ret (act_holder3 q1 q2 q3) rfl (OL.mono s1) hp⟩
    · rw [decide_eq_false q1]
      exact iteT ⟨(by show 1 ≤ sizeLine; decide), fun p hp => q.ret (act_holder0 q1) rfl OL hp⟩
/-! ### ask_due -/
theorem sc51 : FnScope ["office", "number"] ["office", "number"] (defScope (top 51)) := ⟨rfl, rfl, rfl, by decide +kernel, rfl, by decide +kernel, by decide +kernel⟩
theorem ok_ask_due (F : Fun K "ask_due" "ask_due" (top 51) f fd) (T : Txt K mg c) (cI : Cal P w K mg base 1 "is_letter" (spIsLetter c)) (cD : Cal P w K mg base 4 "due_day" (spDue c)) : FnOk P w K mg base CX0 5 f fd ["office", "number"] (spAsk1 c .due) := by
  refine F.ok sc51 (fun vs H Q E h => ?_) (fun cdv A outer s H vs Q E hr h => ?_)
  · obtain ⟨_, _, _, _, rfl, _⟩ := h
    rfl
  · obtain ⟨F0, _, o, i, rfl, ⟨ad, dx, rfl, L⟩, g, q⟩ := h
    have hO : H (ad .off) = some (.ins c.off (dx .off) (offF (ad .weeks) (ad .hols) (ad .ppl) (ad .lets) o.today)) := L.ct .off trivial
    have hl : H (ad .lets) = some (.lst (refs (fun k => ad (.letr k)) o.letters.length)) := L.ct .lets trivial
    have OL : OffAt c F0 H (ad .off) o := ⟨ad, dx, rfl, L⟩
    refine ⟨_, pss_cons (ps_if (pt_not (pt_val (pe_cl cI hr (by decide) (pa_cons (pv 0) (pa_cons (pv 1) pa_nil))))) (pss_one (ps_ret (pe_lst (pa_cons (pe_gi T.gNOT) pa_nil)))) pss_nil)
      (pss_one (ps_ret (pe_lst (pa_cons (pe_cl cD hr (by decide) (pa_cons (pv 0) (pa_cons (pe_ix ix_list (pe_fld (pv 0) rfl) (pv 1) (fun _ _ => rfl)) pa_nil))) pa_nil)))), ?_⟩
    refine ⟨_, rfl, _, rfl, F0, ad .off, o, i, rfl, OL, _, rfl, ?_⟩
    by_cases q1 : i < o.letters.length
    · rw [decide_eq_true q1]
      obtain ⟨D, hD, _⟩ := g.due_some (lett_mem q1)
      refine iteF ⟨_, rfl, _, rfl, _, _, _, _, _, rfl, hO, T.cO, T.oL, offF_lets _ _ _ _ _, _, rfl, _, _, _, _, rfl, rfl, SqL.of hl, refs_at q1, ?_⟩
      exact ⟨F0, ad, dx, o, i, D, rfl, L, g, q1, hD, fun H1 s1 => ⟨(by show 1 ≤ sizeLine; decide), fun p hp => q.ret (act_due1 q1 hD) rfl (OL.mono s1) hp⟩⟩
    · rw [decide_eq_false q1]
      exact iteT ⟨(by show 1 ≤ sizeLine; decide), fun p hp => q.ret (act_due0 q1) rfl OL hp⟩
/-! ### ask_list -/
theorem sc52 : FnScope ["office", "person", "numbers"] ["office", "person"] (defScope (top 52)) := ⟨rfl, rfl, rfl, by decide +kernel, rfl, by decide +kernel, by decide +kernel⟩
theorem ok_ask_list (F : Fun K "ask_list" "ask_list" (top 52) f fd) (T : Txt K mg c) (cP : Cal P w K mg base 1 "is_person" (spIsPerson c)) (cH : Cal P w K mg base 5 "held_by" (spHeldBy c)) (cB : Cal P w K mg base 1 "bits_of" (spBitsOf K)) : FnOk P w K mg base CX0 6 f fd ["office", "person"] (spAsk1 c .list) := by
  refine F.ok sc52 (fun vs H Q E h => ?_) (fun cdv A outer s H vs Q E hr h => ?_)
  · obtain ⟨_, _, _, _, rfl, _⟩ := h
    rfl
  · obtain ⟨F0, _, o, k, rfl, ⟨ad, dx, rfl, L⟩, g, q⟩ := h
    have OL : OffAt c F0 H (ad .off) o := ⟨ad, dx, rfl, L⟩
    refine ⟨_, pss_cons (ps_if (pt_not (pt_val (pe_cl cP hr (by decide) (pa_cons (pv 0) (pa_cons (pv 1) pa_nil))))) (pss_one (ps_ret (pe_lst (pa_cons (pe_gi T.gNOT) pa_nil)))) pss_nil)
      (pss_cons (ps_set (i := 2) sc52.nd rfl (Or.inl rfl) (pe_cl cH hr (by decide) (pa_cons (pv 0) (pa_cons (pv 1) pa_nil))))
      (pss_one (ps_ret (pe_lst (pa_cons (pe_callB call_len_seq (by rfl) T.blen PySem.boot_len (pa_cons (pv 2) pa_nil)) (pa_cons (pe_cl cB hr (by decide) (pa_cons (pv 2) pa_nil)) pa_nil)))))), ?_⟩
    refine ⟨_, rfl, _, rfl, F0, ad .off, o, k, rfl, OL, _, rfl, ?_⟩
    by_cases q1 : k < o.people.length
    · rw [decide_eq_true q1]
      refine iteF ⟨_, rfl, _, rfl, F0, ad, dx, o, _, rfl, L, g, fun H1 t s1 ht hL => ?_⟩
      refine ⟨_, rfl, t, _, rfl, .inl (SqL.of hL), _, rfl, t, _, _, rfl, SqL.of hL, g.t1, fun H2 s2 => ⟨(by show 2 ≤ sizeLine; decide), fun p hp => ?_⟩⟩
      have e : act o (.list k) = (o, ⟨(((o.letters.filter (o.has k)).length : Nat) : Int), [Km358.bits (o.has k) o.letters]⟩) := congrArg (Prod.mk o) (if_neg (by omega))
      refine q.ret e ?_ (OL.mono (s1.trans s2)) hp
      rw [numsV_len, idx_len, heldBy_has]
      rfl
    · rw [decide_eq_false q1]
      have e : act o (.list k) = (o, only (-2)) := congrArg (Prod.mk o) (if_pos (by omega))
      exact iteT ⟨(by show 1 ≤ sizeLine; decide), fun p hp => q.ret e rfl OL hp⟩
/-! ### ask_late -/
theorem sc53 : FnScope ["office", "numbers"] ["office"] (defScope (top 53)) := ⟨rfl, rfl, rfl, by decide +kernel, rfl, by decide +kernel, by decide +kernel⟩
theorem ok_ask_late (F : Fun K "ask_late" "ask_late" (top 53) f fd) (T : Txt K mg c) (cL : Cal P w K mg base 6 "late_ones" (spLateOnes c)) (cH : Cal P w K mg base 5 "held_by" (spHeldBy c)) (cB : Cal P w K mg base 1 "bits_of" (spBitsOf K)) : FnOk P w K mg base CX0 7 f fd ["office"] (spAsk0 c .late) := by
  refine F.ok sc53 (fun vs H Q E h => ?_) (fun cdv A outer s H vs Q E hr h => ?_)
  · obtain ⟨_, _, _, rfl, _⟩ := h
    rfl
  · obtain ⟨F0, _, o, rfl, ⟨ad, dx, rfl, L⟩, g, q⟩ := h
    have OL : OffAt c F0 H (ad .off) o := ⟨ad, dx, rfl, L⟩
    refine ⟨_, pss_cons (ps_set (i := 1) sc53.nd rfl (Or.inl rfl) (pe_cl cL hr (by decide) (pa_cons (pv 0) pa_nil)))
      (pss_one (ps_ret (pe_lst (pa_cons (pe_callB call_len_seq (by rfl) T.blen PySem.boot_len (pa_cons (pv 1) pa_nil)) (pa_cons (pe_cl cB hr (by decide) (pa_cons (pv 1) pa_nil)) (pa_cons (pe_cl cB hr (by decide) (pa_cons (pe_cl cH hr (by decide) (pa_cons (pv 0) (pa_cons (pe_gi T.gNOBODY) pa_nil))) pa_nil)) pa_nil)))))), ?_⟩
    refine ⟨_, rfl, F0, ad, dx, o, rfl, L, g, fun H1 t s1 ht hL => ?_⟩
    refine ⟨_, rfl, t, _, rfl, .inl (SqL.of hL), _, rfl, t, _, _, rfl, SqL.of hL, g.t1, fun H2 s2 => ?_⟩
    refine ⟨_, rfl, F0, ad, dx, o, _, rfl, L.mono (s1.trans s2), g, fun H3 t3 s3 ht3 hL3 => ?_⟩
    refine ⟨t3, _, _, rfl, SqL.of hL3, g.t1, fun H4 s4 => ⟨(by show 3 ≤ sizeLine; decide), fun p hp => ?_⟩⟩
    have e : act o .late = (o, ⟨(((o.letters.filter o.isLate).length : Nat) : Int), [Km358.bits o.isLate o.letters, Km358.bits o.waits o.letters]⟩) := rfl
    refine q.ret e ?_ (OL.mono (((s1.trans s2).trans s3).trans s4)) hp
    rw [numsV_len, idx_len, heldBy_waits]
    rfl
end
end Ad

/-! office: asked, started, answers. -/
namespace Ad
open PySem L2
open Km358 (Office Land Person Letter act only okWeeks okDeputy)
open Km358Neutral (told nats)

/-! ### the calls by naturals -/
def callN (p : Int) (ms : List Nat) : Km358.Call :=
  if p = 1 then .holiday (ms.getD 0 0) (ms.getD 1 0) else if p = 2 then .person (ms.getD 0 0) (ms.getD 1 0) else if p = 3 then .deputy (ms.getD 0 0) (ms.getD 1 0) else if p = 4 then .away (ms.getD 0 0) (ms.getD 1 0) (ms.getD 2 0) else if p = 5 then .letter (ms.getD 0 0) (ms.getD 1 0) else
  if p = 6 then .answer (ms.getD 0 0) else if p = 7 then .day (ms.getD 0 0) else if p = 8 then .holder (ms.getD 0 0) else if p = 9 then .due (ms.getD 0 0) else if p = 10 then .list (ms.getD 0 0) else .late
theorem getD_toNat (ns : List Int) (i : Nat) : (nats ns).getD i 0 = (ns.getD i 0).toNat := by
  unfold nats
  rw [List.getD_eq_getElem?_getD, List.getD_eq_getElem?_getD, List.getElem?_map]
  cases ns[i]? <;> rfl
theorem callN_is (p : Int) (ns : List Int) : callN p (nats ns) = callAt p ns := by
  unfold callN callAt
  rw [getD_toNat, getD_toNat, getD_toNat]
theorem nats_numsV : ∀ ns : List Int, (∀ z ∈ ns, 0 ≤ z) → numsV (nats ns) = ns.map V.int
  | [], _ => rfl
  | z :: r, h => by
    have ih := nats_numsV r fun y hy => h y (List.mem_cons_of_mem _ hy)
    have hz := h z (List.mem_cons_self ..)
    show V.int ((z.toNat : Nat) : Int) :: numsV (nats r) = V.int z :: r.map V.int
    rw [ih, Int.toNat_of_nonneg hz]
theorem nats_len (ns : List Int) : (nats ns).length = ns.length := List.length_map ..
theorem cut_nat {xs : List V} {i j : Nat} (h1 : i ≤ j) (h2 : j ≤ xs.length) : cutV xs (some (i : Int)) (some (j : Int)) = (xs.drop i).take (j - i) := by
  have e : ∀ k : Nat, k ≤ xs.length → ∀ d, HT.sIx xs.length d (some (k : Int)) = k := fun k hk d => by
    show (if ((k : Nat) : Int) < 0 then (((k : Nat) : Int) + (xs.length : Int)).toNat else min ((k : Nat) : Int).toNat xs.length) = k
    rw [if_neg (by omega), Int.toNat_natCast]
    exact Nat.min_eq_left hk
  unfold cutV
  rw [e i (by omega), e j h2]

/-! ### promises -/
def spAsked (c : Cs) (K : PySem.W.Frag) (lo hi : Int) : Sp := fun vs H Q _ => ∃ (F : Hp) (o : Addr) (s : Office) (p : Int) (a : Addr) (ms : List Nat), vs = [.ref o, .int p, .ref a] ∧ SqL K H a (numsV ms) ∧ OffAt c F H o s ∧ Good s ∧ lo ≤ p ∧ p ≤ hi ∧ ms.length = sizeOf' p ∧ Ans c F o s (callN p ms) Q
def spStarted (c : Cs) (K : PySem.W.Frag) : Sp := fun vs H Q _ => ∃ (F : Hp) (v : V) (a : Addr) (ws : List Nat), vs = [v, .ref a] ∧ Same F H ∧ SqL K H a (numsV ws) ∧
  (okWeeks ws ws.length = false → ∀ H' t q, Same H H' → F q = none → H' t = some (.tup [v, .ref q]) → H' q = some (.lst [.int (-22)]) → Q (.ref t) H') ∧
  (okWeeks ws ws.length = true → ∀ H' t q o, OffAt c F H' o (newOff ws) → F q = none → H' t = some (.tup [.ref o, .ref q]) → H' q = some (.lst [.int 0]) → Q (.ref t) H')
def spAnswers (K : PySem.W.Frag) : Sp := fun vs H Q _ => ∃ (a : Addr) (l : List Int), vs = [.ref a] ∧ SqL K H a (l.map V.int) ∧ l.length ≤ 30000 ∧ PyKm358.answers_asked l = true ∧
  ∀ (H' : Hp) (p : Addr), H' p = some (.lst ((PyKm358.answers l).map V.int)) → Q (.ref p) H'

section
variable {P : Program} {w : World} {K : PySem.W.Frag} {mg : Str → Option Value} {base : Heap} {c : Cs} {f : Addr} {fd : FuncData}
theorem neV {p k : Int} (h : ¬ p = k) : decide (V.int p = V.int k) = false := decide_eq_false fun z => h (V.int.inj z)
/-! ### asked_first -/
theorem sc57 : FnScope ["office", "call", "numbers"] ["office", "call", "numbers"] (defScope (top 57)) := ⟨rfl, rfl, rfl, by decide +kernel, rfl, by decide +kernel, by decide +kernel⟩
theorem ok_asked_first (F : Fun K "asked_first" "asked_first" (top 57) f fd) (c1 : Cal P w K mg base 2 "ask_holiday" (spAsk2 c .holiday)) (c2 : Cal P w K mg base 3 "ask_person" (spAsk2 c .person)) (c3 : Cal P w K mg base 2 "ask_deputy" (spAsk2 c .deputy)) (c4 : Cal P w K mg base 2 "ask_away" (spAsk3 c .away)) (c5 : Cal P w K mg base 3 "ask_letter" (spAsk2 c .letter)) :
    FnOk P w K mg base CX0 4 f fd ["office", "call", "numbers"] (spAsked c K 1 5) := by
  refine F.ok sc57 (fun vs H Q E h => ?_) (fun cdv A outer s H vs Q E hr h => ?_)
  · obtain ⟨_, _, _, _, _, _, rfl, _⟩ := h
    rfl
  · obtain ⟨F0, o, s0, p, a, ms, rfl, hS, OL, g, h1, h5, hl, q⟩ := h
    refine ⟨_, pss_cons (ps_if (pt_cmpR op_eq (pv 1) pe_int (nomark _)) (pss_one (ps_ret (pe_cl c1 hr (by decide) (pa_cons (pv 0) (pa_cons (pe_ix ix_list (pv 2) pe_int (fun _ _ => rfl)) (pa_cons (pe_ix ix_list (pv 2) pe_int (fun _ _ => rfl)) pa_nil)))))) pss_nil)
      (pss_cons (ps_if (pt_cmpR op_eq (pv 1) pe_int (nomark _)) (pss_one (ps_ret (pe_cl c2 hr (by decide) (pa_cons (pv 0) (pa_cons (pe_ix ix_list (pv 2) pe_int (fun _ _ => rfl)) (pa_cons (pe_ix ix_list (pv 2) pe_int (fun _ _ => rfl)) pa_nil)))))) pss_nil)
      (pss_cons (ps_if (pt_cmpR op_eq (pv 1) pe_int (nomark _)) (pss_one (ps_ret (pe_cl c3 hr (by decide) (pa_cons (pv 0) (pa_cons (pe_ix ix_list (pv 2) pe_int (fun _ _ => rfl)) (pa_cons (pe_ix ix_list (pv 2) pe_int (fun _ _ => rfl)) pa_nil)))))) pss_nil)
      (pss_cons (ps_if (pt_cmpR op_eq (pv 1) pe_int (nomark _)) (pss_one (ps_ret (pe_cl c4 hr (by decide) (pa_cons (pv 0) (pa_cons (pe_ix ix_list (pv 2) pe_int (fun _ _ => rfl)) (pa_cons (pe_ix ix_list (pv 2) pe_int (fun _ _ => rfl)) (pa_cons (pe_ix ix_list (pv 2) pe_int (fun _ _ => rfl)) pa_nil))))))) pss_nil)
      (pss_one (ps_ret (pe_cl c5 hr (by decide) (pa_cons (pv 0) (pa_cons (pe_ix ix_list (pv 2) pe_int (fun _ _ => rfl)) (pa_cons (pe_ix ix_list (pv 2) pe_int (fun _ _ => rfl)) pa_nil))))))))), ?_⟩
    refine ⟨_, rfl, rfl, _, rfl, ?_⟩
    by_cases e1 : p = 1
    · subst e1
      rw [decide_eq_true rfl]
      match ms, hl with
      | [x, y], _ => exact iteT ⟨_, rfl, _, rfl, _, _, _, _, rfl, rfl, hS, atI_nat (j := 0) rfl, _, rfl, _, _, _, _, rfl, rfl, hS, atI_nat (j := 1) rfl, F0, o, s0, x, y, rfl, OL, g, q⟩
    rw [neV e1]
    refine iteF ⟨_, rfl, rfl, _, rfl, ?_⟩
    by_cases e2 : p = 2
    · subst e2
      rw [decide_eq_true rfl]
      match ms, hl with
      | [x, y], _ => exact iteT ⟨_, rfl, _, rfl, _, _, _, _, rfl, rfl, hS, atI_nat (j := 0) rfl, _, rfl, _, _, _, _, rfl, rfl, hS, atI_nat (j := 1) rfl, F0, o, s0, x, y, rfl, OL, g, q⟩
    rw [neV e2]
    refine iteF ⟨_, rfl, rfl, _, rfl, ?_⟩
    by_cases e3 : p = 3
    · subst e3
      rw [decide_eq_true rfl]
      match ms, hl with
      | [x, y], _ => exact iteT ⟨_, rfl, _, rfl, _, _, _, _, rfl, rfl, hS, atI_nat (j := 0) rfl, _, rfl, _, _, _, _, rfl, rfl, hS, atI_nat (j := 1) rfl, F0, o, s0, x, y, rfl, OL, g, q⟩
    rw [neV e3]
    refine iteF ⟨_, rfl, rfl, _, rfl, ?_⟩
    by_cases e4 : p = 4
    · subst e4
      rw [decide_eq_true rfl]
      match ms, hl with
      | [x, y, z], _ => exact iteT ⟨_, rfl, _, rfl, _, _, _, _, rfl, rfl, hS, atI_nat (j := 0) rfl, _, rfl, _, _, _, _, rfl, rfl, hS, atI_nat (j := 1) rfl, _, rfl, _, _, _, _, rfl, rfl, hS, atI_nat (j := 2) rfl, F0, o, s0, x, y, z, rfl, OL, g, q⟩
    rw [neV e4]
    refine iteF ?_
    have e5 : p = 5 := by omega
    subst e5
    match ms, hl with
    | [x, y], _ => exact ⟨_, rfl, _, rfl, _, _, _, _, rfl, rfl, hS, atI_nat (j := 0) rfl, _, rfl, _, _, _, _, rfl, rfl, hS, atI_nat (j := 1) rfl, F0, o, s0, x, y, rfl, OL, g, q⟩
/-! ### asked_last -/
theorem sc58 : FnScope ["office", "call", "numbers"] ["office", "call", "numbers"] (defScope (top 58)) := ⟨rfl, rfl, rfl, by decide +kernel, rfl, by decide +kernel, by decide +kernel⟩
theorem ok_asked_last (F : Fun K "asked_last" "asked_last" (top 58) f fd) (c6 : Cal P w K mg base 6 "ask_answer" (spAsk1 c .answer)) (c7 : Cal P w K mg base 7 "ask_day" (spAsk1 c .day)) (c8 : Cal P w K mg base 5 "ask_holder" (spAsk1 c .holder)) (c9 : Cal P w K mg base 5 "ask_due" (spAsk1 c .due)) (c10 : Cal P w K mg base 6 "ask_list" (spAsk1 c .list)) (c11 : Cal P w K mg base 7 "ask_late" (spAsk0 c .late)) :
    FnOk P w K mg base CX0 8 f fd ["office", "call", "numbers"] (spAsked c K 6 11) := by
  refine F.ok sc58 (fun vs H Q E h => ?_) (fun cdv A outer s H vs Q E hr h => ?_)
  · obtain ⟨_, _, _, _, _, _, rfl, _⟩ := h
    rfl
  · obtain ⟨F0, o, s0, p, a, ms, rfl, hS, OL, g, h1, h5, hl, q⟩ := h
    refine ⟨_, pss_cons (ps_if (pt_cmpR op_eq (pv 1) pe_int (nomark _)) (pss_one (ps_ret (pe_cl c6 hr (by decide) (pa_cons (pv 0) (pa_cons (pe_ix ix_list (pv 2) pe_int (fun _ _ => rfl)) pa_nil))))) pss_nil)
      (pss_cons (ps_if (pt_cmpR op_eq (pv 1) pe_int (nomark _)) (pss_one (ps_ret (pe_cl c7 hr (by decide) (pa_cons (pv 0) (pa_cons (pe_ix ix_list (pv 2) pe_int (fun _ _ => rfl)) pa_nil))))) pss_nil)
      (pss_cons (ps_if (pt_cmpR op_eq (pv 1) pe_int (nomark _)) (pss_one (ps_ret (pe_cl c8 hr (by decide) (pa_cons (pv 0) (pa_cons (pe_ix ix_list (pv 2) pe_int (fun _ _ => rfl)) pa_nil))))) pss_nil)
      (pss_cons (ps_if (pt_cmpR op_eq (pv 1) pe_int (nomark _)) (pss_one (ps_ret (pe_cl c9 hr (by decide) (pa_cons (pv 0) (pa_cons (pe_ix ix_list (pv 2) pe_int (fun _ _ => rfl)) pa_nil))))) pss_nil)
      (pss_cons (ps_if (pt_cmpR op_eq (pv 1) pe_int (nomark _)) (pss_one (ps_ret (pe_cl c10 hr (by decide) (pa_cons (pv 0) (pa_cons (pe_ix ix_list (pv 2) pe_int (fun _ _ => rfl)) pa_nil))))) pss_nil)
      (pss_one (ps_ret (pe_cl c11 hr (by decide) (pa_cons (pv 0) pa_nil)))))))), ?_⟩
    refine ⟨_, rfl, rfl, _, rfl, ?_⟩
    by_cases e1 : p = 6
    · subst e1
      rw [decide_eq_true rfl]
      match ms, hl with
      | [x], _ => exact iteT ⟨_, rfl, _, rfl, _, _, _, _, rfl, rfl, hS, atI_nat (j := 0) rfl, F0, o, s0, x, rfl, OL, g, q⟩
    rw [neV e1]
    refine iteF ⟨_, rfl, rfl, _, rfl, ?_⟩
    by_cases e2 : p = 7
    · subst e2
      rw [decide_eq_true rfl]
      match ms, hl with
      | [x], _ => exact iteT ⟨_, rfl, _, rfl, _, _, _, _, rfl, rfl, hS, atI_nat (j := 0) rfl, F0, o, s0, x, rfl, OL, g, q⟩
    rw [neV e2]
    refine iteF ⟨_, rfl, rfl, _, rfl, ?_⟩
    by_cases e3 : p = 8
    · subst e3
      rw [decide_eq_true rfl]
      match ms, hl with
      | [x], _ => exact iteT ⟨_, rfl, _, rfl, _, _, _, _, rfl, rfl, hS, atI_nat (j := 0) rfl, F0, o, s0, x, rfl, OL, g, q⟩
    rw [neV e3]
    refine iteF ⟨_, rfl, rfl, _, rfl, ?_⟩
    by_cases e4 : p = 9
    · subst e4
      rw [decide_eq_true rfl]
      match ms, hl with
      | [x], _ => exact iteT ⟨_, rfl, _, rfl, _, _, _, _, rfl, rfl, hS, atI_nat (j := 0) rfl, F0, o, s0, x, rfl, OL, g, q⟩
    rw [neV e4]
    refine iteF ⟨_, rfl, rfl, _, rfl, ?_⟩
    by_cases e5 : p = 10
    · subst e5
      rw [decide_eq_true rfl]
      match ms, hl with
      | [x], _ => exact iteT ⟨_, rfl, _, rfl, _, _, _, _, rfl, rfl, hS, atI_nat (j := 0) rfl, F0, o, s0, x, rfl, OL, g, q⟩
    rw [neV e5]
    refine iteF ?_
    have e6 : p = 11 := by omega
    subst e6
    exact ⟨_, rfl, F0, o, s0, rfl, OL, g, q⟩
/-! ### asked -/
theorem sc59 : FnScope ["office", "call", "numbers"] ["office", "call", "numbers"] (defScope (top 59)) := ⟨rfl, rfl, rfl, by decide +kernel, rfl, by decide +kernel, by decide +kernel⟩
theorem ok_asked (F : Fun K "asked" "asked" (top 59) f fd) (c1 : Cal P w K mg base 4 "asked_first" (spAsked c K 1 5)) (c2 : Cal P w K mg base 8 "asked_last" (spAsked c K 6 11)) : FnOk P w K mg base CX0 9 f fd ["office", "call", "numbers"] (spAsked c K 1 11) := by
  refine F.ok sc59 (fun vs H Q E h => ?_) (fun cdv A outer s H vs Q E hr h => ?_)
  · obtain ⟨_, _, _, _, _, _, rfl, _⟩ := h
    rfl
  · obtain ⟨F0, o, s0, p, a, ms, rfl, hS, OL, g, h1, h5, hl, q⟩ := h
    refine ⟨_, pss_cons (ps_if (pt_cmpR op_le (pv 1) pe_int (nomark _)) (pss_one (ps_ret (pe_cl c1 hr (by decide) (pa_cons (pv 0) (pa_cons (pv 1) (pa_cons (pv 2) pa_nil)))))) pss_nil)
      (pss_one (ps_ret (pe_cl c2 hr (by decide) (pa_cons (pv 0) (pa_cons (pv 1) (pa_cons (pv 2) pa_nil)))))), ?_⟩
    refine ⟨_, rfl, _, _, rfl, rfl, _, rfl, ?_⟩
    by_cases e : p ≤ 5
    · rw [decide_eq_true e]
      exact iteT ⟨_, rfl, _, rfl, _, rfl, F0, o, s0, p, a, ms, rfl, hS, OL, g, h1, e, hl, q⟩
    · rw [decide_eq_false e]
      exact iteF ⟨_, rfl, _, rfl, _, rfl, F0, o, s0, p, a, ms, rfl, hS, OL, g, by omega, h5, hl, q⟩
/-! ### started -/
theorem sc60 : FnScope ["office", "weeks"] ["office", "weeks"] (defScope (top 60)) := ⟨rfl, rfl, rfl, by decide +kernel, rfl, by decide +kernel, by decide +kernel⟩
theorem ok_started (F : Fun K "started" "started" (top 60) f fd) (T : Txt K mg c) (cW : Cal P w K mg base 1 "are_weeks" (spAreWeeks K)) (cO : Mak P w K mg base 1 "Office" c.off (spOffice c K)) : FnOk P w K mg base CX0 3 f fd ["office", "weeks"] (spStarted c K) := by
  refine F.ok sc60 (fun vs H Q E h => ?_) (fun cdv A outer s H vs Q E hr h => ?_)
  · obtain ⟨_, _, _, _, rfl, _⟩ := h
    rfl
  · obtain ⟨F0, v, a, ws, rfl, sF, hS, q0, q1⟩ := h
    refine ⟨_, pss_cons (ps_if (pt_not (pt_val (pe_cl cW hr (by decide) (pa_cons (pv 1) pa_nil)))) (pss_one (ps_ret (pe_tup (pa_cons (pv 0) (pa_cons (pe_lst (pa_cons (pe_gi T.gBAD) pa_nil)) pa_nil))))) pss_nil)
      (pss_one (ps_ret (pe_tup (pa_cons (pe_mk cO hr (by decide) (pa_cons (pv 1) pa_nil)) (pa_cons (pe_lst (pa_cons pe_int pa_nil)) pa_nil))))), ?_⟩
    refine ⟨_, rfl, a, ws, rfl, hS, fun H1 s1 => ⟨_, rfl, ?_⟩⟩
    cases e : okWeeks ws ws.length with
    | false =>
      refine iteT ⟨_, rfl, (by show 1 ≤ sizeLine; decide), fun l hl => ⟨(by show 2 ≤ sizeLine; decide), fun t ht => ?_⟩⟩
      have nlt : l ≠ t := ne_of_none upd_same ht
      exact q0 e _ t l ((s1.trans (same_new hl)).trans (same_new ht)) (sF.free (s1.free hl)) upd_same ((upd_ne nlt).trans upd_same)
    | true =>
      refine iteF ⟨_, rfl, ?_⟩
      intro x d0 nx nd ne
      have s2 : Same H1 (upd (upd H1 d0 (.own x)) x (.ins c.off d0 [])) := fun b u z => by
        rw [upd_ne (ne_of_none z nx), upd_ne (ne_of_none z nd)]
        exact z
      have b8 : ws.length ≤ 8 := by
        unfold okWeeks at e
        simp only [Bool.and_eq_true, decide_eq_true_eq] at e
        exact e.2.1
      refine ⟨F0, x, d0, a, ws, rfl, upd_same, (sF.trans s1).trans s2, (sF.trans s1).free nx, s2.seq (s1.seq hS), by omega, fun H2 O2 => ⟨rfl, ?_⟩⟩
      refine ⟨(by show 1 ≤ sizeLine; decide), fun l hl => ⟨(by show 2 ≤ sizeLine; decide), fun t ht => ?_⟩⟩
      have nlt : l ≠ t := ne_of_none upd_same ht
      exact q1 e _ t l x (O2.mono ((same_new hl).trans (same_new ht))) (O2.same.free hl) upd_same ((upd_ne nlt).trans upd_same)
/-! ### answers -/
/-- what the name office holds, and where -/
def StAt (c : Cs) (F H : Hp) (v : V) : Km358Neutral.S → Prop
  | none => Same F H ∧ v = .non
  | some s => ∃ o, v = .ref o ∧ OffAt c F H o s
theorem StAt.same {F H : Hp} {v : V} : ∀ {st : Km358Neutral.S}, StAt c F H v st → Same F H
  | none, h => h.1
  | some _, ⟨_, _, h⟩ => h.same
theorem StAt.mono {F H H' : Hp} {v : V} (e : Same H H') : ∀ {st : Km358Neutral.S}, StAt c F H v st → StAt c F H' v st
  | none, h => ⟨h.1.trans e, h.2⟩
  | some _, ⟨o, h1, h2⟩ => ⟨o, h1, h2.mono e⟩
theorem StAt.frame {F H : Hp} {v : V} {t : Addr} {u z : HO} (ht : F t = some u) : ∀ {st : Km358Neutral.S}, StAt c F H v st → StAt c (upd F t z) (upd H t z) v st
  | none, h => ⟨fun b y e => by
      by_cases q : b = t
      · subst q
        rw [upd_same] at e ⊢
        exact e
      · rw [upd_ne q] at e ⊢
        exact h.1 b y e, h.2⟩
  | some _, ⟨o, h1, h2⟩ => ⟨o, h1, h2.frame ht⟩
theorem sizes_at {p : Int} (h1 : 1 ≤ p) (h2 : p ≤ 11) : atI sizes p = some (.int ((sizeOf' p : Nat) : Int)) := by
  rcases int_cases h1 h2 with rfl | rfl | rfl | rfl | rfl | rfl | rfl | rfl | rfl | rfl | rfl <;> rfl
theorem sc61 : FnScope ["calls", "office", "told", "at", "call", "behind", "answer"] ["calls"] (defScope (top 61)) := ⟨rfl, rfl, rfl, by decide +kernel, rfl, by decide +kernel, by decide +kernel⟩
theorem drop_cons {l : List Int} {k : Nat} (h : k < l.length) : l.drop k = l[k] :: l.drop (k + 1) := List.drop_eq_getElem_cons h
theorem get_map {l : List Int} {k : Nat} (h : k < l.length) : atI (l.map V.int) ((k : Nat) : Int) = some (.int l[k]) := by
  refine atI_nat ?_
  rw [List.getElem?_map, List.getElem?_eq_getElem h]
  rfl
/-- what the loop keeps -/
def Loop (c : Cs) (l : List Int) (a t : Addr) (H : Hp) (m : Nat) (σ : L2.St) (H' : Hp) : Prop :=
  ∃ (k : Nat) (st : Km358Neutral.S) (cs : List (List (List Int))) (done : List Int) (F : Hp) (v : V) (x4 x5 x6 : Option V),
    σ = [some (.ref a), some v, some (.ref t), some (.int ((k : Nat) : Int)), x4, x5, x6] ∧ k ≤ l.length ∧ m = l.length - k ∧ Rest (l.drop k) st cs ∧ PyKm358.answers l = done ++ toldOf st cs ∧ done.length ≤ 4 * k ∧
    Same H F ∧ F t = some (.lst (done.map V.int)) ∧ StAt c F H' v st
/-- the end of a turn: the answer is told -/
theorem loop_end {l : List Int} {a t q : Addr} {H F H3 : Hp} {k k' m : Nat} {st : Km358Neutral.S} {cs : List (List (List Int))} {done ans : List Int} {v : V} {x4 x5 x6 : Option V} (hl : l.length ≤ 30000) (ht : H t = none) (hk : k < k') (hk' : k' ≤ l.length) (hm : m = l.length - k)
    (R : Rest (l.drop k') st cs) (ea : PyKm358.answers l = done ++ ((ans.length : Nat) : Int) :: (ans ++ toldOf st cs)) (hd : done.length ≤ 4 * k) (hn : ans.length ≤ 3) (sF : Same H F) (hF : F t = some (.lst (done.map V.int))) (S : StAt c F H3 v st) (fq : F q = none) (hq : H3 q = some (.lst (ans.map V.int))) :
    H3 t = some (.lst (done.map V.int)) ∧ (done.map V.int).length < sizeLine ∧ (upd H3 t (.lst (done.map V.int ++ [.int ((ans.length : Nat) : Int)]))) q = some (.lst (ans.map V.int)) ∧ (done.map V.int ++ [V.int ((ans.length : Nat) : Int)]).length + (ans.map V.int).length ≤ sizeLine ∧
    ∃ m', m' < m ∧ Loop c l a t H m' [some (.ref a), some v, some (.ref t), some (.int ((k' : Nat) : Int)), x4, x5, x6] (upd (upd H3 t (.lst (done.map V.int ++ [.int ((ans.length : Nat) : Int)]))) t (.lst ((done.map V.int ++ [.int ((ans.length : Nat) : Int)]) ++ ans.map V.int))) := by
  have ntq : q ≠ t := (ne_of_none hF fq).symm
  refine ⟨S.same _ _ hF, ?_, (upd_ne ntq).trans hq, ?_, l.length - k', by omega, ?_⟩
  · rw [List.length_map, sizeLine_eq]
    omega
  · rw [List.length_append, List.length_map, List.length_map, List.length_singleton, sizeLine_eq]
    omega
  · have S1 := S.frame (z := .lst (done.map V.int ++ [.int ((ans.length : Nat) : Int)])) hF
    have S2 := S1.frame (t := t) (z := .lst ((done.map V.int ++ [.int ((ans.length : Nat) : Int)]) ++ ans.map V.int)) upd_same
    refine ⟨k', st, cs, done ++ [((ans.length : Nat) : Int)] ++ ans, _, v, x4, x5, x6, rfl, hk', rfl, R, ?_, ?_, same_upd (same_upd sF ht) ht, ?_, S2⟩
    · rw [ea, List.append_assoc, List.append_assoc]
      rfl
    · rw [List.length_append, List.length_append, List.length_singleton]
      omega
    · rw [upd_same, List.map_append, List.map_append]
      rfl
theorem ok_answers (F : Fun K "answers" "answers" (top 61) f fd) (T : Txt K mg c) (cS : Cal P w K mg base 3 "started" (spStarted c K)) (cA : Cal P w K mg base 9 "asked" (spAsked c K 1 11)) : FnOk P w K mg base CX0 10 f fd ["calls"] (spAnswers K) := by
  refine F.ok sc61 (fun vs H Q E h => ?_) (fun cdv A outer s H vs Q E hr h => ?_)
  · obtain ⟨_, _, rfl, _⟩ := h
    rfl
  · obtain ⟨a, l, rfl, hS, hl, hask, q⟩ := h
    obtain ⟨z, hz, hzS⟩ := T.gSIZES
    refine ⟨_, (pss_cons (ps_set (i := 1) sc61.nd rfl (Or.inl rfl) pe_non)
        (pss_cons (ps_set (i := 2) sc61.nd rfl (Or.inl rfl) (pe_lst pa_nil))
        (pss_cons (ps_set (i := 3) sc61.nd rfl (Or.inl rfl) pe_int)
        (pss_cons (ps_while PassesOwn.never (pt_cmpR op_lt (pv 3) (pe_callB call_len_seq (by rfl) T.blen PySem.boot_len (pa_cons (pv 0) pa_nil)) (nomark _))
        (pss_cons (ps_set (i := 4) sc61.nd rfl (Or.inl rfl) (pe_ix ix_list (pv 0) (pv 3) (fun _ _ => rfl)))
        (pss_cons (ps_if (pt_cmpR op_eq (pv 4) (pe_gi T.gSTART) (nomark _))
        (pss_cons (ps_set (i := 5) sc61.nd rfl (Or.inl rfl) (pe_op op_add (pe_op op_add (pv 3) pe_int) (pe_ix ix_list (pv 0) (pe_op op_add (pv 3) pe_int) (fun _ _ => rfl))))
        (pss_one (ps_asg (pe_cl cS hr (by decide) (pa_cons (pv 1) (pa_cons (pe_slice sl_list (pv 0) (po_some (pe_op op_add (pv 3) pe_int)) (po_some (pv 5))) pa_nil))) (pg_tup (by rfl) (pgs_cons (pg_name (i := 1) sc61.nd rfl (Or.inl rfl)) (pgs_cons (pg_name (i := 6) sc61.nd rfl (Or.inl rfl)) pgs_nil))))))
        (pss_cons (ps_set (i := 5) sc61.nd rfl (Or.inl rfl) (pe_op op_add (pe_op op_add (pv 3) pe_int) (pe_ix ix_tup (pe_gr hz) (pv 4) (fun _ _ => rfl))))
        (pss_one (ps_set (i := 6) sc61.nd rfl (Or.inl rfl) (pe_cl cA hr (by decide) (pa_cons (pv 1) (pa_cons (pv 4) (pa_cons (pe_slice sl_list (pv 0) (po_some (pe_op op_add (pv 3) pe_int)) (po_some (pv 5))) pa_nil))))))))
        (pss_cons (ps_set (i := 3) sc61.nd rfl (Or.inl rfl) (pv 5))
        (pss_cons (ps_expr (pe_bm PySem.F.plainAttrs_list PySem.F.slot_list_append PySem.F.type_list_append mt_append (pv 2) (pa_cons (pe_callB call_len_seq (by rfl) T.blen PySem.boot_len (pa_cons (pv 6) pa_nil)) pa_nil)))
        (pss_one (ps_expr (pe_bm PySem.F.plainAttrs_list PySem.F.slot_list_extend PySem.F.type_list_extend mt_extend (pv 2) (pa_cons (pv 6) pa_nil)))))))))
        (pss_one (ps_ret (pv 2))))))), ?_⟩
    refine ⟨Nat.zero_le _, fun t ht => ?_⟩
    obtain ⟨cs0, R0, e0⟩ := Rest.first hask
    refine ⟨Loop c l a t H, ⟨l.length, 0, none, cs0, [], upd H t (.lst []), .non, none, none, none, rfl, Nat.zero_le _, rfl, R0, e0, Nat.le_refl _, same_new ht, upd_same, .refl _, rfl⟩, ?_⟩
    rintro m σ H1 ⟨k, st, cs, done, F0, v, x4, x5, x6, rfl, hk, hm, R, ea, hd, sF, hF, S⟩
    have hS1 : SqL K H1 a (l.map V.int) := (sF.trans S.same).seq hS
    refine ⟨_, rfl, _, rfl, a, _, rfl, .inl hS1, _, _, rfl, rfl, _, rfl, ?_⟩
    rw [List.length_map]
    by_cases hlt : k < l.length
    · rw [decide_eq_true (by omega : ((k : Nat) : Int) < ((l.length : Nat) : Int))]
      refine iteT ⟨_, fun σ' H' h => h, ?_⟩
      rw [drop_cons hlt] at R
      refine ⟨_, rfl, _, rfl, _, _, _, _, rfl, rfl, hS1, get_map hlt, ?_⟩
      refine ⟨_, rfl, rfl, _, rfl, ?_⟩
      by_cases e : l[k] = 0
      · rw [e] at R
        rw [e, decide_eq_true rfl]
        obtain ⟨n, t', cs', et, n0, nl, hz8, rB, rG⟩ := R.start
        have h1 : k + 1 < l.length := by
          have : (l.drop (k + 1)).length = (n :: t').length := by rw [et]
          rw [List.length_drop, List.length_cons] at this
          omega
        rw [drop_cons h1] at et
        obtain ⟨en, et'⟩ := List.cons.inj et
        have elen : t'.length = l.length - (k + 2) := by
          rw [← et', List.length_drop]
        obtain ⟨n', rfl⟩ : ∃ n' : Nat, n = (n' : Int) := ⟨n.toNat, (Int.toNat_of_nonneg n0).symm⟩
        rw [Int.toNat_natCast] at nl hz8 rB rG
        have hkn : k + 2 + n' ≤ l.length := by omega
        have e1 := get_map h1
        rw [en] at e1
        refine iteT ⟨_, rfl, _, _, rfl, rfl, _, rfl, _, rfl, _, _, rfl, rfl, _, _, _, _, rfl, rfl, hS1, e1, _, _, rfl, rfl, ?_⟩
        have eb : ((k : Nat) : Int) + 2 + ((n' : Nat) : Int) = ((k + 2 + n' : Nat) : Int) := by omega
        have e2 : ((k : Nat) : Int) + 2 = ((k + 2 : Nat) : Int) := by omega
        have ecut : cutV (l.map V.int) (some (((k : Nat) : Int) + 2)) (some (((k : Nat) : Int) + 2 + ((n' : Nat) : Int))) = numsV (nats (t'.take n')) := by
          rw [eb, e2, cut_nat (by omega) (by rw [List.length_map]; exact hkn), nats_numsV _ fun y hy => (hz8 y hy).1, ← List.map_drop, ← List.map_take, ← et']
          rw [show k + 2 + n' - (k + 2) = n' by omega]
        refine ⟨_, rfl, _, rfl, _, rfl, _, _, rfl, rfl, _, rfl, _, rfl, _, rfl, a, _, rfl, hS1, fun p hp => ?_⟩
        rw [ecut]
        have s2 : Same H1 (upd H1 p (.lst (numsV (nats (t'.take n'))))) := same_new hp
        have edr : t'.drop n' = l.drop (k + 2 + n') := by
          rw [← et', List.drop_drop]
        have etk : (nats (t'.take n')).length = (t'.take n').length := nats_len _
        rw [edr] at rB rG
        rw [← etk] at rB rG
        refine ⟨F0, v, p, nats (t'.take n'), rfl, S.same.trans s2, SqL.of upd_same, fun ok H3 tt qq s3 fq htt hqq => ?_, fun ok H3 tt qq o O3 fq htt hqq => ?_⟩
        · obtain ⟨r1, r2⟩ := rB ok
          rw [r1] at ea
          obtain ⟨g1, g2, g3, g4, g5⟩ := loop_end (c := c) (a := a) (k' := k + 2 + n') (ans := [-22]) (x4 := some (.int 0)) (x5 := some (.int ((k + 2 + n' : Nat) : Int))) (x6 := some (.ref qq)) hl ht (by omega) hkn hm r2 ea hd (by decide) sF hF ((S.mono s2).mono s3) fq hqq
          refine ⟨tt, _, rfl, SqT.of htt, rfl, _, _, rfl, _, _, rfl, rfl, ?_⟩
          refine ⟨_, rfl, _, rfl, .inl ⟨rfl, _, SqL.of g1⟩, _, rfl, qq, _, rfl, .inl (SqL.of hqq), _, _, _, rfl, rfl, g1, g2, ?_⟩
          refine ⟨_, rfl, .inl ⟨rfl, _, SqL.of upd_same⟩, _, rfl, _, _, _, _, rfl, rfl, upd_same, g3, g4, ?_⟩
          rw [← eb] at g5
          exact g5
        · obtain ⟨r1, r2⟩ := rG ok
          rw [r1] at ea
          obtain ⟨g1, g2, g3, g4, g5⟩ := loop_end (c := c) (a := a) (v := .ref o) (k' := k + 2 + n') (ans := [0]) (x4 := some (.int 0)) (x5 := some (.int ((k + 2 + n' : Nat) : Int))) (x6 := some (.ref qq)) hl ht (by omega) hkn hm r2 ea hd (by decide) sF hF ⟨o, rfl, O3⟩ fq hqq
          refine ⟨tt, _, rfl, SqT.of htt, rfl, _, _, rfl, _, _, rfl, rfl, ?_⟩
          refine ⟨_, rfl, _, rfl, .inl ⟨rfl, _, SqL.of g1⟩, _, rfl, qq, _, rfl, .inl (SqL.of hqq), _, _, _, rfl, rfl, g1, g2, ?_⟩
          refine ⟨_, rfl, .inl ⟨rfl, _, SqL.of upd_same⟩, _, rfl, _, _, _, _, rfl, rfl, upd_same, g3, g4, ?_⟩
          rw [← eb] at g5
          exact g5
      · rw [neV e]
        obtain ⟨o, cs', rfl, g, p1, p11, hsz, hb, et, R'⟩ := R.call e
        obtain ⟨oa, rfl, OL⟩ := S
        generalize l[k] = p at *
        have hkn : k + 1 + sizeOf' p ≤ l.length := by
          rw [List.length_drop] at hsz
          omega
        refine iteF ⟨_, rfl, _, _, rfl, rfl, _, rfl, _, _, _, _, rfl, rfl, hzS _, sizes_at p1 p11, _, _, rfl, rfl, ?_⟩
        have eb : ((k : Nat) : Int) + 1 + ((sizeOf' p : Nat) : Int) = ((k + 1 + sizeOf' p : Nat) : Int) := by omega
        have e2 : ((k : Nat) : Int) + 1 = ((k + 1 : Nat) : Int) := by omega
        have ecut : cutV (l.map V.int) (some (((k : Nat) : Int) + 1)) (some (((k : Nat) : Int) + 1 + ((sizeOf' p : Nat) : Int))) = numsV (nats ((l.drop (k + 1)).take (sizeOf' p))) := by
          rw [eb, e2, cut_nat (by omega) (by rw [List.length_map]; exact hkn), nats_numsV _ fun y hy => (hb y hy).1, ← List.map_drop, ← List.map_take]
          rw [show k + 1 + sizeOf' p - (k + 1) = sizeOf' p by omega]
        refine ⟨_, rfl, _, rfl, _, rfl, _, rfl, _, _, rfl, rfl, _, rfl, _, rfl, _, rfl, a, _, rfl, hS1, fun pp hp => ?_⟩
        rw [ecut]
        have s2 : Same H1 (upd H1 pp (.lst (numsV (nats ((l.drop (k + 1)).take (sizeOf' p)))))) := same_new hp
        rw [List.drop_drop] at R'
        refine ⟨F0, oa, o, p, pp, _, rfl, SqL.of upd_same, OL.mono s2, g, p1, p11, ?_, ?_⟩
        · rw [nats_len, List.length_take]
          omega
        rw [callN_is]
        intro H3 qq O3 fq hqq
        rw [et] at ea
        obtain ⟨g1, g2, g3, g4, g5⟩ := loop_end (c := c) (a := a) (v := .ref oa) (k' := k + 1 + sizeOf' p) (x4 := some (.int p)) (x5 := some (.int ((k + 1 + sizeOf' p : Nat) : Int))) (x6 := some (.ref qq)) hl ht (by omega) hkn hm R' ea hd (told_len _ _).2 sF hF ⟨oa, rfl, O3⟩ fq hqq
        refine ⟨_, rfl, _, rfl, .inl ⟨rfl, _, SqL.of g1⟩, _, rfl, qq, _, rfl, .inl (SqL.of hqq), _, _, _, rfl, rfl, g1, g2, ?_⟩
        rw [List.length_map]
        refine ⟨_, rfl, .inl ⟨rfl, _, SqL.of upd_same⟩, _, rfl, _, _, _, _, rfl, rfl, upd_same, g3, g4, ?_⟩
        rw [← eb] at g5
        exact g5
    · rw [decide_eq_false (by omega : ¬ ((k : Nat) : Int) < ((l.length : Nat) : Int))]
      refine iteF ⟨_, rfl, ?_⟩
      have ek : k = l.length := by omega
      rw [ek, List.drop_length] at R
      rw [R.nil, List.append_nil] at ea
      refine q _ t ?_
      rw [ea]
      exact S.same _ _ hF
end
end Ad

/-! The end: what the top has written; the row. -/
namespace Ad
open PySem L2
open PySem.W (Codec)
/-- a def of the module, as it stands behind the top -/
structure Df (K : PySem.W.Frag) (x : Str) (st : Stmt) : Prop where
  ex : ∃ (f : Addr) (fd : FuncData), L2.Fun K x x st f fd ∧ PySem.W.nsIn K mainGlobals x = some (some (.ref f))
theorem df_mk {K : PySem.W.Frag} {x : Str} {st : Stmt} {f : Addr} {od an : Option Addr} {sl : Array (Option Value)} {oc kV dc pm cd ct : Value}
    (a : PySem.W.nsIn K mainGlobals x = some (some (.ref f))) (l : K.lookup f = some ⟨oc, od, .func (PySem.W.fnOf x x (defArgs st) (defBody st) (defScope st) .none kV dc pm an cd ct), sl⟩)
    (c : PySem.W.codeIn K cd x = true) (k : PySem.W.keepIn K (.ref f) = true) : Df K x st := ⟨f, _, fun_mk l c k, a⟩
/-- a class of the module with its __init__ -/
structure Cf (K : PySem.W.Frag) (x q : Str) (st : Stmt) (C : Addr) : Prop where
  at' : PySem.W.nsIn K mainGlobals x = some (some (.ref C))
  ex : ∃ (f : Addr) (fd : FuncData), L2.Fun K "__init__" q st f fd ∧ Mk K C f
  cl : Cls K C
theorem cf_mk {K : PySem.W.Frag} {x q : Str} {st : Stmt} {C f : Addr} {od an : Option Addr} {sl : Array (Option Value)} {oc kV dc pm cd ct : Value} (aC : PySem.W.nsIn K mainGlobals x = some (some (.ref C)))
    (a : PySem.W.findIn K (.ref C) "__init__" = some (some (.ref f))) (i : PySem.W.isFn K (.ref f) = true) (l : K.lookup f = some ⟨oc, od, .func (PySem.W.fnOf "__init__" q (defArgs st) (defBody st) (defScope st) .none kV dc pm an cd ct), sl⟩)
    (c : PySem.W.codeIn K cd q = true) (k : PySem.W.keepIn K (.ref f) = true) (pg : PySem.W.plainGet K C Str.empty = true) (hd : PySem.W.hasDictIn K C = true) (po : PySem.W.plainOver K C = true)
    (sa : PySem.W.findIn K (.ref C) "__setattr__" = some (some (.builtin "object.__setattr__"))) (mk : PySem.W.makesIn K C = true) (kc : PySem.W.keepIn K (.ref C) = true) : Cf K x q st C :=
  ⟨aC, ⟨f, _, fun_mk l c k, ⟨mk, a, i, kc⟩⟩, ⟨pg, hd, po, sa⟩⟩
/-- a constant of the module -/
theorem con_mk {K : PySem.W.Frag} {x : Str} {i : Int} {t : Tok} (e : PySem.W.nsIn K mainGlobals x = some (some (.int i t))) : ∃ t, PySem.W.nsIn K mainGlobals x = some (some (.int i t)) := ⟨t, e⟩
/-- the tuple SIZES -/
theorem sz_mk {K : PySem.W.Frag} {mg : Str → Option Value} {h : Heap} {z : Addr} {od : Option Addr} {sl : Array (Option Value)} {n : Nat} {t0 t1 t2 t3 t4 t5 t6 t7 t8 t9 t10 t11 : Tok} (X : K.In h) (G : h.Ns mainGlobals mg) (a : PySem.W.nsIn K mainGlobals "SIZES" = some (some (.ref z)))
    (l : K.lookup z = some ⟨.type "tuple", od, .seq #[.int 0 t0, .int 2 t1, .int 2 t2, .int 2 t3, .int 3 t4, .int 2 t5, .int 1 t6, .int 1 t7, .int 1 t8, .int 1 t9, .int 1 t10, .int 0 t11] n, sl⟩) : ∃ z, mg "SIZES" = some (.ref z) ∧ ∀ H, SqT K H z sizes :=
  ⟨z, PySem.W.mg_of X G a, fun H => .inr ⟨_, _, _, l, rfl, rfl, by show 12 ≤ sizeLine; decide,
    .cons ⟨_, rfl⟩ (.cons ⟨_, rfl⟩ (.cons ⟨_, rfl⟩ (.cons ⟨_, rfl⟩ (.cons ⟨_, rfl⟩ (.cons ⟨_, rfl⟩ (.cons ⟨_, rfl⟩ (.cons ⟨_, rfl⟩ (.cons ⟨_, rfl⟩ (.cons ⟨_, rfl⟩ (.cons ⟨_, rfl⟩ (.cons ⟨_, rfl⟩ .nil)))))))))))⟩⟩
section
variable {P : Program} {w : World} {K : PySem.W.Frag} {mg : Str → Option Value} {base h : Heap} {k : Nat}
theorem cal_mk {x : Str} {st : Stmt} {ps : List Str} {sp : Sp} (X : K.In h) (G : h.Ns mainGlobals mg) (D : Df K x st) (ok : ∀ (f : Addr) (fd : FuncData), L2.Fun K x x st f fd → FnOk P w K mg base CX0 k f fd ps sp)
    (b : ∀ (kV doc pm : Value) (an : Option Addr) (cdv ct : Value) (us : List Value), us.length = ps.length → bindArgs (PySem.W.fnOf x x (defArgs st) (defBody st) (defScope st) .none kV doc pm an cdv ct) ⟨us, []⟩ = pure (ps.zip us)) : Cal P w K mg base k x sp := by
  obtain ⟨f, fd, F, a⟩ := D.ex
  exact ⟨f, fd, ps, ok f fd F, PySem.W.mg_of X G a, F.kp, F.binds b⟩
theorem mak_mk {x q : Str} {st : Stmt} {C : Addr} {ps : List Str} {sp : Sp} (X : K.In h) (G : h.Ns mainGlobals mg) (D : Cf K x q st C) (ok : ∀ (f : Addr) (fd : FuncData), L2.Fun K "__init__" q st f fd → FnOk P w K mg base CX0 k f fd ps sp)
    (b : ∀ (kV doc pm : Value) (an : Option Addr) (cdv ct : Value) (us : List Value), us.length = ps.length → bindArgs (PySem.W.fnOf "__init__" q (defArgs st) (defBody st) (defScope st) .none kV doc pm an cdv ct) ⟨us, []⟩ = pure (ps.zip us)) : Mak P w K mg base k x C sp := by
  obtain ⟨f, fd, F, M⟩ := D.ex
  exact ⟨f, fd, ps, M, ok f fd F, PySem.W.mg_of X G D.at', F.binds b⟩
end
theorem all_mk {P : Program} {w : World} {K : PySem.W.Frag} {h : Heap} {mg : Str → Option Value} {fa cO cP cL : Addr} (X : K.In h) (G : h.Ns mainGlobals mg) (hfa : mg "answers" = some (.ref fa))
    (d20 : Cf K "Person" "Person.__init__" sPer cP)
    (d21 : Cf K "Letter" "Letter.__init__" sLet cL)
    (d22 : Cf K "Office" "Office.__init__" sOff cO)
    (oW : PySem.W.findIn K (.ref cO) "weeks" = some none)
    (oH : PySem.W.findIn K (.ref cO) "holidays" = some none)
    (oP : PySem.W.findIn K (.ref cO) "people" = some none)
    (oL : PySem.W.findIn K (.ref cO) "letters" = some none)
    (oT : PySem.W.findIn K (.ref cO) "today" = some none)
    (pL : PySem.W.findIn K (.ref cP) "land" = some none)
    (pD : PySem.W.findIn K (.ref cP) "deputy" = some none)
    (pV : PySem.W.findIn K (.ref cP) "leaves" = some none)
    (lT : PySem.W.findIn K (.ref cL) "to" = some none)
    (lC : PySem.W.findIn K (.ref cL) "came" = some none)
    (lM : PySem.W.findIn K (.ref cL) "term" = some none)
    (lO : PySem.W.findIn K (.ref cL) "is_open" = some none)
    (zsum : PySem.W.nsIn K mainGlobals "sum" = some none)
    (zrange : PySem.W.nsIn K mainGlobals "range" = some none)
    (zany : PySem.W.nsIn K mainGlobals "any" = some none)
    (zall : PySem.W.nsIn K mainGlobals "all" = some none)
    (zlen : PySem.W.nsIn K mainGlobals "len" = some none)
    (zenumerate : PySem.W.nsIn K mainGlobals "enumerate" = some none)
    (zint : PySem.W.nsIn K mainGlobals "int" = some none)
    (zlist : PySem.W.nsIn K mainGlobals "list" = some none)
    (gWEEK : ∃ t, PySem.W.nsIn K mainGlobals "WEEK" = some (some (.int (7) t)))
    (gLAST_DAY : ∃ t, PySem.W.nsIn K mainGlobals "LAST_DAY" = some (some (.int (36500) t)))
    (gNOBODY : ∃ t, PySem.W.nsIn K mainGlobals "NOBODY" = some (some (.int (-1) t)))
    (gNOT_THERE : ∃ t, PySem.W.nsIn K mainGlobals "NOT_THERE" = some (some (.int (-2) t)))
    (gBEFORE : ∃ t, PySem.W.nsIn K mainGlobals "BEFORE" = some (some (.int (-13) t)))
    (gIS_THERE : ∃ t, PySem.W.nsIn K mainGlobals "IS_THERE" = some (some (.int (-17) t)))
    (gBAD : ∃ t, PySem.W.nsIn K mainGlobals "BAD" = some (some (.int (-22) t)))
    (gFULL : ∃ t, PySem.W.nsIn K mainGlobals "FULL" = some (some (.int (-28) t)))
    (gWAITS : ∃ t, PySem.W.nsIn K mainGlobals "WAITS" = some (some (.int (-61) t)))
    (gMOST_LANDS : ∃ t, PySem.W.nsIn K mainGlobals "MOST_LANDS" = some (some (.int (8) t)))
    (gALL_DAYS : ∃ t, PySem.W.nsIn K mainGlobals "ALL_DAYS" = some (some (.int (127) t)))
    (gMOST_HOLIDAYS : ∃ t, PySem.W.nsIn K mainGlobals "MOST_HOLIDAYS" = some (some (.int (32) t)))
    (gMOST_PEOPLE : ∃ t, PySem.W.nsIn K mainGlobals "MOST_PEOPLE" = some (some (.int (16) t)))
    (gNO_DEPUTY : ∃ t, PySem.W.nsIn K mainGlobals "NO_DEPUTY" = some (some (.int (255) t)))
    (gMOST_LEAVES : ∃ t, PySem.W.nsIn K mainGlobals "MOST_LEAVES" = some (some (.int (8) t)))
    (gMOST_LETTERS : ∃ t, PySem.W.nsIn K mainGlobals "MOST_LETTERS" = some (some (.int (64) t)))
    (gMOST_TERM : ∃ t, PySem.W.nsIn K mainGlobals "MOST_TERM" = some (some (.int (250) t)))
    (gSTART : ∃ t, PySem.W.nsIn K mainGlobals "START" = some (some (.int (0) t)))
    (gSIZES : ∃ z, mg "SIZES" = some (.ref z) ∧ ∀ H, SqT K H z sizes)
    (d3 : Df K "has_work" (top 3))
    (d4 : Df K "work_in_week" (top 4))
    (d5 : Df K "work_by_weeks" (top 5))
    (d6 : Df K "working_days" (top 6))
    (d7 : Df K "is_working" (top 7))
    (d8 : Df K "day_of_term" (top 8))
    (d11 : Df K "is_away" (top 11))
    (d12 : Df K "is_in" (top 12))
    (d13 : Df K "holder" (top 13))
    (d14 : Df K "due_day" (top 14))
    (d15 : Df K "is_late" (top 15))
    (d16 : Df K "late_ones" (top 16))
    (d17 : Df K "held_by" (top 17))
    (d18 : Df K "bits_of" (top 18))
    (d38 : Df K "are_weeks" (top 38))
    (d39 : Df K "is_land" (top 39))
    (d40 : Df K "is_deputy" (top 40))
    (d41 : Df K "is_person" (top 41))
    (d42 : Df K "is_letter" (top 42))
    (d43 : Df K "ask_holiday" (top 43))
    (d44 : Df K "ask_person" (top 44))
    (d45 : Df K "ask_deputy" (top 45))
    (d46 : Df K "ask_away" (top 46))
    (d47 : Df K "ask_letter" (top 47))
    (d48 : Df K "ask_answer" (top 48))
    (d49 : Df K "ask_day" (top 49))
    (d50 : Df K "ask_holder" (top 50))
    (d51 : Df K "ask_due" (top 51))
    (d52 : Df K "ask_list" (top 52))
    (d53 : Df K "ask_late" (top 53))
    (d57 : Df K "asked_first" (top 57))
    (d58 : Df K "asked_last" (top 58))
    (d59 : Df K "asked" (top 59))
    (d60 : Df K "started" (top 60))
    {f : Addr} {od an : Option Addr} {sl : Array (Option Value)} {oc kV dc pm cd ct : Value}
    (a61 : PySem.W.nsIn K mainGlobals "answers" = some (some (.ref f)))
    (l61 : K.lookup f = some ⟨oc, od, .func (PySem.W.fnOf "answers" "answers" (defArgs (top 61)) (defBody (top 61)) (defScope (top 61)) .none kV dc pm an cd ct), sl⟩)
    (c61 : PySem.W.codeIn K cd "answers" = true) (k61 : PySem.W.keepIn K (.ref f) = true)
    : ∃ fd : FuncData, (∀ (s : Shared) (us : List Value), us.length = (["calls"] : List Str).length → BindsTo s fd ⟨us, []⟩ ((["calls"] : List Str).zip us)) ∧ ∀ base : Heap, K.In base → base.Ns mainGlobals mg → FnOk P w K mg base CX0 10 fa fd ["calls"] (spAnswers K) := by
  have e := hfa.symm.trans (PySem.W.mg_of X G a61)
  cases e
  obtain ⟨c, ec⟩ : ∃ c : Cs, c = ⟨cO, cP, cL⟩ := ⟨_, rfl⟩
  obtain rfl : c.off = cO := by rw [ec]
  obtain rfl : c.per = cP := by rw [ec]
  obtain rfl : c.let' = cL := by rw [ec]
  have con : ∀ {x : Str} {i : Int}, (∃ t, PySem.W.nsIn K mainGlobals x = some (some (.int i t))) → ∃ t, mg x = some (.int i t) := fun ⟨t, q⟩ => ⟨t, PySem.W.mg_of X G q⟩
  have T : Txt K mg c := ⟨d22.cl, d20.cl, d21.cl, oW, oH, oP, oL, oT, pL, pD, pV, lT, lC, lM, lO, PySem.W.mg_none_of X G zsum, PySem.W.mg_none_of X G zrange, PySem.W.mg_none_of X G zany, PySem.W.mg_none_of X G zall, PySem.W.mg_none_of X G zlen, PySem.W.mg_none_of X G zenumerate, PySem.W.mg_none_of X G zint, PySem.W.mg_none_of X G zlist, con gWEEK, con gLAST_DAY, con gNOBODY, con gNOT_THERE, con gBEFORE, con gIS_THERE, con gBAD, con gFULL, con gWAITS, con gMOST_LANDS, con gALL_DAYS, con gMOST_HOLIDAYS, con gMOST_PEOPLE, con gNO_DEPUTY, con gMOST_LEAVES, con gMOST_LETTERS, con gMOST_TERM, con gSTART, gSIZES⟩
  refine ⟨PySem.W.fnOf "answers" "answers" (defArgs (top 61)) (defBody (top 61)) (defScope (top 61)) .none kV dc pm an cd ct, fun s us hu => match us, hu with | [_], _ => .of_eq rfl, fun base _ _ => ?_⟩
  have m20 : Mak P w K mg base 1 "Person" c.per (spPerson c) := mak_mk (ps := ["self", "land", "deputy"]) X G d20 (fun f fd F => ok_person F T) fun _ _ _ _ _ _ us hl => match us, hl with | [_, _, _], _ => rfl
  have m21 : Mak P w K mg base 1 "Letter" c.let' (spLetter c) := mak_mk (ps := ["self", "to", "came", "term"]) X G d21 (fun f fd F => ok_letter F T) fun _ _ _ _ _ _ us hl => match us, hl with | [_, _, _, _], _ => rfl
  have m22 : Mak P w K mg base 1 "Office" c.off (spOffice c K) := mak_mk (ps := ["self", "weeks"]) X G d22 (fun f fd F => ok_office F T) fun _ _ _ _ _ _ us hl => match us, hl with | [_, _], _ => rfl
  have c3 : Cal P w K mg base 1 "has_work" spHasWork := cal_mk (ps := ["week", "day"]) X G d3 (fun f fd F => ok_has_work F T) fun _ _ _ _ _ _ us hl => match us, hl with | [_, _], _ => rfl
  have c4 : Cal P w K mg base 2 "work_in_week" spInWeek := cal_mk (ps := ["week"]) X G d4 (fun f fd F => ok_in_week F T c3) fun _ _ _ _ _ _ us hl => match us, hl with | [_], _ => rfl
  have c5 : Cal P w K mg base 3 "work_by_weeks" spByWeeks := cal_mk (ps := ["week", "first", "last"]) X G d5 (fun f fd F => ok_by_weeks F T c3 c4) fun _ _ _ _ _ _ us hl => match us, hl with | [_, _, _], _ => rfl
  have c6 : Cal P w K mg base 4 "working_days" (spWorkingDays K) := cal_mk (ps := ["week", "holidays", "first", "last"]) X G d6 (fun f fd F => ok_working_days F T c3 c5) fun _ _ _ _ _ _ us hl => match us, hl with | [_, _, _, _], _ => rfl
  have c7 : Cal P w K mg base 2 "is_working" (spIsWorking K) := cal_mk (ps := ["week", "holidays", "day"]) X G d7 (fun f fd F => ok_is_working F c3) fun _ _ _ _ _ _ us hl => match us, hl with | [_, _, _], _ => rfl
  have c8 : Cal P w K mg base 3 "day_of_term" (spDayOfTerm K) := cal_mk (ps := ["week", "holidays", "came", "term"]) X G d8 (fun f fd F => ok_day_of_term F c7) fun _ _ _ _ _ _ us hl => match us, hl with | [_, _, _, _], _ => rfl
  have c11 : Cal P w K mg base 1 "is_away" (spIsAway c) := cal_mk (ps := ["person", "day"]) X G d11 (fun f fd F => ok_is_away F T) fun _ _ _ _ _ _ us hl => match us, hl with | [_, _], _ => rfl
  have c12 : Cal P w K mg base 3 "is_in" (spIsIn c) := cal_mk (ps := ["office", "number"]) X G d12 (fun f fd F => ok_is_in F T c7 c11) fun _ _ _ _ _ _ us hl => match us, hl with | [_, _], _ => rfl
  have c13 : Cal P w K mg base 4 "holder" (spHolder c) := cal_mk (ps := ["office", "letter"]) X G d13 (fun f fd F => ok_holder F T c12) fun _ _ _ _ _ _ us hl => match us, hl with | [_, _], _ => rfl
  have c14 : Cal P w K mg base 4 "due_day" (spDue c) := cal_mk (ps := ["office", "letter"]) X G d14 (fun f fd F => ok_due_day F T c8) fun _ _ _ _ _ _ us hl => match us, hl with | [_, _], _ => rfl
  have c15 : Cal P w K mg base 5 "is_late" (spIsLate c) := cal_mk (ps := ["office", "letter"]) X G d15 (fun f fd F => ok_is_late F T c6) fun _ _ _ _ _ _ us hl => match us, hl with | [_, _], _ => rfl
  have c16 : Cal P w K mg base 6 "late_ones" (spLateOnes c) := cal_mk (ps := ["office"]) X G d16 (fun f fd F => ok_late_ones F T c15) fun _ _ _ _ _ _ us hl => match us, hl with | [_], _ => rfl
  have c17 : Cal P w K mg base 5 "held_by" (spHeldBy c) := cal_mk (ps := ["office", "person"]) X G d17 (fun f fd F => ok_held_by F T c13) fun _ _ _ _ _ _ us hl => match us, hl with | [_, _], _ => rfl
  have c18 : Cal P w K mg base 1 "bits_of" (spBitsOf K) := cal_mk (ps := ["numbers"]) X G d18 (fun f fd F => ok_bits_of F T) fun _ _ _ _ _ _ us hl => match us, hl with | [_], _ => rfl
  have c38 : Cal P w K mg base 1 "are_weeks" (spAreWeeks K) := cal_mk (ps := ["weeks"]) X G d38 (fun f fd F => ok_are_weeks F T) fun _ _ _ _ _ _ us hl => match us, hl with | [_], _ => rfl
  have c39 : Cal P w K mg base 1 "is_land" (spIsLand c) := cal_mk (ps := ["office", "land"]) X G d39 (fun f fd F => ok_is_land F T) fun _ _ _ _ _ _ us hl => match us, hl with | [_, _], _ => rfl
  have c40 : Cal P w K mg base 1 "is_deputy" spIsDeputy := cal_mk (ps := ["deputy"]) X G d40 (fun f fd F => ok_is_deputy F T) fun _ _ _ _ _ _ us hl => match us, hl with | [_], _ => rfl
  have c41 : Cal P w K mg base 1 "is_person" (spIsPerson c) := cal_mk (ps := ["office", "person"]) X G d41 (fun f fd F => ok_is_person F T) fun _ _ _ _ _ _ us hl => match us, hl with | [_, _], _ => rfl
  have c42 : Cal P w K mg base 1 "is_letter" (spIsLetter c) := cal_mk (ps := ["office", "letter"]) X G d42 (fun f fd F => ok_is_letter F T) fun _ _ _ _ _ _ us hl => match us, hl with | [_, _], _ => rfl
  have c43 : Cal P w K mg base 2 "ask_holiday" (spAsk2 c .holiday) := cal_mk (ps := ["office", "land", "day"]) X G d43 (fun f fd F => ok_ask_holiday F T c39) fun _ _ _ _ _ _ us hl => match us, hl with | [_, _, _], _ => rfl
  have c44 : Cal P w K mg base 3 "ask_person" (spAsk2 c .person) := cal_mk (ps := ["office", "land", "deputy"]) X G d44 (fun f fd F => ok_ask_person F T c39 c40 m20) fun _ _ _ _ _ _ us hl => match us, hl with | [_, _, _], _ => rfl
  have c45 : Cal P w K mg base 2 "ask_deputy" (spAsk2 c .deputy) := cal_mk (ps := ["office", "person", "deputy"]) X G d45 (fun f fd F => ok_ask_deputy F T c40 c41) fun _ _ _ _ _ _ us hl => match us, hl with | [_, _, _], _ => rfl
  have c46 : Cal P w K mg base 2 "ask_away" (spAsk3 c .away) := cal_mk (ps := ["office", "person", "first", "last"]) X G d46 (fun f fd F => ok_ask_away F T c41) fun _ _ _ _ _ _ us hl => match us, hl with | [_, _, _, _], _ => rfl
  have c47 : Cal P w K mg base 3 "ask_letter" (spAsk2 c .letter) := cal_mk (ps := ["office", "to", "term"]) X G d47 (fun f fd F => ok_ask_letter F T c41 m21) fun _ _ _ _ _ _ us hl => match us, hl with | [_, _, _], _ => rfl
  have c48 : Cal P w K mg base 6 "ask_answer" (spAsk1 c .answer) := cal_mk (ps := ["office", "number"]) X G d48 (fun f fd F => ok_ask_answer F T c42 c15) fun _ _ _ _ _ _ us hl => match us, hl with | [_, _], _ => rfl
  have c49 : Cal P w K mg base 7 "ask_day" (spAsk1 c .day) := cal_mk (ps := ["office", "day"]) X G d49 (fun f fd F => ok_ask_day F T c16) fun _ _ _ _ _ _ us hl => match us, hl with | [_, _], _ => rfl
  have c50 : Cal P w K mg base 5 "ask_holder" (spAsk1 c .holder) := cal_mk (ps := ["office", "number"]) X G d50 (fun f fd F => ok_ask_holder F T c42 c13) fun _ _ _ _ _ _ us hl => match us, hl with | [_, _], _ => rfl
  have c51 : Cal P w K mg base 5 "ask_due" (spAsk1 c .due) := cal_mk (ps := ["office", "number"]) X G d51 (fun f fd F => ok_ask_due F T c42 c14) fun _ _ _ _ _ _ us hl => match us, hl with | [_, _], _ => rfl
  have c52 : Cal P w K mg base 6 "ask_list" (spAsk1 c .list) := cal_mk (ps := ["office", "person"]) X G d52 (fun f fd F => ok_ask_list F T c41 c17 c18) fun _ _ _ _ _ _ us hl => match us, hl with | [_, _], _ => rfl
  have c53 : Cal P w K mg base 7 "ask_late" (spAsk0 c .late) := cal_mk (ps := ["office"]) X G d53 (fun f fd F => ok_ask_late F T c16 c17 c18) fun _ _ _ _ _ _ us hl => match us, hl with | [_], _ => rfl
  have c57 : Cal P w K mg base 4 "asked_first" (spAsked c K 1 5) := cal_mk (ps := ["office", "call", "numbers"]) X G d57 (fun f fd F => ok_asked_first F c43 c44 c45 c46 c47) fun _ _ _ _ _ _ us hl => match us, hl with | [_, _, _], _ => rfl
  have c58 : Cal P w K mg base 8 "asked_last" (spAsked c K 6 11) := cal_mk (ps := ["office", "call", "numbers"]) X G d58 (fun f fd F => ok_asked_last F c48 c49 c50 c51 c52 c53) fun _ _ _ _ _ _ us hl => match us, hl with | [_, _, _], _ => rfl
  have c59 : Cal P w K mg base 9 "asked" (spAsked c K 1 11) := cal_mk (ps := ["office", "call", "numbers"]) X G d59 (fun f fd F => ok_asked F c57 c58) fun _ _ _ _ _ _ us hl => match us, hl with | [_, _, _], _ => rfl
  have c60 : Cal P w K mg base 3 "started" (spStarted c K) := cal_mk (ps := ["office", "weeks"]) X G d60 (fun f fd F => ok_started F T c38 m22) fun _ _ _ _ _ _ us hl => match us, hl with | [_, _], _ => rfl
  exact ok_answers (fun_mk (st := top 61) l61 c61 k61) T c60 c59
end Ad
open PySem PySem.W PyProof.Rows
set_option maxRecDepth 100000 in
set_option maxHeartbeats 0 in
theorem PySem.Challenge.cw_answerdesk_s01_answers_holds : PySem.Challenge.rw_answerdesk_s01_answers.Holds := by
  w_on; k_headS; (case hw => exact ⟨[.list [.int 0, .int 1, .int 1]], by decide +kernel, by decide +kernel⟩)
  k_fillS
  refine L2.walk_specK (r := PySem.Challenge.rw_answerdesk_s01_answers) (k := 10) (CX := L2.CX0) (ps := ["calls"]) (sp := Ad.spAnswers) (by decide +kernel) rfl rfl ⟨rfl, by decide, by decide⟩ (fun w h Y => PySem.W.kIn_of Y) ?F ?S (fun _ _ _ _ z => z)
  case F =>
    intro w mg fa h Y KX G hmg
    refine' Ad.all_mk KX G hmg ?h_d20 ?h_d21 ?h_d22 ?h_oW ?h_oH ?h_oP ?h_oL ?h_oT ?h_pL ?h_pD ?h_pV ?h_lT ?h_lC ?h_lM ?h_lO ?h_zsum ?h_zrange ?h_zany ?h_zall ?h_zlen ?h_zenumerate ?h_zint ?h_zlist ?h_gWEEK ?h_gLAST_DAY ?h_gNOBODY ?h_gNOT_THERE ?h_gBEFORE ?h_gIS_THERE ?h_gBAD ?h_gFULL ?h_gWAITS ?h_gMOST_LANDS ?h_gALL_DAYS ?h_gMOST_HOLIDAYS ?h_gMOST_PEOPLE ?h_gNO_DEPUTY ?h_gMOST_LEAVES ?h_gMOST_LETTERS ?h_gMOST_TERM ?h_gSTART ?h_gSIZES ?h_d3 ?h_d4 ?h_d5 ?h_d6 ?h_d7 ?h_d8 ?h_d11 ?h_d12 ?h_d13 ?h_d14 ?h_d15 ?h_d16 ?h_d17 ?h_d18 ?h_d38 ?h_d39 ?h_d40 ?h_d41 ?h_d42 ?h_d43 ?h_d44 ?h_d45 ?h_d46 ?h_d47 ?h_d48 ?h_d49 ?h_d50 ?h_d51 ?h_d52 ?h_d53 ?h_d57 ?h_d58 ?h_d59 ?h_d60 ?h_a61 ?h_l61 ?h_c61 ?h_k61
    (case h_d20 => (refine' Ad.cf_mk ?u_aC_20 ?u_a_20 ?u_i_20 ?u_l_20 ?u_c_20 ?u_k_20 ?u_pg_20 ?u_hd_20 ?u_po_20 ?u_sa_20 ?u_mk_20 ?u_kc_20; (case u_aC_20 => k_is); (case u_a_20 => k_is); (case u_i_20 => k_is); (case u_l_20 => k_is); (case u_c_20 => k_is); (case u_k_20 => k_is); (case u_pg_20 => k_is); (case u_hd_20 => k_is); (case u_po_20 => k_is); (case u_sa_20 => k_is); (case u_mk_20 => k_is); (case u_kc_20 => k_is)))
    (case h_d21 => (refine' Ad.cf_mk ?u_aC_21 ?u_a_21 ?u_i_21 ?u_l_21 ?u_c_21 ?u_k_21 ?u_pg_21 ?u_hd_21 ?u_po_21 ?u_sa_21 ?u_mk_21 ?u_kc_21; (case u_aC_21 => k_is); (case u_a_21 => k_is); (case u_i_21 => k_is); (case u_l_21 => k_is); (case u_c_21 => k_is); (case u_k_21 => k_is); (case u_pg_21 => k_is); (case u_hd_21 => k_is); (case u_po_21 => k_is); (case u_sa_21 => k_is); (case u_mk_21 => k_is); (case u_kc_21 => k_is)))
    (case h_d22 => (refine' Ad.cf_mk ?u_aC_22 ?u_a_22 ?u_i_22 ?u_l_22 ?u_c_22 ?u_k_22 ?u_pg_22 ?u_hd_22 ?u_po_22 ?u_sa_22 ?u_mk_22 ?u_kc_22; (case u_aC_22 => k_is); (case u_a_22 => k_is); (case u_i_22 => k_is); (case u_l_22 => k_is); (case u_c_22 => k_is); (case u_k_22 => k_is); (case u_pg_22 => k_is); (case u_hd_22 => k_is); (case u_po_22 => k_is); (case u_sa_22 => k_is); (case u_mk_22 => k_is); (case u_kc_22 => k_is)))
    (case h_oW => k_is)
    (case h_oH => k_is)
    (case h_oP => k_is)
    (case h_oL => k_is)
    (case h_oT => k_is)
    (case h_pL => k_is)
    (case h_pD => k_is)
    (case h_pV => k_is)
    (case h_lT => k_is)
    (case h_lC => k_is)
    (case h_lM => k_is)
    (case h_lO => k_is)
    (case h_zsum => k_is)
    (case h_zrange => k_is)
    (case h_zany => k_is)
    (case h_zall => k_is)
    (case h_zlen => k_is)
    (case h_zenumerate => k_is)
    (case h_zint => k_is)
    (case h_zlist => k_is)
    (case h_gWEEK => (refine' Ad.con_mk ?u_WEEK; (case u_WEEK => k_is)))
    (case h_gLAST_DAY => (refine' Ad.con_mk ?u_LAST_DAY; (case u_LAST_DAY => k_is)))
    (case h_gNOBODY => (refine' Ad.con_mk ?u_NOBODY; (case u_NOBODY => k_is)))
    (case h_gNOT_THERE => (refine' Ad.con_mk ?u_NOT_THERE; (case u_NOT_THERE => k_is)))
    (case h_gBEFORE => (refine' Ad.con_mk ?u_BEFORE; (case u_BEFORE => k_is)))
    (case h_gIS_THERE => (refine' Ad.con_mk ?u_IS_THERE; (case u_IS_THERE => k_is)))
    (case h_gBAD => (refine' Ad.con_mk ?u_BAD; (case u_BAD => k_is)))
    (case h_gFULL => (refine' Ad.con_mk ?u_FULL; (case u_FULL => k_is)))
    (case h_gWAITS => (refine' Ad.con_mk ?u_WAITS; (case u_WAITS => k_is)))
    (case h_gMOST_LANDS => (refine' Ad.con_mk ?u_MOST_LANDS; (case u_MOST_LANDS => k_is)))
    (case h_gALL_DAYS => (refine' Ad.con_mk ?u_ALL_DAYS; (case u_ALL_DAYS => k_is)))
    (case h_gMOST_HOLIDAYS => (refine' Ad.con_mk ?u_MOST_HOLIDAYS; (case u_MOST_HOLIDAYS => k_is)))
    (case h_gMOST_PEOPLE => (refine' Ad.con_mk ?u_MOST_PEOPLE; (case u_MOST_PEOPLE => k_is)))
    (case h_gNO_DEPUTY => (refine' Ad.con_mk ?u_NO_DEPUTY; (case u_NO_DEPUTY => k_is)))
    (case h_gMOST_LEAVES => (refine' Ad.con_mk ?u_MOST_LEAVES; (case u_MOST_LEAVES => k_is)))
    (case h_gMOST_LETTERS => (refine' Ad.con_mk ?u_MOST_LETTERS; (case u_MOST_LETTERS => k_is)))
    (case h_gMOST_TERM => (refine' Ad.con_mk ?u_MOST_TERM; (case u_MOST_TERM => k_is)))
    (case h_gSTART => (refine' Ad.con_mk ?u_START; (case u_START => k_is)))
    (case h_gSIZES => (refine' Ad.sz_mk KX G ?u_sza ?u_szl; (case u_sza => k_is); (case u_szl => k_is)))
    (case h_d3 => (refine' Ad.df_mk ?u_a_3 ?u_l_3 ?u_c_3 ?u_k_3; (case u_a_3 => k_is); (case u_l_3 => k_is); (case u_c_3 => k_is); (case u_k_3 => k_is)))
    (case h_d4 => (refine' Ad.df_mk ?u_a_4 ?u_l_4 ?u_c_4 ?u_k_4; (case u_a_4 => k_is); (case u_l_4 => k_is); (case u_c_4 => k_is); (case u_k_4 => k_is)))
    (case h_d5 => (refine' Ad.df_mk ?u_a_5 ?u_l_5 ?u_c_5 ?u_k_5; (case u_a_5 => k_is); (case u_l_5 => k_is); (case u_c_5 => k_is); (case u_k_5 => k_is)))
    (case h_d6 => (refine' Ad.df_mk ?u_a_6 ?u_l_6 ?u_c_6 ?u_k_6; (case u_a_6 => k_is); (case u_l_6 => k_is); (case u_c_6 => k_is); (case u_k_6 => k_is)))
    (case h_d7 => (refine' Ad.df_mk ?u_a_7 ?u_l_7 ?u_c_7 ?u_k_7; (case u_a_7 => k_is); (case u_l_7 => k_is); (case u_c_7 => k_is); (case u_k_7 => k_is)))
    (case h_d8 => (refine' Ad.df_mk ?u_a_8 ?u_l_8 ?u_c_8 ?u_k_8; (case u_a_8 => k_is); (case u_l_8 => k_is); (case u_c_8 => k_is); (case u_k_8 => k_is)))
    (case h_d11 => (refine' Ad.df_mk ?u_a_11 ?u_l_11 ?u_c_11 ?u_k_11; (case u_a_11 => k_is); (case u_l_11 => k_is); (case u_c_11 => k_is); (case u_k_11 => k_is)))
    (case h_d12 => (refine' Ad.df_mk ?u_a_12 ?u_l_12 ?u_c_12 ?u_k_12; (case u_a_12 => k_is); (case u_l_12 => k_is); (case u_c_12 => k_is); (case u_k_12 => k_is)))
    (case h_d13 => (refine' Ad.df_mk ?u_a_13 ?u_l_13 ?u_c_13 ?u_k_13; (case u_a_13 => k_is); (case u_l_13 => k_is); (case u_c_13 => k_is); (case u_k_13 => k_is)))
    (case h_d14 => (refine' Ad.df_mk ?u_a_14 ?u_l_14 ?u_c_14 ?u_k_14; (case u_a_14 => k_is); (case u_l_14 => k_is); (case u_c_14 => k_is); (case u_k_14 => k_is)))
    (case h_d15 => (refine' Ad.df_mk ?u_a_15 ?u_l_15 ?u_c_15 ?u_k_15; (case u_a_15 => k_is); (case u_l_15 => k_is); (case u_c_15 => k_is); (case u_k_15 => k_is)))
    (case h_d16 => (refine' Ad.df_mk ?u_a_16 ?u_l_16 ?u_c_16 ?u_k_16; (case u_a_16 => k_is); (case u_l_16 => k_is); (case u_c_16 => k_is); (case u_k_16 => k_is)))
    (case h_d17 => (refine' Ad.df_mk ?u_a_17 ?u_l_17 ?u_c_17 ?u_k_17; (case u_a_17 => k_is); (case u_l_17 => k_is); (case u_c_17 => k_is); (case u_k_17 => k_is)))
    (case h_d18 => (refine' Ad.df_mk ?u_a_18 ?u_l_18 ?u_c_18 ?u_k_18; (case u_a_18 => k_is); (case u_l_18 => k_is); (case u_c_18 => k_is); (case u_k_18 => k_is)))
    (case h_d38 => (refine' Ad.df_mk ?u_a_38 ?u_l_38 ?u_c_38 ?u_k_38; (case u_a_38 => k_is); (case u_l_38 => k_is); (case u_c_38 => k_is); (case u_k_38 => k_is)))
    (case h_d39 => (refine' Ad.df_mk ?u_a_39 ?u_l_39 ?u_c_39 ?u_k_39; (case u_a_39 => k_is); (case u_l_39 => k_is); (case u_c_39 => k_is); (case u_k_39 => k_is)))
    (case h_d40 => (refine' Ad.df_mk ?u_a_40 ?u_l_40 ?u_c_40 ?u_k_40; (case u_a_40 => k_is); (case u_l_40 => k_is); (case u_c_40 => k_is); (case u_k_40 => k_is)))
    (case h_d41 => (refine' Ad.df_mk ?u_a_41 ?u_l_41 ?u_c_41 ?u_k_41; (case u_a_41 => k_is); (case u_l_41 => k_is); (case u_c_41 => k_is); (case u_k_41 => k_is)))
    (case h_d42 => (refine' Ad.df_mk ?u_a_42 ?u_l_42 ?u_c_42 ?u_k_42; (case u_a_42 => k_is); (case u_l_42 => k_is); (case u_c_42 => k_is); (case u_k_42 => k_is)))
    (case h_d43 => (refine' Ad.df_mk ?u_a_43 ?u_l_43 ?u_c_43 ?u_k_43; (case u_a_43 => k_is); (case u_l_43 => k_is); (case u_c_43 => k_is); (case u_k_43 => k_is)))
    (case h_d44 => (refine' Ad.df_mk ?u_a_44 ?u_l_44 ?u_c_44 ?u_k_44; (case u_a_44 => k_is); (case u_l_44 => k_is); (case u_c_44 => k_is); (case u_k_44 => k_is)))
    (case h_d45 => (refine' Ad.df_mk ?u_a_45 ?u_l_45 ?u_c_45 ?u_k_45; (case u_a_45 => k_is); (case u_l_45 => k_is); (case u_c_45 => k_is); (case u_k_45 => k_is)))
    (case h_d46 => (refine' Ad.df_mk ?u_a_46 ?u_l_46 ?u_c_46 ?u_k_46; (case u_a_46 => k_is); (case u_l_46 => k_is); (case u_c_46 => k_is); (case u_k_46 => k_is)))
    (case h_d47 => (refine' Ad.df_mk ?u_a_47 ?u_l_47 ?u_c_47 ?u_k_47; (case u_a_47 => k_is); (case u_l_47 => k_is); (case u_c_47 => k_is); (case u_k_47 => k_is)))
    (case h_d48 => (refine' Ad.df_mk ?u_a_48 ?u_l_48 ?u_c_48 ?u_k_48; (case u_a_48 => k_is); (case u_l_48 => k_is); (case u_c_48 => k_is); (case u_k_48 => k_is)))
    (case h_d49 => (refine' Ad.df_mk ?u_a_49 ?u_l_49 ?u_c_49 ?u_k_49; (case u_a_49 => k_is); (case u_l_49 => k_is); (case u_c_49 => k_is); (case u_k_49 => k_is)))
    (case h_d50 => (refine' Ad.df_mk ?u_a_50 ?u_l_50 ?u_c_50 ?u_k_50; (case u_a_50 => k_is); (case u_l_50 => k_is); (case u_c_50 => k_is); (case u_k_50 => k_is)))
    (case h_d51 => (refine' Ad.df_mk ?u_a_51 ?u_l_51 ?u_c_51 ?u_k_51; (case u_a_51 => k_is); (case u_l_51 => k_is); (case u_c_51 => k_is); (case u_k_51 => k_is)))
    (case h_d52 => (refine' Ad.df_mk ?u_a_52 ?u_l_52 ?u_c_52 ?u_k_52; (case u_a_52 => k_is); (case u_l_52 => k_is); (case u_c_52 => k_is); (case u_k_52 => k_is)))
    (case h_d53 => (refine' Ad.df_mk ?u_a_53 ?u_l_53 ?u_c_53 ?u_k_53; (case u_a_53 => k_is); (case u_l_53 => k_is); (case u_c_53 => k_is); (case u_k_53 => k_is)))
    (case h_d57 => (refine' Ad.df_mk ?u_a_57 ?u_l_57 ?u_c_57 ?u_k_57; (case u_a_57 => k_is); (case u_l_57 => k_is); (case u_c_57 => k_is); (case u_k_57 => k_is)))
    (case h_d58 => (refine' Ad.df_mk ?u_a_58 ?u_l_58 ?u_c_58 ?u_k_58; (case u_a_58 => k_is); (case u_l_58 => k_is); (case u_c_58 => k_is); (case u_k_58 => k_is)))
    (case h_d59 => (refine' Ad.df_mk ?u_a_59 ?u_l_59 ?u_c_59 ?u_k_59; (case u_a_59 => k_is); (case u_l_59 => k_is); (case u_c_59 => k_is); (case u_k_59 => k_is)))
    (case h_d60 => (refine' Ad.df_mk ?u_a_60 ?u_l_60 ?u_c_60 ?u_k_60; (case u_a_60 => k_is); (case u_l_60 => k_is); (case u_c_60 => k_is); (case u_k_60 => k_is)))
    (case h_a61 => k_is)
    (case h_l61 => k_is)
    (case h_c61 => k_is)
    (case h_k61 => k_is)
  case S =>
    intro K H xs a hO hwi hask hx
    cases hx with
    | cons h1 h2 =>
      cases h2
      cases h1 with
      | lst hs ha =>
        have e := L2.ints_dw a.1 _ ha
        subst e
        have q : ((Codec.inLen 0 30000 a.1 && a.1.all (Codec.inInt 0 4294967295)) && true) = true := hwi
        rw [Bool.and_eq_true, Bool.and_eq_true] at q
        exact ⟨_, a.1, rfl, hs, (Codec.inNat_iff.mp q.1.1).2, hask, fun H' p hp => .lst (L2.SqL.of hp) (L2.dw_ints _)⟩
#print axioms PySem.Challenge.cw_answerdesk_s01_answers_holds
