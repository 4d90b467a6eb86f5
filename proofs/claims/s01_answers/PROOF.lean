import PyProof.Rows.All
import Wide.All
import OpenK.AllK
import Wide.FinOn
import Open.SpecLaws
import KE.OsGo
import KE.DataMinMax
import HandS.ForSpec
import HandS.Comp
import HandS.Evl
import HandS.Dict
import HandS.WordsDict
import HandS.Iter
import HandS.Text
import HandS.Conv
import HandS.ExcInit
import HandS.ExcField
import PySem.Challenge.RW_bridgestages_s01_answers
set_option Elab.async false
set_option autoImplicit false
set_option linter.all false
set_option maxRecDepth 100000
set_option maxHeartbeats 8000000
section
/-! The plain laws, part A: bits, what rests, what carries, what falls, moves. No program in sight. -/
namespace BrA
open Sy47 (St)

theorem has_bit (s i : Nat) : Sy47.has s i = s.testBit i := by
  unfold Sy47.has
  rw [Nat.testBit_eq_decide_div_mod_eq]
  by_cases h : s / 2 ^ i % 2 = 1
  · simp [h]
  · simp [h]

theorem set_bit {s i : Nat} (h : s.testBit i = false) (j : Nat) : (s + 2 ^ i).testBit j = (s.testBit j || decide (j = i)) := by
  by_cases h1 : j < i
  · rw [Nat.add_comm, Nat.testBit_two_pow_add_gt h1]
    have : ¬ j = i := by omega
    simp [this]
  · by_cases h2 : j = i
    · subst h2
      rw [Nat.add_comm, Nat.testBit_two_pow_add_eq, h]
      simp
    · obtain ⟨k, rfl⟩ : ∃ k, j = k + (i + 1) := ⟨j - (i + 1), by omega⟩
      rw [Nat.testBit_add, Nat.testBit_add s]
      have e : (s + 2 ^ i) / 2 ^ (i + 1) = s / 2 ^ (i + 1) := by
        rw [Nat.testBit_eq_decide_div_mod_eq] at h
        have h0 : s / 2 ^ i % 2 = 0 := by
          have := of_decide_eq_false h
          omega
        have hm : s % 2 ^ (i + 1) = s % 2 ^ i := by
          rw [Nat.pow_succ, Nat.mod_mul, h0]
          omega
        have hlt : s % 2 ^ i < 2 ^ i := Nat.mod_lt _ (Nat.two_pow_pos i)
        have hd := Nat.div_add_mod s (2 ^ (i + 1))
        have hp : 2 ^ (i + 1) = 2 * 2 ^ i := by rw [Nat.pow_succ, Nat.mul_comm]
        have e1 : s + 2 ^ i = (s % 2 ^ i + 2 ^ i) + 2 ^ (i + 1) * (s / 2 ^ (i + 1)) := by omega
        rw [e1, Nat.add_mul_div_left _ _ (Nat.two_pow_pos (i + 1)), Nat.div_eq_of_lt (by omega)]
        omega
      rw [e]
      simp [h2]
theorem set_or {s i : Nat} (h : s.testBit i = false) : s + 2 ^ i = s ||| 2 ^ i := by
  apply Nat.eq_of_testBit_eq
  intro j
  rw [set_bit h, Nat.testBit_or, Nat.testBit_two_pow]
  by_cases e : i = j
  · subst e
    simp
  · have : ¬ j = i := fun z => e z.symm
    simp [e, this]
theorem has_le {s i : Nat} (h : Sy47.has s i = true) : 2 ^ i ≤ s := by
  rw [has_bit] at h
  exact Nat.ge_two_pow_of_testBit h
theorem has_clear {s i : Nat} (h : Sy47.has s i = true) (j : Nat) : Sy47.has (s - 2 ^ i) j = (Sy47.has s j && !decide (j = i)) := by
  have hle := has_le h
  rw [has_bit] at h
  obtain ⟨u, rfl⟩ : ∃ u, s = u + 2 ^ i := ⟨s - 2 ^ i, by omega⟩
  have hu : u.testBit i = false := by
    rw [Nat.add_comm, Nat.testBit_two_pow_add_eq] at h
    simpa using h
  rw [has_bit, has_bit, Nat.add_sub_cancel, set_bit hu]
  by_cases e : j = i
  · subst e
    simp [hu]
  · simp [e]
theorem has_set {s i : Nat} (h : Sy47.has s i = false) (j : Nat) : Sy47.has (s + 2 ^ i) j = (Sy47.has s j || decide (j = i)) := by
  rw [has_bit] at h
  rw [has_bit, has_bit, set_bit h]
theorem set_lt {s i n : Nat} (h : Sy47.has s i = false) (hs : s < 2 ^ n) (hi : i < n) : s + 2 ^ i < 2 ^ n := by
  rw [has_bit] at h
  rw [set_or h]
  exact Nat.or_lt_two_pow hs (Nat.pow_lt_pow_right (by decide) hi)
theorem with_eq {s i : Nat} (h : Sy47.has s i = false) : Sy47.with_ s i = s + 2 ^ i := by
  unfold Sy47.with_
  rw [h]
  simp
theorem without_eq {s i : Nat} (h : Sy47.has s i = true) : Sy47.without s i = s - 2 ^ i := by
  unfold Sy47.without
  rw [if_pos h]

/-- all of a set in another: by the bits -/
theorem within_and {n a b : Nat} (ha : a < 2 ^ n) : Sy47.within n a b = decide (a &&& b = a) := by
  rw [Bool.eq_iff_iff, decide_eq_true_iff]
  unfold Sy47.within
  rw [List.all_eq_true]
  constructor
  · intro h
    apply Nat.eq_of_testBit_eq
    intro j
    rw [Nat.testBit_and]
    by_cases hj : j < n
    · have q := h j (List.mem_range.mpr hj)
      rw [has_bit, has_bit] at q
      cases e : a.testBit j <;> simp_all
    · have : a.testBit j = false := Nat.testBit_lt_two_pow (Nat.lt_of_lt_of_le ha (Nat.pow_le_pow_right (by decide) (by omega)))
      simp [this]
  · intro h j _
    rw [has_bit, has_bit]
    have q := congrArg (fun x => x.testBit j) h
    simp only [Nat.testBit_and] at q
    cases e : a.testBit j <;> simp_all

structure Wf (s : St) : Prop where
  p1 : 1 ≤ s.pieces
  p6 : s.pieces ≤ 6
  q2 : s.props ≤ 2
  ao : s.atOnce ≤ s.props
  rl : s.rests.length = s.pieces
  r4 : ∀ l ∈ s.rests, l.length ≤ 4
  rb : ∀ l ∈ s.rests, ∀ a ∈ l, a < 2 ^ Sy47.things s
structure Good (s : St) (t : Nat) : Prop where
  lt : t < 2 ^ Sy47.things s
  ca : Sy47.carries s t = true
  pr : Sy47.propsIn s t ≤ s.atOnce

theorem Wf.th {s : St} (h : Wf s) : Sy47.things s ≤ 8 := by
  have := h.p6
  have := h.q2
  unfold Sy47.things
  omega
theorem Wf.n256 {s : St} (h : Wf s) : 2 ^ Sy47.things s ≤ 256 := Nat.pow_le_pow_right (n := 2) (by decide) h.th
theorem Wf.row {s : St} (h : Wf s) {i : Nat} (hi : i < s.pieces) : ∃ l, s.rests[i]? = some l ∧ l ∈ s.rests ∧ s.rests.getD i [] = l := by
  have hi' : i < s.rests.length := by rw [h.rl]; exact hi
  exact ⟨s.rests[i], List.getElem?_eq_getElem hi', List.getElem_mem hi', by rw [List.getD_eq_getElem?_getD, List.getElem?_eq_getElem hi']; rfl⟩

/-- does_rest -/
theorem firm_and {s : St} (h : Wf s) {i : Nat} (hi : i < s.pieces) (t : Nat) : Sy47.firm s t i = (s.rests.getD i []).any fun a => decide (a &&& t = a) := by
  obtain ⟨l, _, hm, e⟩ := h.row hi
  unfold Sy47.firm
  rw [e]
  have : ∀ k : List Nat, (∀ a ∈ k, a < 2 ^ Sy47.things s) → (k.any fun a => Sy47.within (Sy47.things s) a t) = k.any fun a => decide (a &&& t = a) := by
    intro k
    induction k with
    | nil => intro _; rfl
    | cons a r ih =>
      intro hb
      rw [List.any_cons, List.any_cons, ih fun b hb' => hb b (List.mem_cons_of_mem _ hb'), within_and (hb a List.mem_cons_self)]
  exact this l (h.rb l hm)
/-- the pieces, the props in a stage -/
def pin (s : St) (t : Nat) : List Nat := (List.range s.pieces).filter fun i => Sy47.has t i
def qin (s : St) (t : Nat) : List Nat := (List.range s.props).filter fun j => Sy47.has t (s.pieces + j)
theorem pin_len (s : St) (t : Nat) : (pin s t).length = Sy47.size s.pieces t := rfl
theorem qin_len (s : St) (t : Nat) : (qin s t).length = Sy47.propsIn s t := rfl
theorem pin_lt {s : St} {t i : Nat} (h : i ∈ pin s t) : i < s.pieces := List.mem_range.mp (List.mem_filter.mp h).1
theorem pin_has {s : St} {t i : Nat} (h : i ∈ pin s t) : Sy47.has t i = true := (List.mem_filter.mp h).2
/-- does_carry -/
theorem carries_pin (s : St) (t : Nat) : (pin s t).all (fun i => Sy47.firm s t i) = Sy47.carries s t := by
  unfold pin Sy47.carries
  induction List.range s.pieces with
  | nil => rfl
  | cons i r ih =>
    rw [List.filter_cons, List.all_cons]
    cases e : Sy47.has t i with
    | true => rw [if_pos rfl, List.all_cons, ih]; rfl
    | false =>
      rw [if_neg (by decide), ih]
      rfl

/-! ### what falls -/
/-- without_loose -/
def loose (s : St) (t : Nat) : Nat := (pin s t).foldl (fun f i => if Sy47.firm s t i = true then f else f - 2 ^ i) t
def fold1 (s : St) (t : Nat) (l : List Nat) (u : Nat) : Nat := l.foldl (fun (u : Nat) (i : Nat) => if Sy47.has t i = true ∧ Sy47.firm s t i = false then Sy47.without u i else u) u
theorem fold1_has (s : St) (t : Nat) : ∀ (l : List Nat) (u j : Nat), Sy47.has (fold1 s t l u) j = (Sy47.has u j && !(decide (j ∈ l) && (Sy47.has t j && !Sy47.firm s t j)))
  | [], u, j => by simp [fold1]
  | i :: r, u, j => by
    have ih := fold1_has s t r
    show Sy47.has (fold1 s t r (if Sy47.has t i = true ∧ Sy47.firm s t i = false then Sy47.without u i else u)) j = _
    rw [ih]
    by_cases c : Sy47.has t i = true ∧ Sy47.firm s t i = false
    · rw [if_pos c]
      obtain ⟨c1, c2⟩ := c
      by_cases hu : Sy47.has u i = true
      · rw [without_eq hu, has_clear hu]
        by_cases e : j = i
        · subst e
          simp [c1, c2]
        · simp [e]
      · have hu' : Sy47.has u i = false := by simpa using hu
        unfold Sy47.without
        rw [if_neg hu]
        by_cases e : j = i
        · subst e
          simp [hu']
        · simp [e]
    · rw [if_neg c]
      by_cases e : j = i
      · subst e
        have : (Sy47.has t j && !Sy47.firm s t j) = false := by
          cases h1 : Sy47.has t j <;> cases h2 : Sy47.firm s t j <;> simp_all
        simp [this]
      · simp [e]
theorem loose_fold (s : St) (t : Nat) : loose s t = fold1 s t (List.range s.pieces) t := by
  have key : ∀ (l : List Nat) (u : Nat), l.Nodup → (∀ j ∈ l, Sy47.has t j = true → Sy47.has u j = true) →
      (l.filter fun i => Sy47.has t i).foldl (fun f i => if Sy47.firm s t i = true then f else f - 2 ^ i) u = fold1 s t l u := by
    intro l
    induction l with
    | nil => intro u _ _; rfl
    | cons i r ih =>
      intro u hn hu
      obtain ⟨h1, h2⟩ := List.nodup_cons.mp hn
      show _ = fold1 s t r (if Sy47.has t i = true ∧ Sy47.firm s t i = false then Sy47.without u i else u)
      rw [List.filter_cons]
      cases e : Sy47.has t i with
      | false =>
        rw [if_neg (by decide), if_neg (by simp)]
        exact ih u h2 fun j hj => hu j (List.mem_cons_of_mem _ hj)
      | true =>
        rw [if_pos rfl, List.foldl_cons]
        have hui := hu i List.mem_cons_self e
        cases f : Sy47.firm s t i with
        | true =>
          rw [if_pos rfl, if_neg (by simp)]
          exact ih u h2 fun j hj => hu j (List.mem_cons_of_mem _ hj)
        | false =>
          rw [if_neg (by decide), if_pos ⟨rfl, rfl⟩, without_eq hui]
          refine ih _ h2 fun j hj ht => ?_
          rw [has_clear hui, hu j (List.mem_cons_of_mem _ hj) ht]
          have : j ≠ i := fun z => h1 (z ▸ hj)
          simp [this]
  exact key _ t List.nodup_range fun _ _ h => h
theorem filter_lt {α : Type} {p q : α → Bool} : ∀ {l : List α}, (∀ x ∈ l, p x = true → q x = true) → (∃ x ∈ l, q x = true ∧ p x = false) → (l.filter p).length < (l.filter q).length
  | [], _, h => by obtain ⟨x, hx, _⟩ := h; cases hx
  | a :: r, hpq, hx => by
    have le : ∀ m : List α, (∀ x ∈ m, p x = true → q x = true) → (m.filter p).length ≤ (m.filter q).length := by
      intro m
      induction m with
      | nil => intro _; exact Nat.le_refl _
      | cons b m ih =>
        intro hm
        have i1 := ih fun x hx => hm x (List.mem_cons_of_mem _ hx)
        rw [List.filter_cons, List.filter_cons]
        cases e : p b with
        | true => rw [if_pos rfl, if_pos (hm b List.mem_cons_self e)]; simpa using i1
        | false =>
          rw [if_neg (by decide)]
          split
          · rw [List.length_cons]; omega
          · exact i1
    have hr : ∀ x ∈ r, p x = true → q x = true := fun x hx => hpq x (List.mem_cons_of_mem _ hx)
    rw [List.filter_cons, List.filter_cons]
    cases e : p a with
    | true =>
      rw [if_pos rfl, if_pos (hpq a List.mem_cons_self e)]
      obtain ⟨x, hxm, h1, h2⟩ := hx
      have hxr : x ∈ r := by
        rcases List.mem_cons.mp hxm with z | z
        · rw [z, e] at h2; cases h2
        · exact z
      have := filter_lt hr ⟨x, hxr, h1, h2⟩
      simpa using this
    | false =>
      rw [if_neg (by decide)]
      cases f : q a with
      | true =>
        rw [if_pos rfl, List.length_cons]
        have := le r hr
        omega
      | false =>
        rw [if_neg (by decide)]
        obtain ⟨x, hxm, h1, h2⟩ := hx
        have hxr : x ∈ r := by
          rcases List.mem_cons.mp hxm with z | z
          · rw [z, f] at h1; cases h1
          · exact z
        exact filter_lt hr ⟨x, hxr, h1, h2⟩
theorem carries_false {s : St} {t : Nat} (h : Sy47.carries s t = false) : ∃ i, i < s.pieces ∧ Sy47.has t i = true ∧ Sy47.firm s t i = false := by
  unfold Sy47.carries at h
  rw [List.all_eq_false] at h
  obtain ⟨i, hi, h⟩ := h
  refine ⟨i, List.mem_range.mp hi, ?_⟩
  cases h1 : Sy47.has t i <;> cases h2 : Sy47.firm s t i <;> simp_all
theorem carries_true {s : St} {t : Nat} (h : Sy47.carries s t = true) {i : Nat} (hi : i < s.pieces) (hh : Sy47.has t i = true) : Sy47.firm s t i = true := by
  unfold Sy47.carries at h
  rw [List.all_eq_true] at h
  have := h i (List.mem_range.mpr hi)
  rw [hh] at this
  simpa using this
theorem loose_size {s : St} {t : Nat} (h : Sy47.carries s t = false) : Sy47.size s.pieces (loose s t) < Sy47.size s.pieces t := by
  obtain ⟨i, hi, h1, h2⟩ := carries_false h
  unfold Sy47.size
  refine filter_lt (fun x _ hx => ?_) ⟨i, List.mem_range.mpr hi, h1, ?_⟩
  · rw [loose_fold, fold1_has, Bool.and_eq_true] at hx
    exact hx.1
  · rw [loose_fold, fold1_has]
    simp [hi, h1, h2]
theorem loose_le {s : St} {t : Nat} : loose s t ≤ t := by
  unfold loose
  have : ∀ (l : List Nat) (u : Nat), l.foldl (fun f i => if Sy47.firm s t i = true then f else f - 2 ^ i) u ≤ u := by
    intro l
    induction l with
    | nil => intro u; exact Nat.le_refl _
    | cons i r ih =>
      intro u
      rw [List.foldl_cons]
      refine Nat.le_trans (ih _) ?_
      split
      · exact Nat.le_refl _
      · exact Nat.sub_le _ _
  exact this _ t
theorem fallen_step (s : St) (f t : Nat) : Sy47.fallen s (f + 1) t = Sy47.fallen s f (loose s t) := by
  rw [loose_fold]
  rfl
theorem fallen_done {s : St} {t : Nat} (h : Sy47.carries s t = true) : ∀ f, Sy47.fallen s f t = t
  | 0 => rfl
  | f + 1 => by
    rw [fallen_step, loose_fold]
    have : fold1 s t (List.range s.pieces) t = t := by
      unfold fold1
      have key : ∀ l : List Nat, (∀ i ∈ l, i < s.pieces) → l.foldl (fun (u : Nat) (i : Nat) => if Sy47.has t i = true ∧ Sy47.firm s t i = false then Sy47.without u i else u) t = t := by
        intro l
        induction l with
        | nil => intro _; rfl
        | cons i r ih =>
          intro hl
          rw [List.foldl_cons, if_neg]
          · exact ih fun j hj => hl j (List.mem_cons_of_mem _ hj)
          · rintro ⟨a, b⟩
            rw [carries_true h (hl i List.mem_cons_self) a] at b
            cases b
      exact key _ fun i hi => List.mem_range.mp hi
    rw [this]
    exact fallen_done h f
theorem size_le (n t : Nat) : Sy47.size n t ≤ n := by
  unfold Sy47.size
  refine Nat.le_trans (List.length_filter_le _ _) ?_
  rw [List.length_range]
  exact Nat.le_refl _
/-- without_loose, behind so many turns -/
def loosened (s : St) (t i : Nat) : Nat := ((pin s t).take i).foldl (fun f i => if Sy47.firm s t i = true then f else f - 2 ^ i) t
theorem loosened_all (s : St) (t : Nat) : loosened s t (pin s t).length = loose s t := by
  unfold loosened loose
  rw [List.take_length]
theorem take_snoc {α : Type} : ∀ {l : List α} {i : Nat} {x : α}, l[i]? = some x → l.take (i + 1) = l.take i ++ [x]
  | [], i, x, h => by simp at h
  | a :: l, 0, x, h => by
    have e : a = x := Option.some.inj h
    subst e
    rfl
  | a :: l, i + 1, x, h => by
    have ih := take_snoc (l := l) (i := i) (x := x) h
    show a :: l.take (i + 1) = a :: l.take i ++ [x]
    rw [ih]
    rfl
theorem loosened_step {s : St} {t i y : Nat} (h : (pin s t)[i]? = some y) : loosened s t (i + 1) = if Sy47.firm s t y = true then loosened s t i else loosened s t i - 2 ^ y := by
  unfold loosened
  rw [take_snoc h, List.foldl_append]
  rfl
theorem fold_has (s : St) (t : Nat) : ∀ (l : List Nat) (u j : Nat), (l ++ [j]).Nodup → (∀ k ∈ l ++ [j], Sy47.has u k = true) → Sy47.has (l.foldl (fun f i => if Sy47.firm s t i = true then f else f - 2 ^ i) u) j = true
  | [], u, j, _, h => h j (by simp)
  | i :: r, u, j, hn, h => by
    have hn : (i :: (r ++ [j])).Nodup := hn
    obtain ⟨h1, h2⟩ := List.nodup_cons.mp hn
    rw [List.foldl_cons]
    refine fold_has s t r _ j h2 fun k hk => ?_
    have hu := h k (List.mem_cons_of_mem _ hk)
    by_cases c : Sy47.firm s t i = true
    · rw [if_pos c]
      exact hu
    · rw [if_neg c, has_clear (h i List.mem_cons_self), hu]
      have : k ≠ i := fun z => h1 (z ▸ hk)
      simp [this]
theorem loosened_has {s : St} {t i y : Nat} (h : (pin s t)[i]? = some y) : Sy47.has (loosened s t i) y = true := by
  have e := take_snoc h
  have sub : (((pin s t).take i) ++ [y]).Sublist (pin s t) := by
    rw [← e]
    exact List.take_sublist _ _
  refine fold_has s t _ t y (sub.nodup (List.nodup_range.filter _)) fun k hk => pin_has (sub.subset hk)
end BrA
end
section
/-! Part B: moves and what one move leads to. -/
namespace BrB
open Sy47 (St)
open BrA

/-- the stage behind a move, whether it carries or not -/
def chg (s : St) (t m : Nat) : Option Nat :=
  if m < 10 then (if Sy47.has t m = true then none else some (t + 2 ^ m))
  else if m < 20 then (if s.atOnce ≤ (qin s t).length then none else if Sy47.has t (s.pieces + (m - 10)) = true then none else some (t + 2 ^ (s.pieces + (m - 10))))
  else if Sy47.has t (s.pieces + (m - 20)) = true then some (t - 2 ^ (s.pieces + (m - 20))) else none
theorem mem_moves {s : St} {m : Nat} : m ∈ Sy47.moves s ↔ (m < s.pieces ∨ (10 ≤ m ∧ m - 10 < s.props) ∨ (20 ≤ m ∧ m - 20 < s.props)) := by
  unfold Sy47.moves
  rw [List.mem_append, List.mem_append, List.mem_range, List.mem_map, List.mem_map]
  constructor
  · rintro (h | ⟨j, h, e⟩ | ⟨j, h, e⟩)
    · exact .inl h
    · have := List.mem_range.mp h
      exact .inr (.inl ⟨by omega, by omega⟩)
    · have := List.mem_range.mp h
      exact .inr (.inr ⟨by omega, by omega⟩)
  · rintro (h | ⟨h, e⟩ | ⟨h, e⟩)
    · exact .inl h
    · exact .inr (.inl ⟨m - 10, List.mem_range.mpr e, by omega⟩)
    · exact .inr (.inr ⟨m - 20, List.mem_range.mpr e, by omega⟩)
/-- behind -/
theorem moved_chg {s : St} (w : Wf s) {m : Nat} (hm : m ∈ Sy47.moves s) (t : Nat) :
    Sy47.moved s t m = match chg s t m with
      | none => none
      | some u => if Sy47.carries s u = true then some u else none := by
  have p6 := w.p6
  have q2 := w.q2
  have hm := mem_moves.mp hm
  have e : (if m < 10 then (if s.pieces ≤ m ∨ Sy47.has t m = true then none else some (Sy47.with_ t m))
    else if m < 20 then (if s.props ≤ m - 10 ∨ Sy47.has t (s.pieces + (m - 10)) = true ∨ s.atOnce ≤ Sy47.propsIn s t then none else some (Sy47.with_ t (s.pieces + (m - 10))))
    else if s.props ≤ m - 20 ∨ Sy47.has t (s.pieces + (m - 20)) = false then none else some (Sy47.without t (s.pieces + (m - 20)))) = chg s t m := by
    unfold chg
    rw [qin_len]
    by_cases h10 : m < 10
    · rw [if_pos h10, if_pos h10]
      have hp : ¬ s.pieces ≤ m := by omega
      by_cases hh : Sy47.has t m = true
      · rw [if_pos (.inr hh), if_pos hh]
      · rw [if_neg (by rintro (z | z); exact hp z; exact hh z), if_neg hh, with_eq (by simpa using hh)]
    · rw [if_neg h10, if_neg h10]
      by_cases h20 : m < 20
      · rw [if_pos h20, if_pos h20]
        have hp : ¬ s.props ≤ m - 10 := by omega
        by_cases hl : s.atOnce ≤ Sy47.propsIn s t
        · rw [if_pos (.inr (.inr hl)), if_pos hl]
        · rw [if_neg hl]
          by_cases hh : Sy47.has t (s.pieces + (m - 10)) = true
          · rw [if_pos (.inr (.inl hh)), if_pos hh]
          · rw [if_neg (by rintro (z | z | z); exact hp z; exact hh z; exact hl z), if_neg hh, with_eq (by simpa using hh)]
      · rw [if_neg h20, if_neg h20]
        have hp : ¬ s.props ≤ m - 20 := by omega
        by_cases hh : Sy47.has t (s.pieces + (m - 20)) = true
        · rw [if_neg (by rintro (z | z); exact hp z; rw [hh] at z; cases z), if_pos hh, without_eq hh]
        · rw [if_pos (.inr (by simpa using hh)), if_neg hh]
  unfold Sy47.moved
  simp only [e]
  rfl

theorem moved_some {s : St} (w : Wf s) {m : Nat} (hm : m ∈ Sy47.moves s) {t u : Nat} (h : Sy47.moved s t m = some u) : chg s t m = some u ∧ Sy47.carries s u = true := by
  rw [moved_chg w hm] at h
  cases e : chg s t m with
  | none => rw [e] at h; cases h
  | some v =>
    rw [e] at h
    by_cases c : Sy47.carries s v = true
    · simp only [if_pos c] at h
      cases h
      exact ⟨rfl, c⟩
    · simp only [if_neg c] at h
      cases h
theorem chg_lt {s : St} (w : Wf s) {m : Nat} (hm : m ∈ Sy47.moves s) {t u : Nat} (ht : t < 2 ^ Sy47.things s) (h : chg s t m = some u) : u < 2 ^ Sy47.things s := by
  have p6 := w.p6
  have q2 := w.q2
  have hm := mem_moves.mp hm
  unfold chg at h
  by_cases h10 : m < 10
  · rw [if_pos h10] at h
    by_cases hh : Sy47.has t m = true
    · rw [if_pos hh] at h; cases h
    · rw [if_neg hh] at h
      cases h
      exact set_lt (by simpa using hh) ht (by unfold Sy47.things; omega)
  · rw [if_neg h10] at h
    by_cases h20 : m < 20
    · rw [if_pos h20] at h
      by_cases hl : s.atOnce ≤ (qin s t).length
      · rw [if_pos hl] at h; cases h
      · rw [if_neg hl] at h
        by_cases hh : Sy47.has t (s.pieces + (m - 10)) = true
        · rw [if_pos hh] at h; cases h
        · rw [if_neg hh] at h
          cases h
          exact set_lt (by simpa using hh) ht (by unfold Sy47.things; omega)
    · rw [if_neg h20] at h
      by_cases hh : Sy47.has t (s.pieces + (m - 20)) = true
      · rw [if_pos hh] at h
        cases h
        exact Nat.lt_of_le_of_lt (Nat.sub_le _ _) ht
      · rw [if_neg hh] at h; cases h
theorem moved_lt {s : St} (w : Wf s) {m : Nat} (hm : m ∈ Sy47.moves s) {t u : Nat} (ht : t < 2 ^ Sy47.things s) (h : Sy47.moved s t m = some u) : u < 2 ^ Sy47.things s := chg_lt w hm ht (moved_some w hm h).1

theorem filter_le {α : Type} {p q : α → Bool} : ∀ {l : List α}, (∀ x ∈ l, p x = true → q x = true) → (l.filter p).length ≤ (l.filter q).length
  | [], _ => Nat.le_refl _
  | b :: m, hm => by
    have i1 := filter_le fun x hx => hm x (List.mem_cons_of_mem _ hx)
    rw [List.filter_cons, List.filter_cons]
    cases e : p b with
    | true => rw [if_pos rfl, if_pos (hm b List.mem_cons_self e)]; simpa using i1
    | false =>
      rw [if_neg (by decide)]
      split
      · rw [List.length_cons]; omega
      · exact i1
theorem filter_or_le {p q : Nat → Bool} {a : Nat} : ∀ {l : List Nat}, l.Nodup → (∀ x ∈ l, q x = true → p x = true ∨ x = a) → (l.filter q).length ≤ (l.filter p).length + 1
  | [], _, _ => Nat.zero_le _
  | b :: m, hn, hm => by
    obtain ⟨h1, h2⟩ := List.nodup_cons.mp hn
    by_cases e : b = a
    · have i1 : (m.filter q).length ≤ (m.filter p).length := filter_le fun x hx hq => by
        rcases hm x (List.mem_cons_of_mem _ hx) hq with z | z
        · exact z
        · exact absurd (e ▸ z ▸ hx) h1
      rw [List.filter_cons, List.filter_cons]
      split <;> split <;> (try simp only [List.length_cons]) <;> omega
    · have i1 := filter_or_le h2 fun x hx => hm x (List.mem_cons_of_mem _ hx)
      have hb := hm b List.mem_cons_self
      rw [List.filter_cons, List.filter_cons]
      cases f : q b with
      | true =>
        have := (hb f).resolve_right e
        rw [if_pos rfl, if_pos this, List.length_cons, List.length_cons]
        omega
      | false =>
        rw [if_neg (by decide)]
        split
        · rw [List.length_cons]; omega
        · exact i1
/-- from a good stage a move leads to a good one -/
theorem moved_good {s : St} (w : Wf s) {m : Nat} (hm : m ∈ Sy47.moves s) {t u : Nat} (g : Good s t) (h : Sy47.moved s t m = some u) : Good s u := by
  have hc := (moved_some w hm h).2
  refine ⟨moved_lt w hm g.lt h, hc, ?_⟩
  have hg := (moved_some w hm h).1
  have p6 := w.p6
  have q2 := w.q2
  have hm := mem_moves.mp hm
  have pr := g.pr
  unfold Sy47.propsIn at pr ⊢
  unfold chg at hg
  by_cases h10 : m < 10
  · rw [if_pos h10] at hg
    by_cases hh : Sy47.has t m = true
    · rw [if_pos hh] at hg; cases hg
    · rw [if_neg hh] at hg
      cases hg
      refine Nat.le_trans (filter_le fun j _ hj => ?_) pr
      rw [has_set (by simpa using hh), Bool.or_eq_true] at hj
      rcases hj with z | z
      · exact z
      · have := of_decide_eq_true z
        omega
  · rw [if_neg h10] at hg
    by_cases h20 : m < 20
    · rw [if_pos h20] at hg
      by_cases hl : s.atOnce ≤ (qin s t).length
      · rw [if_pos hl] at hg; cases hg
      · rw [if_neg hl] at hg
        by_cases hh : Sy47.has t (s.pieces + (m - 10)) = true
        · rw [if_pos hh] at hg; cases hg
        · rw [if_neg hh] at hg
          cases hg
          rw [qin_len] at hl
          unfold Sy47.propsIn at hl
          have := filter_or_le (p := fun j => Sy47.has t (s.pieces + j)) (q := fun j => Sy47.has (t + 2 ^ (s.pieces + (m - 10))) (s.pieces + j)) (a := m - 10) (l := List.range s.props) List.nodup_range fun j _ hj => by
            rw [has_set (by simpa using hh), Bool.or_eq_true] at hj
            rcases hj with z | z
            · exact .inl z
            · have := of_decide_eq_true z
              exact .inr (by omega)
          omega
    · rw [if_neg h20] at hg
      by_cases hh : Sy47.has t (s.pieces + (m - 20)) = true
      · rw [if_pos hh] at hg
        cases hg
        refine Nat.le_trans (filter_le fun j _ hj => ?_) pr
        rw [has_clear hh, Bool.and_eq_true] at hj
        exact hj.1
      · rw [if_neg hh] at hg; cases hg
theorem has_zero (i : Nat) : Sy47.has 0 i = false := by
  rw [has_bit]
  simp
theorem good_zero {s : St} : Good s 0 := by
  refine ⟨Nat.two_pow_pos _, ?_, ?_⟩
  · unfold Sy47.carries
    rw [List.all_eq_true]
    intro i _
    rw [has_zero]
    rfl
  · unfold Sy47.propsIn
    have : (List.range s.props).filter (fun j => Sy47.has 0 (s.pieces + j)) = [] := by
      rw [List.filter_eq_nil_iff]
      intro j _
      rw [has_zero]
      decide
    rw [this]
    exact Nat.zero_le _
/-- the stages behind one move, by the moves' numbers -/
def ways (s : St) (t : Nat) : List Nat := (Sy47.moves s).filterMap fun m => Sy47.moved s t m
theorem mem_ways {s : St} {t u : Nat} : u ∈ ways s t ↔ ∃ m, m ∈ Sy47.moves s ∧ Sy47.moved s t m = some u := by
  unfold ways
  rw [List.mem_filterMap]
theorem ways_lt {s : St} (w : Wf s) {t u : Nat} (ht : t < 2 ^ Sy47.things s) (h : u ∈ ways s t) : u < 2 ^ Sy47.things s := by
  obtain ⟨m, hm, e⟩ := mem_ways.mp h
  exact moved_lt w hm ht e
theorem ways_good {s : St} (w : Wf s) {t u : Nat} (g : Good s t) (h : u ∈ ways s t) : Good s u := by
  obtain ⟨m, hm, e⟩ := mem_ways.mp h
  exact moved_good w hm g e
theorem moves_len {s : St} (w : Wf s) : (Sy47.moves s).length ≤ 10 := by
  have := w.p6
  have := w.q2
  unfold Sy47.moves
  simp only [List.length_append, List.length_map, List.length_range]
  omega
theorem ways_len {s : St} (w : Wf s) (t : Nat) : (ways s t).length ≤ 10 := Nat.le_trans (List.length_filterMap_le _ _) (moves_len w)

/-! ### the end -/
theorem done_lt {s : St} : Sy47.done s < 2 ^ Sy47.things s := by
  unfold Sy47.done Sy47.things
  have h1 : 2 ^ s.pieces ≤ 2 ^ (s.pieces + s.props) := Nat.pow_le_pow_right (by decide) (by omega)
  have h2 := Nat.two_pow_pos s.pieces
  omega
theorem has_done (s : St) (i : Nat) : Sy47.has (Sy47.done s) i = decide (i < s.pieces) := by
  rw [has_bit]
  unfold Sy47.done
  exact Nat.testBit_two_pow_sub_one s.pieces i
theorem done_props (s : St) : Sy47.propsIn s (Sy47.done s) = 0 := by
  unfold Sy47.propsIn
  have : (List.range s.props).filter (fun j => Sy47.has (Sy47.done s) (s.pieces + j)) = [] := by
    rw [List.filter_eq_nil_iff]
    intro j _
    rw [has_done]
    simp
  rw [this]
  rfl
theorem done_good {s : St} (h : Sy47.carries s (Sy47.done s) = true) : Good s (Sy47.done s) := ⟨done_lt, h, by rw [done_props]; exact Nat.zero_le _⟩
/-- spare -/
theorem spare_eq (s : St) : (List.range s.pieces).filter (fun i => Sy47.carries s (Sy47.done s - 2 ^ i)) = (List.range s.pieces).filter fun (i : Nat) => Sy47.carries s (Sy47.without (Sy47.done s) i) := by
  apply List.filter_congr
  intro i hi
  rw [without_eq]
  rw [has_done]
  exact decide_eq_true (List.mem_range.mp hi)
end BrB
end
section
/-! Part C: how far each stage is from the end, and a plan. -/
namespace BrC
open Sy47 (St)
open BrA BrB

abbrev Fs := List (Nat × Nat)
theorem lk_append {α : Type} (F G : List (Nat × α)) (t : Nat) : (F ++ G).lookup t = (F.lookup t).or (G.lookup t) := by
  induction F with
  | nil => simp
  | cons p r ih =>
    obtain ⟨a, b⟩ := p
    rw [List.cons_append]
    by_cases e : t = a
    · subst e
      simp
    · have : (t == a) = false := by simpa using e
      simp only [List.lookup, this]
      exact ih
theorem lk_map {α : Type} (l : List Nat) (k : α) (t : Nat) : (l.map fun x => (x, k)).lookup t = if t ∈ l then some k else none := by
  induction l with
  | nil => simp
  | cons a r ih =>
    rw [List.map_cons]
    by_cases e : t = a
    · subst e
      simp
    · have : (t == a) = false := by simpa using e
      simp only [List.lookup, this, ih, List.mem_cons, e, false_or]
theorem lk_key {α : Type} {F : List (Nat × α)} {t : Nat} : (F.lookup t).isSome = true ↔ t ∈ F.map (·.1) := by
  induction F with
  | nil => simp
  | cons p r ih =>
    obtain ⟨a, b⟩ := p
    by_cases e : t = a
    · subst e
      simp
    · have : (t == a) = false := by simpa using e
      simp only [List.lookup, this, List.map_cons, List.mem_cons, e, false_or]
      exact ih

def others (s : St) (F : Fs) : List Nat := (List.range (2 ^ Sy47.things s)).filter fun t => (F.lookup t).isNone
def next (s : St) (F : Fs) (far : Nat) : List Nat := (others s F).filter fun t => (ways s t).any fun u => decide (F.lookup u = some far)
def more (F : Fs) (new : List Nat) (far : Nat) : Fs := F ++ new.map fun t => (t, far)
def loop (s : St) : Nat → Fs → Nat → List Nat → Fs
  | 0, F, _, _ => F
  | f + 1, F, far, new => if new = [] then F else loop s f (more F (next s F far) (far + 1)) (far + 1) (next s F far)
def dist (s : St) : Fs := loop s 600 [(Sy47.done s, 0)] 0 [Sy47.done s]

theorem loop_nil (s : St) (f : Nat) (F : Fs) (far : Nat) : loop s f F far [] = F := by
  cases f with
  | zero => rfl
  | succ f => exact if_pos rfl
theorem loop_cons {s : St} {f : Nat} {F : Fs} {far : Nat} {new : List Nat} (h : new ≠ []) : loop s (f + 1) F far new = loop s f (more F (next s F far) (far + 1)) (far + 1) (next s F far) := if_neg h
theorem mem_others {s : St} {F : Fs} {t : Nat} : t ∈ others s F ↔ t < 2 ^ Sy47.things s ∧ F.lookup t = none := by
  unfold others
  rw [List.mem_filter, List.mem_range, Option.isNone_iff_eq_none]
theorem mem_next {s : St} {F : Fs} {far t : Nat} : t ∈ next s F far ↔ (t < 2 ^ Sy47.things s ∧ F.lookup t = none) ∧ ∃ u, u ∈ ways s t ∧ F.lookup u = some far := by
  unfold next
  rw [List.mem_filter, mem_others, List.any_eq_true]
  constructor
  · rintro ⟨h, u, hu, e⟩
    exact ⟨h, u, hu, of_decide_eq_true e⟩
  · rintro ⟨h, u, hu, e⟩
    exact ⟨h, u, hu, decide_eq_true e⟩
theorem lk_more {F : Fs} {new : List Nat} {far t : Nat} : (more F new far).lookup t = (F.lookup t).or (if t ∈ new then some far else none) := by
  unfold more
  rw [lk_append, lk_map]
theorem next_nodup (s : St) (F : Fs) (far : Nat) : (next s F far).Nodup := (List.nodup_range.filter _).filter _

/-- what the turns keep -/
structure Ok (s : St) (f : Nat) (F : Fs) (far : Nat) (new : List Nat) : Prop where
  nd : (F.map (·.1)).Nodup
  lt : ∀ p ∈ F, p.1 < 2 ^ Sy47.things s
  fu : new ≠ [] → 2 ^ Sy47.things s - F.length < f
  at_ : ∀ t, F.lookup t = some far ↔ t ∈ new
  le : ∀ t k, F.lookup t = some k → k ≤ far
  st : ∀ t k, F.lookup t = some (k + 1) → ∃ u, u ∈ ways s t ∧ F.lookup u = some k
theorem nodup_le : ∀ {N : Nat} {l : List Nat}, l.Nodup → (∀ x ∈ l, x < N) → l.length ≤ N
  | 0, [], _, _ => Nat.le_refl _
  | 0, x :: r, _, hl => absurd (hl x List.mem_cons_self) (Nat.not_lt_zero _)
  | N + 1, l, hn, hl => by
    have ih := nodup_le (N := N) (l := l.erase N) (hn.erase N) fun x hx => by
      have h := (List.Nodup.mem_erase_iff hn).mp hx
      have := hl x h.2
      have := h.1
      omega
    rw [List.length_erase] at ih
    split at ih <;> omega
theorem Ok.len {s : St} {f : Nat} {F : Fs} {far : Nat} {new : List Nat} (o : Ok s f F far new) : F.length ≤ 2 ^ Sy47.things s := by
  have := nodup_le (N := 2 ^ Sy47.things s) o.nd (fun x hx => by
    obtain ⟨p, hp, e⟩ := List.mem_map.mp hx
    rw [← e]
    exact o.lt p hp)
  rwa [List.length_map] at this
theorem Ok.step {s : St} {f : Nat} {F : Fs} {far : Nat} {new : List Nat} (o : Ok s (f + 1) F far new) (hn : new ≠ []) : Ok s f (more F (next s F far) (far + 1)) (far + 1) (next s F far) := by
  have hk : ∀ t, t ∈ next s F far → F.lookup t = none := fun t ht => (mem_next.mp ht).1.2
  have hne : ∃ t, t ∈ new := by
    cases new with
    | nil => exact absurd rfl hn
    | cons t r => exact ⟨t, List.mem_cons_self⟩
  refine ⟨?_, ?_, fun h => ?_, fun t => ?_, fun t k h => ?_, fun t k h => ?_⟩
  · unfold more
    rw [List.map_append, List.map_map]
    rw [List.nodup_append]
    refine ⟨o.nd, ?_, ?_⟩
    · have : (next s F far).map ((fun p : Nat × Nat => p.1) ∘ fun t => (t, far + 1)) = next s F far := List.map_id' _
      rw [this]
      exact next_nodup s F far
    · rintro a ha b hb rfl
      have h1 := lk_key.mpr ha
      have hb' : a ∈ next s F far := by
        obtain ⟨t, ht, e⟩ := List.mem_map.mp hb
        have e : t = a := e
        rwa [← e]
      rw [hk a hb'] at h1
      cases h1
  · intro p hp
    rcases List.mem_append.mp hp with h | h
    · exact o.lt p h
    · obtain ⟨t, ht, e⟩ := List.mem_map.mp h
      rw [← e]
      exact (mem_next.mp ht).1.1
  · have h1 := o.fu hn
    have h2 : 0 < (next s F far).length := List.length_pos_iff.mpr h
    unfold more
    rw [List.length_append, List.length_map]
    have h3 : 0 < 2 ^ Sy47.things s - F.length := by
      obtain ⟨t, ht⟩ := List.exists_mem_of_length_pos h2
      have hle := o.len
      by_cases e : F.length = 2 ^ Sy47.things s
      · exfalso
        have hnot : t ∉ F.map (·.1) := fun hm => by
          have := lk_key.mpr hm
          rw [hk t ht] at this
          cases this
        have := nodup_le (N := 2 ^ Sy47.things s) (l := t :: F.map (·.1)) (List.nodup_cons.mpr ⟨hnot, o.nd⟩) (fun x hx => by
          rcases List.mem_cons.mp hx with z | z
          · rw [z]
            exact (mem_next.mp ht).1.1
          · obtain ⟨p, hp, e⟩ := List.mem_map.mp z
            rw [← e]
            exact o.lt p hp)
        rw [List.length_cons, List.length_map] at this
        omega
      · omega
    omega
  · rw [lk_more]
    constructor
    · intro h
      cases e : F.lookup t with
      | some k =>
        rw [e] at h
        have := o.le t k e
        simp at h
        omega
      | none =>
        rw [e] at h
        by_cases hm : t ∈ next s F far
        · exact hm
        · simp [hm] at h
    · intro h
      rw [hk t h, if_pos h]
      rfl
  · rw [lk_more] at h
    cases e : F.lookup t with
    | some j =>
      rw [e] at h
      have := o.le t j e
      simp at h
      omega
    | none =>
      rw [e] at h
      by_cases hm : t ∈ next s F far
      · simp [hm] at h
        omega
      · simp [hm] at h
  · rw [lk_more] at h
    cases e : F.lookup t with
    | some j =>
      rw [e] at h
      have hj : j = k + 1 := by simpa using h
      rw [hj] at e
      obtain ⟨u, hu, hl⟩ := o.st t k e
      exact ⟨u, hu, by rw [lk_more, hl]; rfl⟩
    | none =>
      rw [e] at h
      by_cases hm : t ∈ next s F far
      · have hj : far = k := by
          simp [hm] at h
          omega
        obtain ⟨_, u, hu, hl⟩ := mem_next.mp hm
        exact ⟨u, hu, by rw [lk_more, hl, hj]; rfl⟩
      · simp [hm] at h
theorem Ok.start {s : St} : Ok s 600 [(Sy47.done s, 0)] 0 [Sy47.done s] ∨ ¬ Wf s := by
  by_cases w : Wf s
  · left
    refine ⟨by simp, fun p hp => ?_, fun _ => ?_, fun t => ?_, fun t k h => ?_, fun t k h => ?_⟩
    · rw [List.mem_singleton.mp hp]
      exact done_lt
    · have := w.n256
      simp only [List.length_cons, List.length_nil]
      omega
    · by_cases e : t = Sy47.done s
      · subst e
        simp
      · have : (t == Sy47.done s) = false := by simpa using e
        simp [List.lookup, this, e]
    · by_cases e : t = Sy47.done s
      · subst e
        simp at h
        omega
      · have : (t == Sy47.done s) = false := by simpa using e
        simp [List.lookup, this] at h
    · by_cases e : t = Sy47.done s
      · subst e
        simp at h
      · have : (t == Sy47.done s) = false := by simpa using e
        simp [List.lookup, this] at h
  · exact .inr w
/-- what stands at the end -/
structure Fin (s : St) (F : Fs) : Prop where
  nd : (F.map (·.1)).Nodup
  lt : ∀ p ∈ F, p.1 < 2 ^ Sy47.things s
  st : ∀ t k, F.lookup t = some (k + 1) → ∃ u, u ∈ ways s t ∧ F.lookup u = some k
theorem loop_fin {s : St} : ∀ {f : Nat} {F : Fs} {far : Nat} {new : List Nat}, Ok s f F far new → Fin s (loop s f F far new)
  | 0, F, far, new, o => ⟨o.nd, o.lt, o.st⟩
  | f + 1, F, far, new, o => by
    by_cases h : new = []
    · subst h
      rw [loop_nil]
      exact ⟨o.nd, o.lt, o.st⟩
    · rw [loop_cons h]
      exact loop_fin (o.step h)
theorem dist_fin {s : St} (w : Wf s) : Fin s (dist s) := loop_fin (Ok.start.resolve_right fun h => h w)

/-- what is told stays told -/
theorem loop_keep {s : St} : ∀ {f : Nat} {F : Fs} {far : Nat} {new : List Nat} {t k : Nat}, F.lookup t = some k → (loop s f F far new).lookup t = some k
  | 0, _, _, _, _, _, h => h
  | f + 1, F, far, new, t, k, h => by
    by_cases hn : new = []
    · rw [hn, loop_nil]
      exact h
    · rw [loop_cons hn]
      refine loop_keep ?_
      rw [lk_more, h]
      rfl
/-- where no good stage is new none becomes new -/
theorem loop_bad {s : St} (w : Wf s) : ∀ {f : Nat} {F : Fs} {far : Nat} {new : List Nat}, (∀ t, F.lookup t = some far ↔ t ∈ new) → (∀ t k, F.lookup t = some k → k ≤ far) → (∀ t, t ∈ new → ¬ Good s t) → ∀ t, Good s t → F.lookup t = none → (loop s f F far new).lookup t = none
  | 0, _, _, _, _, _, _, _, _, h => h
  | f + 1, F, far, new, h1, h2, hb, t, g, h => by
    by_cases hn : new = []
    · rw [hn, loop_nil]
      exact h
    · rw [loop_cons hn]
      have nb : ∀ u, u ∈ next s F far → ¬ Good s u := fun u hu gu => by
        obtain ⟨_, v, hv, e⟩ := mem_next.mp hu
        exact hb v ((h1 v).mp e) (ways_good w gu hv)
      refine loop_bad w (fun u => ?_) (fun u k hk => ?_) nb t g ?_
      · rw [lk_more]
        cases e : F.lookup u with
        | some k =>
          have := h2 u k e
          constructor
          · intro z
            simp at z
            omega
          · intro z
            rw [(mem_next.mp z).1.2] at e
            cases e
        | none =>
          by_cases hm : u ∈ next s F far
          · simp [hm]
          · simp [hm]
      · rw [lk_more] at hk
        cases e : F.lookup u with
        | some j =>
          rw [e] at hk
          have := h2 u j e
          simp at hk
          omega
        | none =>
          rw [e] at hk
          by_cases hm : u ∈ next s F far
          · simp [hm] at hk
            omega
          · simp [hm] at hk
      · rw [lk_more, h]
        by_cases hm : t ∈ next s F far
        · exact absurd g (nb t hm)
        · simp [hm]

theorem levels_nil (s : St) (g : Nat) (rest : List Nat) : Sy47.levels s g [] rest = [] := by
  cases g with
  | zero => rfl
  | succ g => rfl
def nx (s : St) (now rest : List Nat) : List Nat := rest.filter fun (t : Nat) => (Sy47.moves s).any fun (m : Nat) => match Sy47.moved s t m with
      | none => false
      | some u => now.contains u
theorem levels_cons {s : St} {g : Nat} {now rest : List Nat} (h : now ≠ []) : Sy47.levels s (g + 1) now rest = now :: Sy47.levels s g (nx s now rest) (rest.filter fun (t : Nat) => !(nx s now rest).contains t) := by
  have : now.isEmpty = false := by
    cases now with
    | nil => exact absurd rfl h
    | cons a r => rfl
  show (if now.isEmpty = true then [] else _) = _
  rw [this, if_neg (by decide)]
  rfl
theorem mem_nx {s : St} {now rest : List Nat} {t : Nat} : t ∈ nx s now rest ↔ t ∈ rest ∧ ∃ u, u ∈ ways s t ∧ u ∈ now := by
  unfold nx
  rw [List.mem_filter, List.any_eq_true]
  constructor
  · rintro ⟨h, m, hm, e⟩
    refine ⟨h, ?_⟩
    cases q : Sy47.moved s t m with
    | none => rw [q] at e; cases e
    | some u =>
      rw [q] at e
      exact ⟨u, mem_ways.mpr ⟨m, hm, q⟩, by simpa using e⟩
  · rintro ⟨h, u, hu, e⟩
    obtain ⟨m, hm, q⟩ := mem_ways.mp hu
    refine ⟨h, m, hm, ?_⟩
    rw [q]
    simpa using e
theorem distance_nil (t : Nat) : Sy47.distance [] t = none := rfl
theorem distance_cons (x : List Nat) (l : List (List Nat)) (t : Nat) : Sy47.distance (x :: l) t = if t ∈ x then some 0 else (Sy47.distance l t).map (· + 1) := by
  unfold Sy47.distance
  rw [List.findIdx?_cons]
  by_cases h : t ∈ x
  · rw [if_pos h, if_pos (by simpa using h)]
  · rw [if_neg h, if_neg (by simpa using h)]
/-- the dict and the levels tell the same of good stages -/
theorem loop_levels {s : St} (w : Wf s) : ∀ (f : Nat) (F : Fs) (far : Nat) (new : List Nat) (g : Nat) (now rest : List Nat), Ok s f F far new → (∀ t, Good s t → (t ∈ now ↔ t ∈ new)) → (∀ t, t ∈ now → Good s t) →
    (∀ t, t ∈ rest ↔ Good s t ∧ F.lookup t = none) → (now ≠ [] → rest.length < g) → ∀ t, Good s t → F.lookup t = none →
    (loop s f F far new).lookup t = (Sy47.distance (Sy47.levels s g now rest) t).map (· + far) := by
  intro f
  induction f with
  | zero =>
    intro F far new g now rest o hnow hng hrest hg t gt ht
    have hn : new = [] := by
      by_cases e : new = []
      · exact e
      · have := o.fu e
        omega
    have : now = [] := by
      cases now with
      | nil => rfl
      | cons a r =>
        have := (hnow a (hng a List.mem_cons_self)).mp List.mem_cons_self
        rw [hn] at this
        cases this
    rw [this, levels_nil]
    exact ht
  | succ f ih =>
    intro F far new g now rest o hnow hng hrest hg t gt ht
    by_cases hb : now = []
    · rw [hb, levels_nil]
      refine loop_bad w o.at_ o.le (fun u hu gu => ?_) t gt ht
      have := (hnow u gu).mpr hu
      rw [hb] at this
      cases this
    · have hn : new ≠ [] := fun e => by
        cases now with
        | nil => exact hb rfl
        | cons a r =>
          have := (hnow a (hng a List.mem_cons_self)).mp List.mem_cons_self
          rw [e] at this
          cases this
      obtain ⟨g', rfl⟩ : ∃ g', g = g' + 1 := ⟨g - 1, by have := hg hb; omega⟩
      rw [loop_cons hn, levels_cons hb, distance_cons]
      have o' := o.step hn
      have tn : ¬ t ∈ now := fun h => by
        have := (o.at_ t).mpr ((hnow t gt).mp h)
        rw [ht] at this
        cases this
      rw [if_neg tn]
      have hnx : ∀ u, u ∈ nx s now rest → Good s u := fun u hu => ((hrest u).mp (mem_nx.mp hu).1).1
      have same : ∀ u, Good s u → (u ∈ nx s now rest ↔ u ∈ next s F far) := fun u gu => by
        rw [mem_nx, mem_next, hrest]
        constructor
        · rintro ⟨⟨_, h⟩, v, hv, hm⟩
          exact ⟨⟨gu.lt, h⟩, v, hv, (o.at_ v).mpr ((hnow v (hng v hm)).mp hm)⟩
        · rintro ⟨⟨_, h⟩, v, hv, hm⟩
          exact ⟨⟨gu, h⟩, v, hv, (hnow v (ways_good w gu hv)).mpr ((o.at_ v).mp hm)⟩
      have hrest' : ∀ u, u ∈ (rest.filter fun (t : Nat) => !(nx s now rest).contains t) ↔ Good s u ∧ (more F (next s F far) (far + 1)).lookup u = none := fun u => by
        rw [List.mem_filter, hrest, lk_more]
        constructor
        · rintro ⟨⟨gu, h⟩, hc⟩
          have : ¬ u ∈ nx s now rest := by simpa using hc
          rw [same u gu] at this
          exact ⟨gu, by rw [h, if_neg this]; rfl⟩
        · rintro ⟨gu, h⟩
          cases e : F.lookup u with
          | some k => rw [e] at h; cases h
          | none =>
            rw [e] at h
            have hm : ¬ u ∈ next s F far := fun z => by
              rw [if_pos z] at h
              cases h
            rw [← same u gu] at hm
            exact ⟨⟨gu, rfl⟩, by simpa using hm⟩
      have hg' : nx s now rest ≠ [] → (rest.filter fun (t : Nat) => !(nx s now rest).contains t).length < g' := fun z => by
        have h1 := hg hb
        have h2 : (rest.filter fun (t : Nat) => !(nx s now rest).contains t).length < (rest.filter fun _ => true).length := by
          obtain ⟨u, hu⟩ := List.exists_mem_of_ne_nil _ z
          refine filter_lt (fun _ _ _ => rfl) ⟨u, (mem_nx.mp hu).1, rfl, ?_⟩
          simpa using hu
        rw [List.filter_eq_self (p := fun (_ : Nat) => true) |>.mpr fun _ _ => rfl] at h2
        omega
      by_cases hm : t ∈ next s F far
      · have hk : (more F (next s F far) (far + 1)).lookup t = some (far + 1) := (o'.at_ t).mpr hm
        rw [loop_keep hk]
        have hx := (same t gt).mpr hm
        have hne : nx s now rest ≠ [] := fun z => by
          rw [z] at hx
          cases hx
        obtain ⟨g'', rfl⟩ : ∃ g'', g' = g'' + 1 := ⟨g' - 1, by have := hg' hne; omega⟩
        rw [levels_cons hne, distance_cons, if_pos hx]
        simp
        omega
      · have hk : (more F (next s F far) (far + 1)).lookup t = none := by
          rw [lk_more, ht, if_neg hm]
          rfl
        rw [ih _ _ _ g' _ _ o' same hnx hrest' hg' t gt hk]
        cases Sy47.distance (Sy47.levels s g' (nx s now rest) (rest.filter fun (t : Nat) => !(nx s now rest).contains t)) t with
        | none => rfl
        | some k =>
          simp
          omega
theorem mem_stages {s : St} {t : Nat} : t ∈ Sy47.stages s ↔ Good s t := by
  unfold Sy47.stages
  rw [List.mem_filter, List.mem_range, Bool.and_eq_true, decide_eq_true_iff]
  exact ⟨fun h => ⟨h.1, h.2.1, h.2.2⟩, fun h => ⟨h.lt, h.ca, h.pr⟩⟩
/-- distances, of good stages -/
theorem dist_eq {s : St} (w : Wf s) {t : Nat} (g : Good s t) : (dist s).lookup t = Sy47.distance (Sy47.fromEnd s) t := by
  have o := Ok.start.resolve_right fun h => h w
  unfold Sy47.fromEnd
  cases hc : Sy47.carries s (Sy47.done s) with
  | false =>
    rw [if_neg (by decide), distance_nil]
    have ht : t ≠ Sy47.done s := fun e => by
      have := g.ca
      rw [e, hc] at this
      cases this
    refine loop_bad w o.at_ o.le (fun u hu gu => ?_) t g ?_
    · have := gu.ca
      rw [List.mem_singleton.mp hu, hc] at this
      cases this
    · have : (t == Sy47.done s) = false := by simpa using ht
      simp [List.lookup, this]
  | true =>
    rw [if_pos rfl]
    have gd := done_good hc
    by_cases ht : t = Sy47.done s
    · subst ht
      have h0 : [(Sy47.done s, 0)].lookup (Sy47.done s) = some 0 := by simp
      have e1 : (dist s).lookup (Sy47.done s) = some 0 := loop_keep h0
      rw [e1, levels_cons (by simp), distance_cons, if_pos List.mem_cons_self]
    · have hk : [(Sy47.done s, 0)].lookup t = none := by
        have : (t == Sy47.done s) = false := by simpa using ht
        simp [List.lookup, this]
      have hl : ((Sy47.stages s).filter fun (t : Nat) => t != Sy47.done s).length < 520 := by
        have h1 : ((Sy47.stages s).filter fun (t : Nat) => t != Sy47.done s).length ≤ (Sy47.stages s).length := List.length_filter_le _ _
        have h2 : (Sy47.stages s).length ≤ (List.range (2 ^ Sy47.things s)).length := List.length_filter_le _ _
        have h3 := w.n256
        rw [List.length_range] at h2
        omega
      have := loop_levels w 600 [(Sy47.done s, 0)] 0 [Sy47.done s] 520 [Sy47.done s] ((Sy47.stages s).filter fun (t : Nat) => t != Sy47.done s) o (fun _ _ => Iff.rfl) (fun u hu => by rw [List.mem_singleton.mp hu]; exact gd) (fun u => by
          rw [List.mem_filter, mem_stages]
          constructor
          · rintro ⟨gu, h⟩
            have h' : ¬ u = Sy47.done s := by simpa using h
            have : (u == Sy47.done s) = false := by simpa using h'
            exact ⟨gu, by simp [List.lookup, this]⟩
          · rintro ⟨gu, h⟩
            refine ⟨gu, ?_⟩
            by_cases e : u = Sy47.done s
            · subst e
              simp at h
            · simpa using e) (fun _ => hl) t g hk
      show (loop s 600 [(Sy47.done s, 0)] 0 [Sy47.done s]).lookup t = _
      rw [this]
      cases Sy47.distance (Sy47.levels s 520 [Sy47.done s] ((Sy47.stages s).filter fun (t : Nat) => t != Sy47.done s)) t with
      | none => rfl
      | some k => rfl

/-! ### a plan -/
def hit (s : St) (F : Fs) (t k m : Nat) : Bool := match Sy47.moved s t m with
  | none => false
  | some u => decide (F.lookup u = some k)
/-- first_move -/
def firstMove (s : St) (F : Fs) (t k : Nat) : Option Nat := (Sy47.moves s).find? fun m => hit s F t k m
def mplan (s : St) (F : Fs) : Nat → Nat → List Nat
  | 0, _ => []
  | k + 1, t => match firstMove s F t k with
    | none => []
    | some m => m :: mplan s F k ((Sy47.moved s t m).getD t)
theorem first_some {s : St} {F : Fs} (f : Fin s F) {t k : Nat} (h : F.lookup t = some (k + 1)) : ∃ m u, firstMove s F t k = some m ∧ m ∈ Sy47.moves s ∧ Sy47.moved s t m = some u ∧ F.lookup u = some k := by
  obtain ⟨u, hu, hl⟩ := f.st t k h
  obtain ⟨m, hm, e⟩ := mem_ways.mp hu
  cases q : firstMove s F t k with
  | none =>
    have := List.find?_eq_none.mp q m hm
    exact absurd (show hit s F t k m = true by unfold hit; rw [e]; exact decide_eq_true hl) this
  | some m' =>
    have h1 := List.find?_some q
    have h2 := List.mem_of_find?_eq_some q
    unfold hit at h1
    cases e' : Sy47.moved s t m' with
    | none => rw [e'] at h1; cases h1
    | some v =>
      rw [e'] at h1
      exact ⟨m', v, rfl, h2, e', of_decide_eq_true h1⟩
theorem mplan_len {s : St} {F : Fs} (f : Fin s F) : ∀ {k t : Nat}, F.lookup t = some k → (mplan s F k t).length = k
  | 0, _, _ => rfl
  | k + 1, t, h => by
    obtain ⟨m, u, e, _, e2, hl⟩ := first_some f h
    show (match firstMove s F t k with
      | none => []
      | some m => m :: mplan s F k ((Sy47.moved s t m).getD t)).length = k + 1
    rw [e]
    show (mplan s F k ((Sy47.moved s t m).getD t)).length + 1 = k + 1
    rw [e2]
    show (mplan s F k u).length + 1 = k + 1
    rw [mplan_len f hl]
theorem find_congr {α : Type} {p q : α → Bool} : ∀ {l : List α}, (∀ x ∈ l, p x = q x) → l.find? p = l.find? q
  | [], _ => rfl
  | a :: r, h => by
    rw [List.find?_cons, List.find?_cons, h a List.mem_cons_self, find_congr fun x hx => h x (List.mem_cons_of_mem _ hx)]
/-- plan -/
theorem plan_eq {s : St} (w : Wf s) : ∀ (k : Nat) {t : Nat}, Good s t → mplan s (dist s) k t = Sy47.plan s (Sy47.fromEnd s) k t
  | 0, _, _ => rfl
  | k + 1, t, g => by
    have e : firstMove s (dist s) t k = (Sy47.moves s).find? (fun (m : Nat) => match Sy47.moved s t m with
      | none => false
      | some u => Sy47.distance (Sy47.fromEnd s) u == some k) := by
      unfold firstMove
      refine find_congr fun m hm => ?_
      unfold hit
      cases q : Sy47.moved s t m with
      | none => rfl
      | some u =>
        show decide ((dist s).lookup u = some k) = (Sy47.distance (Sy47.fromEnd s) u == some k)
        rw [dist_eq w (moved_good w hm g q)]
        rw [Bool.eq_iff_iff]
        simp
    show (match firstMove s (dist s) t k with
      | none => []
      | some m => m :: mplan s (dist s) k ((Sy47.moved s t m).getD t)) = (match (Sy47.moves s).find? (fun (m : Nat) => match Sy47.moved s t m with
      | none => false
      | some u => Sy47.distance (Sy47.fromEnd s) u == some k) with
    | none => []
    | some m => m :: Sy47.plan s (Sy47.fromEnd s) k ((Sy47.moved s t m).getD t))
    rw [← e]
    cases q : firstMove s (dist s) t k with
    | none => rfl
    | some m =>
      have hm : m ∈ Sy47.moves s := List.mem_of_find?_eq_some q
      show m :: mplan s (dist s) k ((Sy47.moved s t m).getD t) = m :: Sy47.plan s (Sy47.fromEnd s) k ((Sy47.moved s t m).getD t)
      congr 1
      refine plan_eq w k ?_
      cases q2 : Sy47.moved s t m with
      | none => exact g
      | some u => exact moved_good w hm g q2
/-- no stage is farther than there are turns -/
theorem loop_most {s : St} : ∀ {f : Nat} {F : Fs} {far : Nat} {new : List Nat} {t k : Nat}, (∀ t k, F.lookup t = some k → k ≤ far) → (loop s f F far new).lookup t = some k → k ≤ far + f
  | 0, F, far, new, t, k, h, e => Nat.le_trans (h t k e) (Nat.le_add_right _ _)
  | f + 1, F, far, new, t, k, h, e => by
    by_cases hn : new = []
    · rw [hn, loop_nil] at e
      exact Nat.le_trans (h t k e) (Nat.le_add_right _ _)
    · rw [loop_cons hn] at e
      have := loop_most (f := f) (far := far + 1) (fun u j hj => by
        rw [lk_more] at hj
        cases eu : F.lookup u with
        | some i =>
          rw [eu] at hj
          have := h u i eu
          simp at hj
          omega
        | none =>
          rw [eu] at hj
          by_cases hm : u ∈ next s F far
          · simp [hm] at hj
            omega
          · simp [hm] at hj) e
      omega
theorem dist_le {s : St} (w : Wf s) {t k : Nat} (h : (dist s).lookup t = some k) : k ≤ 600 := by
  have o := Ok.start.resolve_right fun z => z w
  have := loop_most (f := 600) o.le h
  omega
theorem find_take {α : Type} {p : α → Bool} : ∀ {l : List α} {i : Nat} {x : α}, (l.take i).find? p = none → l[i]? = some x → p x = true → l.find? p = some x
  | [], i, x, _, h, _ => by simp at h
  | a :: l, 0, x, _, h, hp => by
    have e : a = x := Option.some.inj h
    subst e
    rw [List.find?_cons, hp]
  | a :: l, i + 1, x, h0, h, hp => by
    have h0 : (a :: l.take i).find? p = none := h0
    rw [List.find?_cons] at h0
    cases e : p a with
    | true => rw [e] at h0; cases h0
    | false =>
      rw [e] at h0
      rw [List.find?_cons, e]
      exact find_take h0 h hp
theorem find_more {α : Type} {p : α → Bool} {l : List α} {i : Nat} {x : α} (h0 : (l.take i).find? p = none) (h : l[i]? = some x) (hp : p x = false) : (l.take (i + 1)).find? p = none := by
  rw [take_snoc h, List.find?_append, h0, List.find?_cons, hp]
  rfl
end BrC
end
section
/-! Part D: all stages that are come to; the farthest; the props needed. -/
namespace BrD
open Sy47 (St)
open BrA BrB BrC

/-- one stage's ways, those that are not known put behind -/
def put (L : List Nat) (u : Nat) : List Nat := if u ∈ L then L else L ++ [u]
def grow (s : St) (L : List Nat) (t : Nat) : List Nat := (ways s t).foldl put L
def come (s : St) : Nat → Nat → List Nat → List Nat
  | 0, _, L => L
  | f + 1, i, L => match L[i]? with
    | none => L
    | some t => come s f (i + 1) (grow s L t)
theorem come_some {s : St} {f i t : Nat} {L : List Nat} (h : L[i]? = some t) : come s (f + 1) i L = come s f (i + 1) (grow s L t) := by
  rw [come, h]
theorem come_none {s : St} {f i : Nat} {L : List Nat} (h : L[i]? = none) : come s f i L = L := by
  cases f with
  | zero => rfl
  | succ f => rw [come, h]
theorem put_pre (L : List Nat) (u : Nat) : ∃ R, put L u = L ++ R := by
  unfold put
  split
  · exact ⟨[], by simp⟩
  · exact ⟨[u], rfl⟩
theorem puts_pre : ∀ (us L : List Nat), ∃ R, us.foldl put L = L ++ R
  | [], L => ⟨[], by simp⟩
  | u :: r, L => by
    obtain ⟨R1, e1⟩ := put_pre L u
    obtain ⟨R2, e2⟩ := puts_pre r (put L u)
    exact ⟨R1 ++ R2, by rw [List.foldl_cons, e2, e1, List.append_assoc]⟩
theorem grow_pre (s : St) (L : List Nat) (t : Nat) : ∃ R, grow s L t = L ++ R := puts_pre _ L
theorem put_nd {L : List Nat} (u : Nat) (h : L.Nodup) : (put L u).Nodup := by
  unfold put
  split
  · exact h
  · rename_i hn
    rw [List.nodup_append]
    refine ⟨h, by simp, ?_⟩
    rintro a ha b hb rfl
    rw [List.mem_singleton.mp hb] at ha
    exact hn ha
theorem puts_nd : ∀ (us : List Nat) {L : List Nat}, L.Nodup → (us.foldl put L).Nodup
  | [], _, h => h
  | u :: r, _, h => puts_nd r (put_nd u h)
theorem mem_put {L : List Nat} {u x : Nat} : x ∈ put L u ↔ x ∈ L ∨ x = u := by
  unfold put
  split
  · rename_i h
    constructor
    · exact .inl
    · rintro (z | z)
      · exact z
      · rw [z]; exact h
  · rw [List.mem_append, List.mem_singleton]
theorem mem_puts : ∀ {us L : List Nat} {x : Nat}, x ∈ us.foldl put L ↔ x ∈ L ∨ x ∈ us
  | [], L, x => by simp
  | u :: r, L, x => by
    rw [List.foldl_cons, mem_puts, mem_put, List.mem_cons, or_assoc]
theorem grow_nd {s : St} {L : List Nat} (t : Nat) (h : L.Nodup) : (grow s L t).Nodup := puts_nd _ h
theorem grow_all {s : St} (w : Wf s) {L : List Nat} {t : Nat} (h : ∀ x ∈ L, Good s x) (ht : Good s t) : ∀ x ∈ grow s L t, Good s x := fun x hx => by
  rcases mem_puts.mp hx with z | z
  · exact h x z
  · exact ways_good w ht z
theorem goods_le {s : St} {L : List Nat} (hn : L.Nodup) (h : ∀ x ∈ L, Good s x) : L.length ≤ 2 ^ Sy47.things s := nodup_le hn fun x hx => (h x hx).lt

/-! ### the specification's level -/
def inner (s : St) (seen : List Nat) (a : List Nat) (t : Nat) : List Nat := (Sy47.moves s).foldl (fun (a : List Nat) (m : Nat) => match Sy47.moved s t m with
      | none => a
      | some u => if (seen ++ a).contains u = true then a else a ++ [u]) a
theorem inner_grow (s : St) (seen : List Nat) : ∀ (a : List Nat) (t : Nat), seen ++ inner s seen a t = grow s (seen ++ a) t := by
  intro a t
  unfold inner grow ways
  induction Sy47.moves s generalizing a with
  | nil => rfl
  | cons m r ih =>
    rw [List.foldl_cons, List.filterMap_cons]
    cases e : Sy47.moved s t m with
    | none =>
      exact ih a
    | some u =>
      show seen ++ r.foldl _ (if (seen ++ a).contains u = true then a else a ++ [u]) = (u :: r.filterMap fun m => Sy47.moved s t m).foldl put (seen ++ a)
      rw [List.foldl_cons, ih]
      congr 1
      unfold put
      by_cases h : u ∈ seen ++ a
      · rw [if_pos h, if_pos (by simpa using h)]
      · rw [if_neg h, if_neg (by simpa using h), List.append_assoc]
def level (s : St) (seen now : List Nat) : List Nat := now.foldl (fun (a : List Nat) (t : Nat) => inner s seen a t) []
theorem level_grow (s : St) (seen : List Nat) : ∀ (now a : List Nat), seen ++ now.foldl (fun (a : List Nat) (t : Nat) => inner s seen a t) a = now.foldl (grow s) (seen ++ a)
  | [], a => rfl
  | t :: r, a => by
    rw [List.foldl_cons, List.foldl_cons, ← inner_grow]
    exact level_grow s seen r _
theorem spread_cons {s : St} {f : Nat} {seen now : List Nat} (h : now ≠ []) : Sy47.spread s (f + 1) seen now = Sy47.spread s f (seen ++ level s seen now) (level s seen now) := by
  have : now.isEmpty = false := by
    cases now with
    | nil => exact absurd rfl h
    | cons a r => rfl
  show (if now.isEmpty = true then seen else _) = _
  rw [this, if_neg (by decide)]
  rfl
theorem spread_nil {s : St} {f : Nat} {seen : List Nat} : Sy47.spread s f seen [] = seen := by
  cases f with
  | zero => rfl
  | succ f => rfl
/-- a run of turns -/
theorem come_run (s : St) : ∀ (now pre post : List Nat) (f : Nat), come s (f + now.length) pre.length (pre ++ now ++ post) = come s f (pre.length + now.length) (now.foldl (grow s) (pre ++ now ++ post))
  | [], pre, post, f => rfl
  | t :: r, pre, post, f => by
    have hi : (pre ++ t :: r ++ post)[pre.length]? = some t := by simp
    show come s (f + (r.length + 1)) pre.length (pre ++ t :: r ++ post) = _
    rw [← Nat.add_assoc]
    rw [come_some hi]
    obtain ⟨R, e⟩ := grow_pre s (pre ++ t :: r ++ post) t
    have ih := come_run s r (pre ++ [t]) (post ++ R) f
    have e2 : pre ++ [t] ++ r ++ (post ++ R) = grow s (pre ++ t :: r ++ post) t := by rw [e]; simp
    rw [e2] at ih
    have e3 : (pre ++ [t]).length = pre.length + 1 := by simp
    rw [e3] at ih
    rw [ih, List.foldl_cons, List.length_cons]
    congr 1
    omega
theorem come_end (s : St) (f i : Nat) (L : List Nat) (h : L.length ≤ i) : come s f i L = L := come_none (List.getElem?_eq_none_iff.mpr h)
theorem come_spread {s : St} (w : Wf s) : ∀ (g f : Nat) (pre now : List Nat), (pre ++ now).Nodup → (∀ x ∈ pre ++ now, Good s x) → (now ≠ [] → 2 ^ Sy47.things s - pre.length < g) → 2 ^ Sy47.things s - pre.length ≤ f →
    come s f pre.length (pre ++ now) = Sy47.spread s g (pre ++ now) now := by
  intro g
  induction g with
  | zero =>
    intro f pre now hn hg h1 h2
    have : now = [] := by
      by_cases e : now = []
      · exact e
      · have := h1 e
        omega
    subst this
    rw [come_end _ _ _ _ (by simp)]
    rfl
  | succ g ih =>
    intro f pre now hn hg h1 h2
    by_cases e : now = []
    · subst e
      rw [come_end _ _ _ _ (by simp), spread_nil]
    · have hl := goods_le hn hg
      rw [List.length_append] at hl
      obtain ⟨f', rfl⟩ : ∃ f', f = f' + now.length := ⟨f - now.length, by omega⟩
      have r := come_run s now pre [] f'
      rw [List.append_nil] at r
      rw [r, spread_cons e]
      have lg := level_grow s (pre ++ now) now []
      rw [List.append_nil] at lg
      rw [← lg]
      have hnd : (now.foldl (grow s) (pre ++ now)).Nodup := by
        have : ∀ (l L : List Nat), L.Nodup → (l.foldl (grow s) L).Nodup := by
          intro l
          induction l with
          | nil => intro L h; exact h
          | cons t r ih => intro L h; exact ih _ (grow_nd t h)
        exact this now _ hn
      have hgd : ∀ x ∈ now.foldl (grow s) (pre ++ now), Good s x := by
        have : ∀ (l L : List Nat), (∀ x ∈ l, Good s x) → (∀ x ∈ L, Good s x) → ∀ x ∈ l.foldl (grow s) L, Good s x := by
          intro l
          induction l with
          | nil => intro L _ h; exact h
          | cons t r ih => intro L hl h; exact ih _ (fun x hx => hl x (List.mem_cons_of_mem _ hx)) (grow_all w h (hl t List.mem_cons_self))
        exact this now _ (fun x hx => hg x (List.mem_append_right _ hx)) hg
      rw [← lg] at hnd hgd
      have hp : (pre ++ now).length = pre.length + now.length := List.length_append
      have hpos : 0 < now.length := List.length_pos_iff.mpr e
      have := ih f' (pre ++ now) (level s (pre ++ now) now) hnd hgd (fun z => by
        have := h1 e
        have h3 := goods_le hnd hgd
        have h4 : 0 < (level s (pre ++ now) now).length := List.length_pos_iff.mpr z
        rw [List.length_append] at h3
        omega) (by omega)
      rw [← hp]
      exact this
def reach (s : St) (t : Nat) : List Nat := come s 300 0 [t]
theorem reach_eq {s : St} (w : Wf s) {t : Nat} (g : Good s t) : reach s t = Sy47.reach s t := by
  have h := w.n256
  exact come_spread w 520 300 [] [t] (by simp) (fun x hx => by rw [List.mem_singleton.mp hx]; exact g) (fun _ => by simp only [List.length_nil]; omega) (by simp only [List.length_nil]; omega)
/-- what come_to's turns keep -/
structure Co (s : St) (t0 f i : Nat) (L : List Nat) : Prop where
  nd : L.Nodup
  gd : ∀ x ∈ L, Good s x
  ne : L ≠ []
  fu : 2 ^ Sy47.things s - i < f
  il : i ≤ L.length
  eq : come s f i L = reach s t0
theorem Co.start {s : St} (w : Wf s) {t : Nat} (g : Good s t) : Co s t 300 0 [t] := by
  have h := w.n256
  exact ⟨by simp, fun x hx => by rw [List.mem_singleton.mp hx]; exact g, by simp, by omega, Nat.zero_le _, rfl⟩
theorem Co.len {s : St} {t f i : Nat} {L : List Nat} (c : Co s t f i L) : L.length ≤ 2 ^ Sy47.things s := goods_le c.nd c.gd
theorem Co.step {s : St} (w : Wf s) {t f i u : Nat} {L : List Nat} (c : Co s t (f + 1) i L) (h : L[i]? = some u) : Co s t f (i + 1) (grow s L u) := by
  have hi := (List.getElem?_eq_some_iff.mp h).1
  have hl := c.len
  have hu := c.gd u (List.mem_of_getElem? h)
  obtain ⟨R, e⟩ := grow_pre s L u
  refine ⟨grow_nd u c.nd, grow_all w c.gd hu, fun z => ?_, by have := c.fu; omega, ?_, ?_⟩
  · rw [e] at z
    exact c.ne (List.append_eq_nil_iff.mp z).1
  · rw [e, List.length_append]
    omega
  · have := c.eq
    rwa [come_some h] at this
theorem Co.done {s : St} {t f i : Nat} {L : List Nat} (c : Co s t f i L) (h : L.length ≤ i) : L = reach s t := by
  rw [← c.eq, come_end _ _ _ _ h]

theorem Co.fin {s : St} (w : Wf s) {t : Nat} : ∀ {f i : Nat} {L : List Nat}, Co s t f i L → (reach s t).Nodup ∧ (∀ x ∈ reach s t, Good s x) ∧ reach s t ≠ []
  | 0, i, L, c => absurd c.fu (Nat.not_lt_zero _)
  | f + 1, i, L, c => by
    by_cases h : L.length ≤ i
    · have e := c.done h
      rw [← e]
      exact ⟨c.nd, c.gd, c.ne⟩
    · exact Co.fin w (c.step w (u := L[i]'(by omega)) (List.getElem?_eq_getElem (by omega)))
theorem reach_len {s : St} (w : Wf s) {t : Nat} (g : Good s t) : (reach s t).length ≤ 256 := by
  have h := Co.fin w (Co.start w g)
  exact Nat.le_trans (goods_le h.1 h.2.1) w.n256
theorem reach_ne {s : St} (w : Wf s) {t : Nat} (g : Good s t) : reach s t ≠ [] := (Co.fin w (Co.start w g)).2.2

/-! ### the farthest -/
def nearer (s : St) (t m : Nat) : Bool := decide (-(((pin s t).length : Nat) : Int) < -(((pin s m).length : Nat) : Int)) || (decide (-(((pin s t).length : Nat) : Int) = -(((pin s m).length : Nat) : Int)) && decide ((t : Int) < (m : Int)))
def best (s : St) : List Nat → Nat
  | [] => 0
  | t :: r => r.foldl (fun m u => if nearer s u m = true then u else m) t
theorem best_eq (s : St) (l : List Nat) : best s l = Sy47.furthest s l := by
  cases l with
  | nil => rfl
  | cons t r =>
    have key : ∀ (k : List Nat) (m : Nat), k.foldl (fun m u => if nearer s u m = true then u else m) m = k.foldl (fun (m : Nat) (t : Nat) => if Sy47.size s.pieces m < Sy47.size s.pieces t ∨ (Sy47.size s.pieces m = Sy47.size s.pieces t ∧ t < m) then t else m) m := by
      intro k
      induction k with
      | nil => intro m; rfl
      | cons u k ih =>
        intro m
        rw [List.foldl_cons, List.foldl_cons, ih]
        congr 1
        have : (nearer s u m = true) ↔ (Sy47.size s.pieces m < Sy47.size s.pieces u ∨ (Sy47.size s.pieces m = Sy47.size s.pieces u ∧ u < m)) := by
          unfold nearer
          rw [Bool.or_eq_true, Bool.and_eq_true, decide_eq_true_iff, decide_eq_true_iff, decide_eq_true_iff, pin_len, pin_len]
          omega
        by_cases c : nearer s u m = true
        · rw [if_pos c, if_pos (this.mp c)]
        · rw [if_neg c, if_neg fun z => c (this.mpr z)]
    show r.foldl (fun m u => if nearer s u m = true then u else m) t = (t :: r).foldl (fun (m : Nat) (t : Nat) => if Sy47.size s.pieces m < Sy47.size s.pieces t ∨ (Sy47.size s.pieces m = Sy47.size s.pieces t ∧ t < m) then t else m) t
    rw [key, List.foldl_cons]
    show r.foldl _ t = r.foldl _ (if Sy47.size s.pieces t < Sy47.size s.pieces t ∨ (Sy47.size s.pieces t = Sy47.size s.pieces t ∧ t < t) then t else t)
    rw [if_neg (by omega)]

/-! ### the props needed -/
theorem anew_wf {s : St} (w : Wf s) {k : Nat} (hk : k ≤ s.props) : Wf (Sy47.anew s k) := ⟨w.p1, w.p6, w.q2, hk, w.rl, w.r4, w.rb⟩
theorem need_eq {s : St} (w : Wf s) {k : Nat} (hk : k ≤ s.props) : ((dist (Sy47.anew s k)).lookup 0).isSome = Sy47.can (Sy47.anew s k) := by
  rw [dist_eq (anew_wf w hk) good_zero]
  rfl
def need (s : St) : Option Nat := (List.range (s.props + 1)).find? fun k => ((dist (Sy47.anew s k)).lookup 0).isSome
theorem needs_eq {s : St} (w : Wf s) : need s = (List.range (s.props + 1)).find? (fun (k : Nat) => Sy47.can (Sy47.anew s k)) := by
  unfold need
  refine find_congr fun k hk => need_eq w ?_
  have := List.mem_range.mp hk
  omega
end BrD
end
section
/-! Part E: what each call answers; a line's calls. -/
namespace BrE
open Sy47 (St)
open BrA BrB BrC BrD

/-! ### the calls, their refusals and answers -/
theorem step_begins_no {s : St} {n m k : Nat} (h : n < 1 ∨ 6 < n ∨ 2 < m ∨ m < k) : Sy47.step s (.begins n m k) = (s, Sy47.ok (-1)) := if_pos h
theorem step_begins {s : St} {n m k : Nat} (h : ¬ (n < 1 ∨ 6 < n ∨ 2 < m ∨ m < k)) : Sy47.step s (.begins n m k) = (⟨n, m, k, List.replicate n [], 0⟩, Sy47.ok 0) := if_neg h
theorem step_rests1 {s : St} {i a : Nat} (h : 2 ^ Sy47.things s ≤ a) : Sy47.step s (.rests i a) = (s, Sy47.ok (-1)) := if_pos h
theorem step_rests2 {s : St} {i a : Nat} (h : ¬ 2 ^ Sy47.things s ≤ a) (h2 : s.pieces ≤ i) : Sy47.step s (.rests i a) = (s, Sy47.ok (-2)) := (if_neg h).trans (if_pos h2)
theorem step_rests3 {s : St} {i a : Nat} (h : ¬ 2 ^ Sy47.things s ≤ a) (h2 : ¬ s.pieces ≤ i) (h3 : s.stage ≠ 0) : Sy47.step s (.rests i a) = (s, Sy47.ok (-4)) := (if_neg h).trans ((if_neg h2).trans (if_pos h3))
theorem step_rests4 {s : St} {i a : Nat} (h : ¬ 2 ^ Sy47.things s ≤ a) (h2 : ¬ s.pieces ≤ i) (h3 : ¬ s.stage ≠ 0) (h4 : 4 ≤ (s.rests.getD i []).length) : Sy47.step s (.rests i a) = (s, Sy47.ok (-5)) := (if_neg h).trans ((if_neg h2).trans ((if_neg h3).trans (if_pos h4)))
/-- a design with one set more -/
def restsMore (s : St) (i a : Nat) : St := { s with rests := s.rests.set i (s.rests.getD i [] ++ [a]) }
theorem step_rests5 {s : St} {i a : Nat} (h : ¬ 2 ^ Sy47.things s ≤ a) (h2 : ¬ s.pieces ≤ i) (h3 : ¬ s.stage ≠ 0) (h4 : ¬ 4 ≤ (s.rests.getD i []).length) :
    Sy47.step s (.rests i a) = (restsMore s i a, Sy47.ok (((s.rests.getD i []).length + 1 : Nat) : Int)) := (if_neg h).trans ((if_neg h2).trans ((if_neg h3).trans (if_neg h4)))
theorem step_carries1 {s : St} {t : Nat} (h : 2 ^ Sy47.things s ≤ t) : Sy47.step s (.carries t) = (s, Sy47.ok (-1)) := if_pos h
theorem step_carries2 {s : St} {t : Nat} (h : ¬ 2 ^ Sy47.things s ≤ t) : Sy47.step s (.carries t) = (s, Sy47.ok (if Sy47.carries s t = true then 1 else 0)) := if_neg h
theorem step_falls1 {s : St} {t : Nat} (h : 2 ^ Sy47.things s ≤ t) : Sy47.step s (.falls t) = (s, Sy47.ok (-1)) := if_pos h
theorem step_falls2 {s : St} {t : Nat} (h : ¬ 2 ^ Sy47.things s ≤ t) : Sy47.step s (.falls t) = (s, Sy47.ok (Sy47.left s t : Nat)) := if_neg h
theorem contains_iff {l : List Nat} {m : Nat} : l.contains m = decide (m ∈ l) := by
  rw [Bool.eq_iff_iff, decide_eq_true_iff]
  simp
theorem step_does1 {s : St} {m : Nat} (h : ¬ m ∈ Sy47.moves s) : Sy47.step s (.does m) = (s, Sy47.ok (-1)) := if_pos (by rw [contains_iff, decide_eq_false h])
theorem step_does2 {s : St} {m : Nat} (h : m ∈ Sy47.moves s) (h2 : Sy47.moved s s.stage m = none) : Sy47.step s (.does m) = (s, Sy47.ok (-6)) := by
  have e : Sy47.step s (.does m) = if (Sy47.moves s).contains m = false then (s, Sy47.ok (-1)) else (match Sy47.moved s s.stage m with
      | none => (s, Sy47.ok (-6))
      | some u => ({ s with stage := u }, Sy47.ok (u : Nat))) := rfl
  rw [e, if_neg (by rw [contains_iff, decide_eq_true h]; decide), h2]
theorem step_does3 {s : St} {m u : Nat} (h : m ∈ Sy47.moves s) (h2 : Sy47.moved s s.stage m = some u) : Sy47.step s (.does m) = ({ s with stage := u }, Sy47.ok (u : Nat)) := by
  have e : Sy47.step s (.does m) = if (Sy47.moves s).contains m = false then (s, Sy47.ok (-1)) else (match Sy47.moved s s.stage m with
      | none => (s, Sy47.ok (-6))
      | some u => ({ s with stage := u }, Sy47.ok (u : Nat))) := rfl
  rw [e, if_neg (by rw [contains_iff, decide_eq_true h]; decide), h2]
section
variable {s : St} (w : Wf s) (g : Good s s.stage)
include w g
theorem step_fewest1 (h : (dist s).lookup s.stage = none) : Sy47.step s .fewest = (s, Sy47.ok (-6)) := by
  rw [dist_eq w g] at h
  show (s, match Sy47.distance (Sy47.fromEnd s) s.stage with
      | none => Sy47.ok (-6)
      | some k => Sy47.ok (k : Nat)) = _
  rw [h]
theorem step_fewest2 {k : Nat} (h : (dist s).lookup s.stage = some k) : Sy47.step s .fewest = (s, Sy47.ok (k : Nat)) := by
  rw [dist_eq w g] at h
  show (s, match Sy47.distance (Sy47.fromEnd s) s.stage with
      | none => Sy47.ok (-6)
      | some k => Sy47.ok (k : Nat)) = _
  rw [h]
theorem step_plan1 (h : (dist s).lookup s.stage = none) : Sy47.step s .plan = (s, Sy47.ok (-6)) := by
  rw [dist_eq w g] at h
  show (s, match Sy47.distance (Sy47.fromEnd s) s.stage with
      | none => Sy47.ok (-6)
      | some k => Sy47.listed (Sy47.plan s (Sy47.fromEnd s) k s.stage)) = _
  rw [h]
theorem step_plan2 {k : Nat} (h : (dist s).lookup s.stage = some k) : Sy47.step s .plan = (s, Sy47.listed (mplan s (dist s) k s.stage)) := by
  rw [plan_eq w k g]
  rw [dist_eq w g] at h
  show (s, match Sy47.distance (Sy47.fromEnd s) s.stage with
      | none => Sy47.ok (-6)
      | some k => Sy47.listed (Sy47.plan s (Sy47.fromEnd s) k s.stage)) = _
  rw [h]
theorem step_far : Sy47.step s .far = (s, ⟨((pin s (best s (reach s s.stage))).length : Nat), [Sy47.ints [best s (reach s s.stage), (reach s s.stage).length]]⟩) := by
  rw [best_eq, reach_eq w g]
  rfl
end
theorem step_needed1 {s : St} (w : Wf s) (h : need s = none) : Sy47.step s .needed = (s, Sy47.ok (-6)) := by
  rw [needs_eq w] at h
  show (s, match (List.range (s.props + 1)).find? (fun (k : Nat) => Sy47.can (Sy47.anew s k)) with
      | none => Sy47.ok (-6)
      | some k => Sy47.ok (k : Nat)) = _
  rw [h]
theorem step_needed2 {s : St} (w : Wf s) {k : Nat} (h : need s = some k) : Sy47.step s .needed = (s, Sy47.ok (k : Nat)) := by
  rw [needs_eq w] at h
  show (s, match (List.range (s.props + 1)).find? (fun (k : Nat) => Sy47.can (Sy47.anew s k)) with
      | none => Sy47.ok (-6)
      | some k => Sy47.ok (k : Nat)) = _
  rw [h]
theorem step_spare1 {s : St} (h : Sy47.carries s (Sy47.done s) = false) : Sy47.step s .spare = (s, Sy47.ok (-6)) := by
  show (s, if Sy47.carries s (Sy47.done s) = false then Sy47.ok (-6) else _) = _
  rw [if_pos h]
theorem step_spare2 {s : St} (h : Sy47.carries s (Sy47.done s) = true) : Sy47.step s .spare = (s, Sy47.listed ((List.range s.pieces).filter fun (i : Nat) => Sy47.carries s (Sy47.without (Sy47.done s) i))) := by
  show (s, if Sy47.carries s (Sy47.done s) = false then Sy47.ok (-6) else _) = _
  rw [if_neg (by rw [h]; decide)]
theorem out_ok (v : Int) : Sy47Neutral.out (Sy47.ok v) = [v] := rfl
theorem out_listed (l : List Nat) : Sy47Neutral.out (Sy47.listed l) = ((l.length :: l.length :: l).map fun (n : Nat) => (n : Int)) := by
  show (l.length : Int) :: ((((Sy47.ints l).length : Nat) : Int) :: Sy47.ints l ++ []) = _
  unfold Sy47.ints
  rw [List.length_map, List.append_nil]
  rfl

/-! ### the states stay well -/
theorem anew_ok {n m k : Nat} (h : ¬ (n < 1 ∨ 6 < n ∨ 2 < m ∨ m < k)) : Wf ⟨n, m, k, List.replicate n [], 0⟩ := by
  refine ⟨by show 1 ≤ n; omega, by show n ≤ 6; omega, by show m ≤ 2; omega, by show k ≤ m; omega, List.length_replicate .., fun l hl => ?_, fun l hl a ha => ?_⟩
  · rw [List.eq_of_mem_replicate hl]
    exact Nat.zero_le _
  · rw [List.eq_of_mem_replicate hl] at ha
    cases ha
theorem restsMore_ok {s : St} (w : Wf s) {i a : Nat} (h : ¬ 2 ^ Sy47.things s ≤ a) (h4 : ¬ 4 ≤ (s.rests.getD i []).length) : Wf (restsMore s i a) := by
  have sub : ∀ l, l ∈ (restsMore s i a).rests → l ∈ s.rests ∨ l = s.rests.getD i [] ++ [a] := fun l hl => by
    have hl : l ∈ s.rests.set i (s.rests.getD i [] ++ [a]) := hl
    exact List.mem_or_eq_of_mem_set hl
  have old : ∀ b, b ∈ s.rests.getD i [] → b < 2 ^ Sy47.things s := fun b hb => by
    rw [List.getD_eq_getElem?_getD] at hb
    cases e : s.rests[i]? with
    | none => rw [e] at hb; cases hb
    | some l =>
      rw [e] at hb
      exact w.rb l (List.mem_of_getElem? e) b hb
  refine ⟨w.p1, w.p6, w.q2, w.ao, (List.length_set ..).trans w.rl, fun l hl => ?_, fun l hl b hb => ?_⟩
  · rcases sub l hl with z | z
    · exact w.r4 l z
    · rw [z, List.length_append]
      show _ + 1 ≤ 4
      omega
  · show b < 2 ^ Sy47.things s
    rcases sub l hl with z | z
    · exact w.rb l z b hb
    · rw [z] at hb
      rcases List.mem_append.mp hb with y | y
      · exact old b y
      · rw [List.mem_singleton.mp y]
        omega
theorem wf_stage {s : St} (w : Wf s) (t : Nat) : Wf { s with stage := t } := ⟨w.p1, w.p6, w.q2, w.ao, w.rl, w.r4, w.rb⟩
theorem good_stage {s : St} {t u : Nat} (g : Good s t) : Good { s with stage := u } t := ⟨g.lt, g.ca, g.pr⟩
theorem init_ok : Wf Sy47.init := ⟨by decide, by decide, by decide, by decide, rfl, by decide, by decide⟩
end BrE
end
section
set_option maxRecDepth 100000
/-! Part F: a line's calls, read off a flat list. -/
namespace BrF
open Sy47 (St)
open BrA BrB BrC BrD BrE

def nz (l : List Nat) : List Int := l.map fun (n : Nat) => (n : Int)
theorem many_inv : ∀ {k : Nat} {l : List Int} {xs : List Nat} {r : List Int}, Sy47Neutral.many_ Sy47Neutral.natIn k l = some (xs, r) → xs.length = k ∧ l = nz xs ++ r
  | 0, l, xs, r, h => by
    have h : some (([] : List Nat), l) = some (xs, r) := h
    cases h
    exact ⟨rfl, rfl⟩
  | k + 1, [], xs, r, h => by
    have h : (none : Option (List Nat × List Int)) = some (xs, r) := h
    cases h
  | k + 1, n :: l, xs, r, h => by
    have h : (Sy47Neutral.natIn (n :: l)).bind (fun (x : Nat × List Int) => (Sy47Neutral.many_ Sy47Neutral.natIn k x.2).map fun (y : List Nat × List Int) => (x.1 :: y.1, y.2)) = some (xs, r) := h
    have e : Sy47Neutral.natIn (n :: l) = if 0 ≤ n ∧ n < 2 ^ 32 then some (n.toNat, l) else none := rfl
    rw [e] at h
    by_cases c : 0 ≤ n ∧ n < 2 ^ 32
    · rw [if_pos c, Option.bind_some] at h
      cases e2 : Sy47Neutral.many_ Sy47Neutral.natIn k l with
      | none => rw [e2] at h; cases h
      | some y =>
        obtain ⟨ys, r'⟩ := y
        rw [e2] at h
        have h : some (n.toNat :: ys, r') = some (xs, r) := h
        have h3 := Option.some.inj h
        obtain rfl : n.toNat :: ys = xs := congrArg Prod.fst h3
        obtain rfl : r' = r := congrArg Prod.snd h3
        obtain ⟨h1, h2⟩ := many_inv e2
        refine ⟨by rw [List.length_cons, h1], ?_⟩
        show n :: l = ((n.toNat : Nat) : Int) :: (nz ys ++ r')
        rw [← h2]
        congr 1
        omega
    · rw [if_neg c] at h
      cases h
theorem all_inv {k : Nat} {l : List Int} {xs : List Nat} (h : Sy47Neutral.all_ (Sy47Neutral.some_ k l) = some xs) : xs.length = k ∧ l = nz xs := by
  unfold Sy47Neutral.all_ Sy47Neutral.some_ at h
  cases e : Sy47Neutral.many_ Sy47Neutral.natIn k l with
  | none => rw [e] at h; cases h
  | some y =>
    obtain ⟨ys, r⟩ := y
    rw [e] at h
    have h : (if r.isEmpty = true then some ys else none) = some xs := h
    cases r with
    | nil =>
      have h : some ys = some xs := h
      cases h
      have := many_inv e
      rwa [List.append_nil] at this
    | cons a r =>
      have h : (none : Option (List Nat)) = some xs := h
      cases h
/-- a call, by its place and its numbers -/
inductive Told : Int → List Int → Sy47.Call → Prop
  | begins (a b c : Nat) : Told 0 [a, b, c] (.begins a b c)
  | rests (i a : Nat) : Told 1 [i, a] (.rests i a)
  | carries (t : Nat) : Told 2 [t] (.carries t)
  | falls (t : Nat) : Told 3 [t] (.falls t)
  | does (m : Nat) : Told 4 [m] (.does m)
  | undo : Told 5 [] .undo
  | fewest : Told 6 [] .fewest
  | plan : Told 7 [] .plan
  | far : Told 8 [] .far
  | needed : Told 9 [] .needed
  | spare : Told 10 [] .spare
  | state : Told 11 [] .state
theorem map_some {α β : Type} {o : Option α} {f : α → β} {y : β} (h : o.map f = some y) : ∃ x, o = some x ∧ y = f x := by
  cases o with
  | none => cases h
  | some x => exact ⟨x, rfl, (Option.some.inj h).symm⟩
theorem len3 {xs : List Nat} (h : xs.length = 3) : ∃ a b c, xs = [a, b, c] := match xs, h with
  | [a, b, c], _ => ⟨a, b, c, rfl⟩
theorem len2 {xs : List Nat} (h : xs.length = 2) : ∃ a b, xs = [a, b] := match xs, h with
  | [a, b], _ => ⟨a, b, rfl⟩
theorem zero_inv {l : List Int} {xs : List Nat} (h : Sy47Neutral.all_ (Sy47Neutral.some_ 0 l) = some xs) : l = [] := by
  obtain ⟨h1, h2⟩ := all_inv h
  rw [List.length_eq_zero_iff.mp h1] at h2
  exact h2
theorem one_inv {l : List Int} {xs : List Nat} (h : Sy47Neutral.all_ (Sy47Neutral.some_ 1 l) = some xs) : ∃ t, xs = [t] ∧ l = [(t : Int)] := by
  obtain ⟨h1, h2⟩ := all_inv h
  match xs, h1 with
  | [t], _ => exact ⟨t, rfl, h2⟩
/-- how many numbers each call has -/
def counts : List Nat := [3, 2, 1, 1, 1, 0, 0, 0, 0, 0, 0, 0]
theorem shape_inv {p : Int} {n k : Nat} (h : PySy47.shape p = some (n, k)) : k = 0 ∧ 0 ≤ p ∧ p < 12 ∧ counts[p.toNat]? = some n := by
  have key : ∀ m : Nat, m < 12 → ∀ n k, PySy47.shape (m : Int) = some (n, k) → k = 0 ∧ counts[m]? = some n := by
    intro m hm n k h
    have : m = 0 ∨ m = 1 ∨ m = 2 ∨ m = 3 ∨ m = 4 ∨ m = 5 ∨ m = 6 ∨ m = 7 ∨ m = 8 ∨ m = 9 ∨ m = 10 ∨ m = 11 := by omega
    rcases this with e | e | e | e | e | e | e | e | e | e | e | e <;> subst e <;> (have h' := Option.some.inj h; cases h'; exact ⟨rfl, rfl⟩)
  by_cases hp : 0 ≤ p ∧ p < 12
  · have e : p = ((p.toNat : Nat) : Int) := by omega
    rw [e] at h
    have := key p.toNat (by omega) n k h
    exact ⟨this.1, hp.1, hp.2, this.2⟩
  · exfalso
    have e : ∀ j : Int, 0 ≤ j → j < 12 → ¬ p = j := fun j h1 h2 z => hp ⟨by omega, by omega⟩
    have : PySy47.shape p = none := by
      unfold PySy47.shape
      rw [if_neg (e 0 (by decide) (by decide)), if_neg (e 1 (by decide) (by decide)), if_neg (e 2 (by decide) (by decide)), if_neg (e 3 (by decide) (by decide)), if_neg (e 4 (by decide) (by decide)), if_neg (e 5 (by decide) (by decide)),
        if_neg (e 6 (by decide) (by decide)), if_neg (e 7 (by decide) (by decide)), if_neg (e 8 (by decide) (by decide)), if_neg (e 9 (by decide) (by decide)), if_neg (e 10 (by decide) (by decide)), if_neg (e 11 (by decide) (by decide))]
    rw [this] at h
    cases h
theorem callOf_inv {p : Int} {l : List Int} {x : Sy47.Call} (h0 : 0 ≤ p) (h12 : p < 12) (h : Sy47Neutral.callOf (p :: l) = some x) : Told p l x := by
  obtain ⟨m, rfl⟩ : ∃ m : Nat, p = (m : Int) := ⟨p.toNat, by omega⟩
  have : m = 0 ∨ m = 1 ∨ m = 2 ∨ m = 3 ∨ m = 4 ∨ m = 5 ∨ m = 6 ∨ m = 7 ∨ m = 8 ∨ m = 9 ∨ m = 10 ∨ m = 11 := by omega
  rcases this with e | e | e | e | e | e | e | e | e | e | e | e <;> subst e
  · obtain ⟨xs, h1, rfl⟩ := map_some (show (Sy47Neutral.all_ (Sy47Neutral.some_ 3 l)).map (fun (x : List Nat) => Sy47.Call.begins (Sy47Neutral.g x 0) (Sy47Neutral.g x 1) (Sy47Neutral.g x 2)) = some x from h)
    obtain ⟨h2, rfl⟩ := all_inv h1
    obtain ⟨a, b, c, rfl⟩ := len3 h2
    clear h h1
    exact Told.begins a b c
  · obtain ⟨xs, h1, rfl⟩ := map_some (show (Sy47Neutral.all_ (Sy47Neutral.some_ 2 l)).map (fun (x : List Nat) => Sy47.Call.rests (Sy47Neutral.g x 0) (Sy47Neutral.g x 1)) = some x from h)
    obtain ⟨h2, rfl⟩ := all_inv h1
    obtain ⟨a, b, rfl⟩ := len2 h2
    clear h h1
    exact Told.rests a b
  · obtain ⟨xs, h1, rfl⟩ := map_some (show (Sy47Neutral.all_ (Sy47Neutral.some_ 1 l)).map (fun (x : List Nat) => Sy47.Call.carries (Sy47Neutral.g x 0)) = some x from h)
    obtain ⟨t, rfl, rfl⟩ := one_inv h1
    exact .carries t
  · obtain ⟨xs, h1, rfl⟩ := map_some (show (Sy47Neutral.all_ (Sy47Neutral.some_ 1 l)).map (fun (x : List Nat) => Sy47.Call.falls (Sy47Neutral.g x 0)) = some x from h)
    obtain ⟨t, rfl, rfl⟩ := one_inv h1
    exact .falls t
  · obtain ⟨xs, h1, rfl⟩ := map_some (show (Sy47Neutral.all_ (Sy47Neutral.some_ 1 l)).map (fun (x : List Nat) => Sy47.Call.does (Sy47Neutral.g x 0)) = some x from h)
    obtain ⟨t, rfl, rfl⟩ := one_inv h1
    exact .does t
  · obtain ⟨xs, h1, rfl⟩ := map_some (show (Sy47Neutral.all_ (Sy47Neutral.some_ 0 l)).map (fun (_ : List Nat) => Sy47.Call.undo) = some x from h)
    rw [zero_inv h1]
    exact .undo
  · obtain ⟨xs, h1, rfl⟩ := map_some (show (Sy47Neutral.all_ (Sy47Neutral.some_ 0 l)).map (fun (_ : List Nat) => Sy47.Call.fewest) = some x from h)
    rw [zero_inv h1]
    exact .fewest
  · obtain ⟨xs, h1, rfl⟩ := map_some (show (Sy47Neutral.all_ (Sy47Neutral.some_ 0 l)).map (fun (_ : List Nat) => Sy47.Call.plan) = some x from h)
    rw [zero_inv h1]
    exact .plan
  · obtain ⟨xs, h1, rfl⟩ := map_some (show (Sy47Neutral.all_ (Sy47Neutral.some_ 0 l)).map (fun (_ : List Nat) => Sy47.Call.far) = some x from h)
    rw [zero_inv h1]
    exact .far
  · obtain ⟨xs, h1, rfl⟩ := map_some (show (Sy47Neutral.all_ (Sy47Neutral.some_ 0 l)).map (fun (_ : List Nat) => Sy47.Call.needed) = some x from h)
    rw [zero_inv h1]
    exact .needed
  · obtain ⟨xs, h1, rfl⟩ := map_some (show (Sy47Neutral.all_ (Sy47Neutral.some_ 0 l)).map (fun (_ : List Nat) => Sy47.Call.spare) = some x from h)
    rw [zero_inv h1]
    exact .spare
  · obtain ⟨xs, h1, rfl⟩ := map_some (show (Sy47Neutral.all_ (Sy47Neutral.some_ 0 l)).map (fun (_ : List Nat) => Sy47.Call.state) = some x from h)
    rw [zero_inv h1]
    exact .state

/-! ### the calls, one behind another -/
/-- a call as the document has it is the call as it is handed in -/
theorem whole_one {p : Int} {a : List Int} : PySy47.whole [p :: a] = [p :: a] := by
  unfold PySy47.whole
  split <;> simp_all
/-- the calls that stand in a flat list -/
def Reads (l : List Int) (cs : List (List Int)) : Prop := ∃ f, PyFlat.calls PySy47.shape f l = some (cs.map fun c => [c])
theorem calls_cons {f : Nat} {p : Int} {r : List Int} {raw : List (List (List Int))} (h : PyFlat.calls PySy47.shape (f + 1) (p :: r) = some raw) :
    ∃ n raw', PySy47.shape p = some (n, 0) ∧ n ≤ r.length ∧ raw = [p :: r.take n] :: raw' ∧ PyFlat.calls PySy47.shape f (r.drop n) = some raw' := by
  have e : PyFlat.calls PySy47.shape (f + 1) (p :: r) = match PyFlat.call PySy47.shape (p :: r) with
    | none => none
    | some (c, t) => match PyFlat.calls PySy47.shape f t with
      | none => none
      | some cs => some (c :: cs) := rfl
  rw [e] at h
  have e2 : PyFlat.call PySy47.shape (p :: r) = match PySy47.shape p with
    | none => none
    | some (n, k) => if r.length < n then none else match PyFlat.rows k (r.drop n) with
      | none => none
      | some (xs, t) => some ((p :: r.take n) :: xs, t) := rfl
  rw [e2] at h
  cases hs : PySy47.shape p with
  | none => rw [hs] at h; cases h
  | some nk =>
    obtain ⟨n, k⟩ := nk
    obtain ⟨hk, _⟩ := shape_inv hs
    subst hk
    rw [hs] at h
    by_cases hl : r.length < n
    · simp only [if_pos hl] at h
      cases h
    · simp only [if_neg hl] at h
      have h : (match PyFlat.calls PySy47.shape f (r.drop n) with
        | none => none
        | some cs => some ([p :: r.take n] :: cs)) = some raw := h
      cases hc : PyFlat.calls PySy47.shape f (r.drop n) with
      | none => rw [hc] at h; cases h
      | some cs =>
        rw [hc] at h
        have h : some ([p :: r.take n] :: cs) = some raw := h
        cases h
        exact ⟨n, cs, rfl, by omega, rfl, hc⟩
/-- every call is one row -/
theorem calls_rows : ∀ {f : Nat} {l : List Int} {raw : List (List (List Int))}, PyFlat.calls PySy47.shape f l = some raw → ∃ cs : List (List Int), raw = cs.map (fun c => [c]) ∧ ∀ c ∈ cs, c ≠ []
  | f, [], raw, h => by
    have e : PyFlat.calls PySy47.shape f [] = some [] := by cases f <;> rfl
    rw [e] at h
    cases h
    exact ⟨[], rfl, fun c hc => by cases hc⟩
  | 0, p :: r, raw, h => by
    have h : (none : Option (List (List (List Int)))) = some raw := h
    cases h
  | f + 1, p :: r, raw, h => by
    obtain ⟨n, raw', _, _, rfl, h2⟩ := calls_cons h
    obtain ⟨cs, rfl, hc⟩ := calls_rows h2
    refine ⟨(p :: r.take n) :: cs, rfl, fun c hcc => ?_⟩
    rcases List.mem_cons.mp hcc with z | z
    · rw [z]
      simp
    · exact hc c z
theorem Reads.nil {cs : List (List Int)} (h : Reads [] cs) : cs = [] := by
  obtain ⟨f, h⟩ := h
  have e : PyFlat.calls PySy47.shape f [] = some [] := by cases f <;> rfl
  rw [e] at h
  have := Option.some.inj h
  cases cs with
  | nil => rfl
  | cons a r => cases this
theorem Reads.cons {p : Int} {r : List Int} {cs : List (List Int)} (h : Reads (p :: r) cs) : ∃ n cs', counts[p.toNat]? = some n ∧ 0 ≤ p ∧ p < 12 ∧ n ≤ r.length ∧ cs = (p :: r.take n) :: cs' ∧ Reads (r.drop n) cs' := by
  obtain ⟨f, h⟩ := h
  cases f with
  | zero =>
    have h : (none : Option (List (List (List Int)))) = _ := h
    cases h
  | succ f =>
    obtain ⟨n, raw', hs, hn, e, h2⟩ := calls_cons h
    obtain ⟨_, h0, h12, hc⟩ := shape_inv hs
    cases cs with
    | nil => cases e
    | cons c cs' =>
      have e' : [c] :: cs'.map (fun c => [c]) = [p :: r.take n] :: raw' := e
      have e1 := (List.cons.inj e').1
      have e2 := (List.cons.inj e').2
      have e3 : c = p :: r.take n := (List.cons.inj e1).1
      subst e3
      subst e2
      exact ⟨n, cs', hc, h0, h12, hn, rfl, f, h2⟩
/-- what is answered from a state on -/
def answersFrom (s : St) : List (List Int) → List Int
  | [] => []
  | c :: r => ((((Sy47Neutral.step s c).2.length : Nat) : Int) :: (Sy47Neutral.step s c).2) ++ answersFrom (Sy47Neutral.step s c).1 r
theorem told_from : ∀ (cs : List (List Int)) (s : St), PyFlat.told (PyFlat.played (fun s (c : List (List Int)) => Sy47Neutral.step s (c.headD [])) s (cs.map fun c => [c])) = answersFrom s cs
  | [], _ => rfl
  | c :: r, s => by
    have ih := told_from r (Sy47Neutral.step s c).1
    unfold PyFlat.told at ih ⊢
    show (((Sy47Neutral.step s c).2.length : Nat) : Int) :: (Sy47Neutral.step s c).2 ++ (PyFlat.played _ (Sy47Neutral.step s c).1 (r.map fun c => [c])).flatMap _ = _
    rw [ih]
    rfl
theorem from_len : ∀ (cs : List (List Int)) (s : St), (answersFrom s cs).length = cs.length + Sy47Neutral.many s cs
  | [], _ => rfl
  | c :: r, s => by
    have ih := from_len r (Sy47Neutral.step s c).1
    show (((((Sy47Neutral.step s c).2.length : Nat) : Int) :: (Sy47Neutral.step s c).2) ++ answersFrom (Sy47Neutral.step s c).1 r).length = (r.length + 1) + ((Sy47Neutral.step s c).2.length + Sy47Neutral.many (Sy47Neutral.step s c).1 r)
    rw [List.length_append, List.length_cons, ih]
    omega
/-- what is asked of a request, in my words -/
structure Asked (l : List Int) (cs : List (List Int)) : Prop where
  reads : Reads l cs
  all : ∀ c ∈ cs, (Sy47Neutral.callOf c).isSome = true
  few : cs.length ≤ 80
  many : Sy47Neutral.many Sy47.init cs ≤ 1000000
  due : PySy47.answers l = answersFrom Sy47.init cs
theorem whole_map : ∀ {cs : List (List Int)}, (∀ c ∈ cs, c ≠ []) → (cs.map fun c => [c]).map PySy47.whole = cs.map fun c => [c]
  | [], _ => rfl
  | c :: r, h => by
    have ih := whole_map fun d hd => h d (List.mem_cons_of_mem _ hd)
    rw [List.map_cons, List.map_cons, ih]
    cases c with
    | nil => exact absurd rfl (h [] List.mem_cons_self)
    | cons p a => rw [whole_one]
theorem asked_of {l : List Int} (h : PySy47.answers_asked l = true) : ∃ cs, Asked l cs := by
  unfold PySy47.answers_asked at h
  cases hc : PyFlat.calls PySy47.shape l.length l with
  | none => rw [hc] at h; cases h
  | some raw =>
    obtain ⟨cs, rfl, hne⟩ := calls_rows hc
    rw [hc] at h
    simp only [Bool.and_eq_true] at h
    obtain ⟨⟨⟨⟨_, hm⟩, _⟩, ha⟩, _⟩ := h
    rw [whole_map hne] at ha
    have e : (cs.map fun c => [c]).map (fun (c : List (List Int)) => c.headD []) = cs := by
      rw [List.map_map]
      exact List.map_id' _
    rw [e] at ha
    unfold Sy47Neutral.asked at ha
    simp only [Bool.and_eq_true, decide_eq_true_eq, List.all_eq_true] at ha
    refine ⟨cs, ⟨_, hc⟩, ha.1, ha.2.2.1, ha.2.2.2, ?_⟩
    unfold PySy47.answers PySy47.calls
    rw [hc]
    show PyFlat.told (PyFlat.played _ Sy47Neutral.start ((cs.map fun c => [c]).map PySy47.whole)) = _
    rw [whole_map hne]
    exact told_from cs Sy47.init
theorem step_call {s : St} {c : List Int} {x : Sy47.Call} (h : Sy47Neutral.callOf c = some x) : Sy47Neutral.step s c = ((Sy47.step s x).1, Sy47Neutral.out (Sy47.step s x).2) := by
  unfold Sy47Neutral.step
  rw [h]
end BrF
end
section
set_option maxRecDepth 100000
set_option maxHeartbeats 4000000
namespace Br
open PySem PySem.Spec PyProof.Rows L2 Evl

abbrev nI (n : Nat) : V := .int (n : Int)
def nv (l : List Nat) : List V := l.map nI
def oI : Option Nat → V
  | none => .non
  | some n => .int (n : Int)
theorem nv_len (l : List Nat) : (nv l).length = l.length := List.length_map ..
theorem nv_snoc (l : List Nat) (n : Nat) : nv (l ++ [n]) = nv l ++ [nI n] := by
  unfold nv
  rw [List.map_append]
  rfl
theorem nv_append (l r : List Nat) : nv (l ++ r) = nv l ++ nv r := List.map_append

/-! ### words: what evaluates to what -/
section
variable {K : PySem.W.Frag} {σ : L2.St} {H H' : Hp} {ta tb te tl : TE} {t : TT} {x y z v : V} {a C dx : Addr} {fs : List (Str × V)} {f m : Str}
theorem ev_fld (h : Ev te σ H (.ref a)) (ho : H a = some (.ins C dx fs)) (c : Cls K C) (n : NoAttr K C f) (l : fs.lookup f = some v) : Ev (tFld K te f) σ H v :=
  fun H1 e _ q => h H1 e _ fun H2 e2 => ⟨a, C, dx, fs, v, rfl, (e.trans e2) _ _ ho, c, n, l, q H2 e2⟩
theorem ev_meth {sp : Sp} {dvs vs : List V} {E : XK} {tt : TA} (h : Ev ta σ H (.ref a)) (ho : H a = some (.ins C dx fs)) (l : fs.lookup m = none) (ht : EvA tt σ H vs) (hs : SpV sp (.ref a :: (vs ++ dvs)) H z) : Ev (tMeth C m sp dvs E ta tt) σ H z :=
  fun H1 e Q q => h H1 e _ fun H2 e2 => ⟨a, dx, fs, rfl, (e.trans e2) _ _ ho, l, ht H2 (e.trans e2) _ fun H3 e3 => hs H3 ((e.trans e2).trans e3) Q (fun H4 e4 => q H4 ((e2.trans e3).trans e4)) E⟩
/-- a built-in of a new list -/
theorem ev_cbL {r : List V → Hp → VK → Prop} {xs : List V} (h : EvL te σ H xs) (hr : ∀ p H1, Ex H H1 → H1 p = some (.lst xs) → RC r [.ref p] H1 z) : Ev (tCB r (tCons te tNil)) σ H z :=
  fun H1 e Q q => h H1 e _ fun p H2 _ e2 hp => hr p H2 (e.trans e2) hp H2 (Ex.refl H2) Q fun H3 e3 => q H3 (e2.trans e3)
theorem rc_any {p : Addr} {bs : List Bool} (h : SqL K H p (bs.map V.bl)) : RC (rAny K) [.ref p] H (.bl (bs.any id)) := fun H1 e _ q => ⟨p, bs, rfl, ex_l e h, q H1 (Ex.refl H1)⟩
theorem rc_all {p : Addr} {bs : List Bool} (h : SqL K H p (bs.map V.bl)) : RC (rAll K) [.ref p] H (.bl (bs.all id)) := fun H1 e _ q => ⟨p, bs, rfl, ex_l e h, q H1 (Ex.refl H1)⟩
theorem et_yes : EvT tYes σ H true := fun H1 _ _ q => q H1 (Ex.refl H1)
/-- two new lists put together -/
theorem el_cat {xs ys : List V} (ha : EvL ta σ H xs) (hb : EvL tb σ H ys) (hz : xs.length + ys.length ≤ 100000) : EvL (tOp rCat ta tb) σ H (xs ++ ys) := fun H1 e _ k =>
  ha H1 e _ fun p H2 hp e2 h2 => hb H2 (e.trans e2) _ fun q H3 _ e3 h3 => ⟨p, q, xs, ys, rfl, rfl, e3 p _ h2, h3, sz_of hz, fun l hl => k l _ (fresh_back (e2.trans e3) hl) ((e2.trans e3).trans (Ex.new hl)) upd_same⟩
theorem ev_isN {j : V} (h : Ev ta σ H x) : Ev (tOp (fun x y H Q => y = .non ∧ Q (.bl (decide (x = .non))) H) ta (tC .non)) σ H (.bl (decide (x = .non))) := fun H1 e _ q =>
  h H1 e _ fun H2 e2 => ⟨rfl, q H2 e2⟩
theorem ev_notN (h : Ev ta σ H x) : Ev (tOp (fun x y H Q => y = .non ∧ Q (.bl (!decide (x = .non))) H) ta (tC .non)) σ H (.bl (!decide (x = .non))) := fun H1 e _ q =>
  h H1 e _ fun H2 e2 => ⟨rfl, q H2 e2⟩

/-! ### comprehensions by functions -/
theorem take_more {α : Type} : ∀ {l : List α} {i : Nat} {x : α}, l[i]? = some x → l.take (i + 1) = l.take i ++ [x]
  | [], i, x, h => by simp at h
  | a :: l, 0, x, h => by
    have e : a = x := Option.some.inj h
    subst e
    rfl
  | a :: l, i + 1, x, h => by
    have ih := take_more (l := l) (i := i) (x := x) h
    show a :: l.take (i + 1) = a :: l.take i ++ [x]
    rw [ih]
    rfl
def Cf {α : Type} (H : Hp) (ys : List α) (p : α → Bool) (g : α → V) (Dl : Addr) (i : Nat) (H' : Hp) : Prop := H Dl = none ∧ Ex H H' ∧ H' Dl = some (.lst (((ys.take i).filter p).map g))
theorem cf_turn {α : Type} {ys : List α} {p : α → Bool} {g : α → V} {Dl : Addr} {i : Nat} {w : α} {σ2 : L2.St} (c : Cf H ys p g Dl i H') (hw : ys[i]? = some w) (hz : ys.length ≤ 40000) (ht : EvT t σ2 H (p w)) (he : p w = true → Ev te σ2 H (g w)) :
    t σ2 H' fun b H3 => if b = true then te σ2 H3 fun y H4 => ∃ acc, H4 Dl = some (.lst acc) ∧ acc.length < sizeLine ∧ Cf H ys p g Dl (i + 1) (upd H4 Dl (.lst (acc ++ [y]))) else Cf H ys p g Dl (i + 1) H3 := by
  obtain ⟨p1, p2, p3⟩ := c
  refine ht H' p2 _ fun H3 e3 => ?_
  have et := take_more hw
  cases hf : p w with
  | true =>
    show te σ2 H3 fun y H4 => ∃ acc, H4 Dl = some (.lst acc) ∧ acc.length < sizeLine ∧ Cf H ys p g Dl (i + 1) (upd H4 Dl (.lst (acc ++ [y])))
    refine he hf H3 (p2.trans e3) _ fun H4 e4 => ⟨((ys.take i).filter p).map g, e4 Dl _ (e3 Dl _ p3), sz_lt ?_, p1, Ex.mut ((p2.trans e3).trans e4) p1, ?_⟩
    · have h1 := List.length_filter_le p (ys.take i)
      have h2 : (ys.take i).length ≤ ys.length := List.length_take_le' _ _
      rw [List.length_map]
      omega
    · rw [upd_same, et, List.filter_append, List.map_append, List.filter_cons, if_pos hf]
      rfl
  | false =>
    show Cf H ys p g Dl (i + 1) H3
    refine ⟨p1, p2.trans e3, ?_⟩
    rw [et, List.filter_append, List.filter_cons, if_neg (by rw [hf]; decide), List.filter_nil, List.append_nil]
    exact e3 Dl _ p3
theorem cf_end {α : Type} {ys : List α} {p : α → Bool} {g : α → V} {Dl : Addr} (c : Cf H ys p g Dl ys.length H') : H' Dl = some (.lst ((ys.filter p).map g)) := by
  have := c.2.2
  rwa [List.take_length] at this
/-- [e for x in range(n) if t] -/
theorem el_rng {j n : Nat} {vs : List Nat} {tr : TA} (p : Nat → Bool) (g : Nat → V) (h : EvA tr σ H [nI n]) (hn : n ≤ 40000) (hw : ∀ x, wipe ((wipe σ vs).set j (some x)) vs = wipe σ vs)
    (ht : ∀ (i : Nat) H1, Ex H H1 → i < n → EvT t ((wipe σ vs).set j (some (nI i))) H1 (p i)) (he : ∀ (i : Nat) H1, Ex H H1 → i < n → p i = true → Ev te ((wipe σ vs).set j (some (nI i))) H1 (g i)) :
    EvL (tLc (iRng1 tr) (gName j) t te vs) σ H (((List.range n).filter p).map g) := fun H0 e Q q => h H0 e _ fun H1 e1 => ⟨(n : Int), rfl, by omega, by omega, fun Dl hD =>
  lc_range (lo := 0) (n := (n : Int).toNat) (Cf H1 (List.range n) p g Dl) ⟨hD, Ex.new hD, upd_same⟩ (fun i H' hi c => by
    have e0 : (0 : Int) + (i : Int) = (i : Int) := Int.zero_add _
    have hi' : i < n := by omega
    show wipe ((wipe σ vs).set j (some (.int ((0 : Int) + (i : Int))))) vs = wipe σ vs ∧ t ((wipe σ vs).set j (some (.int ((0 : Int) + (i : Int))))) H' fun b H3 => if b = true then te ((wipe σ vs).set j (some (.int ((0 : Int) + (i : Int))))) H3 fun y H4 => ∃ acc, H4 Dl = some (.lst acc) ∧ acc.length < sizeLine ∧ Cf H1 (List.range n) p g Dl (i + 1) (upd H4 Dl (.lst (acc ++ [y]))) else Cf H1 (List.range n) p g Dl (i + 1) H3
    rw [e0]
    exact ⟨hw _, cf_turn c (by rw [List.getElem?_range hi']) (by rw [List.length_range]; exact hn) (ht i H1 (e.trans e1) hi') fun hf => he i H1 (e.trans e1) hi' hf⟩)
    (fun H' c => by
      have c' : Cf H1 (List.range n) p g Dl (List.range n).length H' := by rw [List.length_range]; exact c
      exact q Dl H' (fresh_back e1 c.1) (e1.trans c.2.1) (cf_end c'))⟩
/-- [e for x in xs if t], xs a list that stands -/
theorem el_lst' {α : Type} {ys : List α} {j : Nat} {vs : List Nat} (inj : α → V) (p : α → Bool) (g : α → V) (h : Ev tl σ H (.ref a)) (hx : SqL K H a (ys.map inj)) (hz : ys.length ≤ 40000) (hw : ∀ x, wipe ((wipe σ vs).set j (some x)) vs = wipe σ vs)
    (ht : ∀ y H1, Ex H H1 → y ∈ ys → EvT t ((wipe σ vs).set j (some (inj y))) H1 (p y)) (he : ∀ y H1, Ex H H1 → y ∈ ys → p y = true → Ev te ((wipe σ vs).set j (some (inj y))) H1 (g y)) :
    EvL (tLc (iList K tl) (gName j) t te vs) σ H ((ys.filter p).map g) := fun H0 e Q q => h H0 e _ fun H1 e1 => ⟨a, rfl, ⟨_, ex_l (e.trans e1) hx⟩, fun Dl hD =>
  lc_list (xs := ys.map inj) (Cf H1 ys p g Dl) ⟨hD, Ex.new hD, upd_same⟩ (fun i H' _ c => ex_l ((e.trans e1).trans c.2.1) hx) (fun i x H' hi c => by
    rw [List.getElem?_map] at hi
    cases hy : ys[i]? with
    | none => rw [hy] at hi; cases hi
    | some y =>
      rw [hy] at hi
      obtain rfl : inj y = x := Option.some.inj hi
      exact ⟨hw _, cf_turn c hy hz (ht y H1 (e.trans e1) (List.mem_of_getElem? hy)) fun hf => he y H1 (e.trans e1) (List.mem_of_getElem? hy) hf⟩)
    (fun H' c => by
      rw [List.length_map] at c
      exact q Dl H' (fresh_back e1 c.1) (e1.trans c.2.1) (cf_end c))⟩
/-- .. a new list -/
theorem el_new' {α : Type} {ys : List α} {j : Nat} {vs : List Nat} (inj : α → V) (p : α → Bool) (g : α → V) (h : EvL tl σ H (ys.map inj)) (hz : ys.length ≤ 40000) (hw : ∀ x, wipe ((wipe σ vs).set j (some x)) vs = wipe σ vs)
    (ht : ∀ y H1, Ex H H1 → y ∈ ys → EvT t ((wipe σ vs).set j (some (inj y))) H1 (p y)) (he : ∀ y H1, Ex H H1 → y ∈ ys → p y = true → Ev te ((wipe σ vs).set j (some (inj y))) H1 (g y)) :
    EvL (tLc (iList K tl) (gName j) t te vs) σ H ((ys.filter p).map g) := fun H0 e Q q => h H0 e _ fun a H1 ha e1 hx => ⟨a, rfl, ⟨_, sq_of hx⟩, fun Dl hD =>
  lc_list (xs := ys.map inj) (Cf H1 ys p g Dl) ⟨hD, Ex.new hD, upd_same⟩ (fun i H' _ c => sq_of (c.2.1 a _ hx)) (fun i x H' hi c => by
    rw [List.getElem?_map] at hi
    cases hy : ys[i]? with
    | none => rw [hy] at hi; cases hi
    | some y =>
      rw [hy] at hi
      obtain rfl : inj y = x := Option.some.inj hi
      exact ⟨hw _, cf_turn c hy hz (ht y H1 (e.trans e1) (List.mem_of_getElem? hy)) fun hf => he y H1 (e.trans e1) (List.mem_of_getElem? hy) hf⟩)
    (fun H' c => by
      rw [List.length_map] at c
      exact q Dl H' (fresh_back e1 c.1) (e1.trans c.2.1) (cf_end c))⟩
theorem filter_all {α : Type} (l : List α) : (l.filter fun _ => true) = l := List.filter_eq_self.mpr fun _ _ => rfl

/-! ### lists of new objects -/
def EvNew (te : TE) (σ : L2.St) (H : Hp) (o : HO) : Prop := ∀ H1, Ex H H1 → ∀ Q : VK, (∀ p H2, H1 p = none → Ex H1 H2 → H2 p = some o → Q (.ref p) H2) → te σ H1 Q
structure NewObjs (H0 H : Hp) (D : Addr) (rs : List Addr) (os : List HO) : Prop where
  len : rs.length = os.length
  at_ : ∀ (i : Nat) (r : Addr) (o : HO), rs[i]? = some r → os[i]? = some o → H r = some o
  new : ∀ r ∈ rs, H0 r = none ∧ r ≠ D
  nd : rs.Nodup
def EvObjs (te : TE) (σ : L2.St) (H : Hp) (os : List HO) : Prop := ∀ H1, Ex H H1 → ∀ Q : VK, (∀ (p : Addr) (rs : List Addr) (H2 : Hp), H1 p = none → Ex H1 H2 → H2 p = some (.lst (rs.map V.ref)) → NewObjs H1 H2 p rs os → Q (.ref p) H2) → te σ H1 Q
theorem NewObjs.mono {H0 H1 H2 : Hp} {D : Addr} {rs : List Addr} {os : List HO} (o : NewObjs H0 H1 D rs os) (e : Ex H1 H2) : NewObjs H0 H2 D rs os := ⟨o.len, fun i r u h1 h2 => e _ _ (o.at_ i r u h1 h2), o.new, o.nd⟩
theorem NewObjs.base {H0 H1 H2 : Hp} {D : Addr} {rs : List Addr} {os : List HO} (o : NewObjs H1 H2 D rs os) (e : Ex H0 H1) : NewObjs H0 H2 D rs os := ⟨o.len, o.at_, fun r hr => ⟨fresh_back e (o.new r hr).1, (o.new r hr).2⟩, o.nd⟩
def Co {α : Type} (H : Hp) (ys : List α) (g : α → HO) (Dl : Addr) (i : Nat) (H' : Hp) : Prop := H Dl = none ∧ Ex H H' ∧ ∃ rs : List Addr, H' Dl = some (.lst (rs.map V.ref)) ∧ NewObjs H H' Dl rs ((ys.take i).map g)
theorem co_turn {α : Type} {ys : List α} {g : α → HO} {Dl : Addr} {i : Nat} {w : α} {σ2 : L2.St} (c : Co H ys g Dl i H') (hw : ys[i]? = some w) (hz : ys.length ≤ 40000) (he : EvNew te σ2 H (g w)) :
    tYes σ2 H' fun b H3 => if b = true then te σ2 H3 fun y H4 => ∃ acc, H4 Dl = some (.lst acc) ∧ acc.length < sizeLine ∧ Co H ys g Dl (i + 1) (upd H4 Dl (.lst (acc ++ [y]))) else Co H ys g Dl (i + 1) H3 := by
  obtain ⟨p1, p2, rs, p3, ob⟩ := c
  have et := take_more hw
  have hl : rs.length ≤ ys.length := by
    rw [ob.len, List.length_map]
    exact List.length_take_le' _ _
  show te σ2 H' fun y H4 => ∃ acc, H4 Dl = some (.lst acc) ∧ acc.length < sizeLine ∧ Co H ys g Dl (i + 1) (upd H4 Dl (.lst (acc ++ [y])))
  refine he H' p2 _ fun r H4 hr e4 h4 => ⟨rs.map V.ref, e4 Dl _ p3, sz_lt (by rw [List.length_map]; omega), p1, Ex.mut (p2.trans e4) p1, rs ++ [r], ?_, ?_⟩
  · rw [upd_same, List.map_append]
    rfl
  · have nD : r ≠ Dl := fun z => by rw [z, p3] at hr; cases hr
    refine ⟨?_, fun k u o hu ho => ?_, fun u hu => ?_, ?_⟩
    · rw [et, List.length_append, List.map_append, List.length_append, ob.len]
      rfl
    · rw [et, List.map_append] at ho
      have hlen := ob.len
      by_cases hk : k < rs.length
      · rw [List.getElem?_append_left hk] at hu
        rw [List.getElem?_append_left (by rw [← hlen]; exact hk)] at ho
        have hm : u ∈ rs := List.mem_of_getElem? hu
        rw [upd_ne (ob.new u hm).2]
        exact e4 _ _ (ob.at_ k u o hu ho)
      · have hk' : k = rs.length := by
          have := (List.getElem?_eq_some_iff.mp hu).1
          rw [List.length_append] at this
          simp only [List.length_cons, List.length_nil] at this
          omega
        subst hk'
        rw [List.getElem?_append_right (Nat.le_refl _), Nat.sub_self] at hu
        rw [hlen, List.getElem?_append_right (Nat.le_refl _), Nat.sub_self] at ho
        obtain rfl : r = u := Option.some.inj hu
        obtain rfl : g w = o := Option.some.inj ho
        rw [upd_ne nD]
        exact h4
    · rcases List.mem_append.mp hu with z | z
      · exact ob.new u z
      · rw [List.mem_singleton.mp z]
        exact ⟨fresh_back p2 hr, nD⟩
    · rw [List.nodup_append]
      refine ⟨ob.nd, by simp, ?_⟩
      rintro u hu b hb rfl
      rw [List.mem_singleton.mp hb] at hu
      obtain ⟨k, hk⟩ := List.getElem?_of_mem hu
      have hk2 : k < ((ys.take i).map g).length := by
        rw [← ob.len]
        exact (List.getElem?_eq_some_iff.mp hk).1
      have := ob.at_ k r _ hk (List.getElem?_eq_getElem hk2)
      rw [hr] at this
      cases this
theorem co_end {α : Type} {ys : List α} {g : α → HO} {Dl : Addr} (c : Co H ys g Dl ys.length H') : ∃ rs : List Addr, H' Dl = some (.lst (rs.map V.ref)) ∧ NewObjs H H' Dl rs (ys.map g) := by
  have := c.2.2
  rwa [List.take_length] at this
theorem eo_rng {j n : Nat} {vs : List Nat} {tr : TA} (g : Nat → HO) (h : EvA tr σ H [nI n]) (hn : n ≤ 40000) (hw : ∀ x, wipe ((wipe σ vs).set j (some x)) vs = wipe σ vs)
    (he : ∀ (i : Nat) H1, Ex H H1 → i < n → EvNew te ((wipe σ vs).set j (some (nI i))) H1 (g i)) :
    EvObjs (tLc (iRng1 tr) (gName j) tYes te vs) σ H ((List.range n).map g) := fun H0 e Q q => h H0 e _ fun H1 e1 => ⟨(n : Int), rfl, by omega, by omega, fun Dl hD =>
  lc_range (lo := 0) (n := (n : Int).toNat) (Co H1 (List.range n) g Dl) ⟨hD, Ex.new hD, [], upd_same, ⟨rfl, fun _ _ _ h _ => by simp at h, fun _ h => absurd h List.not_mem_nil, List.nodup_nil⟩⟩ (fun i H' hi c => by
    have e0 : (0 : Int) + (i : Int) = (i : Int) := Int.zero_add _
    have hi' : i < n := by omega
    show wipe ((wipe σ vs).set j (some (.int ((0 : Int) + (i : Int))))) vs = wipe σ vs ∧ tYes ((wipe σ vs).set j (some (.int ((0 : Int) + (i : Int))))) H' fun b H3 => if b = true then te ((wipe σ vs).set j (some (.int ((0 : Int) + (i : Int))))) H3 fun y H4 => ∃ acc, H4 Dl = some (.lst acc) ∧ acc.length < sizeLine ∧ Co H1 (List.range n) g Dl (i + 1) (upd H4 Dl (.lst (acc ++ [y]))) else Co H1 (List.range n) g Dl (i + 1) H3
    rw [e0]
    exact ⟨hw _, co_turn c (by rw [List.getElem?_range hi']) (by rw [List.length_range]; exact hn) (he i H1 (e.trans e1) hi')⟩)
    (fun H' c => by
      have c' : Co H1 (List.range n) g Dl (List.range n).length H' := by rw [List.length_range]; exact c
      obtain ⟨rs, h1, h2⟩ := co_end c'
      exact q Dl rs H' (fresh_back e1 c.1) (e1.trans c.2.1) h1 (h2.base e1))⟩
theorem eo_lst {α : Type} {ys : List α} {j : Nat} {vs : List Nat} (inj : α → V) (g : α → HO) (h : Ev tl σ H (.ref a)) (hx : SqL K H a (ys.map inj)) (hz : ys.length ≤ 40000) (hw : ∀ x, wipe ((wipe σ vs).set j (some x)) vs = wipe σ vs)
    (he : ∀ y H1, Ex H H1 → y ∈ ys → EvNew te ((wipe σ vs).set j (some (inj y))) H1 (g y)) :
    EvObjs (tLc (iList K tl) (gName j) tYes te vs) σ H (ys.map g) := fun H0 e Q q => h H0 e _ fun H1 e1 => ⟨a, rfl, ⟨_, ex_l (e.trans e1) hx⟩, fun Dl hD =>
  lc_list (xs := ys.map inj) (Co H1 ys g Dl) ⟨hD, Ex.new hD, [], upd_same, ⟨rfl, fun _ _ _ h _ => by simp at h, fun _ h => absurd h List.not_mem_nil, List.nodup_nil⟩⟩ (fun i H' _ c => ex_l ((e.trans e1).trans c.2.1) hx) (fun i x H' hi c => by
    rw [List.getElem?_map] at hi
    cases hy : ys[i]? with
    | none => rw [hy] at hi; cases hi
    | some y =>
      rw [hy] at hi
      obtain rfl : inj y = x := Option.some.inj hi
      exact ⟨hw _, co_turn c hy hz (he y H1 (e.trans e1) (List.mem_of_getElem? hy))⟩)
    (fun H' c => by
      rw [List.length_map] at c
      obtain ⟨rs, h1, h2⟩ := co_end c
      exact q Dl rs H' (fresh_back e1 c.1) (e1.trans c.2.1) h1 (h2.base e1))⟩
end
end Br
end
section
set_option maxRecDepth 100000
set_option maxHeartbeats 4000000
namespace Br
open PySem PySem.Spec PyProof.Rows L2 Evl
open BrA BrB BrC BrD

abbrev Ds := Sy47.St
/-! ### the text -/
def top (i : Nat) : Stmt := PySem.Challenge.pw_bridgestages_s01_answers.main.body.getD i (.Pass ⟨0, 0, 0, 0⟩)

/-! ### defs that may be called -/
structure Cal (P : Program) (w : World) (K : PySem.W.Frag) (mg : Str → Option Value) (base : Heap) (k : Nat) (x : Str) (sp : Sp) : Prop where
  ex : ∃ (f : Addr) (fd : FuncData) (ps : List Str), FnOk P w K mg base CX0 k f fd ps sp ∧ mg x = some (.ref f) ∧ PySem.W.keepIn K (.ref f) = true ∧ Binds K fd ps []
/-- a def of the top, behind it -/
structure DefT (K : PySem.W.Frag) (mg : Str → Option Value) (x : Str) (st : Stmt) : Prop where
  ex : ∃ (f : Addr) (fd : FuncData), Fun K x x st f fd ∧ mg x = some (.ref f)
/-- a method of the class at C -/
structure Met (P : Program) (w : World) (K : PySem.W.Frag) (mg : Str → Option Value) (base : Heap) (CX : CXT) (k : Nat) (C : Addr) (m : Str) (sp : Sp) : Prop where
  ex : ∃ (f : Addr) (fd : FuncData) (ps : List Str), Meth K C m f ∧ FnOk P w K mg base CX k f fd ps sp ∧ Binds K fd ps []
structure MetT (K : PySem.W.Frag) (C : Addr) (m qual : Str) (st : Stmt) : Prop where
  ex : ∃ (f : Addr) (fd : FuncData), Fun K m qual st f fd ∧ Meth K C m f
/-- a class that is made -/
structure Mak (P : Program) (w : World) (K : PySem.W.Frag) (mg : Str → Option Value) (base : Heap) (k : Nat) (x : Str) (C : Addr) (sp : Sp) : Prop where
  ex : ∃ (f : Addr) (fd : FuncData) (ps : List Str), Mk K C f ∧ FnOk P w K mg base CX0 k f fd ps sp ∧ mg x = some (.ref C) ∧ Binds K fd ps []
structure MakT (K : PySem.W.Frag) (mg : Str → Option Value) (x : Str) (C : Addr) (qual : Str) (st : Stmt) : Prop where
  ex : ∃ (f : Addr) (fd : FuncData), Fun K "__init__" qual st f fd ∧ Mk K C f ∧ mg x = some (.ref C)
section
variable {X : Cx} {k j : Nat} {C : Addr} {x m : Str} {sp : Sp} {p pos apos : Pos} {e o : Expr} {es : List Expr} {ta : TE} {t : TA} {CX : CXT} {E : XK}
theorem pe_c (c : Cal X.prog X.w X.K X.mg X.base k x sp) (hr : Room j X.A) (hk : k ≤ j) (hg : Gl X x) (ha : PA X (e :: es) t)
    (hdb : (x == ("__debug__" : Str)) = false := by decide) (he : starEach (e :: es) X.env = (false, eval e X.env) :: starEach es X.env := by rfl) (hpl : (backTo pos (starEach es X.env)).any (·.1) = false := by rfl) :
    PE X (.Call (.Name x p) (e :: es) [] pos) (tCall sp [] E0 t) := by
  obtain ⟨f, fd, ps, F, hm, kp, b⟩ := c.ex
  exact pe_call F (hr.mono hk) hg hm kp b .nil pass0 ha hdb he hpl
theorem pe_mk (c : Mak X.prog X.w X.K X.mg X.base k x C sp) (hr : Room j X.A) (hk : k + 1 ≤ j) (hg : Gl X x) (ha : PA X (e :: es) t)
    (hdb : (x == ("__debug__" : Str)) = false := by decide) (he : starEach (e :: es) X.env = (false, eval e X.env) :: starEach es X.env := by rfl) (hpl : (backTo pos (starEach es X.env)).any (·.1) = false := by rfl) :
    PE X (.Call (.Name x p) (e :: es) [] pos) (tMake C sp [] E0 t) := by
  obtain ⟨f, fd, ps, M, F, hm, b⟩ := c.ex
  exact pe_make M F (hr.mono hk) hg hm b .nil pass0 ha hdb he hpl
theorem pe_mt {pl : Sem Bool} (hc : Cls X.K C) (c : Met X.prog X.w X.K X.mg X.base CX k C m sp) (hx : Passes CX X E) (hr : Room j X.A) (hk : k ≤ j) (he : PE X o ta) (ha : PA X (e :: es) t)
    (hst : starEach (e :: es) X.env = (false, eval e X.env) :: starEach es X.env := by rfl) (hpl : (backTo pos (starEach es X.env)).any (·.1) = false := by rfl)
    (ht : eval (.Call (.Attribute o m apos) (e :: es) [] pos) X.env = (do
      let ov ← eval o X.env
      standAt apos.atName
      let (f, first) ← holding [ov] (getMethod ov m pl)
      callWith pos f first (backTo pos (starEach (e :: es) X.env)) (backToKw pos (keywordEach [] X.env))) := by rfl) :
    PE X (.Call (.Attribute o m apos) (e :: es) [] pos) (tMeth C m sp [] E ta t) := by
  obtain ⟨f, fd, ps, hm, F, b⟩ := c.ex
  exact pe_meth (pl := pl) he hc hm F (hr.mono hk) b .nil hx ha hst hpl ht
theorem pe_mt0 {pl : Sem Bool} (hc : Cls X.K C) (c : Met X.prog X.w X.K X.mg X.base CX k C m sp) (hx : Passes CX X E) (hr : Room j X.A) (hk : k ≤ j) (he : PE X o ta)
    (ht : eval (.Call (.Attribute o m apos) [] [] pos) X.env = (do
      let ov ← eval o X.env
      standAt apos.atName
      let (f, first) ← holding [ov] (getMethod ov m pl)
      callWith pos f first (backTo pos (starEach [] X.env)) (backToKw pos (keywordEach [] X.env))) := by rfl) :
    PE X (.Call (.Attribute o m apos) [] [] pos) (tMeth C m sp [] E ta tNil) := by
  obtain ⟨f, fd, ps, hm, F, b⟩ := c.ex
  exact pe_meth0 (pl := pl) he hc hm F (hr.mono hk) b .nil hx ht
end

/-! ### what the top has written -/
structure Txt (K : PySem.W.Frag) (mg : Str → Option Value) (CD CK : Addr) : Prop where
  cd : Cls K CD
  nP : NoAttr K CD "pieces"
  nQ : NoAttr K CD "props"
  nA : NoAttr K CD "at_once"
  nB : NoAttr K CD "bases"
  ck : Cls K CK
  nD : NoAttr K CK "design"
  nS : NoAttr K CK "stage"
  range : mg "range" = none
  any : mg "any" = none
  all : mg "all" = none
  list : mg "list" = none
  len : mg "len" = none
  min : mg "min" = none
  int : mg "int" = none
  put : ∃ t, mg "PUT" = some (.int 10 t)
  take : ∃ t, mg "TAKE" = some (.int 20 t)

/-! ### a design in the heap -/
def dF (s : Ds) (b : Addr) : List (Str × V) := [("pieces", nI s.pieces), ("props", nI s.props), ("at_once", nI s.atOnce), ("bases", .ref b)]
theorem lk_here {k : Str} {v : V} {r : List (Str × V)} : List.lookup k ((k, v) :: r) = some v := by
  have e : (k == k) = true := beq_self_eq_true k
  simp only [List.lookup, e]
theorem lk_past {k g : Str} {v : V} {r : List (Str × V)} (h : (k == g) = false) : List.lookup k ((g, v) :: r) = List.lookup k r := by
  simp only [List.lookup, h]
theorem put_here {f : Str} {v x : V} {r : List (Str × V)} : putF f v ((f, x) :: r) = (f, v) :: r := if_pos rfl
theorem put_past {f g : Str} {v x : V} {r : List (Str × V)} (h : ¬ g = f) : putF f v ((g, x) :: r) = (g, x) :: putF f v r := if_neg h
section
variable (s : Ds) (b : Addr)
theorem dF_pieces : (dF s b).lookup ("pieces" : Str) = some (nI s.pieces) := lk_here
theorem dF_props : (dF s b).lookup ("props" : Str) = some (nI s.props) := (lk_past (by decide +kernel)).trans lk_here
theorem dF_once : (dF s b).lookup ("at_once" : Str) = some (nI s.atOnce) := (lk_past (by decide +kernel)).trans ((lk_past (by decide +kernel)).trans lk_here)
theorem dF_bases : (dF s b).lookup ("bases" : Str) = some (.ref b) := (lk_past (by decide +kernel)).trans ((lk_past (by decide +kernel)).trans ((lk_past (by decide +kernel)).trans lk_here))
theorem dF_no {m : Str} (h1 : (m == ("pieces" : Str)) = false) (h2 : (m == ("props" : Str)) = false) (h3 : (m == ("at_once" : Str)) = false) (h4 : (m == ("bases" : Str)) = false) : (dF s b).lookup m = none :=
  (lk_past h1).trans ((lk_past h2).trans ((lk_past h3).trans ((lk_past h4).trans rfl)))
theorem dF_new (p q k : Nat) : putF "bases" (.ref b) (putF "at_once" (nI k) (putF "props" (nI q) (putF "pieces" (nI p) []))) = [(("pieces" : Str), nI p), ("props", nI q), ("at_once", nI k), ("bases", .ref b)] := by
  have e1 : putF "pieces" (nI p) [] = [(("pieces" : Str), nI p)] := rfl
  have e2 : putF "props" (nI q) [(("pieces" : Str), nI p)] = [(("pieces" : Str), nI p), ("props", nI q)] := put_past (by decide +kernel)
  have e3 : putF "at_once" (nI k) [(("pieces" : Str), nI p), ("props", nI q)] = [(("pieces" : Str), nI p), ("props", nI q), ("at_once", nI k)] := (put_past (by decide +kernel)).trans (congrArg _ (put_past (by decide +kernel)))
  have e4 : putF "bases" (.ref b) [(("pieces" : Str), nI p), ("props", nI q), ("at_once", nI k)] = [(("pieces" : Str), nI p), ("props", nI q), ("at_once", nI k), ("bases", .ref b)] :=
    (put_past (by decide +kernel)).trans (congrArg _ ((put_past (by decide +kernel)).trans (congrArg _ (put_past (by decide +kernel)))))
  rw [e1, e2, e3, e4]
theorem dF_put (b' : Addr) : putF "bases" (.ref b') (dF s b) = dF s b' :=
  (put_past (by decide +kernel)).trans (congrArg _ ((put_past (by decide +kernel)).trans (congrArg _ ((put_past (by decide +kernel)).trans (congrArg _ put_here)))))
end
/-- a design: its own dict at dx, the list of its bases at b, their lists at rs -/
structure DesAt (CD : Addr) (H : Hp) (d : Addr) (s : Ds) (dx b : Addr) (rs : List Addr) : Prop where
  o : H d = some (.ins CD dx (dF s b))
  b : H b = some (.lst (rs.map V.ref))
  rl : rs.length = s.rests.length
  r : ∀ (i : Nat) (r : Addr) (l : List Nat), rs[i]? = some r → s.rests[i]? = some l → H r = some (.lst (nv l))
  nd : rs.Nodup
def DesignAt (CD : Addr) (H : Hp) (d : Addr) (s : Ds) : Prop := ∃ dx b rs, DesAt CD H d s dx b rs
theorem DesAt.mono {CD d dx b : Addr} {H H' : Hp} {s : Ds} {rs : List Addr} (D : DesAt CD H d s dx b rs) (e : Ex H H') : DesAt CD H' d s dx b rs := ⟨e _ _ D.o, e _ _ D.b, D.rl, fun i r l h1 h2 => e _ _ (D.r i r l h1 h2), D.nd⟩
theorem DesignAt.mono {CD d : Addr} {H H' : Hp} {s : Ds} (D : DesignAt CD H d s) (e : Ex H H') : DesignAt CD H' d s := by
  obtain ⟨dx, b, rs, D⟩ := D
  exact ⟨dx, b, rs, D.mono e⟩
/-- a design does not know the stage that's there -/
theorem DesignAt.stage {CD d : Addr} {H : Hp} {s : Ds} (D : DesignAt CD H d s) (t : Nat) : DesignAt CD H d { s with stage := t } := by
  obtain ⟨dx, b, rs, D⟩ := D
  exact ⟨dx, b, rs, ⟨D.o, D.b, D.rl, D.r, D.nd⟩⟩

/-! ### the readings of a design's fields -/
section
variable {K : PySem.W.Frag} {mg : Str → Option Value} {CD CK d : Addr} {σ : L2.St} {H : Hp} {te : TE} {s : Ds}
theorem ev_pieces (T : Txt K mg CD CK) (D : DesignAt CD H d s) (h : Ev te σ H (.ref d)) : Ev (tFld K te "pieces") σ H (nI s.pieces) := by
  obtain ⟨dx, b, rs, D⟩ := D
  exact ev_fld h D.o T.cd T.nP (dF_pieces s b)
theorem ev_props (T : Txt K mg CD CK) (D : DesignAt CD H d s) (h : Ev te σ H (.ref d)) : Ev (tFld K te "props") σ H (nI s.props) := by
  obtain ⟨dx, b, rs, D⟩ := D
  exact ev_fld h D.o T.cd T.nQ (dF_props s b)
theorem ev_once (T : Txt K mg CD CK) (D : DesignAt CD H d s) (h : Ev te σ H (.ref d)) : Ev (tFld K te "at_once") σ H (nI s.atOnce) := by
  obtain ⟨dx, b, rs, D⟩ := D
  exact ev_fld h D.o T.cd T.nA (dF_once s b)
theorem ev_row {ti : TE} {i : Nat} {l : List Nat} (T : Txt K mg CD CK) (D : DesignAt CD H d s) (h : Ev te σ H (.ref d)) (hi : Ev ti σ H (nI i)) (hl : s.rests[i]? = some l) :
    ∃ r, H r = some (.lst (nv l)) ∧ Ev (tOp (rIxL K) (tFld K te "bases") ti) σ H (.ref r) := by
  obtain ⟨dx, b, rs, D⟩ := D
  have hi' : i < rs.length := by
    rw [D.rl]
    exact (List.getElem?_eq_some_iff.mp hl).1
  have hr : rs[i]? = some rs[i] := List.getElem?_eq_getElem hi'
  refine ⟨rs[i], D.r i _ l hr hl, ev_op (ev_fld h D.o T.cd T.nB (dF_bases s b)) hi (rv_ixL (sq_of D.b) (atI_nat ?_))⟩
  rw [List.getElem?_map, hr]
  rfl
end

/-! ### numbers -/
theorem rv_shr {t i : Nat} {H : Hp} : RV (rI (fun _ j => 0 ≤ j) fun i j => .int (i / 2 ^ j.toNat)) (nI t) (nI i) H (nI (t / 2 ^ i)) := by
  have e : (V.int ((t : Int) / 2 ^ (i : Int).toNat)) = nI (t / 2 ^ i) := by
    rw [Int.toNat_natCast]
    exact congrArg V.int ((Int.natCast_ediv t (2 ^ i)).trans (congrArg _ (Int.natCast_pow 2 i))).symm
  rw [← e]
  exact rv_I (C := fun _ j => 0 ≤ j) (Int.natCast_nonneg i)
theorem rv_and {a b : Nat} {H : Hp} : RV (rI0 fun i j => .int (Builtin.bitAnd i j)) (nI a) (nI b) H (nI (a &&& b)) := by
  have e : V.int (Builtin.bitAnd (a : Int) (b : Int)) = nI (a &&& b) := by
    rw [bitAnd_pp (Int.natCast_nonneg a) (Int.natCast_nonneg b), Int.toNat_natCast, Int.toNat_natCast]
  rw [← e]
  exact rv_I0
theorem rv_shl {i : Nat} {H : Hp} (hi : i ≤ 1000) : RV (rI CPow fun i j => .int (i * 2 ^ j.toNat)) (nI 1) (nI i) H (nI (2 ^ i)) := by
  have e : V.int (((1 : Nat) : Int) * 2 ^ (i : Int).toNat) = nI (2 ^ i) := by
    rw [Int.toNat_natCast]
    refine congrArg V.int ?_
    rw [Int.natCast_pow]
    exact Int.one_mul _
  rw [← e]
  exact rv_I (C := CPow) ⟨Int.natCast_nonneg i, by omega, by decide⟩
theorem rv_add {a b : Nat} {H : Hp} : RV (rI0 fun i j => .int (i + j)) (nI a) (nI b) H (nI (a + b)) := rv_I0
theorem rv_sub {a b : Nat} {H : Hp} (h : b ≤ a) : RV (rI0 fun i j => .int (i - j)) (nI a) (nI b) H (nI (a - b)) := by
  have e : V.int ((a : Int) - (b : Int)) = nI (a - b) := congrArg V.int (by omega)
  rw [← e]
  exact rv_I0
theorem rv_eqN {a b : Nat} {H : Hp} : RV rEq (nI a) (nI b) H (.bl (decide (a = b))) := by
  have e : decide (nI a = nI b) = decide (a = b) := by
    rw [Bool.eq_iff_iff, decide_eq_true_iff, decide_eq_true_iff]
    constructor
    · intro h
      injection h with h
      omega
    · intro h
      rw [h]
  rw [← e]
  exact rv_eq rfl

/-! ### is_in, with_thing, without_thing -/
theorem scIs : FnScope ["stage", "thing"] ["stage", "thing"] (defScope (top 2)) := ⟨rfl, rfl, rfl, by decide +kernel, rfl, by decide +kernel, by decide +kernel⟩
theorem scWith : FnScope ["stage", "thing"] ["stage", "thing"] (defScope (top 3)) := ⟨rfl, rfl, rfl, by decide +kernel, rfl, by decide +kernel, by decide +kernel⟩
theorem scWithout : FnScope ["stage", "thing"] ["stage", "thing"] (defScope (top 4)) := ⟨rfl, rfl, rfl, by decide +kernel, rfl, by decide +kernel, by decide +kernel⟩
def spIs : Sp := fun vs H Q _ => ∃ t i : Nat, vs = [nI t, nI i] ∧ RetV (.bl (Sy47.has t i)) H Q
def spWith : Sp := fun vs H Q _ => ∃ t i : Nat, vs = [nI t, nI i] ∧ i ≤ 1000 ∧ RetV (nI (t + 2 ^ i)) H Q
def spWithout : Sp := fun vs H Q _ => ∃ t i : Nat, vs = [nI t, nI i] ∧ i ≤ 1000 ∧ 2 ^ i ≤ t ∧ RetV (nI (t - 2 ^ i)) H Q
theorem v_is {H : Hp} {t i : Nat} : SpV spIs [nI t, nI i] H (.bl (Sy47.has t i)) := fun _ _ _ q _ => ⟨t, i, rfl, q⟩
theorem v_with {H : Hp} {t i : Nat} (h : i ≤ 1000) : SpV spWith [nI t, nI i] H (nI (t + 2 ^ i)) := fun _ _ _ q _ => ⟨t, i, rfl, h, q⟩
theorem v_without {H : Hp} {t i : Nat} (h : i ≤ 1000) (h2 : 2 ^ i ≤ t) : SpV spWithout [nI t, nI i] H (nI (t - 2 ^ i)) := fun _ _ _ q _ => ⟨t, i, rfl, h, h2, q⟩
section
variable {P : Program} {w : World} {K : PySem.W.Frag} {mg : Str → Option Value} {base : Heap} {CD CK : Addr}
theorem c_is (D : DefT K mg "is_in" (top 2)) : Cal P w K mg base 1 "is_in" spIs := by
  obtain ⟨f, fd, F, hm⟩ := D
  refine ⟨f, fd, ["stage", "thing"], F.ok scIs (fun vs H Q E h => ?_) (fun cdv A outer s H vs Q E hr h => ?_), hm, F.kp, F.binds fun _ _ _ _ _ _ us hl => match us, hl with | [_, _], _ => rfl⟩
  · obtain ⟨t, i, rfl, _⟩ := h
    rfl
  · obtain ⟨t, i, rfl, q⟩ := h
    refine ⟨_, pss_one (ps_ret (pe_cmpR op_eq (pe_op op_and (pe_op op_shr (pv 0) (pv 1)) pe_int) pe_int (nomark _))), ?_⟩
    refine s_ret (ev_is (ev_op (ev_op (ev_op (ev_var rfl) (ev_var rfl) rv_shr) (ev_c (v := nI 1)) rv_and) (ev_c (v := nI 1)) rv_eqN) (congrArg V.bl ?_)) fun H1 e => q H1 e
    rw [Nat.and_one_is_mod]
    rfl
theorem c_with (D : DefT K mg "with_thing" (top 3)) : Cal P w K mg base 1 "with_thing" spWith := by
  obtain ⟨f, fd, F, hm⟩ := D
  refine ⟨f, fd, ["stage", "thing"], F.ok scWith (fun vs H Q E h => ?_) (fun cdv A outer s H vs Q E hr h => ?_), hm, F.kp, F.binds fun _ _ _ _ _ _ us hl => match us, hl with | [_, _], _ => rfl⟩
  · obtain ⟨t, i, rfl, _⟩ := h
    rfl
  · obtain ⟨t, i, rfl, hi, q⟩ := h
    refine ⟨_, pss_one (ps_ret (pe_op op_add (pv 0) (pe_op op_shl pe_int (pv 1)))), ?_⟩
    exact s_ret (ev_op (ev_var rfl) (ev_op (ev_c (v := nI 1)) (ev_var rfl) (rv_shl hi)) rv_add) fun H1 e => q H1 e
theorem c_without (D : DefT K mg "without_thing" (top 4)) : Cal P w K mg base 1 "without_thing" spWithout := by
  obtain ⟨f, fd, F, hm⟩ := D
  refine ⟨f, fd, ["stage", "thing"], F.ok scWithout (fun vs H Q E h => ?_) (fun cdv A outer s H vs Q E hr h => ?_), hm, F.kp, F.binds fun _ _ _ _ _ _ us hl => match us, hl with | [_, _], _ => rfl⟩
  · obtain ⟨t, i, rfl, _⟩ := h
    rfl
  · obtain ⟨t, i, rfl, hi, hle, q⟩ := h
    refine ⟨_, pss_one (ps_ret (pe_op op_sub (pv 0) (pe_op op_shl pe_int (pv 1)))), ?_⟩
    exact s_ret (ev_op (ev_var rfl) (ev_op (ev_c (v := nI 1)) (ev_var rfl) (rv_shl hi)) (rv_sub hle)) fun H1 e => q H1 e
end
end Br
end
section
set_option maxRecDepth 100000
set_option maxHeartbeats 4000000
namespace Br
open PySem PySem.Spec PyProof.Rows L2 Evl
open BrA BrB BrC BrD

section
variable {K : PySem.W.Frag} {σ : L2.St} {H H' : Hp} {ta tb te tl : TE} {t : TT} {x y z v : V} {a C dx : Addr}
/-- comprehensions without a test -/
theorem el_rngm {j n : Nat} {vs : List Nat} {tr : TA} (g : Nat → V) (h : EvA tr σ H [nI n]) (hn : n ≤ 40000) (hw : ∀ x, wipe ((wipe σ vs).set j (some x)) vs = wipe σ vs)
    (he : ∀ (i : Nat) H1, Ex H H1 → i < n → Ev te ((wipe σ vs).set j (some (nI i))) H1 (g i)) : EvL (tLc (iRng1 tr) (gName j) tYes te vs) σ H ((List.range n).map g) := by
  have := el_rng (t := tYes) (fun _ => true) g h hn hw (fun _ _ _ _ => et_yes) (fun i H1 e hi _ => he i H1 e hi)
  rwa [filter_all] at this
theorem el_lstm {α : Type} {ys : List α} {j : Nat} {vs : List Nat} (inj : α → V) (g : α → V) (h : Ev tl σ H (.ref a)) (hx : SqL K H a (ys.map inj)) (hz : ys.length ≤ 40000) (hw : ∀ x, wipe ((wipe σ vs).set j (some x)) vs = wipe σ vs)
    (he : ∀ y H1, Ex H H1 → y ∈ ys → Ev te ((wipe σ vs).set j (some (inj y))) H1 (g y)) : EvL (tLc (iList K tl) (gName j) tYes te vs) σ H (ys.map g) := by
  have := el_lst' (t := tYes) inj (fun _ => true) g h hx hz hw (fun _ _ _ _ => et_yes) (fun y H1 e hy _ => he y H1 e hy)
  rwa [filter_all] at this
theorem el_newm {α : Type} {ys : List α} {j : Nat} {vs : List Nat} (inj : α → V) (g : α → V) (h : EvL tl σ H (ys.map inj)) (hz : ys.length ≤ 40000) (hw : ∀ x, wipe ((wipe σ vs).set j (some x)) vs = wipe σ vs)
    (he : ∀ y H1, Ex H H1 → y ∈ ys → Ev te ((wipe σ vs).set j (some (inj y))) H1 (g y)) : EvL (tLc (iList K tl) (gName j) tYes te vs) σ H (ys.map g) := by
  have := el_new' (K := K) (t := tYes) inj (fun _ => true) g h hz hw (fun _ _ _ _ => et_yes) (fun y H1 e hy _ => he y H1 e hy)
  rwa [filter_all] at this
theorem ev_any {α : Type} {ys : List α} {q : α → Bool} (h : EvL te σ H (ys.map fun y => V.bl (q y))) : Ev (tCB (rAny K) (tCons te tNil)) σ H (.bl (ys.any q)) :=
  ev_cbL h fun p H1 _ hp => by
    have e : (ys.map fun y => V.bl (q y)) = (ys.map q).map V.bl := by rw [List.map_map]; rfl
    rw [e] at hp
    have := rc_any (K := K) (sq_of (K := K) hp)
    rwa [List.any_map] at this
theorem ev_all {α : Type} {ys : List α} {q : α → Bool} (h : EvL te σ H (ys.map fun y => V.bl (q y))) : Ev (tCB (rAll K) (tCons te tNil)) σ H (.bl (ys.all q)) :=
  ev_cbL h fun p H1 _ hp => by
    have e : (ys.map fun y => V.bl (q y)) = (ys.map q).map V.bl := by rw [List.map_map]; rfl
    rw [e] at hp
    have := rc_all (K := K) (sq_of (K := K) hp)
    rwa [List.all_map] at this
/-- a statement whose value is told so -/
theorem s_fldO {D : Ends} {os : List HO} {f : Str} (h : EvObjs te σ H os) (k : ∀ (p : Addr) (rs : List Addr) (H2 : Hp), H p = none → Ex H H2 → H2 p = some (.lst (rs.map V.ref)) → NewObjs H H2 p rs os → sFld K ta (tC (.ref p)) f D σ H2) : sFld K ta te f D σ H := h H (Ex.refl H) _ k
theorem q_fldO {D : Ends} {tz : TS} {os : List HO} {f : Str} (h : EvObjs te σ H os) (k : ∀ (p : Addr) (rs : List Addr) (H2 : Hp), H p = none → Ex H H2 → H2 p = some (.lst (rs.map V.ref)) → NewObjs H H2 p rs os → tSeq (sFld K ta (tC (.ref p)) f) tz D σ H2) : tSeq (sFld K ta te f) tz D σ H := h H (Ex.refl H) _ k
theorem q_asgO {D : Ends} {tz : TS} {os : List HO} {i : Nat} (h : EvObjs te σ H os) (k : ∀ (p : Addr) (rs : List Addr) (H2 : Hp), H p = none → Ex H H2 → H2 p = some (.lst (rs.map V.ref)) → NewObjs H H2 p rs os → tz D (σ.set i (some (.ref p))) H2) : tSeq (tAsg te (gName i)) tz D σ H := h H (Ex.refl H) _ k
theorem en_nil : EvNew (tLst tNil) σ H (.lst []) := fun H1 _ _ q => ⟨Nat.zero_le _, fun p hp => q p _ hp (Ex.new hp) upd_same⟩
end

/-! ### Design -/
abbrev sDInit : Stmt := inClass (top 1) 0
abbrev sMany : Stmt := inClass (top 1) 1
abbrev sEnd : Stmt := inClass (top 1) 2
abbrev sThing : Stmt := inClass (top 1) 3
abbrev sWithAt : Stmt := inClass (top 1) 4
theorem scDInit : FnScope ["self", "pieces", "props", "at_once", "piece"] ["self", "pieces", "props", "at_once"] (defScope sDInit) := ⟨rfl, rfl, rfl, by decide +kernel, rfl, by decide +kernel, by decide +kernel⟩
theorem scMany : FnScope ["self"] ["self"] (defScope sMany) := ⟨rfl, rfl, rfl, by decide +kernel, rfl, by decide +kernel, by decide +kernel⟩
theorem scEnd : FnScope ["self"] ["self"] (defScope sEnd) := ⟨rfl, rfl, rfl, by decide +kernel, rfl, by decide +kernel, by decide +kernel⟩
theorem scThing : FnScope ["self", "prop"] ["self", "prop"] (defScope sThing) := ⟨rfl, rfl, rfl, by decide +kernel, rfl, by decide +kernel, by decide +kernel⟩
theorem scWithAt : FnScope ["self", "many", "found", "some"] ["self", "many"] (defScope sWithAt) := ⟨rfl, rfl, rfl, by decide +kernel, rfl, by decide +kernel, by decide +kernel⟩
/-- a new design -/
def anewD (a q k : Nat) : Ds := ⟨a, q, k, List.replicate a [], 0⟩
def spDInit (CD : Addr) : Sp := fun vs H Q _ => ∃ (p dx : Addr) (a q k : Nat), vs = [.ref p, nI a, nI q, nI k] ∧ H p = some (.ins CD dx []) ∧ a ≤ 1000 ∧
  ∀ (b : Addr) (rs : List Addr) (H' : Hp), DesAt CD H' p (anewD a q k) dx b rs → (∀ c o, H c = some o → c ≠ p → H' c = some o) → (∀ r ∈ rs, H r = none) → Q .non H'
def spMany (CD : Addr) : Sp := fun vs H Q _ => ∃ (d : Addr) (s : Ds), vs = [.ref d] ∧ DesignAt CD H d s ∧ Wf s ∧ RetV (nI (2 ^ Sy47.things s)) H Q
def spEnd (CD : Addr) : Sp := fun vs H Q _ => ∃ (d : Addr) (s : Ds), vs = [.ref d] ∧ DesignAt CD H d s ∧ Wf s ∧ RetV (nI (Sy47.done s)) H Q
def spThing (CD : Addr) : Sp := fun vs H Q _ => ∃ (d : Addr) (s : Ds) (j : Nat), vs = [.ref d, nI j] ∧ DesignAt CD H d s ∧ RetV (nI (s.pieces + j)) H Q
/-- a new design comes of it, its lists new -/
def EvDes (CD : Addr) (te : TE) (σ : L2.St) (H : Hp) (s : Ds) : Prop := ∀ H1, Ex H H1 → ∀ Q : VK, (∀ (p dx b : Addr) (rs : List Addr) (H2 : Hp), H1 p = none → Ex H1 H2 → DesAt CD H2 p s dx b rs → (∀ r ∈ rs, H1 r = none) → Q (.ref p) H2) → te σ H1 Q
def spWithAt (CD : Addr) : Sp := fun vs H Q _ => ∃ (d : Addr) (s : Ds) (k : Nat), vs = [.ref d, nI k] ∧ DesignAt CD H d s ∧ Wf s ∧ ∀ p H2, Ex H H2 → DesignAt CD H2 p (Sy47.anew s k) → Q (.ref p) H2
theorem q_asgD {CD : Addr} {te : TE} {σ : L2.St} {H : Hp} {s : Ds} {D : Ends} {tz : TS} {i : Nat} (h : EvDes CD te σ H s) (k : ∀ (p dx b : Addr) (rs : List Addr) (H2 : Hp), H p = none → Ex H H2 → DesAt CD H2 p s dx b rs → (∀ r ∈ rs, H r = none) → tz D (σ.set i (some (.ref p))) H2) : tSeq (tAsg te (gName i)) tz D σ H := h H (Ex.refl H) _ k
theorem v_many {CD d : Addr} {H : Hp} {s : Ds} (D : DesignAt CD H d s) (w : Wf s) : SpV (spMany CD) [.ref d] H (nI (2 ^ Sy47.things s)) := fun _ e _ q _ => ⟨d, s, rfl, D.mono e, w, q⟩
theorem v_end {CD d : Addr} {H : Hp} {s : Ds} (D : DesignAt CD H d s) (w : Wf s) : SpV (spEnd CD) [.ref d] H (nI (Sy47.done s)) := fun _ e _ q _ => ⟨d, s, rfl, D.mono e, w, q⟩
theorem v_thing {CD d : Addr} {H : Hp} {s : Ds} {j : Nat} (D : DesignAt CD H d s) : SpV (spThing CD) [.ref d, nI j] H (nI (s.pieces + j)) := fun _ e _ q _ => ⟨d, s, j, rfl, D.mono e, q⟩
section
variable {K : PySem.W.Frag} {σ : L2.St} {H : Hp} {ta : TE} {CD d : Addr} {s : Ds}
theorem em_many (D : DesignAt CD H d s) (w : Wf s) (h : Ev ta σ H (.ref d)) : Ev (tMeth CD "how_many_sets" (spMany CD) [] E0 ta tNil) σ H (nI (2 ^ Sy47.things s)) := by
  obtain ⟨dx, b, rs, D'⟩ := id D
  exact ev_meth (vs := []) h D'.o (dF_no s b (by decide +kernel) (by decide +kernel) (by decide +kernel) (by decide +kernel)) ea_nil (v_many D w)
theorem em_end (D : DesignAt CD H d s) (w : Wf s) (h : Ev ta σ H (.ref d)) : Ev (tMeth CD "end" (spEnd CD) [] E0 ta tNil) σ H (nI (Sy47.done s)) := by
  obtain ⟨dx, b, rs, D'⟩ := id D
  exact ev_meth (vs := []) h D'.o (dF_no s b (by decide +kernel) (by decide +kernel) (by decide +kernel) (by decide +kernel)) ea_nil (v_end D w)
theorem em_thing {tb : TE} {j : Nat} (D : DesignAt CD H d s) (h : Ev ta σ H (.ref d)) (hb : Ev tb σ H (nI j)) : Ev (tMeth CD "prop_thing" (spThing CD) [] E0 ta (tCons tb tNil)) σ H (nI (s.pieces + j)) := by
  obtain ⟨dx, b, rs, D'⟩ := id D
  exact ev_meth (vs := [nI j]) h D'.o (dF_no s b (by decide +kernel) (by decide +kernel) (by decide +kernel) (by decide +kernel)) (ea_cons hb ea_nil) (v_thing D)
/-- Design(a, q, k) -/
theorem ed_make {tt : TA} {a q k : Nat} (h : EvA tt σ H [nI a, nI q, nI k]) (ha : a ≤ 1000) : EvDes CD (tMake CD (spDInit CD) [] E0 tt) σ H (anewD a q k) := fun H1 e Q kq =>
  h H1 e _ fun H2 e2 x dx nx nd ne => ⟨x, dx, a, q, k, rfl, upd_same, ha, fun b rs H' D kp nr => ⟨rfl, kq x dx b rs H' (fresh_back e2 nx) (e2.trans (Same.made nx nd kp)) D fun r hr => by
    have := nr r hr
    by_cases z : r = x
    · rw [z, upd_same] at this
      cases this
    · rw [upd_ne z] at this
      by_cases z2 : r = dx
      · rw [z2, upd_same] at this
        cases this
      · rw [upd_ne z2] at this
        exact fresh_back e2 this⟩⟩
end
section
variable {P : Program} {w : World} {K : PySem.W.Frag} {mg : Str → Option Value} {base : Heap} {CD CK : Addr}
theorem k_dinit (T : Txt K mg CD CK) (D : MakT K mg "Design" CD "Design.__init__" sDInit) : Mak P w K mg base 1 "Design" CD (spDInit CD) := by
  obtain ⟨f, fd, F, M, hm⟩ := D
  refine ⟨f, fd, ["self", "pieces", "props", "at_once"], M, F.ok scDInit (fun vs H Q E h => ?_) (fun cdv A outer s H vs Q E hr h => ?_), hm, F.binds fun _ _ _ _ _ _ us hl => match us, hl with | [_, _, _, _], _ => rfl⟩
  · obtain ⟨p, dx, a, q, k, rfl, _⟩ := h
    rfl
  · obtain ⟨p, dx, a, q, k, rfl, hp, ha, kq⟩ := h
    refine ⟨_, pss_cons (ps_fld (pv 0) (pv 1) rfl) (pss_cons (ps_fld (pv 0) (pv 2) rfl) (pss_cons (ps_fld (pv 0) (pv 3) rfl)
      (pss_one (ps_fld (pv 0) (pe_lc (own := [("piece", 4)]) (g := gName 4) (tt := tYes) rfl scDInit.nd (pi_range1 rfl T.range (pa_cons (pv 1) pa_nil)) (blkOk_by (N := ["self", "pieces", "props", "at_once", "piece"]) (sc := defScope sDInit) (by decide +kernel))
        (fun _ _ _ _ _ => pg_name (i := 4) scDInit.nd rfl (Or.inl rfl)) (fun _ _ _ _ _ => pts_nil) (fun _ _ _ _ _ => pe_lst pa_nil)) rfl)))), ?_⟩
    refine ⟨_, rfl, _, rfl, p, CD, dx, _, rfl, hp, T.cd, T.nP, (by show 0 < 1000; decide), ?_⟩
    refine ⟨_, rfl, _, rfl, p, CD, dx, _, rfl, upd_same, T.cd, T.nQ, (by show 1 < 1000; decide), ?_⟩
    refine ⟨_, rfl, _, rfl, p, CD, dx, _, rfl, upd_same, T.cd, T.nA, (by show 2 < 1000; decide), ?_⟩
    refine s_fldO (eo_rng (n := a) (fun _ => HO.lst []) (ea_cons (ev_var rfl) ea_nil) (by omega) (fun _ => rfl) (fun i H1 _ _ => en_nil)) fun b rs H2 nb e2 hb ob => ?_
    have hp2 := e2 p _ upd_same
    refine ⟨_, rfl, p, CD, dx, _, rfl, hp2, T.cd, T.nB, (by show 3 < 1000; decide), ?_⟩
    have nbp : b ≠ p := fun z => by
      rw [z, upd_same] at nb
      cases nb
    have old : ∀ c o, H c = some o → c ≠ p → H2 c = some o := fun c o ec hc => e2 c o (by rw [upd_ne hc, upd_ne hc, upd_ne hc]; exact ec)
    refine kq b rs _ ⟨?_, ?_, ?_, fun i r l hi hl => ?_, ob.nd⟩ (fun c o ec hc => by rw [upd_ne hc]; exact old c o ec hc) fun r hr => ?_
    · rw [upd_same]
      exact congrArg (fun z => some (HO.ins CD dx z)) (dF_new b a q k)
    · rw [upd_ne nbp]
      exact hb
    · rw [ob.len, List.length_map, List.length_range]
      exact (List.length_replicate ..).symm
    · have hm : r ∈ rs := List.mem_of_getElem? hi
      have hrp : r ≠ p := fun z => by
        have := (ob.new r hm).1
        rw [z, upd_same] at this
        cases this
      rw [upd_ne hrp]
      have hil : i < a := by
        have := (List.getElem?_eq_some_iff.mp hi).1
        rwa [ob.len, List.length_map, List.length_range] at this
      have hl0 : l = [] := by
        have hl : (List.replicate a ([] : List Nat))[i]? = some l := hl
        rw [List.getElem?_replicate, if_pos hil] at hl
        exact (Option.some.inj hl).symm
      rw [hl0]
      exact ob.at_ i r _ hi (by rw [List.getElem?_map, List.getElem?_range hil]; rfl)
    · have := (ob.new r hr).1
      by_cases z : r = p
      · rw [z, upd_same] at this
        cases this
      · rwa [upd_ne z, upd_ne z, upd_ne z] at this
theorem m_many (T : Txt K mg CD CK) (D : MetT K CD "how_many_sets" "Design.how_many_sets" sMany) : Met P w K mg base CX0 1 CD "how_many_sets" (spMany CD) := by
  obtain ⟨f, fd, F, hm⟩ := D
  refine ⟨f, fd, ["self"], hm, F.ok scMany (fun vs H Q E h => ?_) (fun cdv A outer s H vs Q E hr h => ?_), F.binds fun _ _ _ _ _ _ us hl => match us, hl with | [_], _ => rfl⟩
  · obtain ⟨d, s, rfl, _⟩ := h
    rfl
  · obtain ⟨d, s, rfl, D, wf, q⟩ := h
    refine ⟨_, pss_one (ps_ret (pe_op op_shl pe_int (pe_op op_add (pe_fld (pv 0) rfl) (pe_fld (pv 0) rfl)))), ?_⟩
    exact s_ret (ev_op (ev_c (v := nI 1)) (ev_op (ev_pieces T D (ev_var rfl)) (ev_props T D (ev_var rfl)) rv_add) (rv_shl (i := s.pieces + s.props) (by have := wf.p6; have := wf.q2; omega))) fun H1 e => q H1 e
theorem m_end (T : Txt K mg CD CK) (D : MetT K CD "end" "Design.end" sEnd) : Met P w K mg base CX0 1 CD "end" (spEnd CD) := by
  obtain ⟨f, fd, F, hm⟩ := D
  refine ⟨f, fd, ["self"], hm, F.ok scEnd (fun vs H Q E h => ?_) (fun cdv A outer s H vs Q E hr h => ?_), F.binds fun _ _ _ _ _ _ us hl => match us, hl with | [_], _ => rfl⟩
  · obtain ⟨d, s, rfl, _⟩ := h
    rfl
  · obtain ⟨d, s, rfl, D, wf, q⟩ := h
    refine ⟨_, pss_one (ps_ret (pe_op op_sub (pe_op op_shl pe_int (pe_fld (pv 0) rfl)) pe_int)), ?_⟩
    exact s_ret (ev_op (ev_op (ev_c (v := nI 1)) (ev_pieces T D (ev_var rfl)) (rv_shl (by have := wf.p6; omega))) (ev_c (v := nI 1)) (rv_sub (Nat.two_pow_pos _))) fun H1 e => q H1 e
theorem m_thing (T : Txt K mg CD CK) (D : MetT K CD "prop_thing" "Design.prop_thing" sThing) : Met P w K mg base CX0 1 CD "prop_thing" (spThing CD) := by
  obtain ⟨f, fd, F, hm⟩ := D
  refine ⟨f, fd, ["self", "prop"], hm, F.ok scThing (fun vs H Q E h => ?_) (fun cdv A outer s H vs Q E hr h => ?_), F.binds fun _ _ _ _ _ _ us hl => match us, hl with | [_, _], _ => rfl⟩
  · obtain ⟨d, s, j, rfl, _⟩ := h
    rfl
  · obtain ⟨d, s, j, rfl, D, q⟩ := h
    refine ⟨_, pss_one (ps_ret (pe_op op_add (pe_fld (pv 0) rfl) (pv 1))), ?_⟩
    exact s_ret (ev_op (ev_pieces T D (ev_var rfl)) (ev_var rfl) rv_add) fun H1 e => q H1 e
theorem m_withAt (T : Txt K mg CD CK) (D : MetT K CD "with_at_once" "Design.with_at_once" sWithAt) (M : Mak P w K mg base 1 "Design" CD (spDInit CD)) : Met P w K mg base CX0 3 CD "with_at_once" (spWithAt CD) := by
  obtain ⟨f, fd, F, hm⟩ := D
  refine ⟨f, fd, ["self", "many"], hm, F.ok scWithAt (fun vs H Q E h => ?_) (fun cdv A outer s H vs Q E hr h => ?_), F.binds fun _ _ _ _ _ _ us hl => match us, hl with | [_, _], _ => rfl⟩
  · obtain ⟨d, s, k, rfl, _⟩ := h
    rfl
  · obtain ⟨d, s, k, rfl, D, wf, q⟩ := h
    refine ⟨_, pss_cons (ps_set (i := 2) scWithAt.nd rfl (Or.inl rfl) (pe_mk M hr (by decide) rfl (pa_cons (pe_fld (pv 0) rfl) (pa_cons (pe_fld (pv 0) rfl) (pa_cons (pv 1) pa_nil)))))
      (pss_cons (ps_fld (pv 2) (pe_lc (own := [("some", 3)]) (g := gName 3) (tt := tYes) (te := tCB (rListS K) (tCons (tVar 3) tNil)) rfl scWithAt.nd (pi_list (pe_fld (pv 0) rfl)) (blkOk_by (N := ["self", "many", "found", "some"]) (sc := defScope sWithAt) (by decide +kernel))
        (fun _ _ _ _ _ => pg_name (i := 3) scWithAt.nd rfl (Or.inl rfl)) (fun _ _ _ _ _ => pts_nil) (fun _ _ _ _ _ => pe_callTy call_list_of (by rfl) T.list boot_list (pa_cons (pv 3) pa_nil))) rfl)
      (pss_one (ps_ret (pv 2)))), ?_⟩
    refine q_asgD (ed_make (ea_cons (ev_pieces T D (ev_var rfl)) (ea_cons (ev_props T D (ev_var rfl)) (ea_cons (ev_var rfl) ea_nil))) (by have := wf.p6; omega)) fun p dx b rs H2 np e2 D2 nr => ?_
    obtain ⟨dx0, b0, rs0, D0⟩ := D.mono e2
    refine q_fldO (eo_lst (ys := rs0) V.ref (fun r => (H2 r).getD (.lst [])) (ev_fld (ev_var rfl) D0.o T.cd T.nB (dF_bases s b0)) (sq_of D0.b) (by rw [D0.rl, wf.rl]; have := wf.p6; omega) (fun _ => rfl) (fun r H3 e3 hr' => ?_)) fun b' rs' H4 nb e4 hb ob => ?_
    · obtain ⟨i, hi⟩ := List.getElem?_of_mem hr'
      have hil : i < s.rests.length := by
        rw [← D0.rl]
        exact (List.getElem?_eq_some_iff.mp hi).1
      have hrr := D0.r i r _ hi (List.getElem?_eq_getElem hil)
      show EvNew _ _ H3 ((H2 r).getD (.lst []))
      rw [hrr]
      exact el_list (ev_var rfl) (sq_of (e3 _ _ hrr))
    · have hp4 := e4 p _ D2.o
      have nbp : b' ≠ p := fun z => by
        rw [z, D2.o] at nb
        cases nb
      refine ⟨_, rfl, p, CD, dx, _, rfl, hp4, T.cd, T.nB, (by show 4 < 1000; decide), ?_⟩
      refine ⟨_, rfl, q p _ (fun c o ec => ?_) ⟨dx, b', rs', ⟨?_, ?_, ?_, fun i r l hi hl => ?_, ob.nd⟩⟩⟩
      · rw [upd_ne (ne_of_none ec np)]
        exact e4 c o (e2 c o ec)
      · rw [upd_same]
        exact congrArg (fun z => some (HO.ins CD dx z)) (dF_put (anewD s.pieces s.props k) b b')
      · rw [upd_ne nbp]
        exact hb
      · rw [ob.len, List.length_map, D0.rl]
        rfl
      · have hm : r ∈ rs' := List.mem_of_getElem? hi
        have hrp : r ≠ p := fun z => by
          have := (ob.new r hm).1
          rw [z, D2.o] at this
          cases this
        rw [upd_ne hrp]
        have hl : s.rests[i]? = some l := hl
        have hil : i < rs0.length := by
          rw [D0.rl]
          exact (List.getElem?_eq_some_iff.mp hl).1
        have h0 := D0.r i _ l (List.getElem?_eq_getElem hil) hl
        refine ob.at_ i r _ hi ?_
        rw [List.getElem?_map, List.getElem?_eq_getElem hil]
        show some ((H2 rs0[i]).getD (.lst [])) = _
        rw [h0]
        rfl
end
end Br
end
section
set_option maxRecDepth 100000
set_option maxHeartbeats 4000000
namespace Br
open PySem PySem.Spec PyProof.Rows L2 Evl
open BrA BrB BrC BrD

/-! ### designs.py: what rests, what carries, what falls -/
theorem scPin : FnScope ["design", "stage", "piece"] ["design", "stage"] (defScope (top 5)) := ⟨rfl, rfl, rfl, by decide +kernel, rfl, by decide +kernel, by decide +kernel⟩
theorem scQin : FnScope ["design", "stage", "prop"] ["design", "stage"] (defScope (top 6)) := ⟨rfl, rfl, rfl, by decide +kernel, rfl, by decide +kernel, by decide +kernel⟩
theorem scRest : FnScope ["design", "stage", "piece", "base"] ["design", "stage", "piece"] (defScope (top 7)) := ⟨rfl, rfl, rfl, by decide +kernel, rfl, by decide +kernel, by decide +kernel⟩
theorem scCarry : FnScope ["design", "stage", "piece"] ["design", "stage"] (defScope (top 8)) := ⟨rfl, rfl, rfl, by decide +kernel, rfl, by decide +kernel, by decide +kernel⟩
theorem scLoose : FnScope ["design", "stage", "found", "piece"] ["design", "stage"] (defScope (top 9)) := ⟨rfl, rfl, rfl, by decide +kernel, rfl, by decide +kernel, by decide +kernel⟩
theorem scLeft : FnScope ["design", "stage", "found"] ["design", "stage"] (defScope (top 10)) := ⟨rfl, rfl, rfl, by decide +kernel, rfl, by decide +kernel, by decide +kernel⟩
theorem scSpare : FnScope ["design", "end", "piece"] ["design"] (defScope (top 11)) := ⟨rfl, rfl, rfl, by decide +kernel, rfl, by decide +kernel, by decide +kernel⟩
def spPin (CD : Addr) : Sp := fun vs H Q _ => ∃ (d : Addr) (s : Ds) (t : Nat), vs = [.ref d, nI t] ∧ DesignAt CD H d s ∧ Wf s ∧ RetL (nv (pin s t)) H Q
def spQin (CD : Addr) : Sp := fun vs H Q _ => ∃ (d : Addr) (s : Ds) (t : Nat), vs = [.ref d, nI t] ∧ DesignAt CD H d s ∧ Wf s ∧ RetL (nv (qin s t)) H Q
def spRest (CD : Addr) : Sp := fun vs H Q _ => ∃ (d : Addr) (s : Ds) (t i : Nat), vs = [.ref d, nI t, nI i] ∧ DesignAt CD H d s ∧ Wf s ∧ i < s.pieces ∧ RetV (.bl (Sy47.firm s t i)) H Q
def spCarry (CD : Addr) : Sp := fun vs H Q _ => ∃ (d : Addr) (s : Ds) (t : Nat), vs = [.ref d, nI t] ∧ DesignAt CD H d s ∧ Wf s ∧ RetV (.bl (Sy47.carries s t)) H Q
def spLoose (CD : Addr) : Sp := fun vs H Q _ => ∃ (d : Addr) (s : Ds) (t : Nat), vs = [.ref d, nI t] ∧ DesignAt CD H d s ∧ Wf s ∧ RetV (nI (loose s t)) H Q
def spLeft (CD : Addr) : Sp := fun vs H Q _ => ∃ (d : Addr) (s : Ds) (t : Nat), vs = [.ref d, nI t] ∧ DesignAt CD H d s ∧ Wf s ∧ RetV (nI (Sy47.left s t)) H Q
def spareL (s : Ds) : List Nat := (List.range s.pieces).filter fun (i : Nat) => Sy47.carries s (Sy47.without (Sy47.done s) i)
def spSpare (CD : Addr) : Sp := fun vs H Q _ => ∃ (d : Addr) (s : Ds), vs = [.ref d] ∧ DesignAt CD H d s ∧ Wf s ∧ RetL (nv (spareL s)) H Q
section
variable {CD d : Addr} {H : Hp} {s : Ds} {t i : Nat}
theorem v_pin (D : DesignAt CD H d s) (w : Wf s) : SpL (spPin CD) [.ref d, nI t] H (nv (pin s t)) := fun _ e _ q _ => ⟨d, s, t, rfl, D.mono e, w, q⟩
theorem v_qin (D : DesignAt CD H d s) (w : Wf s) : SpL (spQin CD) [.ref d, nI t] H (nv (qin s t)) := fun _ e _ q _ => ⟨d, s, t, rfl, D.mono e, w, q⟩
theorem v_rest (D : DesignAt CD H d s) (w : Wf s) (hi : i < s.pieces) : SpV (spRest CD) [.ref d, nI t, nI i] H (.bl (Sy47.firm s t i)) := fun _ e _ q _ => ⟨d, s, t, i, rfl, D.mono e, w, hi, q⟩
theorem v_carry (D : DesignAt CD H d s) (w : Wf s) : SpV (spCarry CD) [.ref d, nI t] H (.bl (Sy47.carries s t)) := fun _ e _ q _ => ⟨d, s, t, rfl, D.mono e, w, q⟩
theorem v_loose (D : DesignAt CD H d s) (w : Wf s) : SpV (spLoose CD) [.ref d, nI t] H (nI (loose s t)) := fun _ e _ q _ => ⟨d, s, t, rfl, D.mono e, w, q⟩
theorem v_left (D : DesignAt CD H d s) (w : Wf s) : SpV (spLeft CD) [.ref d, nI t] H (nI (Sy47.left s t)) := fun _ e _ q _ => ⟨d, s, t, rfl, D.mono e, w, q⟩
theorem v_spare (D : DesignAt CD H d s) (w : Wf s) : SpL (spSpare CD) [.ref d] H (nv (spareL s)) := fun _ e _ q _ => ⟨d, s, rfl, D.mono e, w, q⟩
end
section
variable {P : Program} {w : World} {K : PySem.W.Frag} {mg : Str → Option Value} {base : Heap} {CD CK : Addr}
theorem c_pin (T : Txt K mg CD CK) (D : DefT K mg "pieces_in" (top 5)) (cI : Cal P w K mg base 1 "is_in" spIs) : Cal P w K mg base 2 "pieces_in" (spPin CD) := by
  obtain ⟨f, fd, F, hm⟩ := D
  refine ⟨f, fd, ["design", "stage"], F.ok scPin (fun vs H Q E h => ?_) (fun cdv A outer s H vs Q E hr h => ?_), hm, F.kp, F.binds fun _ _ _ _ _ _ us hl => match us, hl with | [_, _], _ => rfl⟩
  · obtain ⟨d, s, t, rfl, _⟩ := h
    rfl
  · obtain ⟨d, s, t, rfl, D, wf, q⟩ := h
    refine ⟨_, pss_one (ps_ret (pe_lc (own := [("piece", 2)]) (g := gName 2) (te := tVar 2) rfl scPin.nd (pi_range1 rfl T.range (pa_cons (pe_fld (pv 0) rfl) pa_nil)) (blkOk_by (N := ["design", "stage", "piece"]) (sc := defScope (top 5)) (by decide +kernel))
        (fun _ _ _ _ _ => pg_name (i := 2) scPin.nd rfl (Or.inl rfl)) (fun _ _ _ _ _ => pts_one (pt_val (pe_c cI hr (by decide) rfl (pa_cons (pv 1) (pa_cons (pv 2) pa_nil))))) (fun _ _ _ _ _ => pv 2))), ?_⟩
    exact s_retL (el_rng (n := s.pieces) (fun i => Sy47.has t i) nI (ea_cons (ev_pieces T D (ev_var rfl)) ea_nil) (by have := wf.p6; omega) (fun _ => rfl)
      (fun i H1 _ _ => et_B (ev_call (ea_cons (ev_var rfl) (ea_cons (ev_var rfl) ea_nil)) v_is)) (fun i H1 _ _ _ => ev_var rfl)) fun p H1 hp e h1 => q p H1 hp e h1
theorem c_qin (T : Txt K mg CD CK) (D : DefT K mg "props_in" (top 6)) (cI : Cal P w K mg base 1 "is_in" spIs) (mT : Met P w K mg base CX0 1 CD "prop_thing" (spThing CD)) : Cal P w K mg base 2 "props_in" (spQin CD) := by
  obtain ⟨f, fd, F, hm⟩ := D
  refine ⟨f, fd, ["design", "stage"], F.ok scQin (fun vs H Q E h => ?_) (fun cdv A outer s H vs Q E hr h => ?_), hm, F.kp, F.binds fun _ _ _ _ _ _ us hl => match us, hl with | [_, _], _ => rfl⟩
  · obtain ⟨d, s, t, rfl, _⟩ := h
    rfl
  · obtain ⟨d, s, t, rfl, D, wf, q⟩ := h
    refine ⟨_, pss_one (ps_ret (pe_lc (own := [("prop", 2)]) (g := gName 2) (te := tVar 2) rfl scQin.nd (pi_range1 rfl T.range (pa_cons (pe_fld (pv 0) rfl) pa_nil)) (blkOk_by (N := ["design", "stage", "prop"]) (sc := defScope (top 6)) (by decide +kernel))
        (fun _ _ _ _ _ => pg_name (i := 2) scQin.nd rfl (Or.inl rfl)) (fun _ _ _ _ _ => pts_one (pt_val (pe_c cI hr (by decide) rfl (pa_cons (pv 1) (pa_cons (pe_mt T.cd mT pass0 hr (by decide) (pv 0) (pa_cons (pv 2) pa_nil)) pa_nil))))) (fun _ _ _ _ _ => pv 2))), ?_⟩
    exact s_retL (el_rng (n := s.props) (fun j => Sy47.has t (s.pieces + j)) nI (ea_cons (ev_props T D (ev_var rfl)) ea_nil) (by have := wf.q2; omega) (fun _ => rfl)
      (fun i H1 e _ => et_B (ev_call (ea_cons (ev_var rfl) (ea_cons (em_thing (D.mono e) (ev_var rfl) (ev_var rfl)) ea_nil)) v_is)) (fun i H1 _ _ _ => ev_var rfl)) fun p H1 hp e h1 => q p H1 hp e h1
theorem c_rest (T : Txt K mg CD CK) (D : DefT K mg "does_rest" (top 7)) : Cal P w K mg base 1 "does_rest" (spRest CD) := by
  obtain ⟨f, fd, F, hm⟩ := D
  refine ⟨f, fd, ["design", "stage", "piece"], F.ok scRest (fun vs H Q E h => ?_) (fun cdv A outer s H vs Q E hr h => ?_), hm, F.kp, F.binds fun _ _ _ _ _ _ us hl => match us, hl with | [_, _, _], _ => rfl⟩
  · obtain ⟨d, s, t, i, rfl, _⟩ := h
    rfl
  · obtain ⟨d, s, t, i, rfl, D, wf, hi, q⟩ := h
    refine ⟨_, pss_one (ps_ret (pe_callB (cr_any rfl) (by rfl) T.any (by decide +kernel) (pa_cons (pe_lc (own := [("base", 3)]) (g := gName 3) rfl scRest.nd (pi_list (pe_ix ix_list (pe_fld (pv 0) rfl) (pv 2) (fun _ _ => rfl))) (blkOk_by (N := ["design", "stage", "piece", "base"]) (sc := defScope (top 7)) (by decide +kernel))
        (fun _ _ _ _ _ => pg_name (i := 3) scRest.nd rfl (Or.inl rfl)) (fun _ _ _ _ _ => pts_nil) (fun _ _ _ _ _ => pe_cmpR op_eq (pe_op op_and (pv 3) (pv 1)) (pv 3) (nomark _))) pa_nil))), ?_⟩
    obtain ⟨l, hl, hm, hg⟩ := wf.row hi
    obtain ⟨r, hr, er⟩ := ev_row T D (σ := start ["design", "stage", "piece", "base"] [.ref d, nI t, nI i]) (te := tVar 0) (ti := tVar 2) (ev_var rfl) (ev_var rfl) hl
    refine s_ret (ev_is (ev_any (el_lstm (ys := l) nI (fun a => .bl (decide (a &&& t = a))) er (sq_of hr) (by have := wf.r4 l hm; omega) (fun _ => rfl) fun a H1 _ _ => ev_op (ev_op (ev_var rfl) (ev_var rfl) rv_and) (ev_var rfl) rv_eqN)) (congrArg V.bl ?_)) fun H1 e => q H1 e
    rw [firm_and wf hi, hg]
theorem c_carry (T : Txt K mg CD CK) (D : DefT K mg "does_carry" (top 8)) (cP : Cal P w K mg base 2 "pieces_in" (spPin CD)) (cR : Cal P w K mg base 1 "does_rest" (spRest CD)) : Cal P w K mg base 3 "does_carry" (spCarry CD) := by
  obtain ⟨f, fd, F, hm⟩ := D
  refine ⟨f, fd, ["design", "stage"], F.ok scCarry (fun vs H Q E h => ?_) (fun cdv A outer s H vs Q E hr h => ?_), hm, F.kp, F.binds fun _ _ _ _ _ _ us hl => match us, hl with | [_, _], _ => rfl⟩
  · obtain ⟨d, s, t, rfl, _⟩ := h
    rfl
  · obtain ⟨d, s, t, rfl, D, wf, q⟩ := h
    refine ⟨_, pss_one (ps_ret (pe_callB (cr_all rfl) (by rfl) T.all (by decide +kernel) (pa_cons (pe_lc (own := [("piece", 2)]) (g := gName 2) rfl scCarry.nd (pi_list (pe_c cP hr (by decide) rfl (pa_cons (pv 0) (pa_cons (pv 1) pa_nil)))) (blkOk_by (N := ["design", "stage", "piece"]) (sc := defScope (top 8)) (by decide +kernel))
        (fun _ _ _ _ _ => pg_name (i := 2) scCarry.nd rfl (Or.inl rfl)) (fun _ _ _ _ _ => pts_nil) (fun _ _ _ _ _ => pe_c cR hr (by decide) rfl (pa_cons (pv 0) (pa_cons (pv 1) (pa_cons (pv 2) pa_nil))))) pa_nil))), ?_⟩
    refine s_ret (ev_is (ev_all (el_newm (ys := pin s t) nI (fun i => .bl (Sy47.firm s t i)) (el_call (ea_cons (ev_var rfl) (ea_cons (ev_var rfl) ea_nil)) (v_pin D wf)) ?_ (fun _ => rfl) fun i H1 e hi => ev_call (ea_cons (ev_var rfl) (ea_cons (ev_var rfl) (ea_cons (ev_var rfl) ea_nil))) (v_rest (D.mono e) wf (pin_lt hi)))) (congrArg V.bl (carries_pin s t))) fun H1 e => q H1 e
    have := size_le s.pieces t
    rw [← pin_len] at this
    have := wf.p6
    omega
theorem c_loose (T : Txt K mg CD CK) (D : DefT K mg "without_loose" (top 9)) (cP : Cal P w K mg base 2 "pieces_in" (spPin CD)) (cR : Cal P w K mg base 1 "does_rest" (spRest CD)) (cW : Cal P w K mg base 1 "without_thing" spWithout) : Cal P w K mg base 3 "without_loose" (spLoose CD) := by
  obtain ⟨f, fd, F, hm⟩ := D
  refine ⟨f, fd, ["design", "stage"], F.ok scLoose (fun vs H Q E h => ?_) (fun cdv A outer s H vs Q E hr h => ?_), hm, F.kp, F.binds fun _ _ _ _ _ _ us hl => match us, hl with | [_, _], _ => rfl⟩
  · obtain ⟨d, s, t, rfl, _⟩ := h
    rfl
  · obtain ⟨d, s, t, rfl, D, wf, q⟩ := h
    refine ⟨_, pss_cons (ps_set (i := 2) scLoose.nd rfl (Or.inl rfl) (pv 1)) (pss_cons (ps_for PassesOwn.never rfl (pi_list (pe_c cP hr (by decide) rfl (pa_cons (pv 0) (pa_cons (pv 1) pa_nil)))) (pg_name (i := 3) scLoose.nd rfl (Or.inl rfl))
      (pss_one (ps_if (pt_not (pt_val (pe_c cR hr (by decide) rfl (pa_cons (pv 0) (pa_cons (pv 1) (pa_cons (pv 3) pa_nil)))))) (pss_one (ps_set (i := 2) scLoose.nd rfl (Or.inl rfl) (pe_c cW hr (by decide) rfl (pa_cons (pv 2) (pa_cons (pv 3) pa_nil))))) pss_nil)))
      (pss_one (ps_ret (pv 2)))), ?_⟩
    refine q_asg (ev_var rfl) fun H1 e1 => ?_
    refine q_forNLn (xs := nv (pin s t)) (el_call (ea_cons (ev_var rfl) (ea_cons (ev_var rfl) ea_nil)) (v_pin (D.mono e1) wf))
      (fun p i σ H' => ∃ v, σ = [some (.ref d), some (nI t), some (nI (loosened s t i)), v] ∧ Ex H H' ∧ H' p = some (.lst (nv (pin s t)))) (fun p H2 _ e2 h2 => ⟨none, rfl, e1.trans e2, h2⟩) (fun p i σ H' _ h => ?_) (fun p i x σ H' hx h => ?_) (fun p σ H' h => ?_)
    · obtain ⟨v, _, _, h2⟩ := h
      exact sq_of h2
    · obtain ⟨v, rfl, eh, h2⟩ := h
      unfold nv at hx
      rw [List.getElem?_map] at hx
      cases hy : (pin s t)[i]? with
      | none => rw [hy] at hx; cases hx
      | some y =>
        rw [hy] at hx
        obtain rfl : nI y = x := Option.some.inj hx
        have hy' := List.mem_of_getElem? hy
        refine s_when (et_not (et_B (ev_call (ea_cons (ev_var rfl) (ea_cons (ev_var rfl) (ea_cons (ev_var rfl) ea_nil))) (v_rest (D.mono eh) wf (pin_lt hy'))))) (fun hb H3 e3 => ?_) (fun hb H3 e3 => ?_)
        · have hf : Sy47.firm s t y = false := by simpa using hb
          refine s_asg (ev_call (ea_cons (ev_var rfl) (ea_cons (ev_var rfl) ea_nil)) (v_without (t := loosened s t i) (i := y) (by have := pin_lt hy'; have := wf.p6; omega) (has_le (loosened_has hy)))) fun H4 e4 => ⟨some (nI y), ?_, (eh.trans e3).trans e4, e4 _ _ (e3 _ _ h2)⟩
          rw [loosened_step hy, if_neg (by rw [hf]; decide)]
          rfl
        · have hf : Sy47.firm s t y = true := by simpa using hb
          refine ⟨some (nI y), ?_, eh.trans e3, e3 _ _ h2⟩
          rw [loosened_step hy, if_pos hf]
          rfl
    · obtain ⟨v, rfl, eh, h2⟩ := h
      rw [nv_len, loosened_all]
      exact s_ret (ev_var rfl) fun H3 e3 => q H3 (eh.trans e3)
theorem c_left (T : Txt K mg CD CK) (D : DefT K mg "what_is_left" (top 10)) (cC : Cal P w K mg base 3 "does_carry" (spCarry CD)) (cL : Cal P w K mg base 3 "without_loose" (spLoose CD)) : Cal P w K mg base 4 "what_is_left" (spLeft CD) := by
  obtain ⟨f, fd, F, hm⟩ := D
  refine ⟨f, fd, ["design", "stage"], F.ok scLeft (fun vs H Q E h => ?_) (fun cdv A outer s H vs Q E hr h => ?_), hm, F.kp, F.binds fun _ _ _ _ _ _ us hl => match us, hl with | [_, _], _ => rfl⟩
  · obtain ⟨d, s, t, rfl, _⟩ := h
    rfl
  · obtain ⟨d, s, t, rfl, D, wf, q⟩ := h
    refine ⟨_, pss_cons (ps_set (i := 2) scLeft.nd rfl (Or.inl rfl) (pv 1)) (pss_cons (ps_while PassesOwn.never (pt_not (pt_val (pe_c cC hr (by decide) rfl (pa_cons (pv 0) (pa_cons (pv 2) pa_nil)))))
      (pss_one (ps_set (i := 2) scLeft.nd rfl (Or.inl rfl) (pe_c cL hr (by decide) rfl (pa_cons (pv 0) (pa_cons (pv 2) pa_nil)))))) (pss_one (ps_ret (pv 2)))), ?_⟩
    refine q_asg (ev_var rfl) fun H1 e1 => ?_
    refine q_while (fun m σ H' => ∃ g u, σ = [some (.ref d), some (nI t), some (nI u)] ∧ Ex H H' ∧ Sy47.fallen s g u = Sy47.left s t ∧ Sy47.size s.pieces u < g ∧ m = Sy47.size s.pieces u) (Sy47.size s.pieces t)
      ⟨s.pieces + 1, t, rfl, e1, rfl, Nat.lt_succ_of_le (size_le _ _), rfl⟩ fun m σ H' h => ?_
    obtain ⟨g, u, rfl, eh, hf, hs, rfl⟩ := h
    refine ⟨!Sy47.carries s u, et_not (et_B (ev_call (ea_cons (ev_var rfl) (ea_cons (ev_var rfl) ea_nil)) (v_carry (D.mono eh) wf))), fun hb H2 e2 => ?_, fun hb H2 e2 => ?_⟩
    · have hc : Sy47.carries s u = false := by simpa using hb
      have hlt := loose_size hc
      refine ⟨fun σ' H' => σ' = [some (.ref d), some (nI t), some (nI (loose s u))] ∧ Ex H H', fun σ2 H2 h => ⟨Sy47.size s.pieces (loose s u), hlt, g - 1, loose s u, h.1, h.2, ?_, by omega, rfl⟩, ?_⟩
      · obtain ⟨g', rfl⟩ : ∃ g', g = g' + 1 := ⟨g - 1, by omega⟩
        rw [fallen_step] at hf
        exact hf
      · exact s_asg (ev_call (ea_cons (ev_var rfl) (ea_cons (ev_var rfl) ea_nil)) (v_loose (D.mono (eh.trans e2)) wf)) fun H3 e3 => ⟨rfl, (eh.trans e2).trans e3⟩
    · have hc : Sy47.carries s u = true := by simpa using hb
      rw [fallen_done hc] at hf
      subst hf
      exact s_ret (ev_var rfl) fun H3 e3 => q H3 ((eh.trans e2).trans e3)
theorem c_spare (T : Txt K mg CD CK) (D : DefT K mg "spare_pieces" (top 11)) (mE : Met P w K mg base CX0 1 CD "end" (spEnd CD)) (cC : Cal P w K mg base 3 "does_carry" (spCarry CD)) (cW : Cal P w K mg base 1 "without_thing" spWithout) : Cal P w K mg base 4 "spare_pieces" (spSpare CD) := by
  obtain ⟨f, fd, F, hm⟩ := D
  refine ⟨f, fd, ["design"], F.ok scSpare (fun vs H Q E h => ?_) (fun cdv A outer s H vs Q E hr h => ?_), hm, F.kp, F.binds fun _ _ _ _ _ _ us hl => match us, hl with | [_], _ => rfl⟩
  · obtain ⟨d, s, rfl, _⟩ := h
    rfl
  · obtain ⟨d, s, rfl, D, wf, q⟩ := h
    refine ⟨_, pss_cons (ps_set (i := 1) scSpare.nd rfl (Or.inr rfl) (pe_mt0 T.cd mE pass0 hr (by decide) (pv 0)))
      (pss_one (ps_ret (pe_lc (own := [("piece", 2)]) (g := gName 2) (te := tVar 2) rfl scSpare.nd (pi_range1 rfl T.range (pa_cons (pe_fld (pv 0) rfl) pa_nil)) (blkOk_by (N := ["design", "end", "piece"]) (sc := defScope (top 11)) (by decide +kernel))
        (fun _ _ _ _ _ => pg_name (i := 2) scSpare.nd rfl (Or.inl rfl)) (fun _ _ _ _ _ => pts_one (pt_val (pe_c cC hr (by decide) rfl (pa_cons (pv 0) (pa_cons (pe_c cW hr (by decide) rfl (pa_cons (pv 1) (pa_cons (pv 2) pa_nil))) pa_nil))))) (fun _ _ _ _ _ => pv 2)))), ?_⟩
    refine q_asg (em_end D wf (ev_var rfl)) fun H1 e1 => ?_
    have D1 := D.mono e1
    refine s_retL (el_rng (n := s.pieces) (fun i => Sy47.carries s (Sy47.done s - 2 ^ i)) nI (ea_cons (ev_pieces T D1 (ev_var rfl)) ea_nil) (by have := wf.p6; omega) (fun _ => rfl)
      (fun i H2 e hi => et_B (ev_call (ea_cons (ev_var rfl) (ea_cons (ev_call (ea_cons (ev_var rfl) (ea_cons (ev_var rfl) ea_nil)) (v_without (by have := wf.p6; omega) (has_le (by rw [has_done]; exact decide_eq_true hi)))) ea_nil)) (v_carry (D1.mono e) wf))) (fun i H1 _ _ _ => ev_var rfl)) fun p H2 hp e h1 => q p H2 (fresh_back e1 hp) (e1.trans e) ?_
    rw [h1]
    unfold nv spareL
    rw [spare_eq]
end
end Br
end
section
set_option maxRecDepth 100000
set_option maxHeartbeats 4000000
namespace Br
open PySem PySem.Spec PyProof.Rows L2 Evl
open BrA BrB BrC BrD

/-! ### moves.py -/
theorem scMoves : FnScope ["design", "props", "prop"] ["design"] (defScope (top 15)) := ⟨rfl, rfl, rfl, by decide +kernel, rfl, by decide +kernel, by decide +kernel⟩
theorem scLaid : FnScope ["stage", "thing"] ["stage", "thing"] (defScope (top 16)) := ⟨rfl, rfl, rfl, by decide +kernel, rfl, by decide +kernel, by decide +kernel⟩
theorem scChg : FnScope ["design", "stage", "move", "thing"] ["design", "stage", "move"] (defScope (top 17)) := ⟨rfl, rfl, rfl, by decide +kernel, rfl, by decide +kernel, by decide +kernel⟩
theorem scBeh : FnScope ["design", "stage", "move", "found"] ["design", "stage", "move"] (defScope (top 18)) := ⟨rfl, rfl, rfl, by decide +kernel, rfl, by decide +kernel, by decide +kernel⟩
theorem scWays : FnScope ["design", "stage", "some", "move", "one"] ["design", "stage"] (defScope (top 19)) := ⟨rfl, rfl, rfl, by decide +kernel, rfl, by decide +kernel, by decide +kernel⟩
def laidN (t i : Nat) : Option Nat := if Sy47.has t i = true then none else some (t + 2 ^ i)
def spMoves (CD : Addr) : Sp := fun vs H Q _ => ∃ (d : Addr) (s : Ds), vs = [.ref d] ∧ DesignAt CD H d s ∧ Wf s ∧ RetL (nv (Sy47.moves s)) H Q
def spLaid : Sp := fun vs H Q _ => ∃ t i : Nat, vs = [nI t, nI i] ∧ i ≤ 1000 ∧ RetV (oI (laidN t i)) H Q
def spChg (CD : Addr) : Sp := fun vs H Q _ => ∃ (d : Addr) (s : Ds) (t m : Nat), vs = [.ref d, nI t, nI m] ∧ DesignAt CD H d s ∧ Wf s ∧ m ∈ Sy47.moves s ∧ RetV (oI (chg s t m)) H Q
def spBeh (CD : Addr) : Sp := fun vs H Q _ => ∃ (d : Addr) (s : Ds) (t m : Nat), vs = [.ref d, nI t, nI m] ∧ DesignAt CD H d s ∧ Wf s ∧ m ∈ Sy47.moves s ∧ RetV (oI (Sy47.moved s t m)) H Q
def spWays (CD : Addr) : Sp := fun vs H Q _ => ∃ (d : Addr) (s : Ds) (t : Nat), vs = [.ref d, nI t] ∧ DesignAt CD H d s ∧ Wf s ∧ RetL (nv (ways s t)) H Q
section
variable {CD d : Addr} {H : Hp} {s : Ds} {t i m : Nat}
theorem v_moves (D : DesignAt CD H d s) (w : Wf s) : SpL (spMoves CD) [.ref d] H (nv (Sy47.moves s)) := fun _ e _ q _ => ⟨d, s, rfl, D.mono e, w, q⟩
theorem v_laid (hi : i ≤ 1000) : SpV spLaid [nI t, nI i] H (oI (laidN t i)) := fun _ _ _ q _ => ⟨t, i, rfl, hi, q⟩
theorem v_chg (D : DesignAt CD H d s) (w : Wf s) (hm : m ∈ Sy47.moves s) : SpV (spChg CD) [.ref d, nI t, nI m] H (oI (chg s t m)) := fun _ e _ q _ => ⟨d, s, t, m, rfl, D.mono e, w, hm, q⟩
theorem v_beh (D : DesignAt CD H d s) (w : Wf s) (hm : m ∈ Sy47.moves s) : SpV (spBeh CD) [.ref d, nI t, nI m] H (oI (Sy47.moved s t m)) := fun _ e _ q _ => ⟨d, s, t, m, rfl, D.mono e, w, hm, q⟩
theorem v_ways (D : DesignAt CD H d s) (w : Wf s) : SpL (spWays CD) [.ref d, nI t] H (nv (ways s t)) := fun _ e _ q _ => ⟨d, s, t, rfl, D.mono e, w, q⟩
end
theorem rgV_nv (n : Nat) : rgV 0 (n : Int) = nv (List.range n) := by
  unfold rgV nv
  have : ((n : Int) - 0).toNat = n := by omega
  rw [this]
  refine List.map_congr_left fun i _ => ?_
  show V.int (0 + (i : Int)) = nI i
  rw [Int.zero_add]
theorem el_lrg {σ : L2.St} {H : Hp} {te : TE} {n : Nat} (h : Ev te σ H (nI n)) (hn : n ≤ 40000) : EvL (tLstRg (tRg1 te)) σ H (nv (List.range n)) := fun H1 e _ q =>
  h H1 e _ fun H2 e2 => ⟨(n : Int), rfl, RgOk.of_le (Int.le_refl 0) (by omega) (by omega) (by omega), fun p hp => q p _ (fresh_back e2 hp) (e2.trans (Ex.new hp)) (by rw [upd_same, rgV_nv])⟩
theorem ways_nv (s : Ds) (t : Nat) : ((Sy47.moves s).filter fun m => (Sy47.moved s t m).isSome).map (fun m => oI (Sy47.moved s t m)) = nv (ways s t) := by
  unfold ways nv
  induction Sy47.moves s with
  | nil => rfl
  | cons m r ih =>
    rw [List.filter_cons, List.filterMap_cons]
    cases e : Sy47.moved s t m with
    | none => exact ih
    | some u =>
      show oI (Sy47.moved s t m) :: _ = nI u :: _
      rw [e, ih]
      rfl
theorem oI_none {o : Option Nat} : decide (oI o = .non) = o.isNone := by
  cases o with
  | none => rfl
  | some n => rfl
theorem oI_some {o : Option Nat} : (!decide (oI o = .non)) = o.isSome := by
  cases o with
  | none => rfl
  | some n => rfl
section
variable {P : Program} {w : World} {K : PySem.W.Frag} {mg : Str → Option Value} {base : Heap} {CD CK : Addr}
theorem c_moves (T : Txt K mg CD CK) (D : DefT K mg "all_moves" (top 15)) : Cal P w K mg base 1 "all_moves" (spMoves CD) := by
  obtain ⟨f, fd, F, hm⟩ := D
  obtain ⟨tp, hput⟩ := T.put
  obtain ⟨tt, htake⟩ := T.take
  refine ⟨f, fd, ["design"], F.ok scMoves (fun vs H Q E h => ?_) (fun cdv A outer s H vs Q E hr h => ?_), hm, F.kp, F.binds fun _ _ _ _ _ _ us hl => match us, hl with | [_], _ => rfl⟩
  · obtain ⟨d, s, rfl, _⟩ := h
    rfl
  · obtain ⟨d, s, rfl, D, wf, q⟩ := h
    refine ⟨_, pss_cons (ps_set (i := 1) scMoves.nd rfl (Or.inl rfl) (pe_listRg rfl rfl T.list (prg_1 rfl T.range (pe_fld (pv 0) rfl))))
      (pss_one (ps_ret (pe_op op_cat (pe_op op_cat (pe_listRg rfl rfl T.list (prg_1 rfl T.range (pe_fld (pv 0) rfl)))
        (pe_lc (own := [("prop", 2)]) (g := gName 2) rfl scMoves.nd (pi_list (pv 1)) (blkOk_by (N := ["design", "props", "prop"]) (sc := defScope (top 15)) (by decide +kernel))
          (fun _ _ _ _ _ => pg_name (i := 2) scMoves.nd rfl (Or.inl rfl)) (fun _ _ _ _ _ => pts_nil) (fun _ _ _ _ _ => pe_op op_add (pe_glob (v := .int 10) rfl hput ⟨_, rfl⟩) (pv 2))))
        (pe_lc (own := [("prop", 2)]) (g := gName 2) rfl scMoves.nd (pi_list (pv 1)) (blkOk_by (N := ["design", "props", "prop"]) (sc := defScope (top 15)) (by decide +kernel))
          (fun _ _ _ _ _ => pg_name (i := 2) scMoves.nd rfl (Or.inl rfl)) (fun _ _ _ _ _ => pts_nil) (fun _ _ _ _ _ => pe_op op_add (pe_glob (v := .int 20) rfl htake ⟨_, rfl⟩) (pv 2)))))), ?_⟩
    have p6 := wf.p6
    have q2 := wf.q2
    refine q_asgL (el_lrg (ev_props T D (ev_var rfl)) (by omega)) fun p H1 hp e1 h1 => ?_
    have D1 := D.mono e1
    refine s_retL (el_cat (el_cat (el_lrg (ev_pieces T D1 (ev_var rfl)) (by omega)) (el_lstm (ys := List.range s.props) nI (fun j => nI (10 + j)) (ev_var rfl) (sq_of h1) (by rw [List.length_range]; omega) (fun _ => rfl) fun j H2 _ _ => ev_op (ev_c (v := nI 10)) (ev_var rfl) rv_add) ?_)
      (el_lstm (ys := List.range s.props) nI (fun j => nI (20 + j)) (ev_var rfl) (sq_of h1) (by rw [List.length_range]; omega) (fun _ => rfl) fun j H2 _ _ => ev_op (ev_c (v := nI 20)) (ev_var rfl) rv_add) ?_) fun l H2 hl e2 h2 => q l H2 (fresh_back e1 hl) (e1.trans e2) ?_
    · rw [nv_len, List.length_map, List.length_range, List.length_range]
      omega
    · rw [List.length_append, nv_len, List.length_map, List.length_map, List.length_range, List.length_range]
      omega
    · rw [h2]
      unfold Sy47.moves nv
      rw [List.append_assoc, List.map_append, List.map_append, List.map_map, List.map_map]
      rfl
theorem c_laid (D : DefT K mg "laid" (top 16)) (cI : Cal P w K mg base 1 "is_in" spIs) (cW : Cal P w K mg base 1 "with_thing" spWith) : Cal P w K mg base 2 "laid" spLaid := by
  obtain ⟨f, fd, F, hm⟩ := D
  refine ⟨f, fd, ["stage", "thing"], F.ok scLaid (fun vs H Q E h => ?_) (fun cdv A outer s H vs Q E hr h => ?_), hm, F.kp, F.binds fun _ _ _ _ _ _ us hl => match us, hl with | [_, _], _ => rfl⟩
  · obtain ⟨t, i, rfl, _⟩ := h
    rfl
  · obtain ⟨t, i, rfl, hi, q⟩ := h
    refine ⟨_, pss_one (ps_ret (pe_ifExp (pt_val (pe_c cI hr (by decide) rfl (pa_cons (pv 0) (pa_cons (pv 1) pa_nil)))) pe_non (pe_c cW hr (by decide) rfl (pa_cons (pv 0) (pa_cons (pv 1) pa_nil))))), ?_⟩
    refine s_ret (ev_if (et_B (ev_call (ea_cons (ev_var rfl) (ea_cons (ev_var rfl) ea_nil)) v_is)) (fun hb => ev_is ev_c ?_) (fun hb => ev_is (ev_call (ea_cons (ev_var rfl) (ea_cons (ev_var rfl) ea_nil)) (v_with hi)) ?_)) fun H1 e => q H1 e
    · unfold laidN
      rw [if_pos hb]
      rfl
    · unfold laidN
      rw [if_neg (by rw [hb]; decide)]
      rfl
theorem c_chg (T : Txt K mg CD CK) (D : DefT K mg "changed" (top 17)) (cL : Cal P w K mg base 2 "laid" spLaid) (cQ : Cal P w K mg base 2 "props_in" (spQin CD)) (mT : Met P w K mg base CX0 1 CD "prop_thing" (spThing CD)) (cI : Cal P w K mg base 1 "is_in" spIs) (cW : Cal P w K mg base 1 "without_thing" spWithout) :
    Cal P w K mg base 3 "changed" (spChg CD) := by
  obtain ⟨f, fd, F, hm⟩ := D
  obtain ⟨tp, hput⟩ := T.put
  obtain ⟨tt, htake⟩ := T.take
  refine ⟨f, fd, ["design", "stage", "move"], F.ok scChg (fun vs H Q E h => ?_) (fun cdv A outer s H vs Q E hr h => ?_), hm, F.kp, F.binds fun _ _ _ _ _ _ us hl => match us, hl with | [_, _, _], _ => rfl⟩
  · obtain ⟨d, s, t, m, rfl, _⟩ := h
    rfl
  · obtain ⟨d, s, t, m, rfl, D, wf, hmv, q⟩ := h
    refine ⟨_, pss_cons (ps_if (pt_cmpR op_lt (pv 2) (pe_glob (v := .int 10) rfl hput ⟨_, rfl⟩) (nomark _)) (pss_one (ps_ret (pe_c cL hr (by decide) rfl (pa_cons (pv 1) (pa_cons (pv 2) pa_nil))))) pss_nil)
      (pss_cons (ps_if (pt_cmpR op_lt (pv 2) (pe_glob (v := .int 20) rfl htake ⟨_, rfl⟩) (nomark _))
        (pss_cons (ps_if (pt_cmpR op_ge (pe_callB call_len_seq (by rfl) T.len boot_len (pa_cons (pe_c cQ hr (by decide) rfl (pa_cons (pv 0) (pa_cons (pv 1) pa_nil))) pa_nil)) (pe_fld (pv 0) rfl) (nomark _)) (pss_one (ps_ret pe_non)) pss_nil)
          (pss_one (ps_ret (pe_c cL hr (by decide) rfl (pa_cons (pv 1) (pa_cons (pe_mt T.cd mT pass0 hr (by decide) (pv 0) (pa_cons (pe_op op_sub (pv 2) (pe_glob (v := .int 10) rfl hput ⟨_, rfl⟩)) pa_nil)) pa_nil)))))) pss_nil)
      (pss_cons (ps_set (i := 3) scChg.nd rfl (Or.inl rfl) (pe_mt T.cd mT pass0 hr (by decide) (pv 0) (pa_cons (pe_op op_sub (pv 2) (pe_glob (v := .int 20) rfl htake ⟨_, rfl⟩)) pa_nil)))
      (pss_one (ps_ret (pe_ifExp (pt_val (pe_c cI hr (by decide) rfl (pa_cons (pv 1) (pa_cons (pv 3) pa_nil)))) (pe_c cW hr (by decide) rfl (pa_cons (pv 1) (pa_cons (pv 3) pa_nil))) pe_non))))), ?_⟩
    have p6 := wf.p6
    have q2 := wf.q2
    have hmm := mem_moves.mp hmv
    unfold chg at q
    refine q_when (et_test (ev_op (ev_var rfl) ev_c rv_I0)) (fun hb H1 e1 => ?_) (fun hb H1 e1 => ?_)
    · have h10 : m < 10 := by
        have := of_decide_eq_true hb
        omega
      rw [if_pos h10] at q
      exact s_ret (ev_call (ea_cons (ev_var rfl) (ea_cons (ev_var rfl) ea_nil)) (v_laid (t := t) (i := m) (by omega))) fun H2 e2 => q H2 (e1.trans e2)
    · have h10 : ¬ m < 10 := by
        have := of_decide_eq_false hb
        omega
      rw [if_neg h10] at q
      have D1 := D.mono e1
      refine q_when (et_test (ev_op (ev_var rfl) ev_c rv_I0)) (fun hb H2 e2 => ?_) (fun hb H2 e2 => ?_)
      · have h20 : m < 20 := by
          have := of_decide_eq_true hb
          omega
        rw [if_pos h20] at q
        have D2 := D1.mono e2
        refine q_when (et_test (ev_op (ev_lenN (xs := nv (qin s t)) (el_call (ea_cons (ev_var rfl) (ea_cons (ev_var rfl) ea_nil)) (v_qin D2 wf))) (ev_once T D2 (ev_var rfl)) rv_I0)) (fun hb H3 e3 => ?_) (fun hb H3 e3 => ?_)
        · have hl : s.atOnce ≤ (qin s t).length := by
            have := of_decide_eq_true hb
            rw [nv_len] at this
            omega
          rw [if_pos hl] at q
          exact s_ret ev_c fun H4 e4 => q H4 (((e1.trans e2).trans e3).trans e4)
        · have hl : ¬ s.atOnce ≤ (qin s t).length := by
            have := of_decide_eq_false hb
            rw [nv_len] at this
            omega
          rw [if_neg hl] at q
          have D3 := D2.mono e3
          exact s_ret (ev_call (ea_cons (ev_var rfl) (ea_cons (em_thing (j := m - 10) D3 (ev_var rfl) (ev_op (ev_var rfl) (ev_c (v := nI 10)) (rv_sub (by omega)))) ea_nil)) (v_laid (t := t) (i := s.pieces + (m - 10)) (by omega))) fun H4 e4 => q H4 (((e1.trans e2).trans e3).trans e4)
      · have h20 : ¬ m < 20 := by
          have := of_decide_eq_false hb
          omega
        rw [if_neg h20] at q
        have D2 := D1.mono e2
        refine q_asg (em_thing (j := m - 20) D2 (ev_var rfl) (ev_op (ev_var rfl) (ev_c (v := nI 20)) (rv_sub (by omega)))) fun H3 e3 => ?_
        refine s_ret (ev_if (et_B (ev_call (ea_cons (ev_var rfl) (ea_cons (ev_var rfl) ea_nil)) v_is)) (fun hb => ev_is (ev_call (ea_cons (ev_var rfl) (ea_cons (ev_var rfl) ea_nil)) (v_without (by omega) (has_le hb))) ?_) (fun hb => ev_is ev_c ?_)) fun H4 e4 => q H4 (((e1.trans e2).trans e3).trans e4)
        · rw [if_pos hb]
          rfl
        · rw [if_neg (by rw [hb]; decide)]
          rfl
theorem c_beh (T : Txt K mg CD CK) (D : DefT K mg "behind" (top 18)) (cG : Cal P w K mg base 3 "changed" (spChg CD)) (cC : Cal P w K mg base 3 "does_carry" (spCarry CD)) : Cal P w K mg base 4 "behind" (spBeh CD) := by
  obtain ⟨f, fd, F, hm⟩ := D
  refine ⟨f, fd, ["design", "stage", "move"], F.ok scBeh (fun vs H Q E h => ?_) (fun cdv A outer s H vs Q E hr h => ?_), hm, F.kp, F.binds fun _ _ _ _ _ _ us hl => match us, hl with | [_, _, _], _ => rfl⟩
  · obtain ⟨d, s, t, m, rfl, _⟩ := h
    rfl
  · obtain ⟨d, s, t, m, rfl, D, wf, hmv, q⟩ := h
    refine ⟨_, pss_cons (ps_set (i := 3) scBeh.nd rfl (Or.inl rfl) (pe_c cG hr (by decide) rfl (pa_cons (pv 0) (pa_cons (pv 1) (pa_cons (pv 2) pa_nil)))))
      (pss_cons (ps_if (PW.pt (pw_or (pt_cmpR op_isN (pv 3) pe_non (nomark _)) (pw_or1 (pt_not (pt_val (pe_c cC hr (by decide) rfl (pa_cons (pv 0) (pa_cons (pv 3) pa_nil)))))))) (pss_one (ps_ret pe_non)) pss_nil) (pss_one (ps_ret (pv 3)))), ?_⟩
    rw [moved_chg wf hmv] at q
    refine q_asg (ev_call (ea_cons (ev_var rfl) (ea_cons (ev_var rfl) (ea_cons (ev_var rfl) ea_nil))) (v_chg (t := t) D wf hmv)) fun H1 e1 => ?_
    cases hc : chg s t m with
    | none =>
      rw [hc] at q
      refine q_when (et_or (b := false) (et_is (et_test (ev_isN (j := .non) (ev_var rfl))) (show _ = true from rfl)) (fun z => nomatch z)) (fun _ H2 e2 => ?_) (fun z => nomatch z)
      exact s_ret ev_c fun H3 e3 => q H3 ((e1.trans e2).trans e3)
    | some u =>
      rw [hc] at q
      refine q_when (et_or (et_is (et_test (ev_isN (j := .non) (ev_var rfl))) (show _ = false from rfl)) (fun _ => et_not (et_B (ev_call (ea_cons (ev_var rfl) (ea_cons (ev_var rfl) ea_nil)) (v_carry (t := u) (D.mono e1) wf))))) (fun hb H2 e2 => ?_) (fun hb H2 e2 => ?_)
      · have hb : Sy47.carries s u = false := by simpa using hb
        simp only [hb] at q
        exact s_ret ev_c fun H3 e3 => q H3 ((e1.trans e2).trans e3)
      · have hb : Sy47.carries s u = true := by simpa using hb
        simp only [hb] at q
        exact s_ret (ev_var rfl) fun H3 e3 => q H3 ((e1.trans e2).trans e3)
theorem c_ways (T : Txt K mg CD CK) (D : DefT K mg "stages_behind" (top 19)) (cM : Cal P w K mg base 1 "all_moves" (spMoves CD)) (cB : Cal P w K mg base 4 "behind" (spBeh CD)) : Cal P w K mg base 5 "stages_behind" (spWays CD) := by
  obtain ⟨f, fd, F, hm⟩ := D
  refine ⟨f, fd, ["design", "stage"], F.ok scWays (fun vs H Q E h => ?_) (fun cdv A outer s H vs Q E hr h => ?_), hm, F.kp, F.binds fun _ _ _ _ _ _ us hl => match us, hl with | [_, _], _ => rfl⟩
  · obtain ⟨d, s, t, rfl, _⟩ := h
    rfl
  · obtain ⟨d, s, t, rfl, D, wf, q⟩ := h
    refine ⟨_, pss_cons (ps_setLc (i := 2) (own := [("move", 3)]) (g := gName 3) (by rfl) scWays.nd rfl rfl (sw_true rfl rfl rfl (by decide +kernel)) (pi_list (pe_c cM hr (by decide) rfl (pa_cons (pv 0) pa_nil))) (blkOk_by (N := ["design", "stage", "some", "move", "one"]) (sc := defScope (top 19)) (by decide +kernel))
        (fun _ _ _ _ _ => pg_name (i := 3) scWays.nd rfl (Or.inl rfl)) (fun _ _ _ _ _ => pts_nil) (fun _ _ _ _ _ => pe_c cB hr (by decide) rfl (pa_cons (pv 0) (pa_cons (pv 1) (pa_cons (pv 3) pa_nil)))))
      (pss_one (ps_ret (pe_lc (own := [("one", 4)]) (g := gName 4) (te := tVar 4) rfl scWays.nd (pi_list (pv 2)) (blkOk_by (N := ["design", "stage", "some", "move", "one"]) (sc := defScope (top 19)) (by decide +kernel))
        (fun _ _ _ _ _ => pg_name (i := 4) scWays.nd rfl (Or.inl rfl)) (fun _ _ _ _ _ => pts_one (pt_cmpR op_notN (pv 4) pe_non (nomark _))) (fun _ _ _ _ _ => pv 4)))), ?_⟩
    have hl := moves_len wf
    refine q_asgL (el_newm (ys := Sy47.moves s) nI (fun m => oI (Sy47.moved s t m)) (el_call (ea_cons (ev_var rfl) ea_nil) (v_moves D wf)) (by omega) (fun _ => rfl) fun m H1 e hm' => ev_call (ea_cons (ev_var rfl) (ea_cons (ev_var rfl) (ea_cons (ev_var rfl) ea_nil))) (v_beh (D.mono e) wf hm')) fun p H1 hp e1 h1 => ?_
    refine s_retL (el_lst' (ys := Sy47.moves s) (fun m => oI (Sy47.moved s t m)) (fun m => (Sy47.moved s t m).isSome) (fun m => oI (Sy47.moved s t m)) (ev_var rfl) (sq_of h1) (by omega) (fun _ => rfl) (fun m H2 _ _ => et_is (et_test (ev_notN (ev_var rfl))) oI_some) (fun m H2 _ _ _ => ev_var rfl)) fun l H2 hl2 e2 h2 => q l H2 (fresh_back e1 hl2) (e1.trans e2) ?_
    rw [h2, ways_nv]
end
end Br
end
section
set_option maxRecDepth 100000
set_option maxHeartbeats 4000000
namespace Br
open PySem PySem.Spec PyProof.Rows L2 Evl
open BrA BrB BrC BrD

/-! ### a dict of numbers by numbers -/
def dv (F : Fs) : List (Key × V) := F.map fun p => ((Sum.inl (p.1 : Int) : Key), nI p.2)
theorem key_inj {a b : Nat} : ((Sum.inl (a : Int) : Key) = Sum.inl (b : Int)) ↔ a = b := by
  constructor
  · intro h
    have := Sum.inl.inj h
    omega
  · intro h
    rw [h]
theorem dv_val (F : Fs) (t : Nat) : valV (dv F) (Sum.inl (t : Int)) = (F.lookup t).map nI := by
  unfold dv
  induction F with
  | nil => rfl
  | cons p r ih =>
    obtain ⟨a, b⟩ := p
    rw [List.map_cons]
    by_cases e : a = t
    · subst e
      rw [valV_pos rfl]
      simp
    · rw [valV_neg (fun z => e (key_inj.mp z)), ih]
      have : (t == a) = false := by simpa using fun z => e z.symm
      simp [List.lookup, this]
theorem dv_len (F : Fs) : (dv F).length = F.length := List.length_map ..
theorem dv_put {F : Fs} {t k : Nat} (h : F.lookup t = none) : putK (dv F) (Sum.inl (t : Int)) (nI k) = dv (F ++ [(t, k)]) := by
  rw [putK_new _ (by rw [dv_val, h]; rfl)]
  unfold dv
  rw [List.map_append]
  rfl
section
variable {K : PySem.W.Frag} {σ : L2.St} {H : Hp} {td ty tk tv : TE} {a : Addr} {F : Fs} {t : Nat} {D : Ends} {tz : TS}
theorem dget {H2 : Hp} (h : H2 a = some (.dK (dv F))) : DGet H2 a (nI t) ((F.lookup t).map nI) := by
  rw [← dv_val]
  exact DGet.k (k := Sum.inl (t : Int)) h
theorem ev_dnotin (hy : Ev ty σ H (nI t)) (hd : Ev td σ H (.ref a)) (h : H a = some (.dK (dv F))) : Ev (tDNotIn ty td) σ H (.bl (F.lookup t).isNone) := fun H1 e _ q =>
  hy H1 e _ fun H2 e2 => hd H2 (e.trans e2) _ fun H3 e3 => ⟨a, _, rfl, dget (((e.trans e2).trans e3) _ _ h), by
    have : (!((F.lookup t).map nI).isSome) = (F.lookup t).isNone := by cases F.lookup t <;> rfl
    rw [this]
    exact q H3 (e2.trans e3)⟩
theorem ev_din (hy : Ev ty σ H (nI t)) (hd : Ev td σ H (.ref a)) (h : H a = some (.dK (dv F))) : Ev (tDIn ty td) σ H (.bl (F.lookup t).isSome) := fun H1 e _ q =>
  hy H1 e _ fun H2 e2 => hd H2 (e.trans e2) _ fun H3 e3 => ⟨a, _, rfl, dget (((e.trans e2).trans e3) _ _ h), by
    have : ((F.lookup t).map nI).isSome = (F.lookup t).isSome := by cases F.lookup t <;> rfl
    rw [this]
    exact q H3 (e2.trans e3)⟩
theorem ev_dget {k : Nat} (hd : Ev td σ H (.ref a)) (hy : Ev ty σ H (nI t)) (h : H a = some (.dK (dv F))) (hk : F.lookup t = some k) : Ev (tDGet td ty) σ H (nI k) := fun H1 e _ q =>
  hd H1 e _ fun H2 e2 => hy H2 (e.trans e2) _ fun H3 e3 => ⟨a, nI k, rfl, by
    have := dget (t := t) (((e.trans e2).trans e3) _ _ h)
    rwa [hk] at this, q H3 (e2.trans e3)⟩
theorem ev_dget1 (hd : Ev td σ H (.ref a)) (hy : Ev ty σ H (nI t)) (h : H a = some (.dK (dv F))) : Ev (tDGet1 td ty) σ H (oI (F.lookup t)) := fun H1 e _ q =>
  hd H1 e _ fun H2 e2 => ⟨a, rfl, .inl ⟨_, .inl ((e.trans e2) _ _ h)⟩, hy H2 (e.trans e2) _ fun H3 e3 => ⟨_, dget (((e.trans e2).trans e3) _ _ h), by
    have : ((F.lookup t).map nI).getD .non = oI (F.lookup t) := by cases F.lookup t <;> rfl
    rw [this]
    exact q H3 (e2.trans e3)⟩⟩
/-- {a: b} -/
theorem en_disp {b c : Nat} (hk : ∀ H1, Ex H H1 → Ev tk σ H1 (nI b)) (hv : ∀ H1, Ex H H1 → Ev tv σ H1 (nI c)) : EvNew (tDisp [(tk, tv)]) σ H (.dK (dv [(b, c)])) := fun H1 e _ q p hp =>
  hk _ (e.trans (Ex.new hp)) _ (Ex.refl _) _ fun H2 e2 => hv _ ((e.trans (Ex.new hp)).trans e2) _ (Ex.refl _) _ fun H3 e3 => by
    have h3 : H3 p = some (.dK []) := e3 _ _ (e2 _ _ upd_same)
    refine ⟨h3, [(Sum.inl (b : Int), nI c)], rfl, (by show 1 ≤ 15; decide), q p _ hp (fun x o hx => ?_) ?_⟩
    · rw [upd_ne (ne_of_none hx hp)]
      exact e3 _ _ (e2 _ _ (Ex.new hp _ _ hx))
    · rw [upd_same]
      rfl
/-- d[t] = k, t new -/
theorem s_dput {k : Nat} (hv : Ev tv σ H (nI k)) (hd : Ev td σ H (.ref a)) (hy : Ev ty σ H (nI t)) (h : H a = some (.dK (dv F))) (hn : F.lookup t = none) (hl : F.length < 100000) (kk : ∀ H1, Ex H H1 → D.nx σ (upd H1 a (.dK (dv (F ++ [(t, k)]))))) : sDPut td ty tv D σ H :=
  hv H (Ex.refl H) _ fun H1 e1 => hd H1 e1 _ fun H2 e2 => hy H2 (e1.trans e2) _ fun H3 e3 => ⟨a, _, rfl, DPut.k (k := Sum.inl (t : Int)) (((e1.trans e2).trans e3) _ _ h) (sz_lt (by rw [dv_len]; exact hl)), by
    rw [dv_put hn]
    exact kk H3 ((e1.trans e2).trans e3)⟩
theorem q_asgN {te : TE} {i : Nat} {o : HO} (h : EvNew te σ H o) (k : ∀ p H1, H p = none → Ex H H1 → H1 p = some o → tz D (σ.set i (some (.ref p))) H1) : tSeq (tAsg te (gName i)) tz D σ H := h H (Ex.refl H) _ k
/-- a list of numbers, empty or not -/
theorem dp_nv {l : List Nat} (h : SqL K H a (nv l)) : Dp K H (.ref a) (.list ((l.map fun (n : Nat) => (n : Int)).map PyData.int)) := by
  refine .lst h ?_
  have : ∀ m : List Nat, DpAll K H (nv m) ((m.map fun (n : Nat) => (n : Int)).map PyData.int) := by
    intro m
    induction m with
    | nil => exact .nil
    | cons n r ih => exact .cons (.int _) ih
  exact this l
theorem et_neNil {te : TE} {l : List Nat} (h : Ev te σ H (.ref a)) (hs : H a = some (.lst (nv l))) : EvT (tTest (tOp (rNeD K) te (tLst tNil))) σ H (decide (l ≠ [])) := fun H1 e _ q =>
  h H1 e _ fun H2 e2 => ⟨Nat.zero_le _, fun p hp => by
    have h2 : (upd H2 p (.lst [])) a = some (.lst (nv l)) := Ex.new hp _ _ ((e.trans e2) _ _ hs)
    refine ⟨_, _, dp_nv (sq_of h2), dp_nv (l := []) (sq_of upd_same), PySem.W.ke_shaped_ints _, PySem.W.ke_shaped_ints _, _, rfl, ?_⟩
    have : (!PyData.eqv (.list ((l.map fun (n : Nat) => (n : Int)).map PyData.int)) (.list ((([] : List Nat).map fun (n : Nat) => (n : Int)).map PyData.int))) = decide (l ≠ []) := by
      cases l with
      | nil => simp [PyData.eqv, PyData.eqvAll]
      | cons n r => simp [PyData.eqv, PyData.eqvAll]
    rw [this]
    exact q _ (e2.trans (Ex.new hp))⟩
end
end Br
end
section
set_option maxRecDepth 100000
set_option maxHeartbeats 4000000
namespace Br
open PySem PySem.Spec PyProof.Rows L2 Evl
open BrA BrB BrC BrD

/-! ### plans.py: distances -/
abbrev nDist : List Str := ["design", "stage", "ways", "found", "far", "new", "others", "one"]
theorem scDist : FnScope nDist ["design"] (defScope (top 21)) := ⟨rfl, rfl, rfl, by decide +kernel, rfl, by decide +kernel, by decide +kernel⟩
/-- the scope of the comprehension that makes new -/
def scNew : Scope := match (defBody (top 21)).getD 4 (.Pass ⟨0, 0, 0, 0⟩) with
  | .While _ b _ _ => match b.getD 1 (.Pass ⟨0, 0, 0, 0⟩) with
    | .Assign _ (.ListComp _ _ sc _) _ => sc
    | _ => { kind := .function, names := [], isGenerator := false, isCoroutine := false }
  | _ => { kind := .function, names := [], isGenerator := false, isCoroutine := false }
def spDist (CD : Addr) : Sp := fun vs H Q _ => ∃ (d : Addr) (s : Ds), vs = [.ref d] ∧ DesignAt CD H d s ∧ Wf s ∧ ∀ p H2, H p = none → Ex H H2 → H2 p = some (.dK (dv (dist s))) → Q (.ref p) H2
theorem en_call {σ : L2.St} {H : Hp} {ta : TA} {sp : Sp} {vs : List V} {o : HO} {E : XK} (h : EvA ta σ H vs) (hs : ∀ H1, Ex H H1 → ∀ Q : VK, (∀ p H2, H1 p = none → Ex H1 H2 → H2 p = some o → Q (.ref p) H2) → sp vs H1 Q E) : EvNew (tCall sp [] E ta) σ H o := fun H1 e Q q =>
  h H1 e _ fun H2 e2 => by
    rw [List.append_nil]
    exact hs H2 (e.trans e2) Q fun p H3 hp e3 h3 => q p H3 (fresh_back e2 hp) (e2.trans e3) h3
theorem v_dist {CD d : Addr} {H : Hp} {s : Ds} (D : DesignAt CD H d s) (w : Wf s) : ∀ H1, Ex H H1 → ∀ Q : VK, (∀ p H2, H1 p = none → Ex H1 H2 → H2 p = some (.dK (dv (dist s))) → Q (.ref p) H2) → spDist CD [.ref d] H1 Q E0 := fun H1 e Q q => ⟨d, s, rfl, D.mono e, w, q⟩
theorem next_len {s : Ds} {F : Fs} {far : Nat} (w : Wf s) : (next s F far).length ≤ 256 := by
  have := nodup_le (next_nodup s F far) fun x hx => (mem_next.mp hx).1.1
  have := w.n256
  omega
theorem rv_oI {o : Option Nat} {k : Nat} {H : Hp} : RV rEq (oI o) (nI k) H (.bl (decide (o = some k))) := by
  cases o with
  | none => exact rv_eq rfl
  | some n =>
    have e : decide (some n = some k) = decide (n = k) := by simp
    rw [e]
    exact rv_eqN
section
variable {P : Program} {w : World} {K : PySem.W.Frag} {mg : Str → Option Value} {base : Heap} {CD CK : Addr}
theorem c_dist (T : Txt K mg CD CK) (D : DefT K mg "distances" (top 21)) (cW : Cal P w K mg base 5 "stages_behind" (spWays CD)) (mM : Met P w K mg base CX0 1 CD "how_many_sets" (spMany CD)) (mE : Met P w K mg base CX0 1 CD "end" (spEnd CD)) :
    Cal P w K mg base 6 "distances" (spDist CD) := by
  obtain ⟨f, fd, F, hm⟩ := D
  refine ⟨f, fd, ["design"], F.ok scDist (fun vs H Q E h => ?_) (fun cdv A outer s H vs Q E hr h => ?_), hm, F.kp, F.binds fun _ _ _ _ _ _ us hl => match us, hl with | [_], _ => rfl⟩
  · obtain ⟨d, s, rfl, _⟩ := h
    rfl
  · obtain ⟨d, s, rfl, D, wf, q⟩ := h
    have hu := hu_of hr
    refine ⟨_, pss_cons (ps_set (i := 2) scDist.nd rfl (Or.inr rfl) (pe_lc (own := [("stage", 1)]) (g := gName 1) rfl scDist.nd (pi_range1 rfl T.range (pa_cons (pe_mt0 T.cd mM pass0 hr (by decide) (pv 0)) pa_nil)) (blkOk_by (N := nDist) (sc := defScope (top 21)) (by decide +kernel))
          (fun _ _ _ _ _ => pg_name (i := 1) scDist.nd rfl (Or.inl rfl)) (fun _ _ _ _ _ => pts_nil) (fun _ _ _ _ _ => pe_c cW hr (by decide) rfl (pa_cons (pv 0) (pa_cons (pv 1) pa_nil)))))
      (pss_cons (ps_set (i := 3) scDist.nd rfl (Or.inr rfl) (pe_disp (pps_cons (pe_mt0 T.cd mE pass0 hr (by decide) (pv 0)) pe_int pps_nil) (by rfl) (by rfl) (fun z => by cases z) (by decide)))
      (pss_cons (ps_set (i := 4) scDist.nd rfl (Or.inr rfl) pe_int)
      (pss_cons (ps_set (i := 5) scDist.nd rfl (Or.inl rfl) (pe_lst (pa_cons (pe_mt0 T.cd mE pass0 hr (by decide) (pv 0)) pa_nil)))
      (pss_cons (ps_while PassesOwn.never (pt_cmpR (op_neD hr.units) (pv 5) (pe_lst pa_nil) (nomark _))
        (pss_cons (ps_setLc (i := 6) (own := [("stage", 1)]) (g := gName 1) (te := tVar 1) (by rfl) scDist.nd rfl rfl (sw_true rfl rfl rfl (by decide +kernel)) (pi_range1 rfl T.range (pa_cons (pe_callB call_len_seq (by rfl) T.len boot_len (pa_cons (pv 2) pa_nil)) pa_nil)) (blkOk_by (N := nDist) (sc := defScope (top 21)) (by decide +kernel))
            (fun _ _ _ _ _ => pg_name (i := 1) scDist.nd rfl (Or.inl rfl)) (fun _ _ _ _ _ => pts_one (pt_cmp (pc_dnotin hu (pv 1) (pv 3)))) (fun _ _ _ _ _ => pv 1))
        (pss_cons (ps_setLc (i := 5) (own := [("stage", 1)]) (g := gName 1) (te := tVar 1) (tt := tB (tCB (rAny K) (tCons (tLc (iList K (tOp (rIxL K) (tVar 2) (tVar 1))) (gName 7) tYes (tOp rEq (tDGet1 (tVar 3) (tVar 7)) (tVar 4)) [7]) tNil))) (by rfl) scDist.nd rfl rfl (sw_true rfl rfl rfl (by decide +kernel)) (pi_list (pv 6)) (blkOk_by (N := nDist) (sc := defScope (top 21)) (by decide +kernel))
            (fun _ _ _ _ _ => pg_name (i := 1) scDist.nd rfl (Or.inl rfl))
            (fun _ _ _ _ _ => pts_one (pt_val (pe_callB (cr_any rfl) (by rfl) T.any (by decide +kernel) (pa_cons (pe_lc (own := [("one", 7)]) (g := gName 7) rfl scDist.nd (pi_list (pe_ix ix_list (pv 2) (pv 1) (fun _ _ => rfl))) (blkOk_by (N := nDist) (sc := relS scNew (defScope (top 21))) (by decide +kernel))
              (fun _ _ _ _ _ => pg_name (i := 7) scDist.nd rfl (Or.inl rfl)) (fun _ _ _ _ _ => pts_nil) (fun _ _ _ _ _ => pe_cmpR op_eq (pe_dget1 hu (pv 3) (pv 7) ⟨rfl, by rfl, rfl, rfl⟩) (pv 4) (nomark _))) pa_nil)))) (fun _ _ _ _ _ => pv 1))
        (pss_cons (ps_set (i := 4) scDist.nd rfl (Or.inr rfl) (pe_op op_add (pv 4) pe_int))
        (pss_one (ps_for PassesOwn.never rfl (pi_list (pv 5)) (pg_name (i := 1) scDist.nd rfl (Or.inl rfl)) (pss_one (ps_dput hu (pv 3) (pv 1) (pv 4) rfl))))))))
      (pss_one (ps_ret (pv 3))))))), ?_⟩
    have h256 := wf.n256
    refine q_asgO (eo_rng (n := 2 ^ Sy47.things s) (fun t => .lst (nv (ways s t))) (ea_cons (em_many D wf (ev_var rfl)) ea_nil) (by omega) (fun _ => rfl) (fun t H1 e _ => el_call (ea_cons (ev_var rfl) (ea_cons (ev_var rfl) ea_nil)) (v_ways (D.mono e) wf))) fun ww rs H1 nw e1 hw ob => ?_
    have rlen : rs.length = 2 ^ Sy47.things s := by
      have := ob.len
      rwa [List.length_map, List.length_range] at this
    have row : ∀ t, t < 2 ^ Sy47.things s → ∃ r, rs[t]? = some r ∧ H1 r = some (.lst (nv (ways s t))) := fun t ht => by
      have hr' : rs[t]? = some rs[t] := List.getElem?_eq_getElem (by omega)
      exact ⟨_, hr', ob.at_ t _ _ hr' (by rw [List.getElem?_map, List.getElem?_range ht]; rfl)⟩
    have D1 := D.mono e1
    refine q_asgN (en_disp (b := Sy47.done s) (c := 0) (fun H2 e => em_end (D1.mono e) wf (ev_var rfl)) (fun _ _ => ev_c)) fun fdd H2 nf e2 hf => ?_
    refine q_asg (ev_c (v := nI 0)) fun H3 e3 => ?_
    refine q_asgL (el_lst (ea_cons (em_end ((D1.mono e2).mono e3) wf (ev_var rfl)) ea_nil) (by show 1 ≤ 100000; decide)) fun p5 H4 n5 e4 h5 => ?_
    refine q_while (fun m σ H' => ∃ (F : Fs) (far : Nat) (new : List Nat) (p5 : Addr) (v1 v6 : Option V), σ = [some (.ref d), v1, some (.ref ww), some (.ref fdd), some (nI far), some (.ref p5), v6, none] ∧ Ex H1 H' ∧ H' fdd = some (.dK (dv F)) ∧ H' p5 = some (.lst (nv new)) ∧ Ok s m F far new ∧ loop s m F far new = dist s)
      600 ⟨_, 0, [Sy47.done s], p5, none, none, rfl, (e2.trans e3).trans e4, e4 _ _ (e3 _ _ hf), h5, Ok.start.resolve_right fun z => z wf, rfl⟩ fun m σ H5 h => ?_
    obtain ⟨F, far, new, p5, v1, v6, rfl, eh, hf, h5, ok, hl⟩ := h
    refine ⟨_, et_neNil (ev_var rfl) h5, fun hb H6 e6 => ?_, fun hb H6 e6 => ?_⟩
    · have hne : new ≠ [] := of_decide_eq_true hb
      obtain ⟨g, rfl⟩ : ∃ g, m = g + 1 := ⟨m - 1, by have := ok.fu hne; omega⟩
      refine ⟨fun σ' H' => ∃ (p5 : Addr) (v1 v6 : Option V), σ' = [some (.ref d), v1, some (.ref ww), some (.ref fdd), some (nI (far + 1)), some (.ref p5), v6, none] ∧ Ex H1 H' ∧ H' fdd = some (.dK (dv (more F (next s F far) (far + 1)))) ∧ H' p5 = some (.lst (nv (next s F far))), fun σ2 H7 h => ?_, ?_⟩
      · obtain ⟨p5, v1, v6, rfl, eh, hf, h5⟩ := h
        rw [loop_cons hne] at hl
        exact ⟨g, Nat.lt_succ_self _, _, _, _, p5, v1, v6, rfl, eh, hf, h5, ok.step hne, hl⟩
      · have eh6 := eh.trans e6
        have hf6 := e6 _ _ hf
        -- others
        refine q_asgL (el_rng (n := 2 ^ Sy47.things s) (fun t => (F.lookup t).isNone) nI (ea_cons (ev_is (ev_len (ev_var rfl) (sq_of (eh6 _ _ hw))) (by rw [List.length_map, rlen])) ea_nil) (by omega) (fun _ => rfl)
          (fun t H7 e7 _ => et_B (ev_dnotin (ev_var rfl) (ev_var rfl) (e7 _ _ hf6))) (fun t H7 _ _ _ => ev_var rfl)) fun p6 H7 n6 e7 h6 => ?_
        have eh7 := eh6.trans e7
        have hf7 := e7 _ _ hf6
        -- new
        refine q_asgL (el_lst' (ys := others s F) nI (fun t => (ways s t).any fun u => decide (F.lookup u = some far)) nI (ev_var rfl) (sq_of h6) ?_ (fun _ => rfl)
          (fun t H8 e8 ht => ?_) (fun t H8 _ _ _ => ev_var rfl)) fun p7 H8 n7 e8 h7 => ?_
        · refine Nat.le_trans (List.length_filter_le _ _) ?_
          rw [List.length_range]
          omega
        · obtain ⟨r, hr1, hr2⟩ := row t (mem_others.mp ht).1
          refine et_B (ev_any (el_lstm (ys := ways s t) nI (fun u => .bl (decide (F.lookup u = some far))) (ev_op (ev_var rfl) (ev_var rfl) (rv_ixL (sq_of (e8 _ _ (eh7 _ _ hw))) (atI_nat (v := V.ref r) (by rw [List.getElem?_map, hr1]; rfl)))) (sq_of (e8 _ _ (eh7 _ _ hr2))) (by have := ways_len wf t; omega) (fun _ => rfl)
            fun u H9 e9 _ => ev_op (ev_dget1 (ev_var rfl) (ev_var rfl) (e9 _ _ (e8 _ _ hf7))) (ev_var rfl) rv_oI))
        · have h7 : H8 p7 = some (.lst (nv (next s F far))) := h7
          have eh8 := eh7.trans e8
          have hf8 := e8 _ _ hf7
          refine q_asg (ev_op (ev_var rfl) (ev_c (v := nI 1)) rv_add) fun H9 e9 => ?_
          have nd := next_nodup s F far
          refine s_forLn (xs := nv (next s F far)) (ev_var rfl) (sq_of (e9 _ _ h7)) (fun i σ' H' => ∃ v1, σ' = [some (.ref d), v1, some (.ref ww), some (.ref fdd), some (nI (far + 1)), some (.ref p7), some (.ref p6), none] ∧ Ex H1 H' ∧ H' fdd = some (.dK (dv (F ++ ((next s F far).take i).map fun t => (t, far + 1)))) ∧ H' p7 = some (.lst (nv (next s F far))))
            (fun H10 e10 => ⟨_, rfl, (eh8.trans e9).trans e10, by rw [List.take_zero, List.map_nil, List.append_nil]; exact e10 _ _ (e9 _ _ hf8), e10 _ _ (e9 _ _ h7)⟩) (fun i σ' H' _ h => ?_) (fun i x σ' H' hx h => ?_) (fun σ' H' h => ?_)
          · obtain ⟨_, _, _, _, h⟩ := h
            exact sq_of h
          · obtain ⟨v1, rfl, eh', hf', h7'⟩ := h
            unfold nv at hx
            rw [List.getElem?_map] at hx
            cases hy : (next s F far)[i]? with
            | none => rw [hy] at hx; cases hx
            | some t =>
              rw [hy] at hx
              obtain rfl : nI t = x := Option.some.inj hx
              have hm := List.mem_of_getElem? hy
              have hlen : (F ++ ((next s F far).take i).map fun t => (t, far + 1)).length ≤ 1000 := by
                rw [List.length_append, List.length_map]
                have h1 := ok.len
                have h2 := next_len (s := s) (F := F) (far := far) wf
                have h3 : ((next s F far).take i).length ≤ (next s F far).length := List.length_take_le' _ _
                omega
              refine s_dput (t := t) (k := far + 1) (ev_var rfl) (ev_var rfl) (ev_var rfl) hf' ?_ (by omega) fun H10 e10 => ⟨some (nI t), rfl, Ex.mut (eh'.trans e10) nf, ?_, ?_⟩
              · rw [lk_append, (mem_next.mp hm).1.2, lk_map, if_neg]
                · rfl
                · intro z
                  obtain ⟨j, hj⟩ := List.getElem?_of_mem z
                  rw [List.getElem?_take] at hj
                  split at hj
                  · rename_i hji
                    have e1 := (List.getElem?_eq_some_iff.mp hj)
                    have e2 := (List.getElem?_eq_some_iff.mp hy)
                    obtain ⟨b1, c1⟩ := e1
                    obtain ⟨b2, c2⟩ := e2
                    have := (List.getElem_inj nd).mp (c1.trans c2.symm)
                    omega
                  · cases hj
              · rw [upd_same, take_more hy, List.map_append, ← List.append_assoc]
                rfl
              · rw [upd_ne (fun z => by rw [z, hf'] at h7'; cases h7')]
                exact e10 _ _ h7'
          · obtain ⟨v1, rfl, eh', hf', h7'⟩ := h
            rw [nv_len, List.take_length] at hf'
            exact ⟨p7, v1, some (.ref p6), rfl, eh', hf', h7'⟩
    · have hne : new = [] := by
        have := of_decide_eq_false hb
        simpa using this
      subst hne
      rw [loop_nil] at hl
      subst hl
      exact s_ret (ev_var rfl) fun H7 e7 => q fdd H7 (fresh_back e1 nf) (((e1.trans eh).trans e6).trans e7) (e7 _ _ (e6 _ _ hf))
end
end Br
end
section
set_option maxRecDepth 100000
set_option maxHeartbeats 4000000
namespace Br
open PySem PySem.Spec PyProof.Rows L2 Evl
open BrA BrB BrC BrD

/-! ### plans.py: a plan -/
theorem scFirst : FnScope ["design", "stage", "far", "move", "there"] ["design", "stage", "far"] (defScope (top 22)) := ⟨rfl, rfl, rfl, by decide +kernel, rfl, by decide +kernel, by decide +kernel⟩
theorem scPlan : FnScope ["design", "stage", "far", "found", "here", "turn", "move"] ["design", "stage"] (defScope (top 23)) := ⟨rfl, rfl, rfl, by decide +kernel, rfl, by decide +kernel, by decide +kernel⟩
def spFirst (CD : Addr) : Sp := fun vs H Q _ => ∃ (d : Addr) (s : Ds) (t : Nat) (f : Addr) (F : Fs) (k : Nat), vs = [.ref d, nI t, .ref f] ∧ DesignAt CD H d s ∧ Wf s ∧ H f = some (.dK (dv F)) ∧ F.lookup t = some (k + 1) ∧ RetV (oI (firstMove s F t k)) H Q
def spPlan (CD : Addr) : Sp := fun vs H Q _ => ∃ (d : Addr) (s : Ds) (t : Nat), vs = [.ref d, nI t] ∧ DesignAt CD H d s ∧ Wf s ∧ ((dist s).lookup t = none → RetV .non H Q) ∧ ∀ k, (dist s).lookup t = some k → RetL (nv (mplan s (dist s) k t)) H Q
theorem v_first {CD d : Addr} {H : Hp} {s : Ds} {t k : Nat} {f : Addr} {F : Fs} (D : DesignAt CD H d s) (w : Wf s) (hf : H f = some (.dK (dv F))) (hk : F.lookup t = some (k + 1)) : SpV (spFirst CD) [.ref d, nI t, .ref f] H (oI (firstMove s F t k)) := fun _ e _ q _ => ⟨d, s, t, f, F, k, rfl, D.mono e, w, e _ _ hf, hk, q⟩
theorem mplan_cons {s : Ds} {F : Fs} {k t m u : Nat} (h1 : firstMove s F t k = some m) (h2 : Sy47.moved s t m = some u) : mplan s F (k + 1) t = m :: mplan s F k u := by
  rw [mplan, h1]
  show m :: mplan s F k ((Sy47.moved s t m).getD t) = _
  rw [h2]
  rfl
theorem nv_at {l : List Nat} {i : Nat} {x : V} (h : (nv l)[i]? = some x) : ∃ n, l[i]? = some n ∧ x = nI n := by
  unfold nv at h
  rw [List.getElem?_map] at h
  cases hy : l[i]? with
  | none => rw [hy] at h; cases h
  | some n =>
    rw [hy] at h
    exact ⟨n, rfl, (Option.some.inj h).symm⟩
section
variable {P : Program} {w : World} {K : PySem.W.Frag} {mg : Str → Option Value} {base : Heap} {CD CK : Addr}
theorem c_first (T : Txt K mg CD CK) (D : DefT K mg "first_move" (top 22)) (cM : Cal P w K mg base 1 "all_moves" (spMoves CD)) (cB : Cal P w K mg base 4 "behind" (spBeh CD)) : Cal P w K mg base 5 "first_move" (spFirst CD) := by
  obtain ⟨f, fd, F, hm⟩ := D
  refine ⟨f, fd, ["design", "stage", "far"], F.ok scFirst (fun vs H Q E h => ?_) (fun cdv A outer s H vs Q E hr h => ?_), hm, F.kp, F.binds fun _ _ _ _ _ _ us hl => match us, hl with | [_, _, _], _ => rfl⟩
  · obtain ⟨d, s, t, f, F, k, rfl, _⟩ := h
    rfl
  · obtain ⟨d, s, t, f, F, k, rfl, D, wf, hf, hk, q⟩ := h
    have hu := hu_of hr
    refine ⟨_, pss_cons (ps_for PassesOwn.never rfl (pi_list (pe_c cM hr (by decide) rfl (pa_cons (pv 0) pa_nil))) (pg_name (i := 3) scFirst.nd rfl (Or.inl rfl))
        (pss_cons (ps_set (i := 4) scFirst.nd rfl (Or.inl rfl) (pe_c cB hr (by decide) rfl (pa_cons (pv 0) (pa_cons (pv 1) (pa_cons (pv 3) pa_nil)))))
        (pss_one (ps_if (PW.pt (pw_and (pt_cmpR op_notN (pv 4) pe_non (nomark _)) (pw_and1 (pt_cmpR op_eq (pe_dget1 hu (pv 2) (pv 4) ⟨rfl, by rfl, rfl, rfl⟩) (pe_op op_sub (pe_dget hu (pv 2) (pv 1) (fun _ _ => rfl)) pe_int) (nomark _))))) (pss_one (ps_ret (pv 3))) pss_nil))))
      (pss_one (ps_ret pe_non)), ?_⟩
    refine q_forNLn (xs := nv (Sy47.moves s)) (el_call (ea_cons (ev_var rfl) ea_nil) (v_moves D wf))
      (fun p i σ H' => ∃ v3 v4, σ = [some (.ref d), some (nI t), some (.ref f), v3, v4] ∧ Ex H H' ∧ H' p = some (.lst (nv (Sy47.moves s))) ∧ ((Sy47.moves s).take i).find? (fun m => hit s F t k m) = none)
      (fun p H1 _ e1 h1 => ⟨none, none, rfl, e1, h1, rfl⟩) (fun p i σ H' _ h => ?_) (fun p i x σ H' hx h => ?_) (fun p σ H' h => ?_)
    · obtain ⟨_, _, _, _, h, _⟩ := h
      exact sq_of h
    · obtain ⟨v3, v4, rfl, eh, hp, hn⟩ := h
      obtain ⟨m, hm', rfl⟩ := nv_at hx
      have hmem := List.mem_of_getElem? hm'
      refine q_asg (ev_call (ea_cons (ev_var rfl) (ea_cons (ev_var rfl) (ea_cons (ev_var rfl) ea_nil))) (v_beh (t := t) (D.mono eh) wf hmem)) fun H1 e1 => ?_
      cases hv : Sy47.moved s t m with
      | none =>
        have hh : hit s F t k m = false := by
          unfold hit
          rw [hv]
        refine s_when (et_and (b := false) (et_is (et_test (ev_notN (ev_var rfl))) (show _ = false from rfl)) (fun z => nomatch z)) (fun z => nomatch z) fun _ H2 e2 => ?_
        exact ⟨some (nI m), some .non, rfl, (eh.trans e1).trans e2, e2 _ _ (e1 _ _ hp), find_more hn hm' hh⟩
      | some u =>
        have hh : hit s F t k m = decide (F.lookup u = some k) := by
          unfold hit
          rw [hv]
        refine s_when (et_and (et_is (et_test (ev_notN (ev_var rfl))) (show _ = true from rfl)) (fun _ => et_test (ev_op (ev_dget1 (t := u) (ev_var rfl) (ev_var rfl) (e1 _ _ (eh _ _ hf))) (ev_op (ev_dget (ev_var rfl) (ev_var rfl) (e1 _ _ (eh _ _ hf)) hk) (ev_c (v := nI 1)) (rv_sub (Nat.le_add_left 1 k))) rv_oI))) (fun hb H2 e2 => ?_) fun hb H2 e2 => ?_
        · have hb : hit s F t k m = true := by
            rw [hh]
            simpa using hb
          have : firstMove s F t k = some m := find_take hn hm' hb
          rw [this] at q
          exact s_ret (ev_var rfl) fun H3 e3 => q H3 (((eh.trans e1).trans e2).trans e3)
        · have hb : hit s F t k m = false := by
            rw [hh]
            simpa using hb
          exact ⟨some (nI m), some (nI u), rfl, (eh.trans e1).trans e2, e2 _ _ (e1 _ _ hp), find_more hn hm' hb⟩
    · obtain ⟨v3, v4, rfl, eh, hp, hn⟩ := h
      rw [nv_len, List.take_length] at hn
      have : firstMove s F t k = none := hn
      rw [this] at q
      exact s_ret ev_c fun H1 e1 => q H1 (eh.trans e1)
theorem c_plan (T : Txt K mg CD CK) (D : DefT K mg "plan_from" (top 23)) (cD : Cal P w K mg base 6 "distances" (spDist CD)) (cF : Cal P w K mg base 5 "first_move" (spFirst CD)) (cB : Cal P w K mg base 4 "behind" (spBeh CD)) : Cal P w K mg base 7 "plan_from" (spPlan CD) := by
  obtain ⟨f, fd, F, hm⟩ := D
  refine ⟨f, fd, ["design", "stage"], F.ok scPlan (fun vs H Q E h => ?_) (fun cdv A outer s H vs Q E hr h => ?_), hm, F.kp, F.binds fun _ _ _ _ _ _ us hl => match us, hl with | [_, _], _ => rfl⟩
  · obtain ⟨d, s, t, rfl, _⟩ := h
    rfl
  · obtain ⟨d, s, t, rfl, D, wf, qN, qS⟩ := h
    have hu := hu_of hr
    refine ⟨_, pss_cons (ps_set (i := 2) scPlan.nd rfl (Or.inl rfl) (pe_c cD hr (by decide) rfl (pa_cons (pv 0) pa_nil)))
      (pss_cons (ps_if (pt_cmp (pc_dnotin hu (pv 1) (pv 2))) (pss_one (ps_ret pe_non)) pss_nil)
      (pss_cons (ps_set (i := 3) scPlan.nd rfl (Or.inl rfl) (pe_lst pa_nil))
      (pss_cons (ps_set (i := 4) scPlan.nd rfl (Or.inl rfl) (pv 1))
      (pss_cons (ps_for PassesOwn.never rfl (pi_range1 rfl T.range (pa_cons (pe_dget hu (pv 2) (pv 1) (fun _ _ => rfl)) pa_nil)) (pg_name (i := 5) scPlan.nd rfl (Or.inl rfl))
        (pss_cons (ps_set (i := 6) scPlan.nd rfl (Or.inl rfl) (pe_c cF hr (by decide) rfl (pa_cons (pv 0) (pa_cons (pv 4) (pa_cons (pv 2) pa_nil)))))
        (pss_cons (ps_expr (pe_bm PySem.F.plainAttrs_list PySem.F.slot_list_append PySem.F.type_list_append mt_append (pv 3) (pa_cons (pv 6) pa_nil)))
        (pss_one (ps_set (i := 4) scPlan.nd rfl (Or.inl rfl) (pe_c cB hr (by decide) rfl (pa_cons (pv 0) (pa_cons (pv 4) (pa_cons (pv 6) pa_nil)))))))))
      (pss_one (ps_ret (pv 3))))))), ?_⟩
    refine q_asgN (en_call (ea_cons (ev_var rfl) ea_nil) (v_dist D wf)) fun fa H1 n1 e1 hf => ?_
    have fin := dist_fin wf
    refine q_when (et_B (ev_dnotin (t := t) (ev_var rfl) (ev_var rfl) hf)) (fun hb H2 e2 => ?_) fun hb H2 e2 => ?_
    · have hn : (dist s).lookup t = none := by simpa using hb
      exact s_ret ev_c fun H3 e3 => qN hn H3 ((e1.trans e2).trans e3)
    · obtain ⟨k, hk⟩ : ∃ k, (dist s).lookup t = some k := by
        cases e : (dist s).lookup t with
        | none => rw [e] at hb; cases hb
        | some k => exact ⟨k, rfl⟩
      have hk600 := dist_le wf hk
      refine q_asgL (el_lst ea_nil (Nat.zero_le _)) fun p H3 np e3 hp => ?_
      refine q_asg (ev_var rfl) fun H4 e4 => ?_
      refine q_forR1 (n := (k : Int)) (ea_cons (ev_dget (ev_var rfl) (ev_var rfl) (e4 _ _ (e3 _ _ (e2 _ _ hf))) hk) ea_nil) (by omega)
        (fun i σ H' => ∃ (here : Nat) (pre : List Nat) (v5 v6 : Option V), σ = [some (.ref d), some (nI t), some (.ref fa), some (.ref p), some (nI here), v5, v6] ∧ Ex H2 H' ∧ H' p = some (.lst (nv pre)) ∧ pre ++ mplan s (dist s) (k - i) here = mplan s (dist s) k t ∧ pre.length = i ∧ (dist s).lookup here = some (k - i))
        (fun H5 e5 => ⟨t, [], none, none, rfl, (e3.trans e4).trans e5, e5 _ _ (e4 _ _ hp), rfl, rfl, hk⟩) (fun i σ H' hi h => ?_) (fun σ H' h => ?_)
      · obtain ⟨here, pre, v5, v6, rfl, eh, hp', hpl, hlen, hl⟩ := h
        obtain ⟨j, hj⟩ : ∃ j, k - i = j + 1 := ⟨k - i - 1, by omega⟩
        rw [hj] at hl hpl
        obtain ⟨m, u, hf1, hmem, hmv, hlu⟩ := first_some fin hl
        have hf' := eh _ _ (e2 _ _ hf)
        refine q_asg (ev_is (ev_call (ea_cons (ev_var rfl) (ea_cons (ev_var rfl) (ea_cons (ev_var rfl) ea_nil))) (v_first (D.mono ((e1.trans e2).trans eh)) wf hf' hl)) (show oI (firstMove s (dist s) here j) = nI m by rw [hf1]; rfl)) fun H5 e5 => ?_
        refine q_app (xs := nv pre) (e5 _ _ hp') (ev_var rfl) (ev_var rfl) (by rw [nv_len]; omega) fun H6 e6 => ?_
        have e7 : Ex H2 (upd H6 p (.lst (nv pre ++ [nI m]))) := Ex.mut ((eh.trans e5).trans e6) np
        refine s_asg (ev_is (ev_call (ea_cons (ev_var rfl) (ea_cons (ev_var rfl) (ea_cons (ev_var rfl) ea_nil))) (v_beh (t := here) (m := m) (D.mono ((e1.trans e2).trans e7)) wf hmem)) (show oI (Sy47.moved s here m) = nI u by rw [hmv]; rfl)) fun H8 e8 => ?_
        refine ⟨u, pre ++ [m], _, _, rfl, e7.trans e8, ?_, ?_, ?_, ?_⟩
        · rw [nv_snoc]
          exact e8 _ _ upd_same
        · have : k - (i + 1) = j := by omega
          rw [this, ← hpl, mplan_cons hf1 hmv, List.append_assoc]
          rfl
        · rw [List.length_append, hlen]
          rfl
        · have : k - (i + 1) = j := by omega
          rw [this]
          exact hlu
      · obtain ⟨here, pre, v5, v6, rfl, eh, hp', hpl, hlen, hl⟩ := h
        have : k - (k : Int).toNat = 0 := by omega
        rw [this] at hpl
        have hpl : pre ++ [] = mplan s (dist s) k t := hpl
        rw [List.append_nil] at hpl
        subst hpl
        exact s_ret (ev_var rfl) fun H5 e5 => qS k hk p H5 (fresh_back (e1.trans e2) np) ((((e1.trans e2).trans eh)).trans e5) (e5 _ _ hp')
end
end Br
end
section
set_option maxRecDepth 100000
set_option maxHeartbeats 4000000
namespace Br
open PySem PySem.Spec PyProof.Rows L2 Evl
open BrA BrB BrC BrD

/-! ### a dict of truth values by numbers -/
def kb (L : List Nat) : List (Key × V) := L.map fun (t : Nat) => ((Sum.inl (t : Int) : Key), V.bl true)
theorem kb_val (L : List Nat) (t : Nat) : valV (kb L) (Sum.inl (t : Int)) = if t ∈ L then some (.bl true) else none := by
  unfold kb
  induction L with
  | nil => rfl
  | cons a r ih =>
    rw [List.map_cons]
    by_cases e : a = t
    · subst e
      rw [valV_pos rfl, if_pos List.mem_cons_self]
    · rw [valV_neg (fun z => e (key_inj.mp z)), ih]
      by_cases h : t ∈ r
      · rw [if_pos h, if_pos (List.mem_cons_of_mem _ h)]
      · rw [if_neg h, if_neg fun z => by
          rcases List.mem_cons.mp z with z | z
          · exact e z.symm
          · exact h z]
theorem kb_put {L : List Nat} {t : Nat} (h : ¬ t ∈ L) : putK (kb L) (Sum.inl (t : Int)) (.bl true) = kb (L ++ [t]) := by
  rw [putK_new _ (by rw [kb_val, if_neg h])]
  unfold kb
  rw [List.map_append]
  rfl
section
variable {K : PySem.W.Frag} {σ : L2.St} {H : Hp} {td ty tk tv : TE} {a : Addr} {L : List Nat} {t : Nat} {D : Ends} {tz : TS}
theorem ev_knotin (hy : Ev ty σ H (nI t)) (hd : Ev td σ H (.ref a)) (h : H a = some (.dK (kb L))) : Ev (tDNotIn ty td) σ H (.bl (!decide (t ∈ L))) := fun H1 e _ q =>
  hy H1 e _ fun H2 e2 => hd H2 (e.trans e2) _ fun H3 e3 => ⟨a, _, rfl, DGet.k (k := Sum.inl (t : Int)) (((e.trans e2).trans e3) _ _ h), by
    have : (!(valV (kb L) (Sum.inl (t : Int))).isSome) = !decide (t ∈ L) := by
      rw [kb_val]
      by_cases h : t ∈ L
      · simp [h]
      · simp [h]
    rw [this]
    exact q H3 (e2.trans e3)⟩
theorem en_kdisp {b : Nat} (hk : ∀ H1, Ex H H1 → Ev tk σ H1 (nI b)) (hv : ∀ H1, Ex H H1 → Ev tv σ H1 (.bl true)) : EvNew (tDisp [(tk, tv)]) σ H (.dK (kb [b])) := fun H1 e _ q p hp =>
  hk _ (e.trans (Ex.new hp)) _ (Ex.refl _) _ fun H2 e2 => hv _ ((e.trans (Ex.new hp)).trans e2) _ (Ex.refl _) _ fun H3 e3 => by
    have h3 : H3 p = some (.dK []) := e3 _ _ (e2 _ _ upd_same)
    refine ⟨h3, [(Sum.inl (b : Int), .bl true)], rfl, (by show 1 ≤ 15; decide), q p _ hp (fun x o hx => ?_) ?_⟩
    · rw [upd_ne (ne_of_none hx hp)]
      exact e3 _ _ (e2 _ _ (Ex.new hp _ _ hx))
    · rw [upd_same]
      rfl
theorem q_kput (hv : Ev tv σ H (.bl true)) (hd : Ev td σ H (.ref a)) (hy : Ev ty σ H (nI t)) (h : H a = some (.dK (kb L))) (hn : ¬ t ∈ L) (hl : L.length < 100000) (kk : ∀ H1, Ex H H1 → tz D σ (upd H1 a (.dK (kb (L ++ [t]))))) : tSeq (sDPut td ty tv) tz D σ H :=
  hv H (Ex.refl H) _ fun H1 e1 => hd H1 e1 _ fun H2 e2 => hy H2 (e1.trans e2) _ fun H3 e3 => ⟨a, _, rfl, DPut.k (k := Sum.inl (t : Int)) (((e1.trans e2).trans e3) _ _ h) (sz_lt (by unfold kb; rw [List.length_map]; exact hl)), by
    rw [kb_put hn]
    exact kk H3 ((e1.trans e2).trans e3)⟩
end

/-! ### min of a list of pairs of numbers -/
def lexP (a b : Int × Int) : Bool := HT.lexLt [a.1, a.2] [b.1, b.2]
def minP (x : Int × Int) (xs : List (Int × Int)) : Int × Int := xs.foldl (fun a y => if lexP y a then y else a) x
def pV (p : Int × Int) : List V := [.int p.1, .int p.2]
def rMinT (K : PySem.W.Frag) : List V → Hp → VK → Prop := fun vs H Q => ∃ (a : Addr) (rs : List Addr) (x : Int × Int) (xs : List (Int × Int)), vs = [V.ref a] ∧ SqL K H a (rs.map V.ref) ∧ rs.length = xs.length + 1 ∧
  (∀ (i : Nat) (r : Addr) (p : Int × Int), rs[i]? = some r → (x :: xs)[i]? = some p → SqT K H r (pV p)) ∧ ∀ r, SqT K H r (pV (minP x xs)) → Q (.ref r) H
theorem cr_minT {X : Cx} (hc : X.calm = true) (hu : X.A.units + 1 < cLine) : CallR X (.builtin "min") (rMinT X.K) := by
  intro pins s σ H vs us Q I r h
  obtain ⟨a, rs, x, xs, rfl, hs, hn, ht, q⟩ := h
  obtain ⟨its, rv, hl, _⟩ := I.list hs
  rw [Vals.ref1 r]
  have hlen := rv.length
  rw [List.length_map] at hlen
  -- what stands at the i-th place
  have place : ∀ (i : Nat) (v : Value), its.toArray[i]? = some v → ∃ r, rs[i]? = some r ∧ v = .ref r ∧ SqT X.K H r (pV ((x :: xs).getD i (0, 0))) := fun i v hv => by
    rw [List.getElem?_toArray] at hv
    have hi := (List.getElem?_eq_some_iff.mp hv).1
    have hr : rs[i]? = some rs[i] := List.getElem?_eq_getElem (by omega)
    obtain ⟨u, hu1, ru⟩ := rv.get (i := i) (x := V.ref rs[i]) (by rw [List.getElem?_map, hr]; rfl)
    rw [hv] at hu1
    obtain rfl : v = u := Option.some.inj hu1
    have hp : (x :: xs)[i]? = some ((x :: xs).getD i (0, 0)) := by
      have : i < (x :: xs).length := by
        rw [List.length_cons]
        omega
      rw [List.getD_eq_getElem?_getD, List.getElem?_eq_getElem this]
      rfl
    exact ⟨_, hr, ru, ht i _ _ hr hp⟩
  refine call_min_walkH (PySem.W.iter_listW (A := X.A.in1) (I.ok.hd hc) hl.isList fun s2 e W st hfp hw hk => ?_)
  refine ⟨_, _, _, _, _, _, _, s.heap, fun i j => lexP ((x :: xs).getD i (0, 0)) ((x :: xs).getD j (0, 0)), rfl, W, st, hfp, ?_, hw, hk, fun i j vi vj s' Q' E' hk' hi hj hq => ?_, fun v s' hP m => ?_⟩
  · rw [List.size_toArray]
    omega
  · obtain ⟨r1, _, rfl, t1⟩ := place i vi hi
    obtain ⟨r2, _, rfl, t2⟩ := place j vj hj
    obtain ⟨its1, v1, p1, _⟩ := I.tuple t1
    obtain ⟨its2, v2, p2, _⟩ := I.tuple t2
    have up : ∀ {b : Addr} {items : Array Value}, IsTup s.heap b items → IsTup s'.heap b items := fun {b items} ⟨o, ho, r⟩ => ⟨o, hk' _ _ ho, r⟩
    exact HT.lt_tupInts (up p1) (up p2) (intsAre_of (ns := [_, _]) v1) (intsAre_of (ns := [_, _]) v2) (show X.A.units + 1 < cLine from hu) hq
  · obtain ⟨h', tk, rfl, hk'⟩ := PySem.W.moved_old e rfl m
    obtain ⟨r, _, rfl, tr⟩ := place _ v hP
    refine ⟨.ref r, H, I.kept hk', rfl, q r ?_⟩
    have e1 : its.toArray.size - 1 = xs.length := by
      rw [List.size_toArray]
      omega
    rw [e1] at tr
    have e2 := (PySem.W.argBest_fold lexP (0, 0) x xs xs.length (Nat.le_refl _)).2
    rw [List.take_length] at e2
    rw [e2] at tr
    exact tr

/-! ### come_to, farthest, props_needed -/
theorem scCome : FnScope ["design", "stage", "found", "known", "at", "there"] ["design", "stage"] (defScope (top 24)) := ⟨rfl, rfl, rfl, by decide +kernel, rfl, by decide +kernel, by decide +kernel⟩
theorem scFar : FnScope ["design", "stages", "rows", "stage"] ["design", "stages"] (defScope (top 25)) := ⟨rfl, rfl, rfl, by decide +kernel, rfl, by decide +kernel, by decide +kernel⟩
theorem scNeed : FnScope ["design", "many"] ["design"] (defScope (top 26)) := ⟨rfl, rfl, rfl, by decide +kernel, rfl, by decide +kernel, by decide +kernel⟩
def spCome (CD : Addr) : Sp := fun vs H Q _ => ∃ (d : Addr) (s : Ds) (t : Nat), vs = [.ref d, nI t] ∧ DesignAt CD H d s ∧ Wf s ∧ Good s t ∧ RetL (nv (reach s t)) H Q
def spFar (CD : Addr) : Sp := fun vs H Q _ => ∃ (d : Addr) (s : Ds) (a : Addr) (l : List Nat), vs = [.ref d, .ref a] ∧ DesignAt CD H d s ∧ Wf s ∧ H a = some (.lst (nv l)) ∧ l ≠ [] ∧ l.length ≤ 1000 ∧ RetV (nI (best s l)) H Q
def spNeed (CD : Addr) : Sp := fun vs H Q _ => ∃ (d : Addr) (s : Ds), vs = [.ref d] ∧ DesignAt CD H d s ∧ Wf s ∧ RetV (oI (need s)) H Q
theorem v_come {CD d : Addr} {H : Hp} {s : Ds} {t : Nat} (D : DesignAt CD H d s) (w : Wf s) (g : Good s t) : SpL (spCome CD) [.ref d, nI t] H (nv (reach s t)) := fun _ e _ q _ => ⟨d, s, t, rfl, D.mono e, w, g, q⟩
theorem v_far {CD d a : Addr} {H : Hp} {s : Ds} {l : List Nat} (D : DesignAt CD H d s) (w : Wf s) (h : H a = some (.lst (nv l))) (hn : l ≠ []) (hl : l.length ≤ 1000) : SpV (spFar CD) [.ref d, .ref a] H (nI (best s l)) := fun _ e _ q _ => ⟨d, s, a, l, rfl, D.mono e, w, e _ _ h, hn, hl, q⟩
theorem v_need {CD d : Addr} {H : Hp} {s : Ds} (D : DesignAt CD H d s) (w : Wf s) : SpV (spNeed CD) [.ref d] H (oI (need s)) := fun _ e _ q _ => ⟨d, s, rfl, D.mono e, w, q⟩
theorem puts_more {us L : List Nat} {i u : Nat} (h : us[i]? = some u) : (us.take (i + 1)).foldl put L = put ((us.take i).foldl put L) u := by
  rw [take_more h, List.foldl_append]
  rfl
def negP (s : Ds) (t : Nat) : Int × Int := (-(((pin s t).length : Nat) : Int), (t : Int))
theorem lexP_nearer (s : Ds) (t m : Nat) : lexP (negP s t) (negP s m) = nearer s t m := by
  unfold lexP nearer negP
  rw [HT.lexLt_cons, HT.lexLt_cons, HT.lexLt_nil_nil]
  rw [Bool.eq_iff_iff, Bool.or_eq_true, Bool.and_eq_true, decide_eq_true_iff, decide_eq_true_iff, decide_eq_true_iff]
  by_cases e : -(((pin s t).length : Nat) : Int) = -(((pin s m).length : Nat) : Int)
  · rw [if_pos e]
    by_cases e2 : (t : Int) = (m : Int)
    · rw [if_pos e2]
      constructor
      · intro z; cases z
      · intro z; omega
    · rw [if_neg e2, decide_eq_true_iff]
      constructor
      · intro z; exact .inr ⟨e, z⟩
      · intro z; omega
  · rw [if_neg e, decide_eq_true_iff]
    constructor
    · intro z; exact .inl z
    · intro z; omega
theorem minP_best (s : Ds) (t : Nat) (r : List Nat) : minP (negP s t) (r.map (negP s)) = negP s (best s (t :: r)) := by
  unfold minP
  show _ = negP s (r.foldl (fun m u => if nearer s u m = true then u else m) t)
  induction r generalizing t with
  | nil => rfl
  | cons u r ih =>
    rw [List.map_cons, List.foldl_cons, List.foldl_cons, ← ih]
    congr 1
    rw [lexP_nearer]
    by_cases c : nearer s u t = true
    · rw [if_pos c, if_pos c]
    · rw [if_neg c, if_neg c]
section
variable {P : Program} {w : World} {K : PySem.W.Frag} {mg : Str → Option Value} {base : Heap} {CD CK : Addr}
theorem c_come (T : Txt K mg CD CK) (D : DefT K mg "come_to" (top 24)) (cW : Cal P w K mg base 5 "stages_behind" (spWays CD)) : Cal P w K mg base 6 "come_to" (spCome CD) := by
  obtain ⟨f, fd, F, hm⟩ := D
  refine ⟨f, fd, ["design", "stage"], F.ok scCome (fun vs H Q E h => ?_) (fun cdv A outer s H vs Q E hr h => ?_), hm, F.kp, F.binds fun _ _ _ _ _ _ us hl => match us, hl with | [_, _], _ => rfl⟩
  · obtain ⟨d, s, t, rfl, _⟩ := h
    rfl
  · obtain ⟨d, s, t, rfl, D, wf, g, q⟩ := h
    have hu := hu_of hr
    refine ⟨_, pss_cons (ps_set (i := 2) scCome.nd rfl (Or.inl rfl) (pe_lst (pa_cons (pv 1) pa_nil)))
      (pss_cons (ps_set (i := 3) scCome.nd rfl (Or.inl rfl) (pe_disp (pps_cons (pv 1) pe_bl pps_nil) (by rfl) (by rfl) (fun z => by cases z) (by decide)))
      (pss_cons (ps_set (i := 4) scCome.nd rfl (Or.inl rfl) pe_int)
      (pss_cons (ps_while PassesOwn.never (pt_cmpR op_lt (pv 4) (pe_callB call_len_seq (by rfl) T.len boot_len (pa_cons (pv 2) pa_nil)) (nomark _))
        (pss_cons (ps_for PassesOwn.never rfl (pi_list (pe_c cW hr (by decide) rfl (pa_cons (pv 0) (pa_cons (pe_ix ix_list (pv 2) (pv 4) (fun _ _ => rfl)) pa_nil)))) (pg_name (i := 5) scCome.nd rfl (Or.inl rfl))
          (pss_one (ps_if (pt_cmp (pc_dnotin hu (pv 5) (pv 3))) (pss_cons (ps_dput hu (pv 3) (pv 5) pe_bl rfl) (pss_one (ps_expr (pe_bm PySem.F.plainAttrs_list PySem.F.slot_list_append PySem.F.type_list_append mt_append (pv 2) (pa_cons (pv 5) pa_nil))))) pss_nil)))
        (pss_one (ps_set (i := 4) scCome.nd rfl (Or.inl rfl) (pe_op op_add (pv 4) pe_int)))))
      (pss_one (ps_ret (pv 2)))))), ?_⟩
    have h256 := wf.n256
    refine q_asgL (el_lst (ea_cons (ev_var rfl) ea_nil) (by show 1 ≤ 100000; decide)) fun pf H1 nf e1 hf => ?_
    refine q_asgN (en_kdisp (b := t) (fun _ _ => ev_var rfl) (fun _ _ => ev_c)) fun pk H2 nk e2 hk => ?_
    refine q_asg (ev_c (v := nI 0)) fun H3 e3 => ?_
    have nkH : H pk = none := fresh_back e1 nk
    have nfk : pf ≠ pk := fun z => by
      rw [← z, hf] at nk
      cases nk
    refine q_while (fun m σ H' => ∃ (i : Nat) (L : List Nat) (v5 : Option V), σ = [some (.ref d), some (nI t), some (.ref pf), some (.ref pk), some (nI i), v5] ∧ Ex H H' ∧ H' pf = some (.lst (nv L)) ∧ H' pk = some (.dK (kb L)) ∧ BrD.Co s t m i L)
      300 ⟨0, [t], none, rfl, (e1.trans e2).trans e3, e3 _ _ (e2 _ _ hf), e3 _ _ hk, BrD.Co.start wf g⟩ fun m σ H4 h => ?_
    obtain ⟨i, L, v5, rfl, eh, hf, hk, co⟩ := h
    have hLl := co.len
    refine ⟨_, et_test (ev_op (ev_var rfl) (ev_len (ev_var rfl) (sq_of hf)) rv_I0), fun hb H5 e5 => ?_, fun hb H5 e5 => ?_⟩
    · have hi : i < L.length := by
        have := of_decide_eq_true hb
        rw [nv_len] at this
        omega
      obtain ⟨m', rfl⟩ : ∃ m', m = m' + 1 := ⟨m - 1, by have := co.fu; omega⟩
      have hLi : L[i]? = some L[i] := List.getElem?_eq_getElem hi
      have hst := co.step wf hLi
      have eh5 := eh.trans e5
      refine ⟨fun σ' H' => ∃ v5, σ' = [some (.ref d), some (nI t), some (.ref pf), some (.ref pk), some (nI (i + 1)), v5] ∧ Ex H H' ∧ H' pf = some (.lst (nv (grow s L L[i]))) ∧ H' pk = some (.dK (kb (grow s L L[i]))), fun σ2 H6 h => ?_, ?_⟩
      · obtain ⟨v5, rfl, eh, hf, hk⟩ := h
        exact ⟨m', Nat.lt_succ_self _, i + 1, _, v5, rfl, eh, hf, hk, hst⟩
      · refine q_forNLn (xs := nv (ways s L[i])) (el_call (ea_cons (ev_var rfl) (ea_cons (ev_op (ev_var rfl) (ev_var rfl) (rv_ixL (sq_of (e5 _ _ hf)) (atI_nat (v := nI L[i]) (by unfold nv; rw [List.getElem?_map, hLi]; rfl)))) ea_nil)) (v_ways (D.mono eh5) wf))
          (fun p j σ' H' => ∃ v5, σ' = [some (.ref d), some (nI t), some (.ref pf), some (.ref pk), some (nI i), v5] ∧ Ex H H' ∧ H' pf = some (.lst (nv (((ways s L[i]).take j).foldl put L))) ∧ H' pk = some (.dK (kb (((ways s L[i]).take j).foldl put L))) ∧ H' p = some (.lst (nv (ways s L[i]))) ∧ p ≠ pf)
          (fun p H6 np e6 hp => ⟨_, rfl, eh5.trans e6, e6 _ _ (e5 _ _ hf), e6 _ _ (e5 _ _ hk), hp, fun z => by rw [z, e5 _ _ hf] at np; cases np⟩) (fun p j σ' H' _ h => ?_) (fun p j x σ' H' hx h => ?_) (fun p σ' H' h => ?_)
        · obtain ⟨_, _, _, _, _, h, _⟩ := h
          exact sq_of h
        · obtain ⟨v5, rfl, eh', hf', hk', hp', npf⟩ := h
          obtain ⟨u, hu', rfl⟩ := nv_at hx
          have hlen : (((ways s L[i]).take j).foldl put L).length ≤ 1000 := by
            obtain ⟨R, eR⟩ := puts_pre ((ways s L[i]).take j) L
            have h1 : ∀ (us L : List Nat), (us.foldl put L).length ≤ L.length + us.length := by
              intro us
              induction us with
              | nil => intro L; exact Nat.le_refl _
              | cons a r ih =>
                intro L
                rw [List.foldl_cons]
                refine Nat.le_trans (ih _) ?_
                unfold put
                split
                · rw [List.length_cons]; omega
                · rw [List.length_append, List.length_cons]; simp only [List.length_cons, List.length_nil]; omega
            have h2 := h1 ((ways s L[i]).take j) L
            have h3 : ((ways s L[i]).take j).length ≤ (ways s L[i]).length := List.length_take_le' _ _
            have h4 := ways_len wf L[i]
            omega
          refine s_when (et_B (ev_knotin (t := u) (ev_var rfl) (ev_var rfl) hk')) (fun hb H6 e6 => ?_) (fun hb H6 e6 => ?_)
          · have hn : ¬ u ∈ ((ways s L[i]).take j).foldl put L := by simpa using hb
            have hput : ((ways s L[i]).take (j + 1)).foldl put L = ((ways s L[i]).take j).foldl put L ++ [u] := by
              rw [puts_more hu']
              exact if_neg hn
            refine q_kput (t := u) ev_c (ev_var rfl) (ev_var rfl) (e6 _ _ hk') hn (by omega) fun H7 e7 => ?_
            have hf7 : (upd H7 pk (.dK (kb (((ways s L[i]).take j).foldl put L ++ [u])))) pf = some (.lst (nv (((ways s L[i]).take j).foldl put L))) := by
              rw [upd_ne nfk]
              exact e7 _ _ (e6 _ _ hf')
            refine s_app hf7 (ev_var rfl) (ev_var rfl) (by rw [nv_len]; omega) fun H8 e8 => ?_
            have hpk : p ≠ pk := fun z => by
              rw [z, hk'] at hp'
              cases hp'
            refine ⟨_, rfl, Ex.mut ((Ex.mut ((eh'.trans e6).trans e7) nkH).trans e8) nf, ?_, ?_, ?_, npf⟩
            · rw [upd_same, hput, nv_snoc]
            · rw [upd_ne nfk.symm, hput]
              exact e8 _ _ upd_same
            · rw [upd_ne npf]
              exact e8 _ _ (by rw [upd_ne hpk]; exact e7 _ _ (e6 _ _ hp'))
          · have hin : u ∈ ((ways s L[i]).take j).foldl put L := by simpa using hb
            have hput : ((ways s L[i]).take (j + 1)).foldl put L = ((ways s L[i]).take j).foldl put L := by
              rw [puts_more hu']
              exact if_pos hin
            refine ⟨_, rfl, eh'.trans e6, ?_, ?_, e6 _ _ hp', npf⟩
            · rw [hput]
              exact e6 _ _ hf'
            · rw [hput]
              exact e6 _ _ hk'
        · obtain ⟨v5, rfl, eh', hf', hk', hp', npf⟩ := h
          rw [nv_len, List.take_length] at hf' hk'
          exact s_asg (ev_op (ev_var rfl) (ev_c (v := nI 1)) rv_add) fun H7 e7 => ⟨v5, rfl, eh'.trans e7, e7 _ _ hf', e7 _ _ hk'⟩
    · have hi : L.length ≤ i := by
        have := of_decide_eq_false hb
        rw [nv_len] at this
        omega
      have hL := co.done hi
      subst hL
      exact s_ret (ev_var rfl) fun H6 e6 => q pf H6 nf ((eh.trans e5).trans e6) (e6 _ _ (e5 _ _ hf))
theorem c_far (T : Txt K mg CD CK) (D : DefT K mg "farthest" (top 25)) (cP : Cal P w K mg base 2 "pieces_in" (spPin CD)) : Cal P w K mg base 3 "farthest" (spFar CD) := by
  obtain ⟨f, fd, F, hm⟩ := D
  refine ⟨f, fd, ["design", "stages"], F.ok scFar (fun vs H Q E h => ?_) (fun cdv A outer s H vs Q E hr h => ?_), hm, F.kp, F.binds fun _ _ _ _ _ _ us hl => match us, hl with | [_, _], _ => rfl⟩
  · obtain ⟨d, s, a, l, rfl, _⟩ := h
    rfl
  · obtain ⟨d, s, a, l, rfl, D, wf, ha, hne, hll, q⟩ := h
    have hu := hu_of hr
    refine ⟨_, pss_cons (ps_setLc (i := 2) (own := [("stage", 3)]) (g := gName 3) (te := tTup (tCons (tUn (rU fun i => .int (-i)) (tCB (rLenS K) (tCons (tCall (spPin CD) [] E0 (tCons (tVar 0) (tCons (tVar 3) tNil))) tNil))) (tCons (tVar 3) tNil))) (by rfl) scFar.nd rfl rfl (sw_true rfl rfl rfl (by decide +kernel)) (pi_list (pv 1)) (blkOk_by (N := ["design", "stages", "rows", "stage"]) (sc := defScope (top 25)) (by decide +kernel))
        (fun _ _ _ _ _ => pg_name (i := 3) scFar.nd rfl (Or.inl rfl)) (fun _ _ _ _ _ => pts_nil) (fun _ _ _ _ _ => pe_tup (pa_cons (pe_un un_neg (pe_callB call_len_seq (by rfl) T.len boot_len (pa_cons (pe_c cP hr (by decide) rfl (pa_cons (pv 0) (pa_cons (pv 3) pa_nil))) pa_nil))) (pa_cons (pv 3) pa_nil))))
      (pss_one (ps_ret (pe_ix ix_tup (pe_callB (cr_minT rfl hu) (by rfl) T.min (by decide +kernel) (pa_cons (pv 2) pa_nil)) pe_int (fun _ _ => rfl)))), ?_⟩
    refine q_asgO (eo_lst (ys := l) nI (fun t => .tup (pV (negP s t))) (ev_var rfl) (sq_of ha) (by omega) (fun _ => rfl) fun t H1 e1 _ => ?_) fun p rs H1 np e1 hp ob => ?_
    · exact eu_tup (ea_cons (ev_un (ev_is (ev_lenN (xs := nv (pin s t)) (el_call (ea_cons (ev_var rfl) (ea_cons (ev_var rfl) ea_nil)) (v_pin (D.mono e1) wf))) (by rw [nv_len])) ru_neg) (ea_cons (ev_var rfl) ea_nil)) (by show 2 ≤ 100000; decide)
    · have hlen := ob.len
      rw [List.length_map] at hlen
      cases l with
      | nil => exact absurd rfl hne
      | cons t r =>
        refine ⟨_, rfl, p, rs, negP s t, r.map (negP s), rfl, sq_of hp, by rw [hlen, List.length_cons, List.length_map], fun i x pr hx hpr => ?_, fun x hx => ?_⟩
        · have hpr : ((t :: r).map (negP s))[i]? = some pr := hpr
          rw [List.getElem?_map] at hpr
          refine st_of (ob.at_ i x _ hx ?_)
          rw [List.getElem?_map]
          cases e : (t :: r)[i]? with
          | none => rw [e] at hpr; cases hpr
          | some u =>
            rw [e] at hpr
            obtain rfl : negP s u = pr := Option.some.inj hpr
            rfl
        · rw [minP_best] at hx
          exact ⟨x, pV (negP s (best s (t :: r))), ((1 : Nat) : Int), nI (best s (t :: r)), rfl, rfl, hx, atI_nat rfl, q H1 e1⟩
theorem en_distD {σ : L2.St} {H : Hp} {te : TE} {CD : Addr} {s' : Ds} (wf : Wf s') (h : ∀ H1, Ex H H1 → ∀ Q : VK, (∀ p H2, Ex H1 H2 → DesignAt CD H2 p s' → Q (.ref p) H2) → te σ H1 Q) : EvNew (tCall (spDist CD) [] E0 (tCons te tNil)) σ H (.dK (dv (dist s'))) := fun H1 e Q q =>
  h H1 e _ fun p H2 e2 D => ⟨p, s', rfl, D, wf, fun r H3 hr e3 h3 => q r H3 (fresh_back e2 hr) (e2.trans e3) h3⟩
theorem c_need (T : Txt K mg CD CK) (D : DefT K mg "props_needed" (top 26)) (cD : Cal P w K mg base 6 "distances" (spDist CD)) (mW : Met P w K mg base CX0 3 CD "with_at_once" (spWithAt CD)) : Cal P w K mg base 7 "props_needed" (spNeed CD) := by
  obtain ⟨f, fd, F, hm⟩ := D
  refine ⟨f, fd, ["design"], F.ok scNeed (fun vs H Q E h => ?_) (fun cdv A outer s H vs Q E hr h => ?_), hm, F.kp, F.binds fun _ _ _ _ _ _ us hl => match us, hl with | [_], _ => rfl⟩
  · obtain ⟨d, s, rfl, _⟩ := h
    rfl
  · obtain ⟨d, s, rfl, D, wf, q⟩ := h
    have hu := hu_of hr
    refine ⟨_, pss_cons (ps_for PassesOwn.never rfl (pi_range1 rfl T.range (pa_cons (pe_op op_add (pe_fld (pv 0) rfl) pe_int) pa_nil)) (pg_name (i := 1) scNeed.nd rfl (Or.inl rfl))
        (pss_one (ps_if (pt_cmp (pc_din hu pe_int (pe_c cD hr (by decide) rfl (pa_cons (pe_mt T.cd mW pass0 hr (by decide) (pv 0) (pa_cons (pv 1) pa_nil)) pa_nil)))) (pss_one (ps_ret (pv 1))) pss_nil)))
      (pss_one (ps_ret pe_non)), ?_⟩
    have q2 := wf.q2
    refine q_forR1 (n := ((s.props + 1 : Nat) : Int)) (ea_cons (ev_op (ev_props T D (ev_var rfl)) (ev_c (v := nI 1)) rv_add) ea_nil) (by omega)
      (fun i σ H' => ∃ v1, σ = [some (.ref d), v1] ∧ Ex H H' ∧ ((List.range (s.props + 1)).take i).find? (fun k => ((dist (Sy47.anew s k)).lookup 0).isSome) = none)
      (fun H1 e1 => ⟨none, rfl, e1, rfl⟩) (fun i σ H' hi h => ?_) (fun σ H' h => ?_)
    · obtain ⟨v1, rfl, eh, hn⟩ := h
      have hi' : i < s.props + 1 := by omega
      have D' := D.mono eh
      obtain ⟨dx, b, rs, D0⟩ := id D'
      have hri : (List.range (s.props + 1))[i]? = some i := List.getElem?_range hi'
      have key : EvT (tB (tDIn (tC (.int 0)) (tCall (spDist CD) [] E0 (tCons (tMeth CD "with_at_once" (spWithAt CD) [] E0 (tVar 0) (tCons (tVar 1) tNil)) tNil)))) [some (.ref d), some (.int (i : Int))] H' (((dist (Sy47.anew s i)).lookup 0).isSome) := fun H1 e1 Q kq =>
        en_distD (anew_wf wf (k := i) (by omega)) (fun H2 e2 Q2 k2 => ⟨_, rfl, d, dx, _, rfl, e2 _ _ D0.o, dF_no s b (by decide +kernel) (by decide +kernel) (by decide +kernel) (by decide +kernel), _, rfl, d, s, i, rfl, D'.mono e2, wf, fun p H3 e3 D3 => k2 p H3 e3 D3⟩) H1 e1 _ fun p H2 _ e2 h2 => ⟨p, _, rfl, dget (t := 0) h2, _, rfl, by
          have : (((dist (Sy47.anew s i)).lookup 0).map nI).isSome = ((dist (Sy47.anew s i)).lookup 0).isSome := by cases (dist (Sy47.anew s i)).lookup 0 <;> rfl
          rw [this]
          exact kq H2 e2⟩
      refine s_when key (fun hb H1 e1 => ?_) (fun hb H1 e1 => ?_)
      · have : need s = some i := find_take hn hri hb
        rw [this] at q
        exact s_ret (ev_var rfl) fun H2 e2 => q H2 ((eh.trans e1).trans e2)
      · exact ⟨_, rfl, eh.trans e1, find_more hn hri hb⟩
    · obtain ⟨v1, rfl, eh, hn⟩ := h
      have : ((List.range (s.props + 1)).take ((s.props + 1 : Nat) : Int).toNat) = List.range (s.props + 1) := List.take_of_length_le (by rw [List.length_range]; omega)
      rw [this] at hn
      have : need s = none := hn
      rw [this] at q
      exact s_ret ev_c fun H1 e1 => q H1 (eh.trans e1)
end
end Br
end
section
set_option maxRecDepth 100000
set_option maxHeartbeats 4000000
namespace Br
open PySem PySem.Spec PyProof.Rows L2 Evl
open BrA BrB BrC BrD

/-! ### bridge.py: the error, want, listed -/
/-- what the top has written for bridge.py -/
structure TxtR (K : PySem.W.Frag) (mg : Str → Option Value) (CR fI : Addr) : Prop where
  oex : OexC K CR
  iC : PySem.W.findIn K (.ref CR) "__init__" = some (some (.ref fI))
  tI : PySem.W.typeIn K (.ref fI) = some (.type "function")
  gR : mg "Refused" = some (.ref CR)
  noC : PySem.W.findIn K (.ref CR) "code" = some none
  xf : XfC K CR
  te : PySem.W.exmOne K (.ref CR) (.ref CR) = some true
  ve : mg "ValueError" = none
  vV : PySem.W.findCls K (.type "ValueError") (.type "type") "__init__" = some (.val (.builtin "ValueError.__init__"))
  bad : ∃ t, mg "BAD" = some (.int (-1) t)
  noPiece : ∃ t, mg "NO_PIECE" = some (.int (-2) t)
  notEmpty : ∃ t, mg "NOT_EMPTY" = some (.int (-4) t)
  full : ∃ t, mg "FULL" = some (.int (-5) t)
  cant : ∃ t, mg "CANT_BE" = some (.int (-6) t)
  mPieces : ∃ t, mg "MOST_PIECES" = some (.int 6 t)
  mProps : ∃ t, mg "MOST_PROPS" = some (.int 2 t)
  mBases : ∃ t, mg "MOST_BASES" = some (.int 4 t)
  numbers : ∃ a, mg "NUMBERS" = some (.ref a) ∧ ∀ H, SqT K H a (nv [3, 2, 1, 1, 1, 0, 0, 0, 0, 0, 0, 0])
abbrev sRInit : Stmt := inClass (top 37) 0
theorem scRInit : FnScope ["self", "number"] ["self", "number"] (defScope sRInit) := ⟨rfl, rfl, rfl, by decide +kernel, rfl, by decide +kernel, by decide +kernel⟩
theorem scWant : FnScope ["truth", "number"] ["truth", "number"] (defScope (top 38)) := ⟨rfl, rfl, rfl, by decide +kernel, rfl, by decide +kernel, by decide +kernel⟩
theorem scListed : FnScope ["some"] ["some"] (defScope (top 39)) := ⟨rfl, rfl, rfl, by decide +kernel, rfl, by decide +kernel, by decide +kernel⟩
def spRInit (CR : Addr) : Sp := fun vs H Q _ => ∃ (a : Addr) (v : V), vs = [.ref a, v] ∧ H a = some (exo a CR none) ∧ ∀ dx, H dx = none → dx ≠ a → Q .non (upd (upd H dx (exd dx [(("code" : Str), v)])) a (exo a CR (some dx)))
/-- the refusal with the number n leaves the def -/
def RetX (CR : Addr) (n : Int) (H : Hp) (E : XK) : Prop := ∀ H2 d, Ex H H2 → H d = none → H2 d = some (.xd [(("code" : Str), V.int n)]) → E (.ref CR) (some d) H2
theorem RetX.go {CR : Addr} {n : Int} {H H' : Hp} {E : XK} (r : RetX CR n H E) (e : Ex H H') : RetX CR n H' E := fun H2 d e2 hd h2 => r H2 d (e.trans e2) (fresh_back e hd) h2
def spWant (CR : Addr) : Sp := fun vs H Q E => ∃ (c : Bool) (n : Int), vs = [.bl c, .int n] ∧ (c = true → RetV .non H Q) ∧ (c = false → RetX CR n H E)
def spListed : Sp := fun vs H Q _ => ∃ (a : Addr) (l : List Nat), vs = [.ref a] ∧ H a = some (.lst (nv l)) ∧ l.length ≤ 50000 ∧ RetL (nv (l.length :: l)) H Q
theorem v_listed {H : Hp} {a : Addr} {l : List Nat} (h : H a = some (.lst (nv l))) (hl : l.length ≤ 50000) : SpL spListed [.ref a] H (nv (l.length :: l)) := fun _ e _ q _ => ⟨a, l, rfl, e _ _ h, hl, q⟩
/-- a def that may raise, called -/
structure CalX (P : Program) (w : World) (K : PySem.W.Frag) (mg : Str → Option Value) (base : Heap) (k : Nat) (x : Str) (sp : Sp) : Prop where
  ex : ∃ (f : Addr) (fd : FuncData) (ps : List Str), FnOk P w K mg base (L2.CX P w) k f fd ps sp ∧ mg x = some (.ref f) ∧ PySem.W.keepIn K (.ref f) = true ∧ Binds K fd ps []
theorem pe_cX {X : Cx} {k j : Nat} {x : Str} {sp : Sp} {p pos : Pos} {e : Expr} {es : List Expr} {t : TA} {E : XK} (c : CalX X.prog X.w X.K X.mg X.base k x sp) (hx : Passes (L2.CX X.prog X.w) X E) (hr : Room j X.A) (hk : k ≤ j) (hg : Gl X x) (ha : PA X (e :: es) t)
    (hdb : (x == ("__debug__" : Str)) = false := by decide) (he : starEach (e :: es) X.env = (false, eval e X.env) :: starEach es X.env := by rfl) (hpl : (backTo pos (starEach es X.env)).any (·.1) = false := by rfl) :
    PE X (.Call (.Name x p) (e :: es) [] pos) (tCall sp [] E t) := by
  obtain ⟨f, fd, ps, F, hm, kp, b⟩ := c.ex
  exact pe_call F (hr.mono hk) hg hm kp b .nil hx ha hdb he hpl
/-- want(c, n) -/
theorem q_want {CR : Addr} {σ : L2.St} {H : Hp} {tc tn : TE} {c : Bool} {n : Int} {E : XK} {D : Ends} {tz : TS} (hc : Ev tc σ H (.bl c)) (hn : Ev tn σ H (.int n)) (h1 : c = true → ∀ H1, Ex H H1 → tz D σ H1) (h2 : c = false → RetX CR n H E) :
    tSeq (tDrop (tCall (spWant CR) [] E (tCons tc (tCons tn tNil)))) tz D σ H :=
  hc H (Ex.refl H) _ fun H1 e1 => hn H1 e1 _ fun H2 e2 => ⟨c, n, rfl, fun z H3 e3 => h1 z H3 ((e1.trans e2).trans e3), fun z => (h2 z).go (e1.trans e2)⟩
theorem s_want {CR : Addr} {σ : L2.St} {H : Hp} {tc tn : TE} {c : Bool} {n : Int} {E : XK} {D : Ends} (hc : Ev tc σ H (.bl c)) (hn : Ev tn σ H (.int n)) (h1 : c = true → ∀ H1, Ex H H1 → D.nx σ H1) (h2 : c = false → RetX CR n H E) :
    tDrop (tCall (spWant CR) [] E (tCons tc (tCons tn tNil))) D σ H :=
  hc H (Ex.refl H) _ fun H1 e1 => hn H1 e1 _ fun H2 e2 => ⟨c, n, rfl, fun z H3 e3 => h1 z H3 ((e1.trans e2).trans e3), fun z => (h2 z).go (e1.trans e2)⟩
section
variable {P : Program} {w : World} {K : PySem.W.Frag} {mg : Str → Option Value} {base : Heap} {CD CK CR fI : Addr}
theorem f_rinit {fdI : FuncData} (R : TxtR K mg CR fI) (F : Fun K "__init__" "Refused.__init__" sRInit fI fdI) : FnOk P w K mg base CX0 1 fI fdI ["self", "number"] (spRInit CR) := by
  refine F.ok scRInit (fun vs H Q E h => ?_) (fun cdv A outer s H vs Q E hr h => ?_)
  · obtain ⟨a, v, rfl, _⟩ := h
    rfl
  · obtain ⟨a, v, rfl, ha, q⟩ := h
    refine ⟨_, pss_cons (ps_expr (pe_veinit rfl R.ve R.vV (pa_cons (pv 0) (pa_cons pe_str pa_nil)))) (pss_one (ps_ost (pv 0) (pv 1))), ?_⟩
    exact ⟨_, rfl, a, CR, [.str "refused"], rfl, by decide, R.oex, ha, _, rfl, _, rfl, a, CR, rfl, R.oex, R.noC, .inl ⟨ha, fun dx hd hne => q dx hd hne⟩⟩
theorem x_want {fdI : FuncData} (R : TxtR K mg CR fI) (FI : Fun K "__init__" "Refused.__init__" sRInit fI fdI) (D : DefT K mg "want" (top 38)) : CalX P w K mg base 3 "want" (spWant CR) := by
  obtain ⟨f, fd, F, hm⟩ := D
  have bI : Binds K fdI ["self", "number"] [] := FI.binds fun _ _ _ _ _ _ us hl => match us, hl with | [_, _], _ => rfl
  refine ⟨f, fd, ["truth", "number"], F.okX scWant (fun vs H Q E h => ?_) (fun cdv A outer s H vs Q E hr h => ?_), hm, F.kp, F.binds fun _ _ _ _ _ _ us hl => match us, hl with | [_, _], _ => rfl⟩
  · obtain ⟨c, n, rfl, _⟩ := h
    rfl
  · obtain ⟨c, n, rfl, h1, h2⟩ := h
    refine ⟨_, pss_one (ps_if (pt_not (pt_val (pv 0))) (pss_one (ps_raise rfl (takes_of rfl rfl rfl rfl) (pmk_oex R.oex R.iC R.tI (f_rinit R FI) hr bI .nil pass0 rfl R.gR (pa_cons (pv 1) pa_nil)))) pss_nil), ?_⟩
    refine s_when (et_not (et_B (ev_var rfl))) (fun hb H1 e1 => ?_) fun hb H1 e1 => ?_
    · have hc : c = false := by simpa using hb
      refine ⟨_, rfl, (by show 1 ≤ 1000; decide), fun a ha => ⟨a, .int n, rfl, upd_same, fun dx hd hne => ⟨rfl, dx, [(("code" : Str), .int n)], upd_same, ?_, ?_, ?_⟩⟩⟩
      · rw [upd_ne hne, upd_same]
      · rwa [upd_ne hne] at hd
      · have hd' : H1 dx = none := by rwa [upd_ne hne] at hd
        refine (h2 hc).go e1 _ dx (fun b o hb => ?_) hd' upd_same
        have hba : b ≠ a := ne_of_none hb ha
        have hbd : b ≠ dx := ne_of_none hb hd'
        rw [upd_ne hbd, del_ne hba, upd_ne hba, upd_ne hbd, upd_ne hba]
        exact hb
    · have hc : c = true := by simpa using hb
      exact h1 hc H1 e1
theorem c_listed (T : Txt K mg CD CK) (D : DefT K mg "listed" (top 39)) : Cal P w K mg base 1 "listed" spListed := by
  obtain ⟨f, fd, F, hm⟩ := D
  refine ⟨f, fd, ["some"], F.ok scListed (fun vs H Q E h => ?_) (fun cdv A outer s H vs Q E hr h => ?_), hm, F.kp, F.binds fun _ _ _ _ _ _ us hl => match us, hl with | [_], _ => rfl⟩
  · obtain ⟨a, l, rfl, _⟩ := h
    rfl
  · obtain ⟨a, l, rfl, ha, hl, q⟩ := h
    refine ⟨_, pss_one (ps_ret (pe_op op_cat (pe_lst (pa_cons (pe_callB call_len_seq (by rfl) T.len boot_len (pa_cons (pv 0) pa_nil)) pa_nil)) (pe_callTy call_list_of (by rfl) T.list boot_list (pa_cons (pv 0) pa_nil)))), ?_⟩
    exact s_retL (el_cat (xs := [nI l.length]) (ys := nv l) (el_lst (ea_cons (ev_is (ev_len (ev_var rfl) (sq_of ha)) (by rw [nv_len])) ea_nil) (by show 1 ≤ 100000; decide)) (el_list (K := K) (ev_var rfl) (sq_of ha)) (by rw [nv_len]; show 1 + l.length ≤ 100000; omega)) fun p H1 hp e h1 => q p H1 hp e h1
end
end Br
end
section
set_option maxRecDepth 100000
set_option maxHeartbeats 4000000
namespace Br
open PySem PySem.Spec PyProof.Rows L2 Evl
open BrA BrB BrC BrD BrE

/-! ### the desk in the heap -/
def kF (d : Addr) (t : Nat) : List (Str × V) := [("design", .ref d), ("stage", nI t)]
section
variable (d : Addr) (t : Nat)
theorem kF_design : (kF d t).lookup ("design" : Str) = some (.ref d) := lk_here
theorem kF_stage : (kF d t).lookup ("stage" : Str) = some (nI t) := (lk_past (by decide +kernel)).trans lk_here
theorem kF_no {m : Str} (h1 : (m == ("design" : Str)) = false) (h2 : (m == ("stage" : Str)) = false) : (kF d t).lookup m = none := (lk_past h1).trans ((lk_past h2).trans rfl)
theorem kF_new : putF "stage" (nI t) (putF "design" (.ref d) []) = kF d t := (put_past (by decide +kernel)).trans rfl
theorem kF_putD (d' : Addr) : putF "design" (.ref d') (kF d t) = kF d' t := put_here
theorem kF_putS (u : Nat) : putF "stage" (nI u) (kF d t) = kF d u := (put_past (by decide +kernel)).trans (congrArg _ put_here)
end
structure DkAt (CD CK : Addr) (H : Hp) (k : Addr) (s : Ds) (ft : List Addr) (dk d dx b : Addr) (rs : List Addr) : Prop where
  kk : H k = some (.ins CK dk (kF d s.stage))
  D : DesAt CD H d s dx b rs
  ft : ft = k :: rs
  wf : Wf s
  gd : Good s s.stage
def DeskAt (CD CK : Addr) (H : Hp) (k : Addr) (s : Ds) (ft : List Addr) : Prop := ∃ dk d dx b rs, DkAt CD CK H k s ft dk d dx b rs
theorem DkAt.mono {CD CK k dk d dx b : Addr} {H H' : Hp} {s : Ds} {ft rs : List Addr} (D : DkAt CD CK H k s ft dk d dx b rs) (e : Ex H H') : DkAt CD CK H' k s ft dk d dx b rs := ⟨e _ _ D.kk, D.D.mono e, D.ft, D.wf, D.gd⟩
theorem DkAt.des {CD CK k dk d dx b : Addr} {H : Hp} {s : Ds} {ft rs : List Addr} (D : DkAt CD CK H k s ft dk d dx b rs) : DesignAt CD H d s := ⟨dx, b, rs, D.D⟩
/-- all that was tracked and is not the desk's own is as it was -/
def Kept (H H2 : Hp) (ft : List Addr) : Prop := ∀ b o, H b = some o → b ∉ ft → H2 b = some o
def iv (l : List Int) : List V := l.map V.int
theorem iv_nat (l : List Nat) : iv (l.map fun (n : Nat) => (n : Int)) = nv l := by
  unfold iv nv
  rw [List.map_map]
  rfl
/-- how a call ends: a new list of what is answered, the desk as it is then; or the refusal, all as it was -/
structure RetM (CD CK CR : Addr) (k : Addr) (s : Ds) (ft : List Addr) (s' : Ds) (out : List Int) (H : Hp) (Q : VK) (E : XK) : Prop where
  ret : ∀ p ft' H2, H p = none → Kept H H2 ft → DeskAt CD CK H2 k s' ft' → (∀ x ∈ ft', x ∈ ft ∨ H x = none) → H2 p = some (.lst (iv out)) → Q (.ref p) H2
  exc : ∀ n, out = [n] → s' = s → RetX CR n H E
section
variable {CD CK CR k : Addr} {s s' : Ds} {ft : List Addr} {out : List Int} {H H' : Hp} {Q : VK} {E : XK}
/-- an answer that changes nothing -/
theorem RetM.pure (r : RetM CD CK CR k s ft s out H Q E) (D : DeskAt CD CK H k s ft) : RetL (iv out) H Q := fun p H2 hp e h2 => by
  obtain ⟨dk, d, dx, b, rs, D⟩ := D
  exact r.ret p ft H2 hp (fun b o h _ => e b o h) ⟨dk, d, dx, b, rs, D.mono e⟩ (fun x hx => .inl hx) h2
theorem RetM.mono (r : RetM CD CK CR k s ft s' out H Q E) (e : Ex H H') : RetM CD CK CR k s ft s' out H' Q E :=
  ⟨fun p ft' H2 hp kp D hf h2 => r.ret p ft' H2 (fresh_back e hp) (fun b o h hb => kp b o (e b o h) hb) D (fun x hx => (hf x hx).imp id fun z => fresh_back e z) h2, fun n h1 h2 => (r.exc n h1 h2).go e⟩
end
/-- the promise of a call's method: args tells how its arguments tell the call -/
def spOp (CD CK CR : Addr) (args : List V → Sy47.Call → Prop) : Sp := fun vs H Q E => ∃ (k : Addr) (s : Ds) (ft : List Addr) (as : List V) (c : Sy47.Call), vs = .ref k :: as ∧ args as c ∧ DeskAt CD CK H k s ft ∧
  RetM CD CK CR k s ft (Sy47.step s c).1 (Sy47Neutral.out (Sy47.step s c).2) H Q E
abbrev sK (i : Nat) : Stmt := inClass (top 40) i
section
variable {K : PySem.W.Frag} {mg : Str → Option Value} {CD CK CR k dk d dx b : Addr} {s : Ds} {ft rs : List Addr} {H : Hp} {σ : L2.St} {te tn : TE} {D : Ends} {tz : TS} {E : XK}
theorem ev_design (T : Txt K mg CD CK) (A : DkAt CD CK H k s ft dk d dx b rs) (h : Ev te σ H (.ref k)) : Ev (tFld K te "design") σ H (.ref d) := ev_fld h A.kk T.ck T.nD (kF_design d s.stage)
theorem ev_stage (T : Txt K mg CD CK) (A : DkAt CD CK H k s ft dk d dx b rs) (h : Ev te σ H (.ref k)) : Ev (tFld K te "stage") σ H (nI s.stage) := ev_fld h A.kk T.ck T.nS (kF_stage d s.stage)
/-! ### want_set -/
def spWset (CD CK CR : Addr) : Sp := fun vs H Q E => ∃ (k : Addr) (s : Ds) (ft : List Addr) (n : Nat), vs = [.ref k, nI n] ∧ DeskAt CD CK H k s ft ∧ (n < 2 ^ Sy47.things s → RetV .non H Q) ∧ (¬ n < 2 ^ Sy47.things s → RetX CR (-1) H E)
theorem q_wset {n : Nat} (A : DkAt CD CK H k s ft dk d dx b rs) (h : Ev te σ H (.ref k)) (hn : Ev tn σ H (nI n)) (h1 : n < 2 ^ Sy47.things s → ∀ H1, Ex H H1 → tz D σ H1) (h2 : ¬ n < 2 ^ Sy47.things s → RetX CR (-1) H E) :
    tSeq (tDrop (tMeth CK "want_set" (spWset CD CK CR) [] E te (tCons tn tNil))) tz D σ H :=
  h H (Ex.refl H) _ fun H1 e1 => ⟨k, dk, _, rfl, e1 _ _ A.kk, kF_no d s.stage (by decide +kernel) (by decide +kernel), hn H1 e1 _ fun H2 e2 => ⟨k, s, ft, n, rfl, ⟨dk, d, dx, b, rs, A.mono (e1.trans e2)⟩, fun z H3 e3 => h1 z H3 ((e1.trans e2).trans e3), fun z => (h2 z).go (e1.trans e2)⟩⟩
end
section
variable {P : Program} {w : World} {K : PySem.W.Frag} {mg : Str → Option Value} {base : Heap} {CD CK CR fI : Addr}
/-- what the wish of a def that may raise takes -/
theorem takesX {N : List Str} {qual : Str} {sc : Scope} {f : Addr} {cdv : Value} {A : Around} {outer : List Env} {s : Shared} {H : Hp} {E : XK} : Passes (L2.CX P w) (cxOf (L2.CX P w) P w K mg base N qual sc f cdv A outer s H E) E :=
  passes_call (takes_of rfl rfl rfl rfl) fun _ _ _ _ h => h
theorem scWset : FnScope ["self", "number"] ["self", "number"] (defScope (sK 1)) := ⟨rfl, rfl, rfl, by decide +kernel, rfl, by decide +kernel, by decide +kernel⟩
theorem m_wset (T : Txt K mg CD CK) (R : TxtR K mg CR fI) (D : MetT K CK "want_set" "Desk.want_set" (sK 1)) (cW : CalX P w K mg base 3 "want" (spWant CR)) (mM : Met P w K mg base CX0 1 CD "how_many_sets" (spMany CD)) : Met P w K mg base (L2.CX P w) 4 CK "want_set" (spWset CD CK CR) := by
  obtain ⟨f, fd, F, hm⟩ := D
  obtain ⟨tb, hbad⟩ := R.bad
  refine ⟨f, fd, ["self", "number"], hm, F.okX scWset (fun vs H Q E h => ?_) (fun cdv A outer s H vs Q E hr h => ?_), F.binds fun _ _ _ _ _ _ us hl => match us, hl with | [_, _], _ => rfl⟩
  · obtain ⟨k, s, ft, n, rfl, _⟩ := h
    rfl
  · obtain ⟨k, s, ft, n, rfl, ⟨dk, d, dx, b, rs, A⟩, h1, h2⟩ := h
    refine ⟨_, pss_one (ps_expr (pe_cX cW takesX hr (by decide) rfl (pa_cons (pe_cmpR op_lt (pv 1) (pe_mt0 T.cd mM pass0 hr (by decide) (pe_fld (pv 0) rfl)) (nomark _)) (pa_cons (pe_glob (v := .int (-1)) rfl hbad ⟨_, rfl⟩) pa_nil)))), ?_⟩
    refine s_want (ev_op (ev_var rfl) (em_many A.des A.wf (ev_design T A (ev_var rfl))) rv_I0) ev_c (fun hc H1 e1 => ?_) fun hc => ?_
    · have := of_decide_eq_true hc
      exact h1 (by omega) H1 e1
    · have := of_decide_eq_false hc
      exact h2 (by omega)
/-! ### Desk() -/
def spKInit (CD CK : Addr) : Sp := fun vs H Q _ => ∃ (k dk : Addr), vs = [.ref k] ∧ H k = some (.ins CK dk []) ∧ ∀ ft H2, DeskAt CD CK H2 k Sy47.init ft → (∀ c o, H c = some o → c ≠ k → H2 c = some o) → (∀ x ∈ ft, x = k ∨ H x = none) → Q .non H2
theorem scKInit : FnScope ["self"] ["self"] (defScope (sK 0)) := ⟨rfl, rfl, rfl, by decide +kernel, rfl, by decide +kernel, by decide +kernel⟩
/-- self.design = Design(..) -/
theorem q_fldD {ta te : TE} {σ : L2.St} {H : Hp} {s : Ds} {D : Ends} {tz : TS} {f : Str} (h : EvDes CD te σ H s) (k : ∀ (p dx b : Addr) (rs : List Addr) (H2 : Hp), H p = none → Ex H H2 → DesAt CD H2 p s dx b rs → (∀ r ∈ rs, H r = none) → tSeq (sFld K ta (tC (.ref p)) f) tz D σ H2) : tSeq (sFld K ta te f) tz D σ H := h H (Ex.refl H) _ k
theorem k_kinit (T : Txt K mg CD CK) (D : MakT K mg "Desk" CK "Desk.__init__" (sK 0)) (M : Mak P w K mg base 1 "Design" CD (spDInit CD)) : Mak P w K mg base 3 "Desk" CK (spKInit CD CK) := by
  obtain ⟨f, fd, F, M', hm⟩ := D
  refine ⟨f, fd, ["self"], M', F.ok scKInit (fun vs H Q E h => ?_) (fun cdv A outer s H vs Q E hr h => ?_), hm, F.binds fun _ _ _ _ _ _ us hl => match us, hl with | [_], _ => rfl⟩
  · obtain ⟨k, dk, rfl, _⟩ := h
    rfl
  · obtain ⟨k, dk, rfl, hk, q⟩ := h
    refine ⟨_, pss_cons (ps_fld (pv 0) (pe_mk M hr (by decide) rfl (pa_cons pe_int (pa_cons pe_int (pa_cons pe_int pa_nil)))) rfl) (pss_one (ps_fld (pv 0) pe_int rfl)), ?_⟩
    refine q_fldD (ed_make (ea_cons (ev_c (v := nI 1)) (ea_cons (ev_c (v := nI 0)) (ea_cons (ev_c (v := nI 0)) ea_nil))) (by decide)) fun d dx b rs H2 nd e2 D2 nr => ?_
    refine ⟨_, rfl, k, CK, dk, _, rfl, e2 _ _ hk, T.ck, T.nD, (by show 0 < 1000; decide), ?_⟩
    refine ⟨_, rfl, k, CK, dk, _, rfl, upd_same, T.ck, T.nS, (by show 1 < 1000; decide), ?_⟩
    have nkd : d ≠ k := fun z => by rw [z, hk] at nd; cases nd
    have hk2 := e2 _ _ hk
    have nkb : b ≠ k := fun z => by
      have := D2.b
      rw [z, hk2] at this
      cases this
    refine q (k :: rs) _ ⟨dk, d, dx, b, rs, ⟨?_, ⟨?_, ?_, D2.rl, fun i r l h1 h2 => ?_, D2.nd⟩, rfl, init_ok, good_zero⟩⟩ (fun c o hc hck => ?_) fun x hx => ?_
    · rw [upd_same]
      exact congrArg (fun z => some (HO.ins CK dk z)) (kF_new d 0)
    · rw [upd_ne nkd, upd_ne nkd]
      exact D2.o
    · rw [upd_ne nkb, upd_ne nkb]
      exact D2.b
    · have hr1 := D2.r i r l h1 h2
      have nkr : r ≠ k := fun z => by
        rw [z, hk2] at hr1
        cases hr1
      rw [upd_ne nkr, upd_ne nkr]
      exact hr1
    · rw [upd_ne hck, upd_ne hck]
      exact e2 c o hc
    · rcases List.mem_cons.mp hx with z | z
      · exact .inl z
      · exact .inr (nr x z)
end
end Br
end
section
set_option maxRecDepth 100000
set_option maxHeartbeats 4000000
namespace Br
open PySem PySem.Spec PyProof.Rows L2 Evl
open BrA BrB BrC BrD BrE

/-! ### the desk's stage is set -/
theorem DkAt.nkd {CD CK k dk d dx b : Addr} {H : Hp} {s : Ds} {ft rs : List Addr} (A : DkAt CD CK H k s ft dk d dx b rs) : d ≠ k := fun z => by
  have h1 := A.D.o
  rw [z, A.kk] at h1
  have h2 := HO.ins.inj (Option.some.inj h1)
  have h3 : kF d s.stage = dF s b := h2.2.2
  unfold kF dF at h3
  have h4 := (List.cons.inj h3).1
  have h5 : ("design" : Str) = ("pieces" : Str) := congrArg Prod.fst h4
  exact absurd h5 (by decide +kernel)
theorem DkAt.nkb {CD CK k dk d dx b : Addr} {H : Hp} {s : Ds} {ft rs : List Addr} (A : DkAt CD CK H k s ft dk d dx b rs) : b ≠ k := fun z => by
  have h1 := A.D.b
  rw [z, A.kk] at h1
  cases h1
theorem DkAt.setStage {CD CK k dk d dx b : Addr} {H : Hp} {s : Ds} {ft rs : List Addr} {u : Nat} (A : DkAt CD CK H k s ft dk d dx b rs) (g : Good s u) :
    DkAt CD CK (upd H k (.ins CK dk (putF "stage" (nI u) (kF d s.stage)))) k { s with stage := u } ft dk d dx b rs := by
  refine ⟨?_, ⟨?_, ?_, A.D.rl, fun i r l h1 h2 => ?_, A.D.nd⟩, A.ft, wf_stage A.wf u, good_stage g⟩
  · rw [upd_same]
    exact congrArg (fun z => some (HO.ins CK dk z)) (kF_putS d s.stage u)
  · rw [upd_ne A.nkd]
    exact A.D.o
  · rw [upd_ne A.nkb]
    exact A.D.b
  · have hr := A.D.r i r l h1 h2
    rw [upd_ne fun z => by rw [z, A.kk] at hr; cases hr]
    exact hr
theorem ev_chain {σ : L2.St} {H : Hp} {ta tb tc : TE} {i j l : Int} (ha : Ev ta σ H (.int i)) (hb : Ev tb σ H (.int j)) (hc : Ev tc σ H (.int l)) :
    Ev (tChain (rI0 fun i j => .bl (decide (i ≤ j))) (rI0 fun i j => .bl (decide (i ≤ j))) ta tb tc) σ H (.bl (decide (i ≤ j) && decide (j ≤ l))) := fun H1 e Q q =>
  ha H1 e _ fun H2 e2 => hb H2 (e.trans e2) _ fun H3 e3 => ⟨i, j, rfl, rfl, decide (i ≤ j), rfl, by
    cases h : decide (i ≤ j) with
    | true =>
      rw [if_pos rfl]
      refine hc H3 ((e.trans e2).trans e3) _ fun H4 e4 => ⟨j, l, rfl, rfl, ?_⟩
      have := q H4 ((e2.trans e3).trans e4)
      rw [h] at this
      exact this
    | false =>
      rw [if_neg (by decide)]
      have := q H3 (e2.trans e3)
      rw [h] at this
      exact this⟩
theorem inV_nv {m : Nat} {l : List Nat} : inV (nI m) (nv l) = decide (m ∈ l) := by
  unfold inV nv
  rw [Bool.eq_iff_iff, decide_eq_true_iff, List.any_eq_true]
  constructor
  · rintro ⟨y, hy, e⟩
    obtain ⟨n, hn, rfl⟩ := List.mem_map.mp hy
    have : ((n : Int) == (m : Int)) = true := e
    have : (n : Int) = (m : Int) := by simpa using this
    have : n = m := by omega
    rwa [← this]
  · intro h
    refine ⟨nI m, List.mem_map.mpr ⟨m, h, rfl⟩, ?_⟩
    show ((m : Int) == (m : Int)) = true
    simp
theorem flat_nv (l : List Nat) : (nv l).all flatV = true := by
  rw [List.all_eq_true]
  intro y hy
  obtain ⟨n, _, rfl⟩ := List.mem_map.mp hy
  rfl
def aBegins : List V → Sy47.Call → Prop := fun as c => ∃ a q e : Nat, as = [nI a, nI q, nI e] ∧ c = .begins a q e
def aRests : List V → Sy47.Call → Prop := fun as c => ∃ i a : Nat, as = [nI i, nI a] ∧ c = .rests i a
def aOne (mk : Nat → Sy47.Call) : List V → Sy47.Call → Prop := fun as c => ∃ t : Nat, as = [nI t] ∧ c = mk t
def aNone (c0 : Sy47.Call) : List V → Sy47.Call → Prop := fun as c => as = [] ∧ c = c0
section
variable {P : Program} {w : World} {K : PySem.W.Frag} {mg : Str → Option Value} {base : Heap} {CD CK CR fI : Addr}
theorem scBegins : FnScope ["self", "pieces", "props", "at_once"] ["self", "pieces", "props", "at_once"] (defScope (sK 2)) := ⟨rfl, rfl, rfl, by decide +kernel, rfl, by decide +kernel, by decide +kernel⟩
theorem scRests : FnScope ["self", "piece", "base", "some"] ["self", "piece", "base"] (defScope (sK 3)) := ⟨rfl, rfl, rfl, by decide +kernel, rfl, by decide +kernel, by decide +kernel⟩
theorem scCarries : FnScope ["self", "stage"] ["self", "stage"] (defScope (sK 4)) := ⟨rfl, rfl, rfl, by decide +kernel, rfl, by decide +kernel, by decide +kernel⟩
theorem scFalls : FnScope ["self", "stage"] ["self", "stage"] (defScope (sK 5)) := ⟨rfl, rfl, rfl, by decide +kernel, rfl, by decide +kernel, by decide +kernel⟩
theorem scDoes : FnScope ["self", "move", "there"] ["self", "move"] (defScope (sK 6)) := ⟨rfl, rfl, rfl, by decide +kernel, rfl, by decide +kernel, by decide +kernel⟩
theorem scUndo : FnScope ["self"] ["self"] (defScope (sK 7)) := ⟨rfl, rfl, rfl, by decide +kernel, rfl, by decide +kernel, by decide +kernel⟩
theorem m_begins (T : Txt K mg CD CK) (R : TxtR K mg CR fI) (D : MetT K CK "begins" "Desk.begins" (sK 2)) (cW : CalX P w K mg base 3 "want" (spWant CR)) (M : Mak P w K mg base 1 "Design" CD (spDInit CD)) : Met P w K mg base (L2.CX P w) 4 CK "begins" (spOp CD CK CR aBegins) := by
  obtain ⟨f, fd, F, hm⟩ := D
  obtain ⟨t1, hbad⟩ := R.bad
  obtain ⟨t2, hmp⟩ := R.mPieces
  obtain ⟨t3, hmq⟩ := R.mProps
  refine ⟨f, fd, ["self", "pieces", "props", "at_once"], hm, F.okX scBegins (fun vs H Q E h => ?_) (fun cdv A outer s H vs Q E hr h => ?_), F.binds fun _ _ _ _ _ _ us hl => match us, hl with | [_, _, _, _], _ => rfl⟩
  · obtain ⟨k, s, ft, as, c, rfl, ⟨a, q, e, rfl, rfl⟩, _⟩ := h
    rfl
  · obtain ⟨k, s, ft, as, c, rfl, ⟨n, m, e, rfl, rfl⟩, ⟨dk, d, dx, b, rs, A⟩, r⟩ := h
    refine ⟨_, pss_cons (ps_expr (pe_cX cW takesX hr (by decide) rfl (pa_cons (pe_and (pe_chain op_le op_le pe_int (pv 1) (pe_glob (v := .int 6) rfl hmp ⟨_, rfl⟩)) (pe_and (pe_cmpR op_le (pv 2) (pe_glob (v := .int 2) rfl hmq ⟨_, rfl⟩) (nomark _)) (pe_one (pe_cmpR op_le (pv 3) (pv 2) (nomark _))))) (pa_cons (pe_glob (v := .int (-1)) rfl hbad ⟨_, rfl⟩) pa_nil))))
      (pss_cons (ps_fld (pv 0) (pe_mk M hr (by decide) rfl (pa_cons (pv 1) (pa_cons (pv 2) (pa_cons (pv 3) pa_nil)))) rfl)
      (pss_cons (ps_fld (pv 0) pe_int rfl) (pss_one (ps_ret (pe_lst (pa_cons pe_int pa_nil)))))), ?_⟩
    refine q_want (ev_andV (ev_chain (ev_c (v := .int 1)) (ev_var rfl) ev_c) (fun _ => ev_andV (ev_op (ev_var rfl) ev_c rv_I0) fun _ => ev_op (ev_var rfl) (ev_var rfl) rv_I0)) ev_c (fun hc H1 e1 => ?_) fun hc => ?_
    · simp only [Bool.and_eq_true, decide_eq_true_eq] at hc
      have hno : ¬ (n < 1 ∨ 6 < n ∨ 2 < m ∨ m < e) := by omega
      rw [step_begins hno] at r
      have hk1 := e1 _ _ A.kk
      refine q_fldD (ed_make (a := n) (q := m) (k := e) (ea_cons (ev_var rfl) (ea_cons (ev_var rfl) (ea_cons (ev_var rfl) ea_nil))) (by omega)) fun d' dx' b' rs' H2 nd e2 D2 nr => ?_
      have hk2 := e2 _ _ hk1
      refine ⟨_, rfl, k, CK, dk, _, rfl, hk2, T.ck, T.nD, (by show 2 < 1000; decide), ?_⟩
      refine ⟨_, rfl, k, CK, dk, _, rfl, upd_same, T.ck, T.nS, (by rw [kF_putD]; show 2 < 1000; decide), ?_⟩
      refine s_retL (σ := []) (xs := [nI 0]) (el_lst (ea_cons (ev_c (v := nI 0)) ea_nil) (by show 1 ≤ 100000; decide)) fun p H4 np e4 h4 => ?_
      have nkd : d' ≠ k := fun z => by rw [z, hk1] at nd; cases nd
      have nkb : b' ≠ k := fun z => by
        have := D2.b
        rw [z, hk2] at this
        cases this
      have np' : H p = none := by
        by_cases z : p = k
        · rw [z, upd_same] at np
          cases np
        · rw [upd_ne z, upd_ne z] at np
          exact fresh_back (e1.trans e2) np
      refine r.ret p (k :: rs') H4 np' (fun c o hc hft => ?_) ⟨dk, d', dx', b', rs', ⟨?_, ⟨?_, ?_, D2.rl, fun i rr l h1 h2 => ?_, D2.nd⟩, rfl, anew_ok hno, good_zero⟩⟩ (fun x hx => ?_) h4
      · have hck : c ≠ k := fun z => hft (by rw [A.ft, z]; exact List.mem_cons_self)
        exact e4 c o (by rw [upd_ne hck, upd_ne hck]; exact e2 _ _ (e1 _ _ hc))
      · refine e4 _ _ ?_
        rw [upd_same, kF_putD]
        exact congrArg (fun z => some (HO.ins CK dk z)) (kF_putS d' s.stage 0)
      · refine e4 _ _ ?_
        rw [upd_ne nkd, upd_ne nkd]
        exact D2.o
      · refine e4 _ _ ?_
        rw [upd_ne nkb, upd_ne nkb]
        exact D2.b
      · have hr1 := D2.r i rr l h1 h2
        have nkr : rr ≠ k := fun z => by
          rw [z, hk2] at hr1
          cases hr1
        refine e4 _ _ ?_
        rw [upd_ne nkr, upd_ne nkr]
        exact hr1
      · rcases List.mem_cons.mp hx with z | z
        · left
          rw [A.ft, z]
          exact List.mem_cons_self
        · exact .inr (fresh_back e1 (nr x z))
    · have hno : n < 1 ∨ 6 < n ∨ 2 < m ∨ m < e := by
        refine Decidable.byContradiction fun z => ?_
        rw [Bool.and_eq_false_iff, Bool.and_eq_false_iff, Bool.and_eq_false_iff, decide_eq_false_iff_not, decide_eq_false_iff_not, decide_eq_false_iff_not, decide_eq_false_iff_not] at hc
        omega
      rw [step_begins_no hno] at r
      exact r.exc (-1) rfl rfl
theorem m_undo (T : Txt K mg CD CK) (D : MetT K CK "undo" "Desk.undo" (sK 7)) : Met P w K mg base (L2.CX P w) 4 CK "undo" (spOp CD CK CR (aNone .undo)) := by
  obtain ⟨f, fd, F, hm⟩ := D
  refine ⟨f, fd, ["self"], hm, F.okX scUndo (fun vs H Q E h => ?_) (fun cdv A outer s H vs Q E hr h => ?_), F.binds fun _ _ _ _ _ _ us hl => match us, hl with | [_], _ => rfl⟩
  · obtain ⟨k, s, ft, as, c, rfl, ⟨rfl, rfl⟩, _⟩ := h
    rfl
  · obtain ⟨k, s, ft, as, c, rfl, ⟨rfl, rfl⟩, ⟨dk, d, dx, b, rs, A⟩, r⟩ := h
    refine ⟨_, pss_cons (ps_fld (pv 0) pe_int rfl) (pss_one (ps_ret (pe_lst (pa_cons pe_int pa_nil)))), ?_⟩
    refine ⟨_, rfl, k, CK, dk, _, rfl, A.kk, T.ck, T.nS, (by show 2 < 1000; decide), ?_⟩
    refine s_retL (σ := []) (xs := [nI 0]) (el_lst (ea_cons (ev_c (v := nI 0)) ea_nil) (by show 1 ≤ 100000; decide)) fun p H4 np e4 h4 => ?_
    have np' : H p = none := by
      by_cases z : p = k
      · rw [z, upd_same] at np
        cases np
      · rwa [upd_ne z] at np
    exact r.ret p ft H4 np' (fun c o hc hft => e4 c o (by rw [upd_ne fun z => hft (by rw [A.ft, z]; exact List.mem_cons_self)]; exact hc)) ⟨dk, d, dx, b, rs, (A.setStage (u := 0) good_zero).mono e4⟩ (fun x hx => .inl hx) h4
theorem m_carries (T : Txt K mg CD CK) (R : TxtR K mg CR fI) (D : MetT K CK "carries" "Desk.carries" (sK 4)) (mW : Met P w K mg base (L2.CX P w) 4 CK "want_set" (spWset CD CK CR)) (cC : Cal P w K mg base 3 "does_carry" (spCarry CD)) : Met P w K mg base (L2.CX P w) 5 CK "carries" (spOp CD CK CR (aOne .carries)) := by
  obtain ⟨f, fd, F, hm⟩ := D
  refine ⟨f, fd, ["self", "stage"], hm, F.okX scCarries (fun vs H Q E h => ?_) (fun cdv A outer s H vs Q E hr h => ?_), F.binds fun _ _ _ _ _ _ us hl => match us, hl with | [_, _], _ => rfl⟩
  · obtain ⟨k, s, ft, as, c, rfl, ⟨t, rfl, rfl⟩, _⟩ := h
    rfl
  · obtain ⟨k, s, ft, as, c, rfl, ⟨t, rfl, rfl⟩, ⟨dk, d, dx, b, rs, A⟩, r⟩ := h
    refine ⟨_, pss_cons (ps_expr (pe_mt T.ck mW takesX hr (by decide) (pv 0) (pa_cons (pv 1) pa_nil)))
      (pss_one (ps_ret (pe_lst (pa_cons (pe_callTy call_int1 (by rfl) T.int (by decide +kernel) (pa_cons (PE.nox (pe_c cC hr (by decide) rfl (pa_cons (pe_fld (pv 0) rfl) (pa_cons (pv 1) pa_nil)))) pa_nil)) pa_nil)))), ?_⟩
    refine q_wset A (ev_var rfl) (ev_var rfl) (fun hlt H1 e1 => ?_) fun hlt => ?_
    · rw [step_carries2 (by omega)] at r
      have rp := r.pure ⟨dk, d, dx, b, rs, A⟩
      refine s_retL (xs := [.int (if Sy47.carries s t = true then 1 else 0)]) (el_lst (ea_cons (ev_cb (vs := [.bl (Sy47.carries s t)]) (ea_cons (ev_call (ea_cons (ev_design T (A.mono e1) (ev_var rfl)) (ea_cons (ev_var rfl) ea_nil)) (v_carry (A.mono e1).des A.wf)) ea_nil) fun H2 _ Q2 q2 => .inr ⟨_, rfl, q2 H2 (Ex.refl H2)⟩) ea_nil) (by show 1 ≤ 100000; decide)) fun p H2 np e2 h2 => ?_
      exact rp p H2 (fresh_back e1 np) (e1.trans e2) h2
    · rw [step_carries1 (by omega)] at r
      exact r.exc (-1) rfl rfl
theorem m_falls (T : Txt K mg CD CK) (R : TxtR K mg CR fI) (D : MetT K CK "falls" "Desk.falls" (sK 5)) (mW : Met P w K mg base (L2.CX P w) 4 CK "want_set" (spWset CD CK CR)) (cL : Cal P w K mg base 4 "what_is_left" (spLeft CD)) : Met P w K mg base (L2.CX P w) 5 CK "falls" (spOp CD CK CR (aOne .falls)) := by
  obtain ⟨f, fd, F, hm⟩ := D
  refine ⟨f, fd, ["self", "stage"], hm, F.okX scFalls (fun vs H Q E h => ?_) (fun cdv A outer s H vs Q E hr h => ?_), F.binds fun _ _ _ _ _ _ us hl => match us, hl with | [_, _], _ => rfl⟩
  · obtain ⟨k, s, ft, as, c, rfl, ⟨t, rfl, rfl⟩, _⟩ := h
    rfl
  · obtain ⟨k, s, ft, as, c, rfl, ⟨t, rfl, rfl⟩, ⟨dk, d, dx, b, rs, A⟩, r⟩ := h
    refine ⟨_, pss_cons (ps_expr (pe_mt T.ck mW takesX hr (by decide) (pv 0) (pa_cons (pv 1) pa_nil)))
      (pss_one (ps_ret (pe_lst (pa_cons (PE.nox (pe_c cL hr (by decide) rfl (pa_cons (pe_fld (pv 0) rfl) (pa_cons (pv 1) pa_nil)))) pa_nil)))), ?_⟩
    refine q_wset A (ev_var rfl) (ev_var rfl) (fun hlt H1 e1 => ?_) fun hlt => ?_
    · rw [step_falls2 (by omega)] at r
      have rp := r.pure ⟨dk, d, dx, b, rs, A⟩
      refine s_retL (xs := [nI (Sy47.left s t)]) (el_lst (ea_cons (ev_call (ea_cons (ev_design T (A.mono e1) (ev_var rfl)) (ea_cons (ev_var rfl) ea_nil)) (v_left (A.mono e1).des A.wf)) ea_nil) (by show 1 ≤ 100000; decide)) fun p H2 np e2 h2 => ?_
      exact rp p H2 (fresh_back e1 np) (e1.trans e2) h2
    · rw [step_falls1 (by omega)] at r
      exact r.exc (-1) rfl rfl
theorem m_does (T : Txt K mg CD CK) (R : TxtR K mg CR fI) (D : MetT K CK "does" "Desk.does" (sK 6)) (cW : CalX P w K mg base 3 "want" (spWant CR)) (cM : Cal P w K mg base 1 "all_moves" (spMoves CD)) (cB : Cal P w K mg base 4 "behind" (spBeh CD)) : Met P w K mg base (L2.CX P w) 5 CK "does" (spOp CD CK CR (aOne .does)) := by
  obtain ⟨f, fd, F, hm⟩ := D
  obtain ⟨t1, hbad⟩ := R.bad
  obtain ⟨t2, hcant⟩ := R.cant
  refine ⟨f, fd, ["self", "move"], hm, F.okX scDoes (fun vs H Q E h => ?_) (fun cdv A outer s H vs Q E hr h => ?_), F.binds fun _ _ _ _ _ _ us hl => match us, hl with | [_, _], _ => rfl⟩
  · obtain ⟨k, s, ft, as, c, rfl, ⟨t, rfl, rfl⟩, _⟩ := h
    rfl
  · obtain ⟨k, s, ft, as, c, rfl, ⟨m, rfl, rfl⟩, ⟨dk, d, dx, b, rs, A⟩, r⟩ := h
    refine ⟨_, pss_cons (ps_expr (pe_cX cW takesX hr (by decide) rfl (pa_cons (pe_cmpR op_in_seq (pv 1) (PE.nox (pe_c cM hr (by decide) rfl (pa_cons (pe_fld (pv 0) rfl) pa_nil))) (by rfl)) (pa_cons (pe_glob (v := .int (-1)) rfl hbad ⟨_, rfl⟩) pa_nil))))
      (pss_cons (ps_set (i := 2) scDoes.nd rfl (Or.inl rfl) (PE.nox (pe_c cB hr (by decide) rfl (pa_cons (pe_fld (pv 0) rfl) (pa_cons (pe_fld (pv 0) rfl) (pa_cons (pv 1) pa_nil))))))
      (pss_cons (ps_expr (pe_cX cW takesX hr (by decide) rfl (pa_cons (pe_cmpR op_notN (pv 2) pe_non (nomark _)) (pa_cons (pe_glob (v := .int (-6)) rfl hcant ⟨_, rfl⟩) pa_nil))))
      (pss_cons (ps_fld (pv 0) (pv 2) rfl) (pss_one (ps_ret (pe_lst (pa_cons (pv 2) pa_nil))))))), ?_⟩
    refine q_want (ev_opL (xs := nv (Sy47.moves s)) (ev_var rfl) (el_call (ea_cons (ev_design T A (ev_var rfl)) ea_nil) (v_moves A.des A.wf)) fun p H1 h1 e1 => rv_isL (sq_of h1) rfl (flat_nv _)) ev_c (fun hc H1 e1 => ?_) fun hc => ?_
    · rw [inV_nv] at hc
      have hmv := of_decide_eq_true hc
      have A1 := A.mono e1
      refine q_asg (ev_call (ea_cons (ev_design T A1 (ev_var rfl)) (ea_cons (ev_stage T A1 (ev_var rfl)) (ea_cons (ev_var rfl) ea_nil))) (v_beh (t := s.stage) A1.des A.wf hmv)) fun H2 e2 => ?_
      cases hb : Sy47.moved s s.stage m with
      | none =>
        rw [step_does2 hmv hb] at r
        exact q_want (ev_notN (ev_var rfl)) ev_c (fun z => nomatch z) fun _ => (r.exc (-6) rfl rfl).go (e1.trans e2)
      | some u =>
        rw [step_does3 hmv hb] at r
        refine q_want (ev_notN (ev_var rfl)) ev_c (fun _ H3 e3 => ?_) fun z => nomatch z
        have A3 := (A1.mono e2).mono e3
        refine ⟨_, rfl, _, rfl, k, CK, dk, _, rfl, A3.kk, T.ck, T.nS, (by show 2 < 1000; decide), ?_⟩
        refine s_retL (xs := [nI u]) (el_lst (ea_cons (ev_var rfl) ea_nil) (by show 1 ≤ 100000; decide)) fun p H4 np e4 h4 => ?_
        have np' : H p = none := by
          by_cases z : p = k
          · rw [z, upd_same] at np
            cases np
          · rw [upd_ne z] at np
            exact fresh_back ((e1.trans e2).trans e3) np
        exact r.ret p ft H4 np' (fun c o hc hft => e4 c o (by rw [upd_ne fun z => hft (by rw [A.ft, z]; exact List.mem_cons_self)]; exact e3 _ _ (e2 _ _ (e1 _ _ hc)))) ⟨dk, d, dx, b, rs, (A3.setStage (u := u) (moved_good A.wf hmv A.gd hb)).mono e4⟩ (fun x hx => .inl hx) h4
    · rw [inV_nv] at hc
      rw [step_does1 (of_decide_eq_false hc)] at r
      exact r.exc (-1) rfl rfl
end
end Br
end
section
set_option maxRecDepth 100000
set_option maxHeartbeats 4000000
namespace Br
open PySem PySem.Spec PyProof.Rows L2 Evl
open BrA BrB BrC BrD BrE

/-! ### rests -/
theorem DkAt.rest {CD CK k dk d dx b : Addr} {H : Hp} {s : Ds} {ft rs : List Addr} {i a : Nat} {r : Addr} {l : List Nat} (A : DkAt CD CK H k s ft dk d dx b rs) (hr : rs[i]? = some r) (hl : s.rests[i]? = some l) (h0 : s.stage = 0)
    (wf : Wf (restsMore s i a)) : DkAt CD CK (upd H r (.lst (nv l ++ [nI a]))) k (restsMore s i a) ft dk d dx b rs := by
  have hrr := A.D.r i r l hr hl
  have hg : s.rests.getD i [] = l := by
    rw [List.getD_eq_getElem?_getD, hl]
    rfl
  refine ⟨?_, ⟨?_, ?_, ?_, fun j r' l' h1 h2 => ?_, A.D.nd⟩, A.ft, wf, ?_⟩
  · rw [upd_ne fun z => by rw [← z, A.kk] at hrr; cases hrr]
    exact A.kk
  · rw [upd_ne fun z => by rw [← z, A.D.o] at hrr; cases hrr]
    exact A.D.o
  · rw [upd_ne fun z => by
      have h1 := A.D.b
      rw [z, hrr] at h1
      have h2 : HO.lst (nv l) = HO.lst (rs.map V.ref) := Option.some.inj h1
      have h3 : nv l = rs.map V.ref := HO.lst.inj h2
      have h4 := (List.getElem?_eq_some_iff.mp hr).1
      have h5 : (rs.map V.ref)[i]? = some (V.ref r) := by rw [List.getElem?_map, hr]; rfl
      rw [← h3] at h5
      unfold nv at h5
      rw [List.getElem?_map] at h5
      cases e : l[i]? with
      | none => rw [e] at h5; cases h5
      | some n => rw [e] at h5; cases h5]
    exact A.D.b
  · rw [A.D.rl]
    exact (List.length_set ..).symm
  · have h2 : (s.rests.set i (s.rests.getD i [] ++ [a]))[j]? = some l' := h2
    rw [hg] at h2
    by_cases e : i = j
    · subst e
      rw [hr] at h1
      obtain rfl : r = r' := Option.some.inj h1
      rw [List.getElem?_set_self (List.getElem?_eq_some_iff.mp hl).1] at h2
      obtain rfl : l ++ [a] = l' := Option.some.inj h2
      rw [upd_same, nv_snoc]
    · rw [List.getElem?_set_ne e] at h2
      rw [upd_ne fun z => e ((fun (hN : rs.Nodup) => (by obtain ⟨b1, c1⟩ := List.getElem?_eq_some_iff.mp hr; obtain ⟨b2, c2⟩ := List.getElem?_eq_some_iff.mp h1; exact (List.getElem_inj hN).mp (c1.trans (z.symm.trans c2.symm)))) A.D.nd)]
      exact A.D.r j r' l' h1 h2
  · show Good (restsMore s i a) s.stage
    rw [h0]
    exact good_zero
section
variable {P : Program} {w : World} {K : PySem.W.Frag} {mg : Str → Option Value} {base : Heap} {CD CK CR fI : Addr}
theorem m_rests (T : Txt K mg CD CK) (R : TxtR K mg CR fI) (D : MetT K CK "rests" "Desk.rests" (sK 3)) (mW : Met P w K mg base (L2.CX P w) 4 CK "want_set" (spWset CD CK CR)) (cW : CalX P w K mg base 3 "want" (spWant CR)) : Met P w K mg base (L2.CX P w) 5 CK "rests" (spOp CD CK CR aRests) := by
  obtain ⟨f, fd, F, hm⟩ := D
  obtain ⟨t1, hnp⟩ := R.noPiece
  obtain ⟨t2, hne⟩ := R.notEmpty
  obtain ⟨t3, hfull⟩ := R.full
  obtain ⟨t4, hmb⟩ := R.mBases
  refine ⟨f, fd, ["self", "piece", "base"], hm, F.okX scRests (fun vs H Q E h => ?_) (fun cdv A outer s H vs Q E hr h => ?_), F.binds fun _ _ _ _ _ _ us hl => match us, hl with | [_, _, _], _ => rfl⟩
  · obtain ⟨k, s, ft, as, c, rfl, ⟨i, a, rfl, rfl⟩, _⟩ := h
    rfl
  · obtain ⟨k, s, ft, as, c, rfl, ⟨i, a, rfl, rfl⟩, ⟨dk, d, dx, b, rs, A⟩, r⟩ := h
    refine ⟨_, pss_cons (ps_expr (pe_mt T.ck mW takesX hr (by decide) (pv 0) (pa_cons (pv 2) pa_nil)))
      (pss_cons (ps_expr (pe_cX cW takesX hr (by decide) rfl (pa_cons (pe_cmpR op_lt (pv 1) (pe_fld (pe_fld (pv 0) rfl) rfl) (nomark _)) (pa_cons (pe_glob (v := .int (-2)) rfl hnp ⟨_, rfl⟩) pa_nil))))
      (pss_cons (ps_expr (pe_cX cW takesX hr (by decide) rfl (pa_cons (pe_cmpR op_eq (pe_fld (pv 0) rfl) pe_int (nomark _)) (pa_cons (pe_glob (v := .int (-4)) rfl hne ⟨_, rfl⟩) pa_nil))))
      (pss_cons (ps_set (i := 3) scRests.nd rfl (Or.inl rfl) (pe_ix ix_list (pe_fld (pe_fld (pv 0) rfl) rfl) (pv 1) (fun _ _ => rfl)))
      (pss_cons (ps_expr (pe_cX cW takesX hr (by decide) rfl (pa_cons (pe_cmpR op_lt (pe_callB call_len_seq (by rfl) T.len boot_len (pa_cons (pv 3) pa_nil)) (pe_glob (v := .int 4) rfl hmb ⟨_, rfl⟩) (nomark _)) (pa_cons (pe_glob (v := .int (-5)) rfl hfull ⟨_, rfl⟩) pa_nil))))
      (pss_cons (ps_expr (pe_bm PySem.F.plainAttrs_list PySem.F.slot_list_append PySem.F.type_list_append mt_append (pv 3) (pa_cons (pv 2) pa_nil)))
      (pss_one (ps_ret (pe_lst (pa_cons (pe_callB call_len_seq (by rfl) T.len boot_len (pa_cons (pv 3) pa_nil)) pa_nil))))))))), ?_⟩
    refine q_wset A (ev_var rfl) (ev_var rfl) (fun hlt H1 e1 => ?_) fun hlt => ?_
    · have h1 : ¬ 2 ^ Sy47.things s ≤ a := by omega
      have A1 := A.mono e1
      refine q_want (ev_op (ev_var rfl) (ev_pieces T A1.des (ev_design T A1 (ev_var rfl))) rv_I0) ev_c (fun hc H2 e2 => ?_) fun hc => ?_
      · have h2 : ¬ s.pieces ≤ i := by
          have := of_decide_eq_true hc
          omega
        have A2 := A1.mono e2
        refine q_want (ev_op (ev_stage T A2 (ev_var rfl)) (ev_c (v := nI 0)) rv_eqN) ev_c (fun hc H3 e3 => ?_) fun hc => ?_
        · have h3 : ¬ s.stage ≠ 0 := fun z => z (of_decide_eq_true hc)
          have A3 := A2.mono e3
          have e13 := (e1.trans e2).trans e3
          obtain ⟨l, hl, hlm, hg⟩ := A.wf.row (i := i) (by omega)
          have hir : i < rs.length := by
            rw [A.D.rl, A.wf.rl]
            omega
          have hr1 : rs[i]? = some rs[i] := List.getElem?_eq_getElem hir
          have hrr := A3.D.r i _ l hr1 hl
          refine q_asg (v := .ref rs[i]) (ev_op (ev_fld (ev_design T A3 (ev_var rfl)) A3.D.o T.cd T.nB (dF_bases s b)) (ev_var rfl) (rv_ixL (sq_of A3.D.b) (atI_nat (by rw [List.getElem?_map, hr1]; rfl)))) fun H4 e4 => ?_
          have A4 := A3.mono e4
          have hrr4 := e4 _ _ hrr
          refine q_want (ev_op (ev_len (ev_var rfl) (sq_of hrr4)) ev_c rv_I0) ev_c (fun hc H5 e5 => ?_) fun hc => ?_
          · have h4 : ¬ 4 ≤ (s.rests.getD i []).length := by
              have := of_decide_eq_true hc
              rw [nv_len] at this
              rw [hg]
              omega
            rw [step_rests5 h1 h2 h3 h4] at r
            have A5 := A4.mono e5
            have hrr5 := e5 _ _ hrr4
            have h4' := A.wf.r4 l hlm
            refine q_app (xs := nv l) hrr5 (ev_var rfl) (ev_var rfl) (by rw [nv_len]; omega) fun H6 e6 => ?_
            have A6 := (A5.mono e6).rest (a := a) hr1 hl (by omega) (restsMore_ok A.wf h1 h4)
            refine s_retL (xs := [nI (l.length + 1)]) (el_lst (ea_cons (ev_is (ev_len (xs := nv l ++ [nI a]) (ev_var rfl) (sq_of upd_same)) (by rw [List.length_append, nv_len]; rfl)) ea_nil) (by show 1 ≤ 100000; decide)) fun p H7 np e7 h7 => ?_
            have hin : rs[i] ∈ ft := by
              rw [A.ft]
              exact List.mem_cons_of_mem _ (List.getElem_mem hir)
            have np' : H p = none := by
              by_cases z : p = rs[i]
              · rw [z, upd_same] at np
                cases np
              · rw [upd_ne z] at np
                exact fresh_back (((e13.trans e4).trans e5).trans e6) np
            refine r.ret p ft H7 np' (fun c o hc hft => e7 c o (by rw [upd_ne fun z => hft (by rw [z]; exact hin)]; exact e6 _ _ (e5 _ _ (e4 _ _ (e13 _ _ hc))))) ⟨dk, d, dx, b, rs, A6.mono e7⟩ (fun x hx => .inl hx) ?_
            rw [h7, hg]
            rfl
          · have h4 : 4 ≤ (s.rests.getD i []).length := by
              have := of_decide_eq_false hc
              rw [nv_len] at this
              rw [hg]
              omega
            rw [step_rests4 h1 h2 h3 h4] at r
            exact (r.exc (-5) rfl rfl).go (e13.trans e4)
        · have h3 : s.stage ≠ 0 := of_decide_eq_false hc
          rw [step_rests3 h1 h2 h3] at r
          exact (r.exc (-4) rfl rfl).go (e1.trans e2)
      · have h2 : s.pieces ≤ i := by
          have := of_decide_eq_false hc
          omega
        rw [step_rests2 h1 h2] at r
        exact (r.exc (-2) rfl rfl).go e1
    · rw [step_rests1 (by omega)] at r
      exact r.exc (-1) rfl rfl
end
end Br
end
section
set_option maxRecDepth 100000
set_option maxHeartbeats 4000000
namespace Br
open PySem PySem.Spec PyProof.Rows L2 Evl
open BrA BrB BrC BrD BrE

/-! ### fewest, plan, far, needed, spare, state -/
def spAplan (CD CK CR : Addr) : Sp := fun vs H Q E => ∃ (k : Addr) (s : Ds) (ft : List Addr), vs = [.ref k] ∧ DeskAt CD CK H k s ft ∧ ((dist s).lookup s.stage = none → RetX CR (-6) H E) ∧ ∀ n, (dist s).lookup s.stage = some n → RetL (nv (mplan s (dist s) n s.stage)) H Q
theorem v_planN {CD d : Addr} {H : Hp} {s : Ds} {t : Nat} (D : DesignAt CD H d s) (w : Wf s) (hn : (dist s).lookup t = none) : SpV (spPlan CD) [.ref d, nI t] H .non := fun _ e _ q _ => ⟨d, s, t, rfl, D.mono e, w, fun _ => q, fun k h => by rw [hn] at h; cases h⟩
theorem v_planS {CD d : Addr} {H : Hp} {s : Ds} {t n : Nat} (D : DesignAt CD H d s) (w : Wf s) (hn : (dist s).lookup t = some n) : SpL (spPlan CD) [.ref d, nI t] H (nv (mplan s (dist s) n t)) := fun _ e _ q _ => ⟨d, s, t, rfl, D.mono e, w, fun h => (by rw [hn] at h; cases h), fun k h => by
  rw [hn] at h
  obtain rfl : n = k := Option.some.inj h
  exact q⟩
theorem el_callL {σ : L2.St} {H : Hp} {te : TE} {sp : Sp} {xs ys : List V} {E : XK} (h : EvL te σ H xs) (hs : ∀ p H1, Ex H H1 → H1 p = some (.lst xs) → SpL sp [.ref p] H1 ys) : EvL (tCall sp [] E (tCons te tNil)) σ H ys := fun H1 e Q q =>
  h H1 e _ fun p H2 _ e2 hp => hs p H2 (e.trans e2) hp H2 (Ex.refl H2) Q (fun l H3 hl e3 h3 => q l H3 (fresh_back e2 hl) (e2.trans e3) h3) E
theorem s_ext {K : PySem.W.Frag} {σ : L2.St} {H : Hp} {ta te : TE} {l : Addr} {xs ys : List V} {D : Ends} (hl : H l = some (.lst xs)) (ha : Ev ta σ H (.ref l)) (h : EvL te σ H ys) (hz : xs.length + ys.length ≤ 10000000) (k : ∀ H1, Ex H H1 → D.nx σ (upd H1 l (.lst (xs ++ ys)))) :
    tDrop (tBM K "list" rExtend ta (tCons te tNil)) D σ H := ha H (Ex.refl H) _ fun H1 e1 =>
  ⟨Or.inl ⟨rfl, xs, sq_of (e1 l _ hl)⟩, h H1 e1 _ fun p H2 hp e2 h2 => ⟨l, p, xs, ys, rfl, rfl, e2 l _ (e1 l _ hl), h2, Nat.le_trans hz (by decide), k H2 (e1.trans e2)⟩⟩
abbrev scK (N : List Str) (ps : List Str) (i : Nat) : Prop := FnScope N ps (defScope (sK i))
theorem scAplan : scK ["self", "found"] ["self"] 8 := ⟨rfl, rfl, rfl, by decide +kernel, rfl, by decide +kernel, by decide +kernel⟩
theorem scFewest : scK ["self"] ["self"] 9 := ⟨rfl, rfl, rfl, by decide +kernel, rfl, by decide +kernel, by decide +kernel⟩
theorem scPlanK : scK ["self", "found"] ["self"] 10 := ⟨rfl, rfl, rfl, by decide +kernel, rfl, by decide +kernel, by decide +kernel⟩
theorem scFarK : scK ["self", "some", "stage"] ["self"] 11 := ⟨rfl, rfl, rfl, by decide +kernel, rfl, by decide +kernel, by decide +kernel⟩
theorem scNeedK : scK ["self", "found"] ["self"] 12 := ⟨rfl, rfl, rfl, by decide +kernel, rfl, by decide +kernel, by decide +kernel⟩
theorem scSpareK : scK ["self", "found"] ["self"] 13 := ⟨rfl, rfl, rfl, by decide +kernel, rfl, by decide +kernel, by decide +kernel⟩
theorem scState : scK ["self", "design", "rows", "some"] ["self"] 14 := ⟨rfl, rfl, rfl, by decide +kernel, rfl, by decide +kernel, by decide +kernel⟩
section
variable {P : Program} {w : World} {K : PySem.W.Frag} {mg : Str → Option Value} {base : Heap} {CD CK CR fI : Addr}
theorem m_aplan (T : Txt K mg CD CK) (R : TxtR K mg CR fI) (D : MetT K CK "a_plan" "Desk.a_plan" (sK 8)) (cW : CalX P w K mg base 3 "want" (spWant CR)) (cP : Cal P w K mg base 7 "plan_from" (spPlan CD)) : Met P w K mg base (L2.CX P w) 8 CK "a_plan" (spAplan CD CK CR) := by
  obtain ⟨f, fd, F, hm⟩ := D
  obtain ⟨t1, hcant⟩ := R.cant
  refine ⟨f, fd, ["self"], hm, F.okX scAplan (fun vs H Q E h => ?_) (fun cdv A outer s H vs Q E hr h => ?_), F.binds fun _ _ _ _ _ _ us hl => match us, hl with | [_], _ => rfl⟩
  · obtain ⟨k, s, ft, rfl, _⟩ := h
    rfl
  · obtain ⟨k, s, ft, rfl, ⟨dk, d, dx, b, rs, A⟩, h1, h2⟩ := h
    refine ⟨_, pss_cons (ps_set (i := 1) scAplan.nd rfl (Or.inl rfl) (pe_c cP hr (by decide) rfl (pa_cons (pe_fld (pv 0) rfl) (pa_cons (pe_fld (pv 0) rfl) pa_nil))))
      (pss_cons (ps_expr (pe_cX cW takesX hr (by decide) rfl (pa_cons (pe_cmpR op_notN (pv 1) pe_non (nomark _)) (pa_cons (pe_glob (v := .int (-6)) rfl hcant ⟨_, rfl⟩) pa_nil)))) (pss_one (ps_ret (pv 1)))), ?_⟩
    cases hd : (dist s).lookup s.stage with
    | none =>
      refine q_asg (ev_call (ea_cons (ev_design T A (ev_var rfl)) (ea_cons (ev_stage T A (ev_var rfl)) ea_nil)) (v_planN A.des A.wf hd)) fun H1 e1 => ?_
      exact q_want (ev_notN (ev_var rfl)) ev_c (fun z => nomatch z) fun _ => (h1 hd).go e1
    | some n =>
      refine q_asgL (el_call (ea_cons (ev_design T A (ev_var rfl)) (ea_cons (ev_stage T A (ev_var rfl)) ea_nil)) (v_planS A.des A.wf hd)) fun p H1 np e1 hp => ?_
      refine q_want (ev_notN (ev_var rfl)) ev_c (fun _ H2 e2 => ?_) fun z => nomatch z
      exact s_ret (ev_var rfl) fun H3 e3 => h2 n hd p H3 np ((e1.trans e2).trans e3) (e3 _ _ (e2 _ _ hp))
theorem m_fewest (T : Txt K mg CD CK) (D : MetT K CK "fewest" "Desk.fewest" (sK 9)) (mA : Met P w K mg base (L2.CX P w) 8 CK "a_plan" (spAplan CD CK CR)) : Met P w K mg base (L2.CX P w) 9 CK "fewest" (spOp CD CK CR (aNone .fewest)) := by
  obtain ⟨f, fd, F, hm⟩ := D
  refine ⟨f, fd, ["self"], hm, F.okX scFewest (fun vs H Q E h => ?_) (fun cdv A outer s H vs Q E hr h => ?_), F.binds fun _ _ _ _ _ _ us hl => match us, hl with | [_], _ => rfl⟩
  · obtain ⟨k, s, ft, as, c, rfl, ⟨rfl, rfl⟩, _⟩ := h
    rfl
  · obtain ⟨k, s, ft, as, c, rfl, ⟨rfl, rfl⟩, ⟨dk, d, dx, b, rs, A⟩, r⟩ := h
    refine ⟨_, pss_one (ps_ret (pe_lst (pa_cons (pe_callB call_len_seq (by rfl) T.len boot_len (pa_cons (pe_mt0 T.ck mA takesX hr (by decide) (pv 0)) pa_nil)) pa_nil))), ?_⟩
    refine ⟨_, rfl, k, dk, _, rfl, A.kk, kF_no d s.stage (by decide +kernel) (by decide +kernel), k, s, ft, rfl, ⟨dk, d, dx, b, rs, A⟩, fun hn => ?_, fun n hn p H1 np e1 hp => ⟨p, _, rfl, .inl (sq_of hp), (by show 1 ≤ sizeLine; decide), fun l hl => ?_⟩⟩
    · rw [step_fewest1 A.wf A.gd hn] at r
      exact r.exc (-6) rfl rfl
    · rw [step_fewest2 A.wf A.gd hn] at r
      have rp := r.pure ⟨dk, d, dx, b, rs, A⟩
      refine rp l _ (fresh_back e1 hl) (e1.trans (Ex.new hl)) ?_
      rw [upd_same, nv_len, mplan_len (dist_fin A.wf) hn]
      rfl
theorem m_plan (T : Txt K mg CD CK) (D : MetT K CK "plan" "Desk.plan" (sK 10)) (mA : Met P w K mg base (L2.CX P w) 8 CK "a_plan" (spAplan CD CK CR)) (cL : Cal P w K mg base 1 "listed" spListed) : Met P w K mg base (L2.CX P w) 9 CK "plan" (spOp CD CK CR (aNone .plan)) := by
  obtain ⟨f, fd, F, hm⟩ := D
  refine ⟨f, fd, ["self"], hm, F.okX scPlanK (fun vs H Q E h => ?_) (fun cdv A outer s H vs Q E hr h => ?_), F.binds fun _ _ _ _ _ _ us hl => match us, hl with | [_], _ => rfl⟩
  · obtain ⟨k, s, ft, as, c, rfl, ⟨rfl, rfl⟩, _⟩ := h
    rfl
  · obtain ⟨k, s, ft, as, c, rfl, ⟨rfl, rfl⟩, ⟨dk, d, dx, b, rs, A⟩, r⟩ := h
    refine ⟨_, pss_cons (ps_set (i := 1) scPlanK.nd rfl (Or.inl rfl) (pe_mt0 T.ck mA takesX hr (by decide) (pv 0)))
      (pss_one (ps_ret (pe_op op_cat (pe_lst (pa_cons (pe_callB call_len_seq (by rfl) T.len boot_len (pa_cons (pv 1) pa_nil)) pa_nil)) (pe_c cL hr (by decide) rfl (pa_cons (pv 1) pa_nil))))), ?_⟩
    refine ⟨_, rfl, k, dk, _, rfl, A.kk, kF_no d s.stage (by decide +kernel) (by decide +kernel), k, s, ft, rfl, ⟨dk, d, dx, b, rs, A⟩, fun hn => ?_, fun n hn p H1 np e1 hp => ?_⟩
    · rw [step_plan1 A.wf A.gd hn] at r
      exact r.exc (-6) rfl rfl
    · rw [step_plan2 A.wf A.gd hn] at r
      have rp := r.pure ⟨dk, d, dx, b, rs, A⟩
      have hlen := mplan_len (dist_fin A.wf) hn
      have h600 := dist_le A.wf hn
      refine s_retL (σ := [some (.ref k), some (.ref p)]) (el_cat (xs := [nI n]) (ys := nv (n :: mplan s (dist s) n s.stage)) (el_lst (ea_cons (ev_is (ev_len (ev_var rfl) (sq_of hp)) (by rw [nv_len, hlen])) ea_nil) (by show 1 ≤ 100000; decide)) (el_call (xs := nv (n :: mplan s (dist s) n s.stage)) (ea_cons (ev_var rfl) ea_nil) (by have := v_listed hp (by omega); rwa [hlen] at this)) (by simp only [nv_len, List.length_cons, List.length_nil, hlen]; omega)) fun l H2 hl e2 h2 => rp l H2 (fresh_back e1 hl) (e1.trans e2) ?_
      rw [h2, out_listed, iv_nat, hlen]
      rfl
theorem m_far (T : Txt K mg CD CK) (D : MetT K CK "far" "Desk.far" (sK 11)) (cC : Cal P w K mg base 6 "come_to" (spCome CD)) (cF : Cal P w K mg base 3 "farthest" (spFar CD)) (cP : Cal P w K mg base 2 "pieces_in" (spPin CD)) (cL : Cal P w K mg base 1 "listed" spListed) : Met P w K mg base (L2.CX P w) 7 CK "far" (spOp CD CK CR (aNone .far)) := by
  obtain ⟨f, fd, F, hm⟩ := D
  refine ⟨f, fd, ["self"], hm, F.okX scFarK (fun vs H Q E h => ?_) (fun cdv A outer s H vs Q E hr h => ?_), F.binds fun _ _ _ _ _ _ us hl => match us, hl with | [_], _ => rfl⟩
  · obtain ⟨k, s, ft, as, c, rfl, ⟨rfl, rfl⟩, _⟩ := h
    rfl
  · obtain ⟨k, s, ft, as, c, rfl, ⟨rfl, rfl⟩, ⟨dk, d, dx, b, rs, A⟩, r⟩ := h
    refine ⟨_, pss_cons (ps_set (i := 1) scFarK.nd rfl (Or.inl rfl) (pe_c cC hr (by decide) rfl (pa_cons (pe_fld (pv 0) rfl) (pa_cons (pe_fld (pv 0) rfl) pa_nil))))
      (pss_cons (ps_set (i := 2) scFarK.nd rfl (Or.inl rfl) (pe_c cF hr (by decide) rfl (pa_cons (pe_fld (pv 0) rfl) (pa_cons (pv 1) pa_nil))))
      (pss_one (ps_ret (pe_op op_cat (pe_lst (pa_cons (pe_callB call_len_seq (by rfl) T.len boot_len (pa_cons (pe_c cP hr (by decide) rfl (pa_cons (pe_fld (pv 0) rfl) (pa_cons (pv 2) pa_nil))) pa_nil)) pa_nil))
        (pe_c cL hr (by decide) rfl (pa_cons (pe_lst (pa_cons (pv 2) (pa_cons (pe_callB call_len_seq (by rfl) T.len boot_len (pa_cons (pv 1) pa_nil)) pa_nil))) pa_nil)))))), ?_⟩
    rw [step_far A.wf A.gd] at r
    have rp := r.pure ⟨dk, d, dx, b, rs, A⟩
    have hl256 := reach_len A.wf A.gd
    refine q_asgL (el_call (ea_cons (ev_design T A (ev_var rfl)) (ea_cons (ev_stage T A (ev_var rfl)) ea_nil)) (v_come A.des A.wf A.gd)) fun p H1 np e1 hp => ?_
    have A1 := A.mono e1
    refine q_asg (ev_call (ea_cons (ev_design T A1 (ev_var rfl)) (ea_cons (ev_var rfl) ea_nil)) (v_far A1.des A.wf hp (reach_ne A.wf A.gd) (by omega))) fun H2 e2 => ?_
    have A2 := A1.mono e2
    refine s_retL (el_cat (xs := [nI (pin s (best s (reach s s.stage))).length]) (ys := nv [2, best s (reach s s.stage), (reach s s.stage).length])
      (el_lst (ea_cons (ev_is (ev_lenN (xs := nv (pin s (best s (reach s s.stage)))) (el_call (ea_cons (ev_design T A2 (ev_var rfl)) (ea_cons (ev_var rfl) ea_nil)) (v_pin A2.des A.wf))) (by rw [nv_len])) ea_nil) (by show 1 ≤ 100000; decide))
      (el_callL (xs := nv [best s (reach s s.stage), (reach s s.stage).length]) (el_lst (ea_cons (ev_var rfl) (ea_cons (ev_is (ev_len (ev_var rfl) (sq_of (e2 _ _ hp))) (by rw [nv_len])) ea_nil)) (by show 2 ≤ 100000; decide)) fun p' H3 _ h3 => v_listed h3 (by show 2 ≤ 50000; decide)) (by show 1 + 3 ≤ 100000; decide)) fun l H3 hl e3 h3 => rp l H3 (fresh_back (e1.trans e2) hl) ((e1.trans e2).trans e3) h3
theorem m_needed (T : Txt K mg CD CK) (R : TxtR K mg CR fI) (D : MetT K CK "needed" "Desk.needed" (sK 12)) (cW : CalX P w K mg base 3 "want" (spWant CR)) (cN : Cal P w K mg base 7 "props_needed" (spNeed CD)) : Met P w K mg base (L2.CX P w) 8 CK "needed" (spOp CD CK CR (aNone .needed)) := by
  obtain ⟨f, fd, F, hm⟩ := D
  obtain ⟨t1, hcant⟩ := R.cant
  refine ⟨f, fd, ["self"], hm, F.okX scNeedK (fun vs H Q E h => ?_) (fun cdv A outer s H vs Q E hr h => ?_), F.binds fun _ _ _ _ _ _ us hl => match us, hl with | [_], _ => rfl⟩
  · obtain ⟨k, s, ft, as, c, rfl, ⟨rfl, rfl⟩, _⟩ := h
    rfl
  · obtain ⟨k, s, ft, as, c, rfl, ⟨rfl, rfl⟩, ⟨dk, d, dx, b, rs, A⟩, r⟩ := h
    refine ⟨_, pss_cons (ps_set (i := 1) scNeedK.nd rfl (Or.inl rfl) (pe_c cN hr (by decide) rfl (pa_cons (pe_fld (pv 0) rfl) pa_nil)))
      (pss_cons (ps_expr (pe_cX cW takesX hr (by decide) rfl (pa_cons (pe_cmpR op_notN (pv 1) pe_non (nomark _)) (pa_cons (pe_glob (v := .int (-6)) rfl hcant ⟨_, rfl⟩) pa_nil)))) (pss_one (ps_ret (pe_lst (pa_cons (pv 1) pa_nil))))), ?_⟩
    refine q_asg (ev_call (ea_cons (ev_design T A (ev_var rfl)) ea_nil) (v_need A.des A.wf)) fun H1 e1 => ?_
    cases hn : need s with
    | none =>
      rw [step_needed1 A.wf hn] at r
      exact q_want (ev_notN (ev_var rfl)) ev_c (fun z => nomatch z) fun _ => (r.exc (-6) rfl rfl).go e1
    | some n =>
      rw [step_needed2 A.wf hn] at r
      have rp := r.pure ⟨dk, d, dx, b, rs, A⟩
      refine q_want (ev_notN (ev_var rfl)) ev_c (fun _ H2 e2 => ?_) fun z => nomatch z
      exact s_retL (xs := [nI n]) (el_lst (ea_cons (ev_var rfl) ea_nil) (by show 1 ≤ 100000; decide)) fun l H3 hl e3 h3 => rp l H3 (fresh_back (e1.trans e2) hl) ((e1.trans e2).trans e3) h3
theorem m_spare (T : Txt K mg CD CK) (R : TxtR K mg CR fI) (D : MetT K CK "spare" "Desk.spare" (sK 13)) (cW : CalX P w K mg base 3 "want" (spWant CR)) (cC : Cal P w K mg base 3 "does_carry" (spCarry CD)) (mE : Met P w K mg base CX0 1 CD "end" (spEnd CD)) (cS : Cal P w K mg base 4 "spare_pieces" (spSpare CD)) (cL : Cal P w K mg base 1 "listed" spListed) :
    Met P w K mg base (L2.CX P w) 5 CK "spare" (spOp CD CK CR (aNone .spare)) := by
  obtain ⟨f, fd, F, hm⟩ := D
  obtain ⟨t1, hcant⟩ := R.cant
  refine ⟨f, fd, ["self"], hm, F.okX scSpareK (fun vs H Q E h => ?_) (fun cdv A outer s H vs Q E hr h => ?_), F.binds fun _ _ _ _ _ _ us hl => match us, hl with | [_], _ => rfl⟩
  · obtain ⟨k, s, ft, as, c, rfl, ⟨rfl, rfl⟩, _⟩ := h
    rfl
  · obtain ⟨k, s, ft, as, c, rfl, ⟨rfl, rfl⟩, ⟨dk, d, dx, b, rs, A⟩, r⟩ := h
    refine ⟨_, pss_cons (ps_expr (pe_cX cW takesX hr (by decide) rfl (pa_cons (pe_c cC hr (by decide) rfl (pa_cons (pe_fld (pv 0) rfl) (pa_cons (pe_mt0 T.cd mE pass0 hr (by decide) (pe_fld (pv 0) rfl)) pa_nil))) (pa_cons (pe_glob (v := .int (-6)) rfl hcant ⟨_, rfl⟩) pa_nil))))
      (pss_cons (ps_set (i := 1) scSpareK.nd rfl (Or.inl rfl) (pe_c cS hr (by decide) rfl (pa_cons (pe_fld (pv 0) rfl) pa_nil)))
      (pss_one (ps_ret (pe_op op_cat (pe_lst (pa_cons (pe_callB call_len_seq (by rfl) T.len boot_len (pa_cons (pv 1) pa_nil)) pa_nil)) (pe_c cL hr (by decide) rfl (pa_cons (pv 1) pa_nil)))))), ?_⟩
    refine q_want (ev_call (ea_cons (ev_design T A (ev_var rfl)) (ea_cons (em_end A.des A.wf (ev_design T A (ev_var rfl))) ea_nil)) (v_carry A.des A.wf)) ev_c (fun hc H1 e1 => ?_) fun hc => ?_
    · rw [step_spare2 hc] at r
      have rp := r.pure ⟨dk, d, dx, b, rs, A⟩
      have A1 := A.mono e1
      have hlen : (spareL s).length ≤ 6 := by
        have h1 : (spareL s).length ≤ (List.range s.pieces).length := List.length_filter_le _ _
        rw [List.length_range] at h1
        have := A.wf.p6
        omega
      refine q_asgL (el_call (ea_cons (ev_design T A1 (ev_var rfl)) ea_nil) (v_spare A1.des A.wf)) fun p H2 np e2 hp => ?_
      refine s_retL (el_cat (xs := [nI (spareL s).length]) (ys := nv ((spareL s).length :: spareL s)) (el_lst (ea_cons (ev_is (ev_len (ev_var rfl) (sq_of hp)) (by rw [nv_len])) ea_nil) (by show 1 ≤ 100000; decide)) (el_call (ea_cons (ev_var rfl) ea_nil) (v_listed hp (by omega))) (by simp only [nv_len, List.length_cons, List.length_nil]; omega)) fun l H3 hl e3 h3 => rp l H3 (fresh_back (e1.trans e2) hl) ((e1.trans e2).trans e3) ?_
      rw [h3]
      show _ = some (HO.lst (iv (Sy47Neutral.out (Sy47.listed (spareL s)))))
      rw [out_listed, iv_nat]
      rfl
    · rw [step_spare1 hc] at r
      exact r.exc (-6) rfl rfl
/-- the rows of a design, told -/
def rowsL (l : List (List Nat)) : List Nat := l.flatMap fun (l : List Nat) => l.length :: l
theorem rowsL_more {l : List (List Nat)} {i : Nat} {x : List Nat} (h : l[i]? = some x) : rowsL (l.take (i + 1)) = rowsL (l.take i) ++ (x.length :: x) := by
  unfold rowsL
  rw [take_more h, List.flatMap_append, List.flatMap_cons, List.flatMap_nil, List.append_nil]
theorem rowsL_len : ∀ {l : List (List Nat)}, (∀ x ∈ l, x.length ≤ 4) → (rowsL l).length ≤ 5 * l.length
  | [], _ => Nat.le_refl _
  | a :: r, h => by
    have i1 := rowsL_len fun x hx => h x (List.mem_cons_of_mem _ hx)
    have h1 := h a List.mem_cons_self
    unfold rowsL at i1 ⊢
    rw [List.flatMap_cons, List.length_append, List.length_cons, List.length_cons]
    omega
theorem m_state (T : Txt K mg CD CK) (D : MetT K CK "state" "Desk.state" (sK 14)) (cL : Cal P w K mg base 1 "listed" spListed) : Met P w K mg base (L2.CX P w) 2 CK "state" (spOp CD CK CR (aNone .state)) := by
  obtain ⟨f, fd, F, hm⟩ := D
  refine ⟨f, fd, ["self"], hm, F.okX scState (fun vs H Q E h => ?_) (fun cdv A outer s H vs Q E hr h => ?_), F.binds fun _ _ _ _ _ _ us hl => match us, hl with | [_], _ => rfl⟩
  · obtain ⟨k, s, ft, as, c, rfl, ⟨rfl, rfl⟩, _⟩ := h
    rfl
  · obtain ⟨k, s, ft, as, c, rfl, ⟨rfl, rfl⟩, ⟨dk, d, dx, b, rs, A⟩, r⟩ := h
    refine ⟨_, pss_cons (ps_set (i := 1) scState.nd rfl (Or.inl rfl) (pe_fld (pv 0) rfl))
      (pss_cons (ps_set (i := 2) scState.nd rfl (Or.inl rfl) (pe_lst pa_nil))
      (pss_cons (ps_for (passes_of rfl) rfl (pi_list (pe_fld (pv 1) rfl)) (pg_name (i := 3) scState.nd rfl (Or.inl rfl))
        (pss_one (ps_expr (pe_bm PySem.F.plainAttrs_list PySem.F.slot_list_extend PySem.F.type_list_extend mt_extend (pv 2) (pa_cons (pe_c cL hr (by decide) rfl (pa_cons (pv 3) pa_nil)) pa_nil)))))
      (pss_one (ps_ret (pe_op op_cat (pe_op op_cat (pe_lst (pa_cons (pe_fld (pv 0) rfl) pa_nil))
        (pe_c cL hr (by decide) rfl (pa_cons (pe_lst (pa_cons (pe_fld (pv 1) rfl) (pa_cons (pe_fld (pv 1) rfl) (pa_cons (pe_fld (pv 1) rfl) pa_nil)))) pa_nil)))
        (pe_c cL hr (by decide) rfl (pa_cons (pv 2) pa_nil))))))), ?_⟩
    have rp := r.pure (s := s) ⟨dk, d, dx, b, rs, A⟩
    have hrows : (rowsL s.rests).length ≤ 30 := by
      have := rowsL_len A.wf.r4
      have := A.wf.rl
      have := A.wf.p6
      omega
    refine q_asg (ev_design T A (ev_var rfl)) fun H1 e1 => ?_
    refine q_asgL (el_lst ea_nil (Nat.zero_le _)) fun p H2 np e2 hp => ?_
    have A2 := (A.mono e1).mono e2
    refine q_forLn (xs := rs.map V.ref) (ev_fld (ev_var rfl) A2.D.o T.cd T.nB (dF_bases s b)) (sq_of A2.D.b)
      (fun i σ H' => ∃ v3, σ = [some (.ref k), some (.ref d), some (.ref p), v3] ∧ Ex H1 H' ∧ H' p = some (.lst (nv (rowsL (s.rests.take i))))) (fun H3 e3 => ⟨none, rfl, e2.trans e3, e3 _ _ hp⟩) (fun i σ H' _ h => ?_) (fun i x σ H' hx h => ?_) (fun σ H' h => ?_)
    · obtain ⟨v3, _, eh, _⟩ := h
      exact sq_of (eh _ _ (A.mono e1).D.b)
    · obtain ⟨v3, rfl, eh, hp'⟩ := h
      rw [List.getElem?_map] at hx
      cases hri : rs[i]? with
      | none => rw [hri] at hx; cases hx
      | some r' =>
        rw [hri] at hx
        obtain rfl : V.ref r' = x := Option.some.inj hx
        have hil : i < s.rests.length := by
          rw [← A.D.rl]
          exact (List.getElem?_eq_some_iff.mp hri).1
        have hli : s.rests[i]? = some s.rests[i] := List.getElem?_eq_getElem hil
        have hr' := eh _ _ ((A.mono e1).D.r i r' _ hri hli)
        have h4 := A.wf.r4 _ (List.getElem_mem hil)
        have hlen : (rowsL (s.rests.take i)).length ≤ 30 := by
          have h5 := rowsL_len (l := s.rests.take i) fun x hx => A.wf.r4 x (List.mem_of_mem_take hx)
          have h6 : (s.rests.take i).length ≤ s.rests.length := List.length_take_le' _ _
          have := A.wf.rl
          have := A.wf.p6
          omega
        refine s_ext (xs := nv (rowsL (s.rests.take i))) hp' (ev_var rfl) (el_call (ea_cons (ev_var rfl) ea_nil) (v_listed hr' (by omega))) (by rw [nv_len, nv_len, List.length_cons]; omega) fun H3 e3 => ⟨_, rfl, Ex.mut (eh.trans e3) np, ?_⟩
        rw [upd_same, rowsL_more hli, nv_append]
    · obtain ⟨v3, rfl, eh, hp'⟩ := h
      rw [List.length_map, A.D.rl, List.take_length] at hp'
      have A3 := (A.mono e1).mono eh
      refine s_retL (el_cat (xs := nv [s.stage, 3, s.pieces, s.props, s.atOnce]) (ys := nv ((rowsL s.rests).length :: rowsL s.rests)) (el_cat (xs := nv [s.stage]) (ys := nv [3, s.pieces, s.props, s.atOnce]) (el_lst (ea_cons (ev_stage T A3 (ev_var rfl)) ea_nil) (by show 1 ≤ 100000; decide))
        (el_callL (xs := nv [s.pieces, s.props, s.atOnce]) (el_lst (ea_cons (ev_pieces T A3.des (ev_var rfl)) (ea_cons (ev_props T A3.des (ev_var rfl)) (ea_cons (ev_once T A3.des (ev_var rfl)) ea_nil))) (by show 3 ≤ 100000; decide)) fun p' H3 _ h3 => v_listed h3 (by show 3 ≤ 50000; decide)) (by show 1 + 4 ≤ 100000; decide))
        (el_call (ea_cons (ev_var rfl) ea_nil) (v_listed hp' (by omega))) (by simp only [nv_len, List.length_append, List.length_cons, List.length_nil]; omega)) fun l H4 hl e4 h4 => rp l H4 (fresh_back (e1.trans eh) hl) ((e1.trans eh).trans e4) ?_
      rw [h4]
      have e : Sy47Neutral.out (Sy47.step s .state).2 = ([s.stage, 3, s.pieces, s.props, s.atOnce] ++ ((rowsL s.rests).length :: rowsL s.rests)).map fun (n : Nat) => (n : Int) := by
        show (s.stage : Int) :: (((3 : Nat) : Int) :: ((s.pieces : Int) :: (s.props : Int) :: (s.atOnce : Int) :: (((((Sy47.ints (rowsL s.rests)).length : Nat) : Int) :: Sy47.ints (rowsL s.rests)) ++ []))) = _
        unfold Sy47.ints
        rw [List.length_map, List.append_nil]
        rfl
      rw [e, iv_nat, nv_append]
end
end Br
end
section
set_option maxRecDepth 100000
set_option maxHeartbeats 4000000
namespace Br
open PySem PySem.Spec PyProof.Rows L2 Evl
open BrA BrB BrC BrD BrE BrF

/-! ### told -/
theorem scTold : scK ["self", "call", "n"] ["self", "call", "n"] 15 := ⟨rfl, rfl, rfl, by decide +kernel, rfl, by decide +kernel, by decide +kernel⟩
theorem scAnswer : scK ["self", "call", "n", "e"] ["self", "call", "n"] 16 := ⟨rfl, rfl, rfl, by decide +kernel, rfl, by decide +kernel, by decide +kernel⟩
def spTold (CD CK CR : Addr) : Sp := fun vs H Q E => ∃ (k : Addr) (s : Ds) (ft : List Addr) (c : Int) (a : Addr) (ns : List Int) (x : Sy47.Call), vs = [.ref k, .int c, .ref a] ∧ H a = some (.lst (iv ns)) ∧ Told c ns x ∧ DeskAt CD CK H k s ft ∧
  RetM CD CK CR k s ft (Sy47.step s x).1 (Sy47Neutral.out (Sy47.step s x).2) H Q E
section
variable {K : PySem.W.Frag} {CD CK CR k dk d dx b : Addr} {s : Ds} {ft rs : List Addr} {H : Hp} {σ : L2.St} {ta : TE} {tt : TA} {D : Ends} {tz tu : TS} {E : XK} {m : Str} {args : List V → Sy47.Call → Prop} {as : List V} {c : Sy47.Call}
/-- return self.m(..) -/
theorem s_op (A : DkAt CD CK H k s ft dk d dx b rs) (h : Ev ta σ H (.ref k)) (lk : (kF d s.stage).lookup m = none) (ht : EvA tt σ H as) (ha : args as c) (r : RetM CD CK CR k s ft (Sy47.step s c).1 (Sy47Neutral.out (Sy47.step s c).2) H D.rt E) :
    tRet (tMeth CK m (spOp CD CK CR args) [] E ta tt) D σ H :=
  h H (Ex.refl H) _ fun H1 e1 => ⟨k, dk, _, rfl, e1 _ _ A.kk, lk, ht H1 e1 _ fun H2 e2 => ⟨k, s, ft, as, c, by rw [List.append_nil], ha, ⟨dk, d, dx, b, rs, A.mono (e1.trans e2)⟩, r.mono (e1.trans e2)⟩⟩
theorem q_skip {i j : Int} (hne : i ≠ j) (hσ : σ[1]? = some (some (.int i))) (k : tz D σ H) : tSeq (tIfS (tTest (tOp rEq (tVar 1) (tC (.int j)))) tu tNext) tz D σ H :=
  ⟨_, hσ, rfl, _, rfl, by
    have e : decide (V.int i = V.int j) = false := decide_eq_false fun z => hne (V.int.inj z)
    rw [e]
    exact iteF k⟩
theorem q_hit {i : Int} (hσ : σ[1]? = some (some (.int i))) (k : tu { D with nx := tz D } σ H) : tSeq (tIfS (tTest (tOp rEq (tVar 1) (tC (.int i)))) tu tNext) tz D σ H :=
  ⟨_, hσ, rfl, _, rfl, by
    have e : decide (V.int i = V.int i) = true := decide_eq_true rfl
    rw [e]
    exact iteT k⟩
/-- n[j] -/
theorem ev_num {a : Addr} {ns : List Int} {j : Nat} {z : Int} (ha : H a = some (.lst (iv ns))) (hσ : σ[2]? = some (some (.ref a))) (hz : ns[j]? = some z) : Ev (tOp (rIxL K) (tVar 2) (tC (nI j))) σ H (.int z) :=
  ev_op (ev_var hσ) ev_c (rv_ixL (sq_of ha) (atI_nat (by unfold iv; rw [List.getElem?_map, hz]; rfl)))
end
section
variable {P : Program} {w : World} {K : PySem.W.Frag} {mg : Str → Option Value} {base : Heap} {CD CK CR fI : Addr}
theorem m_told (T : Txt K mg CD CK) (D : MetT K CK "told" "Desk.told" (sK 15))
    (m0 : Met P w K mg base (L2.CX P w) 4 CK "begins" (spOp CD CK CR aBegins)) (m1 : Met P w K mg base (L2.CX P w) 5 CK "rests" (spOp CD CK CR aRests)) (m2 : Met P w K mg base (L2.CX P w) 5 CK "carries" (spOp CD CK CR (aOne .carries)))
    (m3 : Met P w K mg base (L2.CX P w) 5 CK "falls" (spOp CD CK CR (aOne .falls))) (m4 : Met P w K mg base (L2.CX P w) 5 CK "does" (spOp CD CK CR (aOne .does))) (m5 : Met P w K mg base (L2.CX P w) 4 CK "undo" (spOp CD CK CR (aNone .undo)))
    (m6 : Met P w K mg base (L2.CX P w) 9 CK "fewest" (spOp CD CK CR (aNone .fewest))) (m7 : Met P w K mg base (L2.CX P w) 9 CK "plan" (spOp CD CK CR (aNone .plan))) (m8 : Met P w K mg base (L2.CX P w) 7 CK "far" (spOp CD CK CR (aNone .far)))
    (m9 : Met P w K mg base (L2.CX P w) 8 CK "needed" (spOp CD CK CR (aNone .needed))) (m10 : Met P w K mg base (L2.CX P w) 5 CK "spare" (spOp CD CK CR (aNone .spare))) (m11 : Met P w K mg base (L2.CX P w) 2 CK "state" (spOp CD CK CR (aNone .state))) :
    Met P w K mg base (L2.CX P w) 10 CK "told" (spTold CD CK CR) := by
  obtain ⟨f, fd, F, hm⟩ := D
  refine ⟨f, fd, ["self", "call", "n"], hm, F.okX scTold (fun vs H Q E h => ?_) (fun cdv A outer s H vs Q E hr h => ?_), F.binds fun _ _ _ _ _ _ us hl => match us, hl with | [_, _, _], _ => rfl⟩
  · obtain ⟨k, s, ft, c, a, ns, x, rfl, _⟩ := h
    rfl
  · obtain ⟨k, s, ft, c, a, ns, x, rfl, ha, ht, ⟨dk, d, dx, b, rs, A⟩, r⟩ := h
    refine ⟨_, pss_cons (ps_if (pt_cmpR op_eq (pv 1) pe_int (nomark _)) (pss_one (ps_ret (pe_mt T.ck m0 takesX hr (by decide) (pv 0) (pa_cons (pe_ix ix_list (pv 2) pe_int (fun _ _ => rfl)) (pa_cons (pe_ix ix_list (pv 2) pe_int (fun _ _ => rfl)) (pa_cons (pe_ix ix_list (pv 2) pe_int (fun _ _ => rfl)) pa_nil)))))) pss_nil)
      (pss_cons (ps_if (pt_cmpR op_eq (pv 1) pe_int (nomark _)) (pss_one (ps_ret (pe_mt T.ck m1 takesX hr (by decide) (pv 0) (pa_cons (pe_ix ix_list (pv 2) pe_int (fun _ _ => rfl)) (pa_cons (pe_ix ix_list (pv 2) pe_int (fun _ _ => rfl)) pa_nil))))) pss_nil)
      (pss_cons (ps_if (pt_cmpR op_eq (pv 1) pe_int (nomark _)) (pss_one (ps_ret (pe_mt T.ck m2 takesX hr (by decide) (pv 0) (pa_cons (pe_ix ix_list (pv 2) pe_int (fun _ _ => rfl)) pa_nil)))) pss_nil)
      (pss_cons (ps_if (pt_cmpR op_eq (pv 1) pe_int (nomark _)) (pss_one (ps_ret (pe_mt T.ck m3 takesX hr (by decide) (pv 0) (pa_cons (pe_ix ix_list (pv 2) pe_int (fun _ _ => rfl)) pa_nil)))) pss_nil)
      (pss_cons (ps_if (pt_cmpR op_eq (pv 1) pe_int (nomark _)) (pss_one (ps_ret (pe_mt T.ck m4 takesX hr (by decide) (pv 0) (pa_cons (pe_ix ix_list (pv 2) pe_int (fun _ _ => rfl)) pa_nil)))) pss_nil)
      (pss_cons (ps_if (pt_cmpR op_eq (pv 1) pe_int (nomark _)) (pss_one (ps_ret (pe_mt0 T.ck m5 takesX hr (by decide) (pv 0)))) pss_nil)
      (pss_cons (ps_if (pt_cmpR op_eq (pv 1) pe_int (nomark _)) (pss_one (ps_ret (pe_mt0 T.ck m6 takesX hr (by decide) (pv 0)))) pss_nil)
      (pss_cons (ps_if (pt_cmpR op_eq (pv 1) pe_int (nomark _)) (pss_one (ps_ret (pe_mt0 T.ck m7 takesX hr (by decide) (pv 0)))) pss_nil)
      (pss_cons (ps_if (pt_cmpR op_eq (pv 1) pe_int (nomark _)) (pss_one (ps_ret (pe_mt0 T.ck m8 takesX hr (by decide) (pv 0)))) pss_nil)
      (pss_cons (ps_if (pt_cmpR op_eq (pv 1) pe_int (nomark _)) (pss_one (ps_ret (pe_mt0 T.ck m9 takesX hr (by decide) (pv 0)))) pss_nil)
      (pss_cons (ps_if (pt_cmpR op_eq (pv 1) pe_int (nomark _)) (pss_one (ps_ret (pe_mt0 T.ck m10 takesX hr (by decide) (pv 0)))) pss_nil)
      (pss_one (ps_ret (pe_mt0 T.ck m11 takesX hr (by decide) (pv 0)))))))))))))), ?_⟩
    cases ht with
    | begins x y z =>
      refine q_hit rfl ?_
      exact s_op A (ev_var rfl) (kF_no d s.stage (by decide +kernel) (by decide +kernel)) (ea_cons (ev_num (j := 0) ha rfl rfl) (ea_cons (ev_num (j := 1) ha rfl rfl) (ea_cons (ev_num (j := 2) ha rfl rfl) ea_nil))) ⟨x, y, z, rfl, rfl⟩ r
    | rests x y =>
      refine q_skip (by decide) rfl ?_
      refine q_hit rfl ?_
      exact s_op A (ev_var rfl) (kF_no d s.stage (by decide +kernel) (by decide +kernel)) (ea_cons (ev_num (j := 0) ha rfl rfl) (ea_cons (ev_num (j := 1) ha rfl rfl) ea_nil)) ⟨x, y, rfl, rfl⟩ r
    | carries t =>
      iterate 2 refine q_skip (by decide) rfl ?_
      refine q_hit rfl ?_
      exact s_op A (ev_var rfl) (kF_no d s.stage (by decide +kernel) (by decide +kernel)) (ea_cons (ev_num (j := 0) ha rfl rfl) ea_nil) ⟨t, rfl, rfl⟩ r
    | falls t =>
      iterate 3 refine q_skip (by decide) rfl ?_
      refine q_hit rfl ?_
      exact s_op A (ev_var rfl) (kF_no d s.stage (by decide +kernel) (by decide +kernel)) (ea_cons (ev_num (j := 0) ha rfl rfl) ea_nil) ⟨t, rfl, rfl⟩ r
    | does t =>
      iterate 4 refine q_skip (by decide) rfl ?_
      refine q_hit rfl ?_
      exact s_op A (ev_var rfl) (kF_no d s.stage (by decide +kernel) (by decide +kernel)) (ea_cons (ev_num (j := 0) ha rfl rfl) ea_nil) ⟨t, rfl, rfl⟩ r
    | undo =>
      iterate 5 refine q_skip (by decide) rfl ?_
      refine q_hit rfl ?_
      exact s_op A (ev_var rfl) (kF_no d s.stage (by decide +kernel) (by decide +kernel)) ea_nil ⟨rfl, rfl⟩ r
    | fewest =>
      iterate 6 refine q_skip (by decide) rfl ?_
      refine q_hit rfl ?_
      exact s_op A (ev_var rfl) (kF_no d s.stage (by decide +kernel) (by decide +kernel)) ea_nil ⟨rfl, rfl⟩ r
    | plan =>
      iterate 7 refine q_skip (by decide) rfl ?_
      refine q_hit rfl ?_
      exact s_op A (ev_var rfl) (kF_no d s.stage (by decide +kernel) (by decide +kernel)) ea_nil ⟨rfl, rfl⟩ r
    | far =>
      iterate 8 refine q_skip (by decide) rfl ?_
      refine q_hit rfl ?_
      exact s_op A (ev_var rfl) (kF_no d s.stage (by decide +kernel) (by decide +kernel)) ea_nil ⟨rfl, rfl⟩ r
    | needed =>
      iterate 9 refine q_skip (by decide) rfl ?_
      refine q_hit rfl ?_
      exact s_op A (ev_var rfl) (kF_no d s.stage (by decide +kernel) (by decide +kernel)) ea_nil ⟨rfl, rfl⟩ r
    | spare =>
      iterate 10 refine q_skip (by decide) rfl ?_
      refine q_hit rfl ?_
      exact s_op A (ev_var rfl) (kF_no d s.stage (by decide +kernel) (by decide +kernel)) ea_nil ⟨rfl, rfl⟩ r
    | state =>
      iterate 11 refine q_skip (by decide) rfl ?_
      exact s_op A (ev_var rfl) (kF_no d s.stage (by decide +kernel) (by decide +kernel)) ea_nil ⟨rfl, rfl⟩ r
end
/-! ### a method called within a try: what it raises is wished for at the slots as they stand -/
def tMethT (C : Addr) (m : Str) (sp : Sp) (E : L2.St → XK) (ta : TE) (t : TA) : TE := fun σ H Q => ta σ H fun x H1 => ∃ a dx fs, x = .ref a ∧ H1 a = some (.ins C dx fs) ∧ fs.lookup m = none ∧ t σ H1 fun vs H2 => sp (x :: vs) H2 Q (E σ)
theorem pe_mtT {X : Cx} {CX : CXT} {k j : Nat} {C : Addr} {sp : Sp} {E : L2.St → XK} {m : Str} {pos apos : Pos} {e o : Expr} {es : List Expr} {ta : TE} {t : TA} {pl : Sem Bool} (hc : Cls X.K C) (c : Met X.prog X.w X.K X.mg X.base CX k C m sp)
    (hx : ∀ σ, PassesAt CX X σ (E σ)) (hr : Room j X.A) (hk : k ≤ j) (he : PE X o ta) (ha : PA X (e :: es) t)
    (hst : starEach (e :: es) X.env = (false, eval e X.env) :: starEach es X.env := by rfl) (hpl : (backTo pos (starEach es X.env)).any (·.1) = false := by rfl)
    (ht : eval (.Call (.Attribute o m apos) (e :: es) [] pos) X.env = (do
      let ov ← eval o X.env
      standAt apos.atName
      let (f, first) ← holding [ov] (getMethod ov m pl)
      callWith pos f first (backTo pos (starEach (e :: es) X.env)) (backToKw pos (keywordEach [] X.env))) := by rfl) :
    PE X (.Call (.Attribute o m apos) (e :: es) [] pos) (tMethT C m sp E ta t) := by
  obtain ⟨f, fd, ps, hm, F, hb⟩ := c.ex
  refine ⟨fun pins s σ H Q I h => ?_⟩
  refine PySem.W.methodCall_KW (pl := pl) (thn (he.run pins s σ H _ I h) fun u s1 ⟨x, H1, I1, rx, a, dx, fs, ex, ea, l, q⟩ => ?_) ht
  subst ex
  obtain rfl : u = Value.ref a := rx
  refine getmeth_ok I1 ea hc hm l ?_
  refine PySem.W.callWith_K (first := [.ref a]) (h₀ := X.base) I.ok.mod.kin hm.kp (thn (ha.run pos pins s1 σ H1 _ I1 q) fun us s2 ⟨vs, H2, I2, r, q2⟩ => ⟨I2.kIn, ?_⟩) hst hpl
  exact run_fnS (us := .ref a :: us) (vs := .ref a :: vs) F (hr.mono hk) hb (hx σ) I2 (.cons rfl r) q2
/-- answer's promise: no error leaves it -/
def spAnswer (CD CK : Addr) : Sp := fun vs H Q _ => ∃ (k : Addr) (s : Ds) (ft : List Addr) (c : Int) (a : Addr) (ns : List Int) (x : Sy47.Call), vs = [.ref k, .int c, .ref a] ∧ H a = some (.lst (iv ns)) ∧ Told c ns x ∧ DeskAt CD CK H k s ft ∧
  ∀ p ft' H2, H p = none → Kept H H2 ft → DeskAt CD CK H2 k (Sy47.step s x).1 ft' → (∀ y ∈ ft', y ∈ ft ∨ H y = none) → H2 p = some (.lst (iv (Sy47Neutral.out (Sy47.step s x).2))) → Q (.ref p) H2
section
variable {P : Program} {w : World} {K : PySem.W.Frag} {mg : Str → Option Value} {base : Heap} {CD CK CR fI : Addr}
theorem m_answer (T : Txt K mg CD CK) (R : TxtR K mg CR fI) (D : MetT K CK "answer" "Desk.answer" (sK 16)) (mT : Met P w K mg base (L2.CX P w) 10 CK "told" (spTold CD CK CR)) : Met P w K mg base CX0 11 CK "answer" (spAnswer CD CK) := by
  obtain ⟨f, fd, F, hm⟩ := D
  refine ⟨f, fd, ["self", "call", "n"], hm, F.ok scAnswer (fun vs H Q E h => ?_) (fun cdv A outer s H vs Q E hr h => ?_), F.binds fun _ _ _ _ _ _ us hl => match us, hl with | [_, _, _], _ => rfl⟩
  · obtain ⟨k, s, ft, c, a, ns, x, rfl, _⟩ := h
    rfl
  · obtain ⟨k, s, ft, c, a, ns, x, rfl, ha, ht, ⟨dk, d, dx, b, rs, A⟩, q⟩ := h
    refine ⟨_, pss_one (ps_try_as (i := 3) (tb := fun W => tRet (tMethT CK "told" (spTold CD CK CR) (WE W) (tVar 0) (tCons (tVar 1) (tCons (tVar 2) tNil)))) (ts := fun a cls d => tRet (tLst (tCons (tXf a cls d CR "code" (tVar 3)) tNil))) (Wout := fun _ _ _ _ => False) rfl rfl scAnswer.nd rfl rfl ⟨rfl, by decide, Or.inl R.gR⟩ takes0
      (fun W pn xe tk _ => pss_one (ps_ret (pe_mtT T.ck mT (fun σ => passAt tk σ) hr (by decide) (pv 0) (pa_cons (pv 1) (pa_cons (pv 2) pa_nil)))))
      (fun a oe cls d pn hz hf => pss_one (ps_ret (pe_lst (pa_cons (pe_xf R.xf R.noC hz hf (pv 3)) pa_nil))))), ?_⟩
    refine ⟨_, rfl, k, dk, _, rfl, A.kk, kF_no d s.stage (by decide +kernel) (by decide +kernel), _, rfl, _, rfl, k, s, ft, c, a, ns, x, rfl, ha, ht, ⟨dk, d, dx, b, rs, A⟩, ⟨fun p ft' H2 np kp D2 hf h2 => q p ft' H2 np kp D2 hf h2, fun n ho hs H2 dd e2 hd h2 => ?_⟩⟩
    refine ⟨true, R.te, fun _ a0 _ => ?_, fun z => Bool.noConfusion z⟩
    refine ⟨_, rfl, rfl, rfl, dd, _, _, rfl, h2, lk_here, (by show 1 ≤ sizeLine; decide), fun p hp => ?_⟩
    refine q p ft _ (fresh_back e2 hp) (fun y o hy _ => Ex.new hp _ _ (e2 _ _ hy)) ?_ (fun y hy => .inl hy) ?_
    · rw [hs]
      exact ⟨dk, d, dx, b, rs, A.mono (e2.trans (Ex.new hp))⟩
    · rw [upd_same, ho]
      rfl
end
end Br
end
section
set_option maxRecDepth 100000
set_option maxHeartbeats 4000000
namespace Br
open PySem PySem.Spec PyProof.Rows L2 Evl
open BrA BrB BrC BrD BrE BrF

/-! ### answers -/
theorem scAnswers : FnScope ["calls", "desk", "found", "at", "behind_call", "row"] ["calls"] (defScope (top 41)) := ⟨rfl, rfl, rfl, by decide +kernel, rfl, by decide +kernel, by decide +kernel⟩
def spAns (K : PySem.W.Frag) : Sp := fun vs H Q _ => ∃ (a : Addr) (ns : List Int) (cs : List (List Int)), vs = [.ref a] ∧ SqL K H a (iv ns) ∧ Asked ns cs ∧ ∀ (H' : Hp) (p : Addr), H' p = some (.lst (iv (PySy47.answers ns))) → Q (.ref p) H'
theorem iv_len (l : List Int) : (iv l).length = l.length := List.length_map ..
theorem iv_append (l r : List Int) : iv (l ++ r) = iv l ++ iv r := List.map_append
section
variable {K : PySem.W.Frag} {σ : L2.St} {H : Hp} {ta te : TE} {tr : TA} {v : V} {l b : Addr} {xs ys : List V} {D : Ends} {tz : TS}
theorem tc_step {Q : List V → Hp → Prop} (h : Ev te σ H v) (k : ∀ H1, Ex H H1 → tr σ H1 fun xs H2 => Q (v :: xs) H2) : tCons te tr σ H Q := h H (Ex.refl H) _ k
theorem tc_stepL {Q : List V → Hp → Prop} (h : EvL te σ H xs) (k : ∀ p H1, H p = none → Ex H H1 → H1 p = some (.lst xs) → tr σ H1 fun ys H2 => Q (.ref p :: ys) H2) : tCons te tr σ H Q := h H (Ex.refl H) _ k
theorem q_appB (hl : H l = some (.lst xs)) (ha : Ev ta σ H (.ref l)) (h : Ev te σ H v) (hz : xs.length < 10000000) (k : ∀ H1, Ex H H1 → tz D σ (upd H1 l (.lst (xs ++ [v])))) : tSeq (tDrop (tBM K "list" rAppend ta (tCons te tNil))) tz D σ H :=
  ha H (Ex.refl H) _ fun H1 e1 => ⟨Or.inl ⟨rfl, xs, sq_of (e1 l _ hl)⟩, h H1 e1 _ fun H2 e2 => ⟨l, xs, v, rfl, rfl, e2 l _ (e1 l _ hl), Nat.lt_trans hz (by decide), k H2 (e1.trans e2)⟩⟩
theorem q_extB (hl : H l = some (.lst xs)) (hb : H b = some (.lst ys)) (ha : Ev ta σ H (.ref l)) (h : Ev te σ H (.ref b)) (hz : xs.length + ys.length ≤ 10000000) (k : ∀ H1, Ex H H1 → tz D σ (upd H1 l (.lst (xs ++ ys)))) : tSeq (tDrop (tBM K "list" rExtend ta (tCons te tNil))) tz D σ H :=
  ha H (Ex.refl H) _ fun H1 e1 => ⟨Or.inl ⟨rfl, xs, sq_of (e1 l _ hl)⟩, h H1 e1 _ fun H2 e2 => ⟨l, b, xs, ys, rfl, rfl, e2 l _ (e1 l _ hl), e2 b _ (e1 b _ hb), Nat.le_trans hz (by decide), k H2 (e1.trans e2)⟩⟩
end
theorem DkAt.updL {CD CK k dk d dx b pf : Addr} {H : Hp} {s : Ds} {ft rs : List Addr} {out : List Int} {o : HO} (A : DkAt CD CK H k s ft dk d dx b rs) (hp : H pf = some (.lst (iv out))) (hn : pf ∉ ft) : DkAt CD CK (upd H pf o) k s ft dk d dx b rs := by
  have hk : k ≠ pf := fun z => hn (by rw [A.ft, z]; exact List.mem_cons_self)
  refine ⟨by rw [upd_ne hk]; exact A.kk, ⟨?_, ?_, A.D.rl, fun i r l h1 h2 => ?_, A.D.nd⟩, A.ft, A.wf, A.gd⟩
  · rw [upd_ne fun z => by have := A.D.o; rw [z, hp] at this; cases this]
    exact A.D.o
  · rw [upd_ne fun z => by
      have h1 := A.D.b
      rw [z, hp] at h1
      have h2 : iv out = rs.map V.ref := HO.lst.inj (Option.some.inj h1)
      have h3 : 0 < rs.length := by
        rw [A.D.rl, A.wf.rl]
        exact A.wf.p1
      have h4 : (rs.map V.ref)[0]? = some (V.ref rs[0]) := by rw [List.getElem?_map, List.getElem?_eq_getElem h3]; rfl
      rw [← h2] at h4
      unfold iv at h4
      rw [List.getElem?_map] at h4
      cases e : out[0]? with
      | none => rw [e] at h4; cases h4
      | some n => rw [e] at h4; cases h4]
    exact A.D.b
  · have hm : r ∈ rs := List.mem_of_getElem? h1
    rw [upd_ne fun z => hn (by rw [A.ft, ← z]; exact List.mem_cons_of_mem _ hm)]
    exact A.D.r i r l h1 h2
theorem rd_kept {H H2 : Hp} {a : Addr} {u : HO} {ft : List Addr} (h : Rd H a u) (n : a ∉ ft) (k : Kept H H2 ft) : Rd H2 a u := by
  rcases h with h | ⟨o, h⟩
  · exact .inl (k _ _ h n)
  · exact .inr ⟨o, k _ _ h n⟩
theorem rd_some {H : Hp} {a : Addr} {u : HO} (h : Rd H a u) : ∃ o, H a = some o := by
  rcases h with h | ⟨o, h⟩
  · exact ⟨_, h⟩
  · exact ⟨_, h⟩
/-- the request, as it stands all along -/
def Req (K : PySem.W.Frag) (H : Hp) (a : Addr) (ns : List Int) (ft : List Addr) (pf : Addr) : Prop := (∀ H', SqL K H' a (iv ns)) ∨ (Rd H a (.lst (iv ns)) ∧ a ∉ ft ∧ a ≠ pf)
section
variable {K : PySem.W.Frag} {H H2 : Hp} {a pf : Addr} {ns : List Int} {ft ft' : List Addr}
theorem Req.sq (r : Req K H a ns ft pf) : SqL K H a (iv ns) := by
  rcases r with r | ⟨r, _⟩
  · exact r H
  · exact .inl r
theorem Req.ex (r : Req K H a ns ft pf) (e : Ex H H2) : Req K H2 a ns ft pf := by
  rcases r with r | ⟨r, h⟩
  · exact .inl r
  · exact .inr ⟨ex_rd e r, h⟩
theorem Req.kept (r : Req K H a ns ft pf) (k : Kept H H2 ft) (hf : ∀ x ∈ ft', x ∈ ft ∨ H x = none) : Req K H2 a ns ft' pf := by
  rcases r with r | ⟨r, h1, h2⟩
  · exact .inl r
  · refine .inr ⟨rd_kept r h1 k, fun z => ?_, h2⟩
    rcases hf a z with y | y
    · exact h1 y
    · obtain ⟨o, ho⟩ := rd_some r
      rw [y] at ho
      cases ho
theorem Req.upd {o : HO} (r : Req K H a ns ft pf) : Req K (L2.upd H pf o) a ns ft pf := by
  rcases r with r | ⟨r, h1, h2⟩
  · exact .inl r
  · refine .inr ⟨?_, h1, h2⟩
    rcases r with r | ⟨u, r⟩
    · exact .inl (by rw [upd_ne h2]; exact r)
    · exact .inr ⟨u, by rw [upd_ne h2]; exact r⟩
end
theorem cut_iv {ns : List Int} {i n : Nat} (h : i + 1 + n ≤ ns.length) : cutV (iv ns) (some (((i + 1 : Nat) : Int))) (some (((i + 1 + n : Nat) : Int))) = iv ((ns.drop (i + 1)).take n) := by
  unfold cutV
  rw [HT.sIx_nat, HT.sIx_nat, iv_len]
  have h1 : min (i + 1) ns.length = i + 1 := by omega
  have h2 : min (i + 1 + n) ns.length = i + 1 + n := by omega
  rw [h1, h2]
  have h3 : i + 1 + n - (i + 1) = n := by omega
  rw [h3]
  unfold iv
  rw [List.map_take, List.map_drop]
theorem pe_mk0 {X : Cx} {k j : Nat} {x : Str} {C : Addr} {sp : Sp} {p pos : Pos} (c : Mak X.prog X.w X.K X.mg X.base k x C sp) (hr : Room j X.A) (hk : k + 1 ≤ j) (hg : Gl X x) (hdb : (x == ("__debug__" : Str)) = false := by decide) :
    PE X (.Call (.Name x p) [] [] pos) (tMake C sp [] E0 tNil) := by
  obtain ⟨f, fd, ps, M, F, hm, b⟩ := c.ex
  exact pe_make0 M F (hr.mono hk) hg hm b .nil pass0 hdb
section
variable {P : Program} {w : World} {K : PySem.W.Frag} {mg : Str → Option Value} {base : Heap} {CD CK CR fI : Addr}
theorem f_answers {f : Addr} {fd : FuncData} (T : Txt K mg CD CK) (R : TxtR K mg CR fI) (F : Fun K "answers" "answers" (top 41) f fd) (M : Mak P w K mg base 3 "Desk" CK (spKInit CD CK)) (mA : Met P w K mg base CX0 11 CK "answer" (spAnswer CD CK)) : FnOk P w K mg base CX0 12 f fd ["calls"] (spAns K) := by
  obtain ⟨aN, hN, sN⟩ := R.numbers
  refine F.ok scAnswers (fun vs H Q E h => ?_) (fun cdv A outer s H vs Q E hr h => ?_)
  · obtain ⟨a, ns, cs, rfl, _⟩ := h
    rfl
  · obtain ⟨a, ns, cs, rfl, hS, ask, q⟩ := h
    refine ⟨_, pss_cons (ps_set (i := 1) scAnswers.nd rfl (Or.inl rfl) (pe_mk0 M hr (by decide) rfl))
      (pss_cons (ps_set (i := 2) scAnswers.nd rfl (Or.inl rfl) (pe_lst pa_nil))
      (pss_cons (ps_set (i := 3) scAnswers.nd rfl (Or.inl rfl) pe_int)
      (pss_cons (ps_while PassesOwn.never (pt_cmpR op_lt (pv 3) (pe_callB call_len_seq (by rfl) T.len boot_len (pa_cons (pv 0) pa_nil)) (nomark _))
        (pss_cons (ps_set (i := 4) scAnswers.nd rfl (Or.inl rfl) (pe_op op_add (pe_op op_add (pv 3) pe_int) (pe_ix ix_tup (pe_glob (v := .ref aN) rfl hN rfl) (pe_ix ix_list (pv 0) (pv 3) (fun _ _ => rfl)) (fun _ _ => rfl))))
        (pss_cons (ps_set (i := 5) scAnswers.nd rfl (Or.inl rfl) (pe_mt T.ck mA pass0 hr (by decide) (pv 1) (pa_cons (pe_ix ix_list (pv 0) (pv 3) (fun _ _ => rfl)) (pa_cons (pe_slice sl_list (pv 0) (po_some (pe_op op_add (pv 3) pe_int)) (po_some (pv 4))) pa_nil))))
        (pss_cons (ps_expr (pe_bm PySem.F.plainAttrs_list PySem.F.slot_list_append PySem.F.type_list_append mt_append (pv 2) (pa_cons (pe_callB call_len_seq (by rfl) T.len boot_len (pa_cons (pv 5) pa_nil)) pa_nil)))
        (pss_cons (ps_expr (pe_bm PySem.F.plainAttrs_list PySem.F.slot_list_extend PySem.F.type_list_extend mt_extend (pv 2) (pa_cons (pv 5) pa_nil)))
        (pss_one (ps_set (i := 3) scAnswers.nd rfl (Or.inl rfl) (pv 4))))))))
      (pss_one (ps_ret (pv 2)))))), ?_⟩
    have hbig : (answersFrom Sy47.init cs).length ≤ 1000080 := by
      rw [from_len]
      have := ask.few
      have := ask.many
      omega
    intro k dk nk nd ne
    refine ⟨k, dk, rfl, upd_same, fun ft H1 DK kp hft => ⟨rfl, ?_⟩⟩
    have e1 : Ex H H1 := Same.made nk nd kp
    have hft' : ∀ x ∈ ft, H x = none := fun x hx => by
      rcases hft x hx with z | z
      · rw [z]; exact nk
      · by_cases z2 : x = k
        · rw [z2]; exact nk
        · rw [upd_ne z2] at z
          by_cases z3 : x = dk
          · rw [z3]; exact nd
          · rwa [upd_ne z3] at z
    refine q_asgL (el_lst ea_nil (Nat.zero_le _)) fun pf H2 npf e2 hpf => ?_
    refine q_asg (ev_c (v := nI 0)) fun H3 e3 => ?_
    have e13 := (e1.trans e2).trans e3
    have req0 : Req K H3 a ns ft pf := by
      rcases hS with h | h
      · obtain ⟨o, ho⟩ := rd_some h
        refine .inr ⟨ex_rd e13 h, fun z => ?_, fun z => ?_⟩
        · rw [hft' a z] at ho
          cases ho
        · rw [z, fresh_back e1 npf] at ho
          cases ho
      · exact .inl fun _ => .inr h
    have hpfn : pf ∉ ft := fun z => by
      obtain ⟨dk', d, dx, b, rs, A⟩ := DK
      rw [A.ft] at z
      rcases List.mem_cons.mp z with z | z
      · rw [z, A.kk] at npf
        cases npf
      · obtain ⟨i, hi⟩ := List.getElem?_of_mem z
        have hil : i < Sy47.init.rests.length := by
          rw [← A.D.rl]
          exact (List.getElem?_eq_some_iff.mp hi).1
        have := A.D.r i pf _ hi (List.getElem?_eq_getElem hil)
        rw [npf] at this
        cases this
    refine q_while (fun m σ H' => ∃ (i : Nat) (cs' : List (List Int)) (out : List Int) (s : Ds) (ft : List Addr) (v4 v5 : Option V), σ = [some (.ref a), some (.ref k), some (.ref pf), some (nI i), v4, v5] ∧ Req K H' a ns ft pf ∧ H' pf = some (.lst (iv out)) ∧ pf ∉ ft ∧ DeskAt CD CK H' k s ft ∧
        Reads (ns.drop i) cs' ∧ (∀ c ∈ cs', (Sy47Neutral.callOf c).isSome = true) ∧ out ++ answersFrom s cs' = answersFrom Sy47.init cs ∧ m = ns.length - i)
      ns.length ⟨0, cs, [], Sy47.init, ft, none, none, rfl, req0, e3 _ _ hpf, hpfn, ?_, ask.reads, ask.all, rfl, rfl⟩ fun m σ H4 h => ?_
    · obtain ⟨dk', d, dx, b, rs, A⟩ := DK
      exact ⟨dk', d, dx, b, rs, A.mono (e2.trans e3)⟩
    obtain ⟨i, cs', out, s, ft, v4, v5, rfl, rq, hpf, hpfn, DK, hrd, hall, hout, rfl⟩ := h
    refine ⟨_, et_test (ev_op (ev_var rfl) (ev_len (ev_var rfl) rq.sq) rv_I0), fun hb H5 e5 => ?_, fun hb H5 e5 => ?_⟩
    · have hi : i < ns.length := by
        have := of_decide_eq_true hb
        rw [iv_len] at this
        omega
      obtain ⟨dk', d, dx, b, rs, A⟩ := DK
      have hdrop : ns.drop i = ns[i] :: ns.drop (i + 1) := List.drop_eq_getElem_cons hi
      rw [hdrop] at hrd
      obtain ⟨n, cs2, hcnt, h0, h12, hn, rfl, hrd2⟩ := hrd.cons
      have hni : ns[i]? = some ns[i] := List.getElem?_eq_getElem hi
      have hnl : i + 1 + n ≤ ns.length := by
        rw [List.length_drop] at hn
        omega
      rw [List.drop_drop] at hrd2
      obtain ⟨x, hx⟩ := Option.isSome_iff_exists.mp (hall _ List.mem_cons_self)
      have htold := callOf_inv h0 h12 hx
      have hstep := step_call (s := s) hx
      have hat : atI (iv ns) (i : Int) = some (.int ns[i]) := atI_nat (by unfold iv; rw [List.getElem?_map, hni]; rfl)
      have hatN : atI (nv [3, 2, 1, 1, 1, 0, 0, 0, 0, 0, 0, 0]) ns[i] = some (nI n) := by
        have e : ns[i] = ((ns[i].toNat : Nat) : Int) := by omega
        rw [e]
        refine atI_nat ?_
        unfold nv
        rw [List.getElem?_map]
        have hcnt : [3, 2, 1, 1, 1, 0, 0, 0, 0, 0, 0, 0][ns[i].toNat]? = some n := hcnt
        rw [hcnt]
        rfl
      have rq5 := rq.ex e5
      have A5 := A.mono e5
      have hpf5 := e5 _ _ hpf
      have hol : out.length + ((Sy47Neutral.out (Sy47.step s x).2).length + 1) ≤ 1000080 := by
        have := congrArg List.length hout
        rw [List.length_append] at this
        have e : (answersFrom s ((ns[i] :: (ns.drop (i + 1)).take n) :: cs2)).length = ((Sy47Neutral.out (Sy47.step s x).2).length + 1) + (answersFrom (Sy47.step s x).1 cs2).length := by
          show (((((Sy47Neutral.step s _).2.length : Nat) : Int) :: (Sy47Neutral.step s _).2) ++ answersFrom (Sy47Neutral.step s _).1 cs2).length = _
          rw [hstep, List.length_append, List.length_cons]
        omega
      refine ⟨fun σ' H' => ∃ (s' : Ds) (ft' : List Addr) (v4 v5 : Option V), σ' = [some (.ref a), some (.ref k), some (.ref pf), some (nI (i + 1 + n)), v4, v5] ∧ Req K H' a ns ft' pf ∧ H' pf = some (.lst (iv (out ++ (((Sy47Neutral.out (Sy47.step s x).2).length : Nat) : Int) :: Sy47Neutral.out (Sy47.step s x).2))) ∧ pf ∉ ft' ∧ DeskAt CD CK H' k (Sy47.step s x).1 ft', fun σ2 H6 h => ?_, ?_⟩
      · obtain ⟨s', ft', v4, v5, rfl, rq', hpf', hpfn', DK'⟩ := h
        refine ⟨ns.length - (i + 1 + n), by omega, i + 1 + n, cs2, _, _, ft', v4, v5, rfl, rq', hpf', hpfn', DK', hrd2, fun c hc => hall c (List.mem_cons_of_mem _ hc), ?_, rfl⟩
        rw [← hout, List.append_assoc]
        congr 1
        show _ = ((((Sy47Neutral.step s _).2.length : Nat) : Int) :: (Sy47Neutral.step s _).2) ++ answersFrom (Sy47Neutral.step s _).1 cs2
        rw [hstep]
      · -- behind_call
        refine q_asg (v := nI (i + 1 + n)) (ev_op (ev_op (ev_var rfl) (ev_c (v := nI 1)) rv_add) (ev_op (ev_c (v := .ref aN)) (ev_op (ev_var rfl) (ev_var rfl) (rv_ixL rq5.sq hat)) (rv_ixT (sN _) hatN)) rv_add) fun H6 e6 => ?_
        have rq6 := rq5.ex e6
        have A6 := A5.mono e6
        have hpf6 := e6 _ _ hpf5
        -- row
        refine ⟨_, rfl, k, dk', _, rfl, A6.kk, kF_no d s.stage (by decide +kernel) (by decide +kernel), ?_⟩
        refine tc_step (ev_op (ev_var rfl) (ev_var rfl) (rv_ixL rq6.sq hat)) fun H7 e7 => ?_
        refine tc_stepL (el_sl (ev_var rfl) (eo_some (ev_op (ev_var rfl) (ev_c (v := nI 1)) rv_add)) (eo_some (ev_var rfl)) (rq6.ex e7).sq) fun pr H8 npr e8 hpr => ?_
        rw [cut_iv hnl] at hpr
        have A8 := (A6.mono e7).mono e8
        have rq8 := (rq6.ex e7).ex e8
        have hpf8 := e8 _ _ (e7 _ _ hpf6)
        refine ⟨k, s, ft, ns[i], pr, (ns.drop (i + 1)).take n, x, rfl, hpr, htold, ⟨dk', d, dx, b, rs, A8⟩, fun pw ft' H9 npw kp DK9 hft9 hpw => ?_⟩
        have rq9 := rq8.kept kp hft9
        have hpf9 := kp _ _ hpf8 hpfn
        have hpfn9 : pf ∉ ft' := fun z => by
          rcases hft9 pf z with y | y
          · exact hpfn y
          · rw [hpf8] at y
            cases y
        obtain ⟨dk9, d9, dx9, b9, rs9, A9⟩ := DK9
        have hne : pw ≠ pf := fun z => by
          rw [z, hpf8] at npw
          cases npw
        -- found.append(len(row))
        refine q_appB (xs := iv out) (v := .int (((Sy47Neutral.out (Sy47.step s x).2).length : Nat) : Int)) hpf9 (ev_var rfl) (ev_is (ev_len (ev_var rfl) (sq_of hpw)) (by rw [iv_len])) (by rw [iv_len]; omega) fun H10 e10 => ?_
        have A10 := (A9.mono e10).updL (o := .lst (iv out ++ [.int (((Sy47Neutral.out (Sy47.step s x).2).length : Nat) : Int)])) (e10 _ _ hpf9) hpfn9
        have hpf10 : (upd H10 pf (.lst (iv out ++ [.int (((Sy47Neutral.out (Sy47.step s x).2).length : Nat) : Int)]))) pf = some (.lst (iv (out ++ [(((Sy47Neutral.out (Sy47.step s x).2).length : Nat) : Int)]))) := by
          rw [upd_same, iv_append]
          rfl
        have hpw10 : (upd H10 pf (.lst (iv out ++ [.int (((Sy47Neutral.out (Sy47.step s x).2).length : Nat) : Int)]))) pw = some (.lst (iv (Sy47Neutral.out (Sy47.step s x).2))) := by
          rw [upd_ne hne]
          exact e10 _ _ hpw
        -- found.extend(row)
        refine q_extB hpf10 hpw10 (ev_var rfl) (ev_var rfl) (by rw [iv_len, iv_len, List.length_append]; show out.length + 1 + _ ≤ _; omega) fun H11 e11 => ?_
        have A11 := (A10.mono e11).updL (o := .lst (iv (out ++ [(((Sy47Neutral.out (Sy47.step s x).2).length : Nat) : Int)]) ++ iv (Sy47Neutral.out (Sy47.step s x).2))) (e11 _ _ hpf10) hpfn9
        refine s_asg (ev_var rfl) fun H12 e12 => ⟨(Sy47.step s x).1, ft', _, _, rfl, ((((rq9.ex e10).upd).ex e11).upd).ex e12, ?_, hpfn9, ⟨dk9, d9, dx9, b9, rs9, A11.mono e12⟩⟩
        refine e12 _ _ ?_
        rw [upd_same, ← iv_append, List.append_assoc]
        rfl
    · have hi : ns.length ≤ i := by
        have := of_decide_eq_false hb
        rw [iv_len] at this
        omega
      rw [List.drop_of_length_le hi] at hrd
      have hn := hrd.nil
      subst hn
      have hout : out ++ [] = answersFrom Sy47.init cs := hout
      rw [List.append_nil, ← ask.due] at hout
      subst hout
      exact s_ret (ev_var rfl) fun H6 e6 => q H6 pf (e6 _ _ (e5 _ _ hpf))
end
end Br
end
section
set_option maxRecDepth 100000
set_option maxHeartbeats 8000000
namespace Br
open PySem PySem.Spec PyProof.Rows L2 Evl
/-! ### what the top has left, by names -/
theorem defT_mk {K : PySem.W.Frag} {h : Heap} {mg : Str → Option Value} (X : K.In h) (G : h.Ns mainGlobals mg) {x : Str} {st : Stmt} {f : Addr} {od an : Option Addr} {sl : Array (Option Value)} {oc kV dc pm cd ct : Value}
    (a : PySem.W.nsIn K mainGlobals x = some (some (.ref f))) (l : K.lookup f = some ⟨oc, od, .func (PySem.W.fnOf x x (defArgs st) (defBody st) (defScope st) .none kV dc pm an cd ct), sl⟩) (c : PySem.W.codeIn K cd x = true) (k : PySem.W.keepIn K (.ref f) = true) : DefT K mg x st :=
  ⟨f, _, fun_mk l c k, PySem.W.mg_of X G a⟩
theorem metT_mk {K : PySem.W.Frag} {m qual : Str} {st : Stmt} {C f : Addr} {od an : Option Addr} {sl : Array (Option Value)} {oc kV dc pm cd ct : Value}
    (a : PySem.W.findIn K (.ref C) m = some (some (.ref f))) (i : PySem.W.isFn K (.ref f) = true) (l : K.lookup f = some ⟨oc, od, .func (PySem.W.fnOf m qual (defArgs st) (defBody st) (defScope st) .none kV dc pm an cd ct), sl⟩) (c : PySem.W.codeIn K cd qual = true) (k : PySem.W.keepIn K (.ref f) = true) : MetT K C m qual st :=
  ⟨f, _, fun_mk l c k, ⟨a, i, k⟩⟩
theorem makT_mk {K : PySem.W.Frag} {h : Heap} {mg : Str → Option Value} (X : K.In h) (G : h.Ns mainGlobals mg) {x qual : Str} {st : Stmt} {C f : Addr} {od an : Option Addr} {sl : Array (Option Value)} {oc kV dc pm cd ct : Value}
    (aC : PySem.W.nsIn K mainGlobals x = some (some (.ref C))) (a : PySem.W.findIn K (.ref C) "__init__" = some (some (.ref f))) (i : PySem.W.isFn K (.ref f) = true) (l : K.lookup f = some ⟨oc, od, .func (PySem.W.fnOf "__init__" qual (defArgs st) (defBody st) (defScope st) .none kV dc pm an cd ct), sl⟩)
    (c : PySem.W.codeIn K cd qual = true) (k : PySem.W.keepIn K (.ref f) = true) (mk : PySem.W.makesIn K C = true) (kc : PySem.W.keepIn K (.ref C) = true) : MakT K mg x C qual st :=
  ⟨f, _, fun_mk l c k, ⟨mk, a, i, kc⟩, PySem.W.mg_of X G aC⟩
/-- an error of the class at S is what «except S» names -/
theorem exm_self {K : PySem.W.Frag} {S : Addr} (h1 : PySem.W.subIn K (.ref S) (.type "BaseException") = some true) (h2 : PySem.W.isClsIn K S = true) (h3 : PySem.W.typeIn K (.ref S) = some (.type "type")) (h4 : PySem.W.subIn K (.ref S) (.ref S) = some true) :
    PySem.W.exmOne K (.ref S) (.ref S) = some true := by
  have e1 : (PySem.W.subIn K (.ref S) (.type "BaseException") == some true) = true := by rw [h1] <;> rfl
  have e2 : ((PySem.W.clsIn K S).isSome && PySem.W.typeIn K (.ref S) == some (.type "type")) = true := by
    have h2' : (PySem.W.clsIn K S).isSome = true := h2
    rw [h2', h3] <;> rfl
  show (if (PySem.W.subIn K (.ref S) (.type "BaseException") == some true) = true then (if ((PySem.W.clsIn K S).isSome && PySem.W.typeIn K (.ref S) == some (.type "type")) = true then PySem.W.subIn K (.ref S) (.ref S) else none) else none) = some true
  rw [if_pos e1, if_pos e2]
  exact h4

theorem all_mk {P : Program} {w : World} {K : PySem.W.Frag} {h : Heap} {mg : Str → Option Value} {CD CK CR fT2 fT3 fT4 fT5 fT6 fT7 fT8 fT9 fT10 fT11 fT15 fT16 fT17 fT18 fT19 fT21 fT22 fT23 fT24 fT25 fT26 fT38 fT39 fD0 fD1 fD2 fD3 fD4 fK0 fK1 fK2 fK3 fK4 fK5 fK6 fK7 fK8 fK9 fK10 fK11 fK12 fK13 fK14 fK15 fK16 fR aN fA fa : Addr} (X : K.In h) (G : h.Ns mainGlobals mg) (hfa : mg "answers" = some (.ref fa))
    {odT2 anT2 : Option Addr} {slT2 : Array (Option Value)} {ocT2 kVT2 dcT2 pmT2 cdT2 ctT2 : Value}
    {odT3 anT3 : Option Addr} {slT3 : Array (Option Value)} {ocT3 kVT3 dcT3 pmT3 cdT3 ctT3 : Value}
    {odT4 anT4 : Option Addr} {slT4 : Array (Option Value)} {ocT4 kVT4 dcT4 pmT4 cdT4 ctT4 : Value}
    {odT5 anT5 : Option Addr} {slT5 : Array (Option Value)} {ocT5 kVT5 dcT5 pmT5 cdT5 ctT5 : Value}
    {odT6 anT6 : Option Addr} {slT6 : Array (Option Value)} {ocT6 kVT6 dcT6 pmT6 cdT6 ctT6 : Value}
    {odT7 anT7 : Option Addr} {slT7 : Array (Option Value)} {ocT7 kVT7 dcT7 pmT7 cdT7 ctT7 : Value}
    {odT8 anT8 : Option Addr} {slT8 : Array (Option Value)} {ocT8 kVT8 dcT8 pmT8 cdT8 ctT8 : Value}
    {odT9 anT9 : Option Addr} {slT9 : Array (Option Value)} {ocT9 kVT9 dcT9 pmT9 cdT9 ctT9 : Value}
    {odT10 anT10 : Option Addr} {slT10 : Array (Option Value)} {ocT10 kVT10 dcT10 pmT10 cdT10 ctT10 : Value}
    {odT11 anT11 : Option Addr} {slT11 : Array (Option Value)} {ocT11 kVT11 dcT11 pmT11 cdT11 ctT11 : Value}
    {odT15 anT15 : Option Addr} {slT15 : Array (Option Value)} {ocT15 kVT15 dcT15 pmT15 cdT15 ctT15 : Value}
    {odT16 anT16 : Option Addr} {slT16 : Array (Option Value)} {ocT16 kVT16 dcT16 pmT16 cdT16 ctT16 : Value}
    {odT17 anT17 : Option Addr} {slT17 : Array (Option Value)} {ocT17 kVT17 dcT17 pmT17 cdT17 ctT17 : Value}
    {odT18 anT18 : Option Addr} {slT18 : Array (Option Value)} {ocT18 kVT18 dcT18 pmT18 cdT18 ctT18 : Value}
    {odT19 anT19 : Option Addr} {slT19 : Array (Option Value)} {ocT19 kVT19 dcT19 pmT19 cdT19 ctT19 : Value}
    {odT21 anT21 : Option Addr} {slT21 : Array (Option Value)} {ocT21 kVT21 dcT21 pmT21 cdT21 ctT21 : Value}
    {odT22 anT22 : Option Addr} {slT22 : Array (Option Value)} {ocT22 kVT22 dcT22 pmT22 cdT22 ctT22 : Value}
    {odT23 anT23 : Option Addr} {slT23 : Array (Option Value)} {ocT23 kVT23 dcT23 pmT23 cdT23 ctT23 : Value}
    {odT24 anT24 : Option Addr} {slT24 : Array (Option Value)} {ocT24 kVT24 dcT24 pmT24 cdT24 ctT24 : Value}
    {odT25 anT25 : Option Addr} {slT25 : Array (Option Value)} {ocT25 kVT25 dcT25 pmT25 cdT25 ctT25 : Value}
    {odT26 anT26 : Option Addr} {slT26 : Array (Option Value)} {ocT26 kVT26 dcT26 pmT26 cdT26 ctT26 : Value}
    {odT38 anT38 : Option Addr} {slT38 : Array (Option Value)} {ocT38 kVT38 dcT38 pmT38 cdT38 ctT38 : Value}
    {odT39 anT39 : Option Addr} {slT39 : Array (Option Value)} {ocT39 kVT39 dcT39 pmT39 cdT39 ctT39 : Value}
    {odD0 anD0 : Option Addr} {slD0 : Array (Option Value)} {ocD0 kVD0 dcD0 pmD0 cdD0 ctD0 : Value}
    {odD1 anD1 : Option Addr} {slD1 : Array (Option Value)} {ocD1 kVD1 dcD1 pmD1 cdD1 ctD1 : Value}
    {odD2 anD2 : Option Addr} {slD2 : Array (Option Value)} {ocD2 kVD2 dcD2 pmD2 cdD2 ctD2 : Value}
    {odD3 anD3 : Option Addr} {slD3 : Array (Option Value)} {ocD3 kVD3 dcD3 pmD3 cdD3 ctD3 : Value}
    {odD4 anD4 : Option Addr} {slD4 : Array (Option Value)} {ocD4 kVD4 dcD4 pmD4 cdD4 ctD4 : Value}
    {odK0 anK0 : Option Addr} {slK0 : Array (Option Value)} {ocK0 kVK0 dcK0 pmK0 cdK0 ctK0 : Value}
    {odK1 anK1 : Option Addr} {slK1 : Array (Option Value)} {ocK1 kVK1 dcK1 pmK1 cdK1 ctK1 : Value}
    {odK2 anK2 : Option Addr} {slK2 : Array (Option Value)} {ocK2 kVK2 dcK2 pmK2 cdK2 ctK2 : Value}
    {odK3 anK3 : Option Addr} {slK3 : Array (Option Value)} {ocK3 kVK3 dcK3 pmK3 cdK3 ctK3 : Value}
    {odK4 anK4 : Option Addr} {slK4 : Array (Option Value)} {ocK4 kVK4 dcK4 pmK4 cdK4 ctK4 : Value}
    {odK5 anK5 : Option Addr} {slK5 : Array (Option Value)} {ocK5 kVK5 dcK5 pmK5 cdK5 ctK5 : Value}
    {odK6 anK6 : Option Addr} {slK6 : Array (Option Value)} {ocK6 kVK6 dcK6 pmK6 cdK6 ctK6 : Value}
    {odK7 anK7 : Option Addr} {slK7 : Array (Option Value)} {ocK7 kVK7 dcK7 pmK7 cdK7 ctK7 : Value}
    {odK8 anK8 : Option Addr} {slK8 : Array (Option Value)} {ocK8 kVK8 dcK8 pmK8 cdK8 ctK8 : Value}
    {odK9 anK9 : Option Addr} {slK9 : Array (Option Value)} {ocK9 kVK9 dcK9 pmK9 cdK9 ctK9 : Value}
    {odK10 anK10 : Option Addr} {slK10 : Array (Option Value)} {ocK10 kVK10 dcK10 pmK10 cdK10 ctK10 : Value}
    {odK11 anK11 : Option Addr} {slK11 : Array (Option Value)} {ocK11 kVK11 dcK11 pmK11 cdK11 ctK11 : Value}
    {odK12 anK12 : Option Addr} {slK12 : Array (Option Value)} {ocK12 kVK12 dcK12 pmK12 cdK12 ctK12 : Value}
    {odK13 anK13 : Option Addr} {slK13 : Array (Option Value)} {ocK13 kVK13 dcK13 pmK13 cdK13 ctK13 : Value}
    {odK14 anK14 : Option Addr} {slK14 : Array (Option Value)} {ocK14 kVK14 dcK14 pmK14 cdK14 ctK14 : Value}
    {odK15 anK15 : Option Addr} {slK15 : Array (Option Value)} {ocK15 kVK15 dcK15 pmK15 cdK15 ctK15 : Value}
    {odK16 anK16 : Option Addr} {slK16 : Array (Option Value)} {ocK16 kVK16 dcK16 pmK16 cdK16 ctK16 : Value}
    {nmR qR : Str} {NR : Addr} {bsR : List Value} {snR : List Str} {subR : List Value} {abR : Bool} {colR : Option Bool} {ddR : Option Addr} {m0 m1 m2 m3 m5 : Option Value}
    {odR0 anR0 : Option Addr} {slR0 : Array (Option Value)} {ocR0 kVR0 dcR0 pmR0 cdR0 ctR0 : Value}
    {u_PUT u_TAKE u_BAD u_NO_PIECE u_NOT_EMPTY u_FULL u_CANT_BE u_MOST_PIECES u_MOST_PROPS u_MOST_BASES : Tok}
    {odN : Option Addr} {slN : Array (Option Value)} {nN : Nat} {v0 v1 v2 v3 v4 v5 v6 v7 v8 v9 v10 v11 : Tok}
    {odA anA : Option Addr} {slA : Array (Option Value)} {ocA kVA dcA pmA cdA ctA : Value}
    (aCD : PySem.W.nsIn K mainGlobals "Design" = some (some (.ref CD)))
    (aCK : PySem.W.nsIn K mainGlobals "Desk" = some (some (.ref CK)))
    (aCR : PySem.W.nsIn K mainGlobals "Refused" = some (some (.ref CR)))
    (aT2 : PySem.W.nsIn K mainGlobals "is_in" = some (some (.ref fT2)))
    (lT2 : K.lookup fT2 = some ⟨ocT2, odT2, .func (PySem.W.fnOf "is_in" "is_in" (defArgs (top 2)) (defBody (top 2)) (defScope (top 2)) .none kVT2 dcT2 pmT2 anT2 cdT2 ctT2), slT2⟩)
    (cT2 : PySem.W.codeIn K cdT2 "is_in" = true)
    (kT2 : PySem.W.keepIn K (.ref fT2) = true)
    (aT3 : PySem.W.nsIn K mainGlobals "with_thing" = some (some (.ref fT3)))
    (lT3 : K.lookup fT3 = some ⟨ocT3, odT3, .func (PySem.W.fnOf "with_thing" "with_thing" (defArgs (top 3)) (defBody (top 3)) (defScope (top 3)) .none kVT3 dcT3 pmT3 anT3 cdT3 ctT3), slT3⟩)
    (cT3 : PySem.W.codeIn K cdT3 "with_thing" = true)
    (kT3 : PySem.W.keepIn K (.ref fT3) = true)
    (aT4 : PySem.W.nsIn K mainGlobals "without_thing" = some (some (.ref fT4)))
    (lT4 : K.lookup fT4 = some ⟨ocT4, odT4, .func (PySem.W.fnOf "without_thing" "without_thing" (defArgs (top 4)) (defBody (top 4)) (defScope (top 4)) .none kVT4 dcT4 pmT4 anT4 cdT4 ctT4), slT4⟩)
    (cT4 : PySem.W.codeIn K cdT4 "without_thing" = true)
    (kT4 : PySem.W.keepIn K (.ref fT4) = true)
    (aT5 : PySem.W.nsIn K mainGlobals "pieces_in" = some (some (.ref fT5)))
    (lT5 : K.lookup fT5 = some ⟨ocT5, odT5, .func (PySem.W.fnOf "pieces_in" "pieces_in" (defArgs (top 5)) (defBody (top 5)) (defScope (top 5)) .none kVT5 dcT5 pmT5 anT5 cdT5 ctT5), slT5⟩)
    (cT5 : PySem.W.codeIn K cdT5 "pieces_in" = true)
    (kT5 : PySem.W.keepIn K (.ref fT5) = true)
    (aT6 : PySem.W.nsIn K mainGlobals "props_in" = some (some (.ref fT6)))
    (lT6 : K.lookup fT6 = some ⟨ocT6, odT6, .func (PySem.W.fnOf "props_in" "props_in" (defArgs (top 6)) (defBody (top 6)) (defScope (top 6)) .none kVT6 dcT6 pmT6 anT6 cdT6 ctT6), slT6⟩)
    (cT6 : PySem.W.codeIn K cdT6 "props_in" = true)
    (kT6 : PySem.W.keepIn K (.ref fT6) = true)
    (aT7 : PySem.W.nsIn K mainGlobals "does_rest" = some (some (.ref fT7)))
    (lT7 : K.lookup fT7 = some ⟨ocT7, odT7, .func (PySem.W.fnOf "does_rest" "does_rest" (defArgs (top 7)) (defBody (top 7)) (defScope (top 7)) .none kVT7 dcT7 pmT7 anT7 cdT7 ctT7), slT7⟩)
    (cT7 : PySem.W.codeIn K cdT7 "does_rest" = true)
    (kT7 : PySem.W.keepIn K (.ref fT7) = true)
    (aT8 : PySem.W.nsIn K mainGlobals "does_carry" = some (some (.ref fT8)))
    (lT8 : K.lookup fT8 = some ⟨ocT8, odT8, .func (PySem.W.fnOf "does_carry" "does_carry" (defArgs (top 8)) (defBody (top 8)) (defScope (top 8)) .none kVT8 dcT8 pmT8 anT8 cdT8 ctT8), slT8⟩)
    (cT8 : PySem.W.codeIn K cdT8 "does_carry" = true)
    (kT8 : PySem.W.keepIn K (.ref fT8) = true)
    (aT9 : PySem.W.nsIn K mainGlobals "without_loose" = some (some (.ref fT9)))
    (lT9 : K.lookup fT9 = some ⟨ocT9, odT9, .func (PySem.W.fnOf "without_loose" "without_loose" (defArgs (top 9)) (defBody (top 9)) (defScope (top 9)) .none kVT9 dcT9 pmT9 anT9 cdT9 ctT9), slT9⟩)
    (cT9 : PySem.W.codeIn K cdT9 "without_loose" = true)
    (kT9 : PySem.W.keepIn K (.ref fT9) = true)
    (aT10 : PySem.W.nsIn K mainGlobals "what_is_left" = some (some (.ref fT10)))
    (lT10 : K.lookup fT10 = some ⟨ocT10, odT10, .func (PySem.W.fnOf "what_is_left" "what_is_left" (defArgs (top 10)) (defBody (top 10)) (defScope (top 10)) .none kVT10 dcT10 pmT10 anT10 cdT10 ctT10), slT10⟩)
    (cT10 : PySem.W.codeIn K cdT10 "what_is_left" = true)
    (kT10 : PySem.W.keepIn K (.ref fT10) = true)
    (aT11 : PySem.W.nsIn K mainGlobals "spare_pieces" = some (some (.ref fT11)))
    (lT11 : K.lookup fT11 = some ⟨ocT11, odT11, .func (PySem.W.fnOf "spare_pieces" "spare_pieces" (defArgs (top 11)) (defBody (top 11)) (defScope (top 11)) .none kVT11 dcT11 pmT11 anT11 cdT11 ctT11), slT11⟩)
    (cT11 : PySem.W.codeIn K cdT11 "spare_pieces" = true)
    (kT11 : PySem.W.keepIn K (.ref fT11) = true)
    (aT15 : PySem.W.nsIn K mainGlobals "all_moves" = some (some (.ref fT15)))
    (lT15 : K.lookup fT15 = some ⟨ocT15, odT15, .func (PySem.W.fnOf "all_moves" "all_moves" (defArgs (top 15)) (defBody (top 15)) (defScope (top 15)) .none kVT15 dcT15 pmT15 anT15 cdT15 ctT15), slT15⟩)
    (cT15 : PySem.W.codeIn K cdT15 "all_moves" = true)
    (kT15 : PySem.W.keepIn K (.ref fT15) = true)
    (aT16 : PySem.W.nsIn K mainGlobals "laid" = some (some (.ref fT16)))
    (lT16 : K.lookup fT16 = some ⟨ocT16, odT16, .func (PySem.W.fnOf "laid" "laid" (defArgs (top 16)) (defBody (top 16)) (defScope (top 16)) .none kVT16 dcT16 pmT16 anT16 cdT16 ctT16), slT16⟩)
    (cT16 : PySem.W.codeIn K cdT16 "laid" = true)
    (kT16 : PySem.W.keepIn K (.ref fT16) = true)
    (aT17 : PySem.W.nsIn K mainGlobals "changed" = some (some (.ref fT17)))
    (lT17 : K.lookup fT17 = some ⟨ocT17, odT17, .func (PySem.W.fnOf "changed" "changed" (defArgs (top 17)) (defBody (top 17)) (defScope (top 17)) .none kVT17 dcT17 pmT17 anT17 cdT17 ctT17), slT17⟩)
    (cT17 : PySem.W.codeIn K cdT17 "changed" = true)
    (kT17 : PySem.W.keepIn K (.ref fT17) = true)
    (aT18 : PySem.W.nsIn K mainGlobals "behind" = some (some (.ref fT18)))
    (lT18 : K.lookup fT18 = some ⟨ocT18, odT18, .func (PySem.W.fnOf "behind" "behind" (defArgs (top 18)) (defBody (top 18)) (defScope (top 18)) .none kVT18 dcT18 pmT18 anT18 cdT18 ctT18), slT18⟩)
    (cT18 : PySem.W.codeIn K cdT18 "behind" = true)
    (kT18 : PySem.W.keepIn K (.ref fT18) = true)
    (aT19 : PySem.W.nsIn K mainGlobals "stages_behind" = some (some (.ref fT19)))
    (lT19 : K.lookup fT19 = some ⟨ocT19, odT19, .func (PySem.W.fnOf "stages_behind" "stages_behind" (defArgs (top 19)) (defBody (top 19)) (defScope (top 19)) .none kVT19 dcT19 pmT19 anT19 cdT19 ctT19), slT19⟩)
    (cT19 : PySem.W.codeIn K cdT19 "stages_behind" = true)
    (kT19 : PySem.W.keepIn K (.ref fT19) = true)
    (aT21 : PySem.W.nsIn K mainGlobals "distances" = some (some (.ref fT21)))
    (lT21 : K.lookup fT21 = some ⟨ocT21, odT21, .func (PySem.W.fnOf "distances" "distances" (defArgs (top 21)) (defBody (top 21)) (defScope (top 21)) .none kVT21 dcT21 pmT21 anT21 cdT21 ctT21), slT21⟩)
    (cT21 : PySem.W.codeIn K cdT21 "distances" = true)
    (kT21 : PySem.W.keepIn K (.ref fT21) = true)
    (aT22 : PySem.W.nsIn K mainGlobals "first_move" = some (some (.ref fT22)))
    (lT22 : K.lookup fT22 = some ⟨ocT22, odT22, .func (PySem.W.fnOf "first_move" "first_move" (defArgs (top 22)) (defBody (top 22)) (defScope (top 22)) .none kVT22 dcT22 pmT22 anT22 cdT22 ctT22), slT22⟩)
    (cT22 : PySem.W.codeIn K cdT22 "first_move" = true)
    (kT22 : PySem.W.keepIn K (.ref fT22) = true)
    (aT23 : PySem.W.nsIn K mainGlobals "plan_from" = some (some (.ref fT23)))
    (lT23 : K.lookup fT23 = some ⟨ocT23, odT23, .func (PySem.W.fnOf "plan_from" "plan_from" (defArgs (top 23)) (defBody (top 23)) (defScope (top 23)) .none kVT23 dcT23 pmT23 anT23 cdT23 ctT23), slT23⟩)
    (cT23 : PySem.W.codeIn K cdT23 "plan_from" = true)
    (kT23 : PySem.W.keepIn K (.ref fT23) = true)
    (aT24 : PySem.W.nsIn K mainGlobals "come_to" = some (some (.ref fT24)))
    (lT24 : K.lookup fT24 = some ⟨ocT24, odT24, .func (PySem.W.fnOf "come_to" "come_to" (defArgs (top 24)) (defBody (top 24)) (defScope (top 24)) .none kVT24 dcT24 pmT24 anT24 cdT24 ctT24), slT24⟩)
    (cT24 : PySem.W.codeIn K cdT24 "come_to" = true)
    (kT24 : PySem.W.keepIn K (.ref fT24) = true)
    (aT25 : PySem.W.nsIn K mainGlobals "farthest" = some (some (.ref fT25)))
    (lT25 : K.lookup fT25 = some ⟨ocT25, odT25, .func (PySem.W.fnOf "farthest" "farthest" (defArgs (top 25)) (defBody (top 25)) (defScope (top 25)) .none kVT25 dcT25 pmT25 anT25 cdT25 ctT25), slT25⟩)
    (cT25 : PySem.W.codeIn K cdT25 "farthest" = true)
    (kT25 : PySem.W.keepIn K (.ref fT25) = true)
    (aT26 : PySem.W.nsIn K mainGlobals "props_needed" = some (some (.ref fT26)))
    (lT26 : K.lookup fT26 = some ⟨ocT26, odT26, .func (PySem.W.fnOf "props_needed" "props_needed" (defArgs (top 26)) (defBody (top 26)) (defScope (top 26)) .none kVT26 dcT26 pmT26 anT26 cdT26 ctT26), slT26⟩)
    (cT26 : PySem.W.codeIn K cdT26 "props_needed" = true)
    (kT26 : PySem.W.keepIn K (.ref fT26) = true)
    (aT38 : PySem.W.nsIn K mainGlobals "want" = some (some (.ref fT38)))
    (lT38 : K.lookup fT38 = some ⟨ocT38, odT38, .func (PySem.W.fnOf "want" "want" (defArgs (top 38)) (defBody (top 38)) (defScope (top 38)) .none kVT38 dcT38 pmT38 anT38 cdT38 ctT38), slT38⟩)
    (cT38 : PySem.W.codeIn K cdT38 "want" = true)
    (kT38 : PySem.W.keepIn K (.ref fT38) = true)
    (aT39 : PySem.W.nsIn K mainGlobals "listed" = some (some (.ref fT39)))
    (lT39 : K.lookup fT39 = some ⟨ocT39, odT39, .func (PySem.W.fnOf "listed" "listed" (defArgs (top 39)) (defBody (top 39)) (defScope (top 39)) .none kVT39 dcT39 pmT39 anT39 cdT39 ctT39), slT39⟩)
    (cT39 : PySem.W.codeIn K cdT39 "listed" = true)
    (kT39 : PySem.W.keepIn K (.ref fT39) = true)
    (aD0 : PySem.W.findIn K (.ref CD) "__init__" = some (some (.ref fD0)))
    (iD0 : PySem.W.isFn K (.ref fD0) = true)
    (lD0 : K.lookup fD0 = some ⟨ocD0, odD0, .func (PySem.W.fnOf "__init__" "Design.__init__" (defArgs (inClass (top 1) 0)) (defBody (inClass (top 1) 0)) (defScope (inClass (top 1) 0)) .none kVD0 dcD0 pmD0 anD0 cdD0 ctD0), slD0⟩)
    (cD0 : PySem.W.codeIn K cdD0 "Design.__init__" = true)
    (kD0 : PySem.W.keepIn K (.ref fD0) = true)
    (aD1 : PySem.W.findIn K (.ref CD) "how_many_sets" = some (some (.ref fD1)))
    (iD1 : PySem.W.isFn K (.ref fD1) = true)
    (lD1 : K.lookup fD1 = some ⟨ocD1, odD1, .func (PySem.W.fnOf "how_many_sets" "Design.how_many_sets" (defArgs (inClass (top 1) 1)) (defBody (inClass (top 1) 1)) (defScope (inClass (top 1) 1)) .none kVD1 dcD1 pmD1 anD1 cdD1 ctD1), slD1⟩)
    (cD1 : PySem.W.codeIn K cdD1 "Design.how_many_sets" = true)
    (kD1 : PySem.W.keepIn K (.ref fD1) = true)
    (aD2 : PySem.W.findIn K (.ref CD) "end" = some (some (.ref fD2)))
    (iD2 : PySem.W.isFn K (.ref fD2) = true)
    (lD2 : K.lookup fD2 = some ⟨ocD2, odD2, .func (PySem.W.fnOf "end" "Design.end" (defArgs (inClass (top 1) 2)) (defBody (inClass (top 1) 2)) (defScope (inClass (top 1) 2)) .none kVD2 dcD2 pmD2 anD2 cdD2 ctD2), slD2⟩)
    (cD2 : PySem.W.codeIn K cdD2 "Design.end" = true)
    (kD2 : PySem.W.keepIn K (.ref fD2) = true)
    (aD3 : PySem.W.findIn K (.ref CD) "prop_thing" = some (some (.ref fD3)))
    (iD3 : PySem.W.isFn K (.ref fD3) = true)
    (lD3 : K.lookup fD3 = some ⟨ocD3, odD3, .func (PySem.W.fnOf "prop_thing" "Design.prop_thing" (defArgs (inClass (top 1) 3)) (defBody (inClass (top 1) 3)) (defScope (inClass (top 1) 3)) .none kVD3 dcD3 pmD3 anD3 cdD3 ctD3), slD3⟩)
    (cD3 : PySem.W.codeIn K cdD3 "Design.prop_thing" = true)
    (kD3 : PySem.W.keepIn K (.ref fD3) = true)
    (aD4 : PySem.W.findIn K (.ref CD) "with_at_once" = some (some (.ref fD4)))
    (iD4 : PySem.W.isFn K (.ref fD4) = true)
    (lD4 : K.lookup fD4 = some ⟨ocD4, odD4, .func (PySem.W.fnOf "with_at_once" "Design.with_at_once" (defArgs (inClass (top 1) 4)) (defBody (inClass (top 1) 4)) (defScope (inClass (top 1) 4)) .none kVD4 dcD4 pmD4 anD4 cdD4 ctD4), slD4⟩)
    (cD4 : PySem.W.codeIn K cdD4 "Design.with_at_once" = true)
    (kD4 : PySem.W.keepIn K (.ref fD4) = true)
    (pgCD : PySem.W.plainGet K CD Str.empty = true)
    (hdCD : PySem.W.hasDictIn K CD = true)
    (poCD : PySem.W.plainOver K CD = true)
    (saCD : PySem.W.findIn K (.ref CD) "__setattr__" = some (some (.builtin "object.__setattr__")))
    (mkCD : PySem.W.makesIn K CD = true)
    (kcCD : PySem.W.keepIn K (.ref CD) = true)
    (aK0 : PySem.W.findIn K (.ref CK) "__init__" = some (some (.ref fK0)))
    (iK0 : PySem.W.isFn K (.ref fK0) = true)
    (lK0 : K.lookup fK0 = some ⟨ocK0, odK0, .func (PySem.W.fnOf "__init__" "Desk.__init__" (defArgs (inClass (top 40) 0)) (defBody (inClass (top 40) 0)) (defScope (inClass (top 40) 0)) .none kVK0 dcK0 pmK0 anK0 cdK0 ctK0), slK0⟩)
    (cK0 : PySem.W.codeIn K cdK0 "Desk.__init__" = true)
    (kK0 : PySem.W.keepIn K (.ref fK0) = true)
    (aK1 : PySem.W.findIn K (.ref CK) "want_set" = some (some (.ref fK1)))
    (iK1 : PySem.W.isFn K (.ref fK1) = true)
    (lK1 : K.lookup fK1 = some ⟨ocK1, odK1, .func (PySem.W.fnOf "want_set" "Desk.want_set" (defArgs (inClass (top 40) 1)) (defBody (inClass (top 40) 1)) (defScope (inClass (top 40) 1)) .none kVK1 dcK1 pmK1 anK1 cdK1 ctK1), slK1⟩)
    (cK1 : PySem.W.codeIn K cdK1 "Desk.want_set" = true)
    (kK1 : PySem.W.keepIn K (.ref fK1) = true)
    (aK2 : PySem.W.findIn K (.ref CK) "begins" = some (some (.ref fK2)))
    (iK2 : PySem.W.isFn K (.ref fK2) = true)
    (lK2 : K.lookup fK2 = some ⟨ocK2, odK2, .func (PySem.W.fnOf "begins" "Desk.begins" (defArgs (inClass (top 40) 2)) (defBody (inClass (top 40) 2)) (defScope (inClass (top 40) 2)) .none kVK2 dcK2 pmK2 anK2 cdK2 ctK2), slK2⟩)
    (cK2 : PySem.W.codeIn K cdK2 "Desk.begins" = true)
    (kK2 : PySem.W.keepIn K (.ref fK2) = true)
    (aK3 : PySem.W.findIn K (.ref CK) "rests" = some (some (.ref fK3)))
    (iK3 : PySem.W.isFn K (.ref fK3) = true)
    (lK3 : K.lookup fK3 = some ⟨ocK3, odK3, .func (PySem.W.fnOf "rests" "Desk.rests" (defArgs (inClass (top 40) 3)) (defBody (inClass (top 40) 3)) (defScope (inClass (top 40) 3)) .none kVK3 dcK3 pmK3 anK3 cdK3 ctK3), slK3⟩)
    (cK3 : PySem.W.codeIn K cdK3 "Desk.rests" = true)
    (kK3 : PySem.W.keepIn K (.ref fK3) = true)
    (aK4 : PySem.W.findIn K (.ref CK) "carries" = some (some (.ref fK4)))
    (iK4 : PySem.W.isFn K (.ref fK4) = true)
    (lK4 : K.lookup fK4 = some ⟨ocK4, odK4, .func (PySem.W.fnOf "carries" "Desk.carries" (defArgs (inClass (top 40) 4)) (defBody (inClass (top 40) 4)) (defScope (inClass (top 40) 4)) .none kVK4 dcK4 pmK4 anK4 cdK4 ctK4), slK4⟩)
    (cK4 : PySem.W.codeIn K cdK4 "Desk.carries" = true)
    (kK4 : PySem.W.keepIn K (.ref fK4) = true)
    (aK5 : PySem.W.findIn K (.ref CK) "falls" = some (some (.ref fK5)))
    (iK5 : PySem.W.isFn K (.ref fK5) = true)
    (lK5 : K.lookup fK5 = some ⟨ocK5, odK5, .func (PySem.W.fnOf "falls" "Desk.falls" (defArgs (inClass (top 40) 5)) (defBody (inClass (top 40) 5)) (defScope (inClass (top 40) 5)) .none kVK5 dcK5 pmK5 anK5 cdK5 ctK5), slK5⟩)
    (cK5 : PySem.W.codeIn K cdK5 "Desk.falls" = true)
    (kK5 : PySem.W.keepIn K (.ref fK5) = true)
    (aK6 : PySem.W.findIn K (.ref CK) "does" = some (some (.ref fK6)))
    (iK6 : PySem.W.isFn K (.ref fK6) = true)
    (lK6 : K.lookup fK6 = some ⟨ocK6, odK6, .func (PySem.W.fnOf "does" "Desk.does" (defArgs (inClass (top 40) 6)) (defBody (inClass (top 40) 6)) (defScope (inClass (top 40) 6)) .none kVK6 dcK6 pmK6 anK6 cdK6 ctK6), slK6⟩)
    (cK6 : PySem.W.codeIn K cdK6 "Desk.does" = true)
    (kK6 : PySem.W.keepIn K (.ref fK6) = true)
    (aK7 : PySem.W.findIn K (.ref CK) "undo" = some (some (.ref fK7)))
    (iK7 : PySem.W.isFn K (.ref fK7) = true)
    (lK7 : K.lookup fK7 = some ⟨ocK7, odK7, .func (PySem.W.fnOf "undo" "Desk.undo" (defArgs (inClass (top 40) 7)) (defBody (inClass (top 40) 7)) (defScope (inClass (top 40) 7)) .none kVK7 dcK7 pmK7 anK7 cdK7 ctK7), slK7⟩)
    (cK7 : PySem.W.codeIn K cdK7 "Desk.undo" = true)
    (kK7 : PySem.W.keepIn K (.ref fK7) = true)
    (aK8 : PySem.W.findIn K (.ref CK) "a_plan" = some (some (.ref fK8)))
    (iK8 : PySem.W.isFn K (.ref fK8) = true)
    (lK8 : K.lookup fK8 = some ⟨ocK8, odK8, .func (PySem.W.fnOf "a_plan" "Desk.a_plan" (defArgs (inClass (top 40) 8)) (defBody (inClass (top 40) 8)) (defScope (inClass (top 40) 8)) .none kVK8 dcK8 pmK8 anK8 cdK8 ctK8), slK8⟩)
    (cK8 : PySem.W.codeIn K cdK8 "Desk.a_plan" = true)
    (kK8 : PySem.W.keepIn K (.ref fK8) = true)
    (aK9 : PySem.W.findIn K (.ref CK) "fewest" = some (some (.ref fK9)))
    (iK9 : PySem.W.isFn K (.ref fK9) = true)
    (lK9 : K.lookup fK9 = some ⟨ocK9, odK9, .func (PySem.W.fnOf "fewest" "Desk.fewest" (defArgs (inClass (top 40) 9)) (defBody (inClass (top 40) 9)) (defScope (inClass (top 40) 9)) .none kVK9 dcK9 pmK9 anK9 cdK9 ctK9), slK9⟩)
    (cK9 : PySem.W.codeIn K cdK9 "Desk.fewest" = true)
    (kK9 : PySem.W.keepIn K (.ref fK9) = true)
    (aK10 : PySem.W.findIn K (.ref CK) "plan" = some (some (.ref fK10)))
    (iK10 : PySem.W.isFn K (.ref fK10) = true)
    (lK10 : K.lookup fK10 = some ⟨ocK10, odK10, .func (PySem.W.fnOf "plan" "Desk.plan" (defArgs (inClass (top 40) 10)) (defBody (inClass (top 40) 10)) (defScope (inClass (top 40) 10)) .none kVK10 dcK10 pmK10 anK10 cdK10 ctK10), slK10⟩)
    (cK10 : PySem.W.codeIn K cdK10 "Desk.plan" = true)
    (kK10 : PySem.W.keepIn K (.ref fK10) = true)
    (aK11 : PySem.W.findIn K (.ref CK) "far" = some (some (.ref fK11)))
    (iK11 : PySem.W.isFn K (.ref fK11) = true)
    (lK11 : K.lookup fK11 = some ⟨ocK11, odK11, .func (PySem.W.fnOf "far" "Desk.far" (defArgs (inClass (top 40) 11)) (defBody (inClass (top 40) 11)) (defScope (inClass (top 40) 11)) .none kVK11 dcK11 pmK11 anK11 cdK11 ctK11), slK11⟩)
    (cK11 : PySem.W.codeIn K cdK11 "Desk.far" = true)
    (kK11 : PySem.W.keepIn K (.ref fK11) = true)
    (aK12 : PySem.W.findIn K (.ref CK) "needed" = some (some (.ref fK12)))
    (iK12 : PySem.W.isFn K (.ref fK12) = true)
    (lK12 : K.lookup fK12 = some ⟨ocK12, odK12, .func (PySem.W.fnOf "needed" "Desk.needed" (defArgs (inClass (top 40) 12)) (defBody (inClass (top 40) 12)) (defScope (inClass (top 40) 12)) .none kVK12 dcK12 pmK12 anK12 cdK12 ctK12), slK12⟩)
    (cK12 : PySem.W.codeIn K cdK12 "Desk.needed" = true)
    (kK12 : PySem.W.keepIn K (.ref fK12) = true)
    (aK13 : PySem.W.findIn K (.ref CK) "spare" = some (some (.ref fK13)))
    (iK13 : PySem.W.isFn K (.ref fK13) = true)
    (lK13 : K.lookup fK13 = some ⟨ocK13, odK13, .func (PySem.W.fnOf "spare" "Desk.spare" (defArgs (inClass (top 40) 13)) (defBody (inClass (top 40) 13)) (defScope (inClass (top 40) 13)) .none kVK13 dcK13 pmK13 anK13 cdK13 ctK13), slK13⟩)
    (cK13 : PySem.W.codeIn K cdK13 "Desk.spare" = true)
    (kK13 : PySem.W.keepIn K (.ref fK13) = true)
    (aK14 : PySem.W.findIn K (.ref CK) "state" = some (some (.ref fK14)))
    (iK14 : PySem.W.isFn K (.ref fK14) = true)
    (lK14 : K.lookup fK14 = some ⟨ocK14, odK14, .func (PySem.W.fnOf "state" "Desk.state" (defArgs (inClass (top 40) 14)) (defBody (inClass (top 40) 14)) (defScope (inClass (top 40) 14)) .none kVK14 dcK14 pmK14 anK14 cdK14 ctK14), slK14⟩)
    (cK14 : PySem.W.codeIn K cdK14 "Desk.state" = true)
    (kK14 : PySem.W.keepIn K (.ref fK14) = true)
    (aK15 : PySem.W.findIn K (.ref CK) "told" = some (some (.ref fK15)))
    (iK15 : PySem.W.isFn K (.ref fK15) = true)
    (lK15 : K.lookup fK15 = some ⟨ocK15, odK15, .func (PySem.W.fnOf "told" "Desk.told" (defArgs (inClass (top 40) 15)) (defBody (inClass (top 40) 15)) (defScope (inClass (top 40) 15)) .none kVK15 dcK15 pmK15 anK15 cdK15 ctK15), slK15⟩)
    (cK15 : PySem.W.codeIn K cdK15 "Desk.told" = true)
    (kK15 : PySem.W.keepIn K (.ref fK15) = true)
    (aK16 : PySem.W.findIn K (.ref CK) "answer" = some (some (.ref fK16)))
    (iK16 : PySem.W.isFn K (.ref fK16) = true)
    (lK16 : K.lookup fK16 = some ⟨ocK16, odK16, .func (PySem.W.fnOf "answer" "Desk.answer" (defArgs (inClass (top 40) 16)) (defBody (inClass (top 40) 16)) (defScope (inClass (top 40) 16)) .none kVK16 dcK16 pmK16 anK16 cdK16 ctK16), slK16⟩)
    (cK16 : PySem.W.codeIn K cdK16 "Desk.answer" = true)
    (kK16 : PySem.W.keepIn K (.ref fK16) = true)
    (pgCK : PySem.W.plainGet K CK Str.empty = true)
    (hdCK : PySem.W.hasDictIn K CK = true)
    (poCK : PySem.W.plainOver K CK = true)
    (saCK : PySem.W.findIn K (.ref CK) "__setattr__" = some (some (.builtin "object.__setattr__")))
    (mkCK : PySem.W.makesIn K CK = true)
    (kcCK : PySem.W.keepIn K (.ref CK) = true)
    (n_pieces : PySem.W.findIn K (.ref CD) "pieces" = some none)
    (n_props : PySem.W.findIn K (.ref CD) "props" = some none)
    (n_at_once : PySem.W.findIn K (.ref CD) "at_once" = some none)
    (n_bases : PySem.W.findIn K (.ref CD) "bases" = some none)
    (n_design : PySem.W.findIn K (.ref CK) "design" = some none)
    (n_stage : PySem.W.findIn K (.ref CK) "stage" = some none)
    (xL : K.lookup CR = some (excClassObj nmR qR CR NR bsR [.type "ValueError", .type "Exception", .type "BaseException", .type "object"] true snR subR abR colR ddR m0 m1 m2 m3 m5 "ValueError.__new__"))
    (saR : PySem.W.findIn K (.ref CR) "__setattr__" = some (some (.builtin "object.__setattr__")))
    (gaR : PySem.W.findIn K (.ref CR) "__getattribute__" = some (some (.builtin "BaseException.__getattribute__")))
    (ggR : PySem.W.findIn K (.ref CR) "__getattr__" = some none)
    (ncR : PySem.W.findIn K (.ref CR) "code" = some none)
    (aR0 : PySem.W.findIn K (.ref CR) "__init__" = some (some (.ref fR)))
    (tR0 : PySem.W.typeIn K (.ref fR) = some (.type "function"))
    (lR0 : K.lookup fR = some ⟨ocR0, odR0, .func (PySem.W.fnOf "__init__" "Refused.__init__" (defArgs (inClass (top 37) 0)) (defBody (inClass (top 37) 0)) (defScope (inClass (top 37) 0)) .none kVR0 dcR0 pmR0 anR0 cdR0 ctR0), slR0⟩)
    (cR0 : PySem.W.codeIn K cdR0 "Refused.__init__" = true)
    (kR0 : PySem.W.keepIn K (.ref fR) = true)
    (kCR : PySem.W.keepIn K (.ref CR) = true)
    (eCR : PySem.W.subIn K (.ref CR) (.type "BaseException") = some true)
    (tCR : PySem.W.typeIn K (.ref CR) = some (.type "type"))
    (hCR : PySem.W.hasDictIn K CR = true)
    (iCR : PySem.W.isClsIn K CR = true)
    (sCR : PySem.W.subIn K (.ref CR) (.ref CR) = some true)
    (vV : PySem.W.findCls K (.type "ValueError") (.type "type") "__init__" = some (.val (.builtin "ValueError.__init__")))
    (z_range : PySem.W.nsIn K mainGlobals "range" = some none)
    (z_any : PySem.W.nsIn K mainGlobals "any" = some none)
    (z_all : PySem.W.nsIn K mainGlobals "all" = some none)
    (z_list : PySem.W.nsIn K mainGlobals "list" = some none)
    (z_len : PySem.W.nsIn K mainGlobals "len" = some none)
    (z_min : PySem.W.nsIn K mainGlobals "min" = some none)
    (z_int : PySem.W.nsIn K mainGlobals "int" = some none)
    (z_ValueError : PySem.W.nsIn K mainGlobals "ValueError" = some none)
    (g_PUT : PySem.W.nsIn K mainGlobals "PUT" = some (some (.int 10 u_PUT)))
    (g_TAKE : PySem.W.nsIn K mainGlobals "TAKE" = some (some (.int 20 u_TAKE)))
    (g_BAD : PySem.W.nsIn K mainGlobals "BAD" = some (some (.int (-1) u_BAD)))
    (g_NO_PIECE : PySem.W.nsIn K mainGlobals "NO_PIECE" = some (some (.int (-2) u_NO_PIECE)))
    (g_NOT_EMPTY : PySem.W.nsIn K mainGlobals "NOT_EMPTY" = some (some (.int (-4) u_NOT_EMPTY)))
    (g_FULL : PySem.W.nsIn K mainGlobals "FULL" = some (some (.int (-5) u_FULL)))
    (g_CANT_BE : PySem.W.nsIn K mainGlobals "CANT_BE" = some (some (.int (-6) u_CANT_BE)))
    (g_MOST_PIECES : PySem.W.nsIn K mainGlobals "MOST_PIECES" = some (some (.int 6 u_MOST_PIECES)))
    (g_MOST_PROPS : PySem.W.nsIn K mainGlobals "MOST_PROPS" = some (some (.int 2 u_MOST_PROPS)))
    (g_MOST_BASES : PySem.W.nsIn K mainGlobals "MOST_BASES" = some (some (.int 4 u_MOST_BASES)))
    (g_N : PySem.W.nsIn K mainGlobals "NUMBERS" = some (some (.ref aN)))
    (lN : K.lookup aN = some ⟨.type "tuple", odN, .seq #[.int 3 v0, .int 2 v1, .int 1 v2, .int 1 v3, .int 1 v4, .int 0 v5, .int 0 v6, .int 0 v7, .int 0 v8, .int 0 v9, .int 0 v10, .int 0 v11] nN, slN⟩)
    (aA : PySem.W.nsIn K mainGlobals "answers" = some (some (.ref fA)))
    (lA : K.lookup fA = some ⟨ocA, odA, .func (PySem.W.fnOf "answers" "answers" (defArgs (top 41)) (defBody (top 41)) (defScope (top 41)) .none kVA dcA pmA anA cdA ctA), slA⟩)
    (cA : PySem.W.codeIn K cdA "answers" = true)
    (kA : PySem.W.keepIn K (.ref fA) = true)
    : ∃ fd : FuncData, (∀ (s : Shared) (us : List Value), us.length = (["calls"] : List Str).length → BindsTo s fd ⟨us, []⟩ ((["calls"] : List Str).zip us)) ∧ ∀ base : Heap, K.In base → base.Ns mainGlobals mg → FnOk P w K mg base CX0 12 fa fd ["calls"] (spAns K) := by
  have e := hfa.symm.trans (PySem.W.mg_of X G aA)
  cases e
  have T : Txt K mg CD CK := ⟨⟨pgCD, hdCD, poCD, saCD⟩, n_pieces, n_props, n_at_once, n_bases, ⟨pgCK, hdCK, poCK, saCK⟩, n_design, n_stage,
    PySem.W.mg_none_of X G z_range, PySem.W.mg_none_of X G z_any, PySem.W.mg_none_of X G z_all, PySem.W.mg_none_of X G z_list, PySem.W.mg_none_of X G z_len, PySem.W.mg_none_of X G z_min, PySem.W.mg_none_of X G z_int,
    ⟨_, PySem.W.mg_of X G g_PUT⟩, ⟨_, PySem.W.mg_of X G g_TAKE⟩⟩
  have R : TxtR K mg CR fR := ⟨⟨⟨_, _, _, _, _, _, _, _, _, _, _, _, _, _, _, xL, by decide +kernel⟩, saR, eCR, tCR, kCR⟩, aR0, tR0, PySem.W.mg_of X G aCR, ncR, ⟨gaR, ggR, eCR, hCR⟩, exm_self eCR iCR tCR sCR,
    PySem.W.mg_none_of X G z_ValueError, vV, ⟨_, PySem.W.mg_of X G g_BAD⟩, ⟨_, PySem.W.mg_of X G g_NO_PIECE⟩, ⟨_, PySem.W.mg_of X G g_NOT_EMPTY⟩, ⟨_, PySem.W.mg_of X G g_FULL⟩, ⟨_, PySem.W.mg_of X G g_CANT_BE⟩,
    ⟨_, PySem.W.mg_of X G g_MOST_PIECES⟩, ⟨_, PySem.W.mg_of X G g_MOST_PROPS⟩, ⟨_, PySem.W.mg_of X G g_MOST_BASES⟩,
    ⟨aN, PySem.W.mg_of X G g_N, fun H => .inr ⟨_, _, nN, lN, rfl, rfl, by show 12 ≤ sizeLine; decide, .cons ⟨_, rfl⟩ (.cons ⟨_, rfl⟩ (.cons ⟨_, rfl⟩ (.cons ⟨_, rfl⟩ (.cons ⟨_, rfl⟩ (.cons ⟨_, rfl⟩ (.cons ⟨_, rfl⟩ (.cons ⟨_, rfl⟩ (.cons ⟨_, rfl⟩ (.cons ⟨_, rfl⟩ (.cons ⟨_, rfl⟩ (.cons ⟨_, rfl⟩ .nil)))))))))))⟩⟩⟩
  have d2 : DefT K mg "is_in" (top 2) := defT_mk X G aT2 lT2 cT2 kT2
  have d3 : DefT K mg "with_thing" (top 3) := defT_mk X G aT3 lT3 cT3 kT3
  have d4 : DefT K mg "without_thing" (top 4) := defT_mk X G aT4 lT4 cT4 kT4
  have d5 : DefT K mg "pieces_in" (top 5) := defT_mk X G aT5 lT5 cT5 kT5
  have d6 : DefT K mg "props_in" (top 6) := defT_mk X G aT6 lT6 cT6 kT6
  have d7 : DefT K mg "does_rest" (top 7) := defT_mk X G aT7 lT7 cT7 kT7
  have d8 : DefT K mg "does_carry" (top 8) := defT_mk X G aT8 lT8 cT8 kT8
  have d9 : DefT K mg "without_loose" (top 9) := defT_mk X G aT9 lT9 cT9 kT9
  have d10 : DefT K mg "what_is_left" (top 10) := defT_mk X G aT10 lT10 cT10 kT10
  have d11 : DefT K mg "spare_pieces" (top 11) := defT_mk X G aT11 lT11 cT11 kT11
  have d15 : DefT K mg "all_moves" (top 15) := defT_mk X G aT15 lT15 cT15 kT15
  have d16 : DefT K mg "laid" (top 16) := defT_mk X G aT16 lT16 cT16 kT16
  have d17 : DefT K mg "changed" (top 17) := defT_mk X G aT17 lT17 cT17 kT17
  have d18 : DefT K mg "behind" (top 18) := defT_mk X G aT18 lT18 cT18 kT18
  have d19 : DefT K mg "stages_behind" (top 19) := defT_mk X G aT19 lT19 cT19 kT19
  have d21 : DefT K mg "distances" (top 21) := defT_mk X G aT21 lT21 cT21 kT21
  have d22 : DefT K mg "first_move" (top 22) := defT_mk X G aT22 lT22 cT22 kT22
  have d23 : DefT K mg "plan_from" (top 23) := defT_mk X G aT23 lT23 cT23 kT23
  have d24 : DefT K mg "come_to" (top 24) := defT_mk X G aT24 lT24 cT24 kT24
  have d25 : DefT K mg "farthest" (top 25) := defT_mk X G aT25 lT25 cT25 kT25
  have d26 : DefT K mg "props_needed" (top 26) := defT_mk X G aT26 lT26 cT26 kT26
  have d38 : DefT K mg "want" (top 38) := defT_mk X G aT38 lT38 cT38 kT38
  have d39 : DefT K mg "listed" (top 39) := defT_mk X G aT39 lT39 cT39 kT39
  have dd0 : MakT K mg "Design" CD "Design.__init__" sDInit := makT_mk X G aCD aD0 iD0 lD0 cD0 kD0 mkCD kcCD
  have dd1 : MetT K CD "how_many_sets" "Design.how_many_sets" sMany := metT_mk aD1 iD1 lD1 cD1 kD1
  have dd2 : MetT K CD "end" "Design.end" sEnd := metT_mk aD2 iD2 lD2 cD2 kD2
  have dd3 : MetT K CD "prop_thing" "Design.prop_thing" sThing := metT_mk aD3 iD3 lD3 cD3 kD3
  have dd4 : MetT K CD "with_at_once" "Design.with_at_once" sWithAt := metT_mk aD4 iD4 lD4 cD4 kD4
  have dk0 : MakT K mg "Desk" CK "Desk.__init__" (sK 0) := makT_mk X G aCK aK0 iK0 lK0 cK0 kK0 mkCK kcCK
  have dk1 : MetT K CK "want_set" "Desk.want_set" (sK 1) := metT_mk aK1 iK1 lK1 cK1 kK1
  have dk2 : MetT K CK "begins" "Desk.begins" (sK 2) := metT_mk aK2 iK2 lK2 cK2 kK2
  have dk3 : MetT K CK "rests" "Desk.rests" (sK 3) := metT_mk aK3 iK3 lK3 cK3 kK3
  have dk4 : MetT K CK "carries" "Desk.carries" (sK 4) := metT_mk aK4 iK4 lK4 cK4 kK4
  have dk5 : MetT K CK "falls" "Desk.falls" (sK 5) := metT_mk aK5 iK5 lK5 cK5 kK5
  have dk6 : MetT K CK "does" "Desk.does" (sK 6) := metT_mk aK6 iK6 lK6 cK6 kK6
  have dk7 : MetT K CK "undo" "Desk.undo" (sK 7) := metT_mk aK7 iK7 lK7 cK7 kK7
  have dk8 : MetT K CK "a_plan" "Desk.a_plan" (sK 8) := metT_mk aK8 iK8 lK8 cK8 kK8
  have dk9 : MetT K CK "fewest" "Desk.fewest" (sK 9) := metT_mk aK9 iK9 lK9 cK9 kK9
  have dk10 : MetT K CK "plan" "Desk.plan" (sK 10) := metT_mk aK10 iK10 lK10 cK10 kK10
  have dk11 : MetT K CK "far" "Desk.far" (sK 11) := metT_mk aK11 iK11 lK11 cK11 kK11
  have dk12 : MetT K CK "needed" "Desk.needed" (sK 12) := metT_mk aK12 iK12 lK12 cK12 kK12
  have dk13 : MetT K CK "spare" "Desk.spare" (sK 13) := metT_mk aK13 iK13 lK13 cK13 kK13
  have dk14 : MetT K CK "state" "Desk.state" (sK 14) := metT_mk aK14 iK14 lK14 cK14 kK14
  have dk15 : MetT K CK "told" "Desk.told" (sK 15) := metT_mk aK15 iK15 lK15 cK15 kK15
  have dk16 : MetT K CK "answer" "Desk.answer" (sK 16) := metT_mk aK16 iK16 lK16 cK16 kK16
  have FR := fun_mk (st := sRInit) lR0 cR0 kR0
  have FA := fun_mk (st := top 41) lA cA kA
  refine ⟨PySem.W.fnOf "answers" "answers" (defArgs (top 41)) (defBody (top 41)) (defScope (top 41)) .none kVA dcA pmA anA cdA ctA, fun s us hu => match us, hu with | [_], _ => .of_eq rfl, fun base _ _ => ?_⟩
  have cIs : Cal P w K mg base 1 "is_in" spIs := c_is d2
  have cWith : Cal P w K mg base 1 "with_thing" spWith := c_with d3
  have cWithout : Cal P w K mg base 1 "without_thing" spWithout := c_without d4
  have kD := k_dinit (P := P) (w := w) (base := base) T dd0
  have mMany := m_many (P := P) (w := w) (base := base) T dd1
  have mEnd := m_end (P := P) (w := w) (base := base) T dd2
  have mThing := m_thing (P := P) (w := w) (base := base) T dd3
  have mWithAt := m_withAt T dd4 kD
  have cPin := c_pin T d5 cIs
  have cQin := c_qin T d6 cIs mThing
  have cRest := c_rest (P := P) (w := w) (base := base) T d7
  have cCarry := c_carry T d8 cPin cRest
  have cLoose := c_loose T d9 cPin cRest cWithout
  have cLeft := c_left T d10 cCarry cLoose
  have cSpare := c_spare T d11 mEnd cCarry cWithout
  have cMoves := c_moves (P := P) (w := w) (base := base) T d15
  have cLaid := c_laid d16 cIs cWith
  have cChg := c_chg T d17 cLaid cQin mThing cIs cWithout
  have cBeh := c_beh T d18 cChg cCarry
  have cWays := c_ways T d19 cMoves cBeh
  have cDist := c_dist T d21 cWays mMany mEnd
  have cFirst := c_first T d22 cMoves cBeh
  have cPlan := c_plan T d23 cDist cFirst cBeh
  have cCome := c_come T d24 cWays
  have cFar := c_far T d25 cPin
  have cNeed := c_need T d26 cDist mWithAt
  have xWant := x_want (P := P) (w := w) (base := base) R FR d38
  have cListed := c_listed (P := P) (w := w) (base := base) T d39
  have kK := k_kinit T dk0 kD
  have mWset := m_wset T R dk1 xWant mMany
  have m0 := m_begins T R dk2 xWant kD
  have m1 := m_rests T R dk3 mWset xWant
  have m2 := m_carries T R dk4 mWset cCarry
  have m3 := m_falls T R dk5 mWset cLeft
  have m4 := m_does T R dk6 xWant cMoves cBeh
  have m5 := m_undo (P := P) (w := w) (base := base) (CD := CD) (CR := CR) T dk7
  have mAplan := m_aplan T R dk8 xWant cPlan
  have m6 := m_fewest T dk9 mAplan
  have m7 := m_plan T dk10 mAplan cListed
  have m8 := m_far (CR := CR) T dk11 cCome cFar cPin cListed
  have m9 := m_needed T R dk12 xWant cNeed
  have m10 := m_spare T R dk13 xWant cCarry mEnd cSpare cListed
  have m11 := m_state (CR := CR) T dk14 cListed
  have mTold := m_told T dk15 m0 m1 m2 m3 m4 m5 m6 m7 m8 m9 m10 m11
  have mAnswer := m_answer T R dk16 mTold
  exact f_answers T R FA kK mAnswer
end Br
end
section
open PySem PySem.W PyProof.Rows
set_option maxRecDepth 100000 in
set_option maxHeartbeats 8000000 in
theorem PySem.Challenge.cw_bridgestages_s01_answers_holds : PySem.Challenge.rw_bridgestages_s01_answers.Holds := by
  w_on; k_headS; (case hw => exact ⟨[.list [.int 5]], by decide +kernel, by decide +kernel⟩)
  k_fillS
  refine L2.walk_specK (r := PySem.Challenge.rw_bridgestages_s01_answers) (k := 12) (CX := L2.CX0) (ps := ["calls"]) (sp := Br.spAns) (by decide +kernel) rfl rfl ⟨rfl, by decide, by decide⟩ (fun w h Y => PySem.W.kIn_of Y) ?F ?S (fun _ _ _ _ z => z)
  case F =>
    intro w mg fa h Y KX G hmg
    refine' Br.all_mk KX G hmg ?aCD ?aCK ?aCR ?aT2 ?lT2 ?cT2 ?kT2 ?aT3 ?lT3 ?cT3 ?kT3 ?aT4 ?lT4 ?cT4 ?kT4 ?aT5 ?lT5 ?cT5 ?kT5 ?aT6 ?lT6 ?cT6 ?kT6 ?aT7 ?lT7 ?cT7 ?kT7 ?aT8 ?lT8 ?cT8 ?kT8 ?aT9 ?lT9 ?cT9 ?kT9 ?aT10 ?lT10 ?cT10 ?kT10 ?aT11 ?lT11 ?cT11 ?kT11 ?aT15 ?lT15 ?cT15 ?kT15 ?aT16 ?lT16 ?cT16 ?kT16 ?aT17 ?lT17 ?cT17 ?kT17 ?aT18 ?lT18 ?cT18 ?kT18 ?aT19 ?lT19 ?cT19 ?kT19 ?aT21 ?lT21 ?cT21 ?kT21 ?aT22 ?lT22 ?cT22 ?kT22 ?aT23 ?lT23 ?cT23 ?kT23 ?aT24 ?lT24 ?cT24 ?kT24 ?aT25 ?lT25 ?cT25 ?kT25 ?aT26 ?lT26 ?cT26 ?kT26 ?aT38 ?lT38 ?cT38 ?kT38 ?aT39 ?lT39 ?cT39 ?kT39 ?aD0 ?iD0 ?lD0 ?cD0 ?kD0 ?aD1 ?iD1 ?lD1 ?cD1 ?kD1 ?aD2 ?iD2 ?lD2 ?cD2 ?kD2 ?aD3 ?iD3 ?lD3 ?cD3 ?kD3 ?aD4 ?iD4 ?lD4 ?cD4 ?kD4 ?pgCD ?hdCD ?poCD ?saCD ?mkCD ?kcCD ?aK0 ?iK0 ?lK0 ?cK0 ?kK0 ?aK1 ?iK1 ?lK1 ?cK1 ?kK1 ?aK2 ?iK2 ?lK2 ?cK2 ?kK2 ?aK3 ?iK3 ?lK3 ?cK3 ?kK3 ?aK4 ?iK4 ?lK4 ?cK4 ?kK4 ?aK5 ?iK5 ?lK5 ?cK5 ?kK5 ?aK6 ?iK6 ?lK6 ?cK6 ?kK6 ?aK7 ?iK7 ?lK7 ?cK7 ?kK7 ?aK8 ?iK8 ?lK8 ?cK8 ?kK8 ?aK9 ?iK9 ?lK9 ?cK9 ?kK9 ?aK10 ?iK10 ?lK10 ?cK10 ?kK10 ?aK11 ?iK11 ?lK11 ?cK11 ?kK11 ?aK12 ?iK12 ?lK12 ?cK12 ?kK12 ?aK13 ?iK13 ?lK13 ?cK13 ?kK13 ?aK14 ?iK14 ?lK14 ?cK14 ?kK14 ?aK15 ?iK15 ?lK15 ?cK15 ?kK15 ?aK16 ?iK16 ?lK16 ?cK16 ?kK16 ?pgCK ?hdCK ?poCK ?saCK ?mkCK ?kcCK ?n_pieces ?n_props ?n_at_once ?n_bases ?n_design ?n_stage ?xL ?saR ?gaR ?ggR ?ncR ?aR0 ?tR0 ?lR0 ?cR0 ?kR0 ?kCR ?eCR ?tCR ?hCR ?iCR ?sCR ?vV ?z_range ?z_any ?z_all ?z_list ?z_len ?z_min ?z_int ?z_ValueError ?g_PUT ?g_TAKE ?g_BAD ?g_NO_PIECE ?g_NOT_EMPTY ?g_FULL ?g_CANT_BE ?g_MOST_PIECES ?g_MOST_PROPS ?g_MOST_BASES ?g_N ?lN ?aA ?lA ?cA ?kA
    (case aCD => k_is)
    (case aCK => k_is)
    (case aCR => k_is)
    (case aT2 => k_is)
    (case lT2 => k_is)
    (case cT2 => k_is)
    (case kT2 => k_is)
    (case aT3 => k_is)
    (case lT3 => k_is)
    (case cT3 => k_is)
    (case kT3 => k_is)
    (case aT4 => k_is)
    (case lT4 => k_is)
    (case cT4 => k_is)
    (case kT4 => k_is)
    (case aT5 => k_is)
    (case lT5 => k_is)
    (case cT5 => k_is)
    (case kT5 => k_is)
    (case aT6 => k_is)
    (case lT6 => k_is)
    (case cT6 => k_is)
    (case kT6 => k_is)
    (case aT7 => k_is)
    (case lT7 => k_is)
    (case cT7 => k_is)
    (case kT7 => k_is)
    (case aT8 => k_is)
    (case lT8 => k_is)
    (case cT8 => k_is)
    (case kT8 => k_is)
    (case aT9 => k_is)
    (case lT9 => k_is)
    (case cT9 => k_is)
    (case kT9 => k_is)
    (case aT10 => k_is)
    (case lT10 => k_is)
    (case cT10 => k_is)
    (case kT10 => k_is)
    (case aT11 => k_is)
    (case lT11 => k_is)
    (case cT11 => k_is)
    (case kT11 => k_is)
    (case aT15 => k_is)
    (case lT15 => k_is)
    (case cT15 => k_is)
    (case kT15 => k_is)
    (case aT16 => k_is)
    (case lT16 => k_is)
    (case cT16 => k_is)
    (case kT16 => k_is)
    (case aT17 => k_is)
    (case lT17 => k_is)
    (case cT17 => k_is)
    (case kT17 => k_is)
    (case aT18 => k_is)
    (case lT18 => k_is)
    (case cT18 => k_is)
    (case kT18 => k_is)
    (case aT19 => k_is)
    (case lT19 => k_is)
    (case cT19 => k_is)
    (case kT19 => k_is)
    (case aT21 => k_is)
    (case lT21 => k_is)
    (case cT21 => k_is)
    (case kT21 => k_is)
    (case aT22 => k_is)
    (case lT22 => k_is)
    (case cT22 => k_is)
    (case kT22 => k_is)
    (case aT23 => k_is)
    (case lT23 => k_is)
    (case cT23 => k_is)
    (case kT23 => k_is)
    (case aT24 => k_is)
    (case lT24 => k_is)
    (case cT24 => k_is)
    (case kT24 => k_is)
    (case aT25 => k_is)
    (case lT25 => k_is)
    (case cT25 => k_is)
    (case kT25 => k_is)
    (case aT26 => k_is)
    (case lT26 => k_is)
    (case cT26 => k_is)
    (case kT26 => k_is)
    (case aT38 => k_is)
    (case lT38 => k_is)
    (case cT38 => k_is)
    (case kT38 => k_is)
    (case aT39 => k_is)
    (case lT39 => k_is)
    (case cT39 => k_is)
    (case kT39 => k_is)
    (case aD0 => k_is)
    (case iD0 => k_is)
    (case lD0 => k_is)
    (case cD0 => k_is)
    (case kD0 => k_is)
    (case aD1 => k_is)
    (case iD1 => k_is)
    (case lD1 => k_is)
    (case cD1 => k_is)
    (case kD1 => k_is)
    (case aD2 => k_is)
    (case iD2 => k_is)
    (case lD2 => k_is)
    (case cD2 => k_is)
    (case kD2 => k_is)
    (case aD3 => k_is)
    (case iD3 => k_is)
    (case lD3 => k_is)
    (case cD3 => k_is)
    (case kD3 => k_is)
    (case aD4 => k_is)
    (case iD4 => k_is)
    (case lD4 => k_is)
    (case cD4 => k_is)
    (case kD4 => k_is)
    (case pgCD => k_is)
    (case hdCD => k_is)
    (case poCD => k_is)
    (case saCD => k_is)
    (case mkCD => k_is)
    (case kcCD => k_is)
    (case aK0 => k_is)
    (case iK0 => k_is)
    (case lK0 => k_is)
    (case cK0 => k_is)
    (case kK0 => k_is)
    (case aK1 => k_is)
    (case iK1 => k_is)
    (case lK1 => k_is)
    (case cK1 => k_is)
    (case kK1 => k_is)
    (case aK2 => k_is)
    (case iK2 => k_is)
    (case lK2 => k_is)
    (case cK2 => k_is)
    (case kK2 => k_is)
    (case aK3 => k_is)
    (case iK3 => k_is)
    (case lK3 => k_is)
    (case cK3 => k_is)
    (case kK3 => k_is)
    (case aK4 => k_is)
    (case iK4 => k_is)
    (case lK4 => k_is)
    (case cK4 => k_is)
    (case kK4 => k_is)
    (case aK5 => k_is)
    (case iK5 => k_is)
    (case lK5 => k_is)
    (case cK5 => k_is)
    (case kK5 => k_is)
    (case aK6 => k_is)
    (case iK6 => k_is)
    (case lK6 => k_is)
    (case cK6 => k_is)
    (case kK6 => k_is)
    (case aK7 => k_is)
    (case iK7 => k_is)
    (case lK7 => k_is)
    (case cK7 => k_is)
    (case kK7 => k_is)
    (case aK8 => k_is)
    (case iK8 => k_is)
    (case lK8 => k_is)
    (case cK8 => k_is)
    (case kK8 => k_is)
    (case aK9 => k_is)
    (case iK9 => k_is)
    (case lK9 => k_is)
    (case cK9 => k_is)
    (case kK9 => k_is)
    (case aK10 => k_is)
    (case iK10 => k_is)
    (case lK10 => k_is)
    (case cK10 => k_is)
    (case kK10 => k_is)
    (case aK11 => k_is)
    (case iK11 => k_is)
    (case lK11 => k_is)
    (case cK11 => k_is)
    (case kK11 => k_is)
    (case aK12 => k_is)
    (case iK12 => k_is)
    (case lK12 => k_is)
    (case cK12 => k_is)
    (case kK12 => k_is)
    (case aK13 => k_is)
    (case iK13 => k_is)
    (case lK13 => k_is)
    (case cK13 => k_is)
    (case kK13 => k_is)
    (case aK14 => k_is)
    (case iK14 => k_is)
    (case lK14 => k_is)
    (case cK14 => k_is)
    (case kK14 => k_is)
    (case aK15 => k_is)
    (case iK15 => k_is)
    (case lK15 => k_is)
    (case cK15 => k_is)
    (case kK15 => k_is)
    (case aK16 => k_is)
    (case iK16 => k_is)
    (case lK16 => k_is)
    (case cK16 => k_is)
    (case kK16 => k_is)
    (case pgCK => k_is)
    (case hdCK => k_is)
    (case poCK => k_is)
    (case saCK => k_is)
    (case mkCK => k_is)
    (case kcCK => k_is)
    (case n_pieces => k_is)
    (case n_props => k_is)
    (case n_at_once => k_is)
    (case n_bases => k_is)
    (case n_design => k_is)
    (case n_stage => k_is)
    (case xL => k_is)
    (case saR => k_is)
    (case gaR => k_is)
    (case ggR => k_is)
    (case ncR => k_is)
    (case aR0 => k_is)
    (case tR0 => k_is)
    (case lR0 => k_is)
    (case cR0 => k_is)
    (case kR0 => k_is)
    (case kCR => k_is)
    (case eCR => k_is)
    (case tCR => k_is)
    (case hCR => k_is)
    (case iCR => k_is)
    (case sCR => first | rfl | k_is)
    (case vV => k_is)
    (case z_range => k_is)
    (case z_any => k_is)
    (case z_all => k_is)
    (case z_list => k_is)
    (case z_len => k_is)
    (case z_min => k_is)
    (case z_int => k_is)
    (case z_ValueError => k_is)
    (case g_PUT => k_is)
    (case g_TAKE => k_is)
    (case g_BAD => k_is)
    (case g_NO_PIECE => k_is)
    (case g_NOT_EMPTY => k_is)
    (case g_FULL => k_is)
    (case g_CANT_BE => k_is)
    (case g_MOST_PIECES => k_is)
    (case g_MOST_PROPS => k_is)
    (case g_MOST_BASES => k_is)
    (case g_N => k_is)
    (case lN => k_is)
    (case aA => k_is)
    (case lA => k_is)
    (case cA => k_is)
    (case kA => k_is)
  case S =>
    intro K H xs a hO hwi hask hx
    cases hx with
    | cons h1 h2 =>
      cases h2
      cases h1 with
      | lst hs ha =>
        have e := L2.ints_dw a.1 _ ha
        subst e
        have hask' : PySy47.answers_asked a.1 = true := hask
        obtain ⟨cs, ask⟩ := BrF.asked_of hask'
        exact ⟨_, a.1, cs, rfl, hs, ask, fun H' p hp => .lst (L2.SqL.of hp) (L2.dw_ints _)⟩
end
