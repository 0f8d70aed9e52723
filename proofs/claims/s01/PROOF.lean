import PyProof.Rows.All
import Wide.All
import OpenK.AllK
import Wide.FinOn
import PyProof.EqAt
import PyProof.EqKinds
import PyProof.TupleCall
import Open.SpecLaws
import KE.OsGo
import KE.DataMinMax
import HandS.ForSpec
import HandS.Comp
import HandS.Iter
import HandS.Text
import HandS.Walk
import HandS.SortRule
import HandS.TupLe
import PySem.Challenge.RW_cupboardkept_s01_answers
set_option Elab.async false
set_option linter.all false
set_option maxRecDepth 100000
set_option maxHeartbeats 4000000
/-! # Cupboards: the mathematics, plain Lean. No program stands here. -/
namespace CK
open Si89

/-! ### lists -/
theorem find_rising {p : Nat → Bool} : ∀ {l : List Nat}, l.Pairwise (· ≤ ·) → ∀ {d : Nat}, l.find? p = some d → d ∈ l ∧ p d = true ∧ ∀ e ∈ l, p e = true → d ≤ e
  | [], _, d, h => by cases h
  | a :: r, hp, d, h => by
    rw [List.pairwise_cons] at hp
    rw [List.find?_cons] at h
    cases e : p a with
    | true =>
      rw [e] at h
      obtain rfl : a = d := Option.some.inj h
      refine ⟨List.mem_cons_self, e, fun x hx _ => ?_⟩
      rcases List.mem_cons.mp hx with rfl | hx
      · exact Nat.le_refl _
      · exact hp.1 x hx
    | false =>
      rw [e] at h
      obtain ⟨h1, h2, h3⟩ := find_rising hp.2 h
      refine ⟨List.mem_cons_of_mem _ h1, h2, fun x hx hx' => ?_⟩
      rcases List.mem_cons.mp hx with rfl | hx
      · rw [e] at hx'; cases hx'
      · exact h3 x hx hx'
theorem find_eq {p : Nat → Bool} {l m : List Nat} (hl : l.Pairwise (· ≤ ·)) (hm : m.Pairwise (· ≤ ·))
    (h1 : ∀ d ∈ l, p d = true → ∃ e ∈ m, e ≤ d ∧ p e = true) (h2 : ∀ d ∈ m, p d = true → ∃ e ∈ l, e ≤ d ∧ p e = true) : l.find? p = m.find? p := by
  cases a : l.find? p with
  | none =>
    cases b : m.find? p with
    | none => rfl
    | some d =>
      obtain ⟨h3, h4, _⟩ := find_rising hm b
      obtain ⟨e, h5, _, h6⟩ := h2 d h3 h4
      exact absurd h6 (List.find?_eq_none.mp a e h5)
  | some d =>
    obtain ⟨h3, h4, h7⟩ := find_rising hl a
    cases b : m.find? p with
    | none =>
      obtain ⟨e, h5, _, h6⟩ := h1 d h3 h4
      exact absurd h6 (List.find?_eq_none.mp b e h5)
    | some d' =>
      obtain ⟨h3', h4', h7'⟩ := find_rising hm b
      obtain ⟨e, h5, h6, h8⟩ := h1 d h3 h4
      obtain ⟨e', h5', h6', h8'⟩ := h2 d' h3' h4'
      have := h7' e h5 h8
      have := h7 e' h5' h8'
      exact congrArg some (by omega)
theorem exists_greatest {α : Type} (f : α → Nat) : ∀ {l : List α}, l ≠ [] → ∃ i ∈ l, ∀ j ∈ l, f j ≤ f i
  | [], h => absurd rfl h
  | [a], _ => ⟨a, List.mem_cons_self, fun j hj => by rw [List.mem_singleton.mp hj]; exact Nat.le_refl _⟩
  | a :: b :: r, _ => by
    obtain ⟨i, hi, h⟩ := exists_greatest f (l := b :: r) (by simp)
    by_cases c : f i ≤ f a
    · refine ⟨a, List.mem_cons_self, fun j hj => ?_⟩
      rcases List.mem_cons.mp hj with rfl | hj
      · exact Nat.le_refl _
      · exact Nat.le_trans (h j hj) c
    · refine ⟨i, List.mem_cons_of_mem _ hi, fun j hj => ?_⟩
      rcases List.mem_cons.mp hj with rfl | hj
      · omega
      · exact h j hj
theorem filter_length_mono {α : Type} {p q : α → Bool} (l : List α) (h : ∀ x ∈ l, p x = true → q x = true) : (l.filter p).length ≤ (l.filter q).length := by
  rw [← List.countP_eq_length_filter, ← List.countP_eq_length_filter]
  exact List.countP_mono_left h

/-! ### things, members, days -/
theorem mem_members {c : Cupboard} {s i : Nat} : i ∈ c.members s ↔ i < c.count ∧ s.testBit i = true := by
  unfold Cupboard.members Cupboard.all_
  rw [List.mem_filter, List.mem_range]
theorem members_nodup (c : Cupboard) (s : Nat) : (c.members s).Nodup := (List.nodup_range (n := c.count)).sublist List.filter_sublist
theorem thing_comes_mem {c : Cupboard} {i : Nat} (h : i < c.count) : (c.thing i).comes ∈ c.things.map fun t => t.comes := by
  have h' : i < c.things.length := h
  refine List.mem_map.mpr ⟨c.things[i], List.getElem_mem h', ?_⟩
  unfold Cupboard.thing
  rw [List.getD_eq_getElem?_getD, List.getElem?_eq_getElem h']
  rfl
theorem mem_comes {c : Cupboard} {d : Nat} (h : d ∈ c.things.map fun t => t.comes) : ∃ i, i < c.count ∧ (c.thing i).comes = d := by
  obtain ⟨t, ht, rfl⟩ := List.mem_map.mp h
  obtain ⟨i, hi, rfl⟩ := List.getElem_of_mem ht
  refine ⟨i, hi, ?_⟩
  unfold Cupboard.thing
  rw [List.getD_eq_getElem?_getD, List.getElem?_eq_getElem hi]
  rfl
theorem days_rising (c : Cupboard) : c.days.Pairwise (· ≤ ·) := by
  have h := List.pairwise_mergeSort (le := fun (a b : Nat) => decide (a ≤ b)) (fun a b d h1 h2 => by
    have h1' := of_decide_eq_true h1
    have h2' := of_decide_eq_true h2
    exact decide_eq_true (Nat.le_trans h1' h2')) (fun a b => by
    rcases Nat.le_total a b with h | h
    · rw [decide_eq_true h]; rfl
    · rw [decide_eq_true h, Bool.or_true]) (c.things.map fun t => t.comes).eraseDups
  exact h.imp fun h => of_decide_eq_true h
theorem mem_days {c : Cupboard} {d : Nat} : d ∈ c.days ↔ d ∈ c.things.map fun t => t.comes := by
  unfold Cupboard.days
  rw [(List.mergeSort_perm _ _).mem_iff, List.mem_eraseDups]
theorem there_iff {c : Cupboard} {d i : Nat} : c.there d i = true ↔ (c.thing i).comes ≤ d ∧ d < (c.thing i).asked := by
  unfold Cupboard.there
  rw [Bool.and_eq_true, decide_eq_true_iff, decide_eq_true_iff]
/-- where any of a set take a place, one of it has come last, and as many do on that day -/
theorem taken_last {c : Cupboard} {s d : Nat} (h : 0 < c.taken s d) : ∃ i ∈ c.members s, (c.thing i).comes ≤ d ∧ c.taken s d ≤ c.taken s (c.thing i).comes := by
  have hne : (c.members s).filter (c.there d) ≠ [] := by
    intro e
    unfold Cupboard.taken at h
    rw [e] at h
    exact absurd h (Nat.lt_irrefl _)
  obtain ⟨i, hi, hm⟩ := exists_greatest (fun i => (c.thing i).comes) hne
  have hi' := List.mem_filter.mp hi
  refine ⟨i, hi'.1, (there_iff.mp hi'.2).1, ?_⟩
  unfold Cupboard.taken
  refine filter_length_mono _ fun x hx hp => ?_
  have h1 := there_iff.mp hp
  have h2 := hm x (List.mem_filter.mpr ⟨hx, hp⟩)
  have h3 := there_iff.mp hi'.2
  exact there_iff.mpr ⟨h2, by omega⟩
/-- the first day that is too full, looked for among the days on which the set's own come -/
theorem full_eq {c : Cupboard} {s : Nat} {ds : List Nat} (hr : ds.Pairwise (· ≤ ·)) (hp : ds.Perm ((c.members s).map fun i => (c.thing i).comes)) :
    ds.find? (fun d => decide (c.places < c.taken s d)) = c.full s := by
  unfold Cupboard.full
  refine find_eq hr (days_rising c) (fun d hd h => ?_) (fun d hd h => ?_)
  · obtain ⟨i, hi, rfl⟩ := List.mem_map.mp (hp.mem_iff.mp hd)
    exact ⟨_, mem_days.mpr (thing_comes_mem (mem_members.mp hi).1), Nat.le_refl _, h⟩
  · have h' := of_decide_eq_true h
    obtain ⟨i, hi, h1, h2⟩ := taken_last (c := c) (s := s) (d := d) (by omega)
    exact ⟨_, hp.mem_iff.mpr (List.mem_map.mpr ⟨i, hi, rfl⟩), h1, decide_eq_true (by omega)⟩

/-! ### how many places are enough -/
theorem foldl_max_mem : ∀ (l : List Nat) (a : Nat), l.foldl max a ∈ a :: l
  | [], a => List.mem_cons_self
  | x :: r, a => by
    have h := foldl_max_mem r (max a x)
    rw [List.foldl_cons]
    rcases List.mem_cons.mp h with e | e
    · rw [e]
      rcases Nat.le_total a x with q | q
      · rw [Nat.max_eq_right q]; exact List.mem_cons_of_mem _ List.mem_cons_self
      · rw [Nat.max_eq_left q]; exact List.mem_cons_self
    · exact List.mem_cons_of_mem _ (List.mem_cons_of_mem _ e)
theorem foldl_max_le : ∀ (l : List Nat) (a : Nat), ∀ y ∈ a :: l, y ≤ l.foldl max a
  | [], a, y, h => by rw [List.mem_singleton.mp h]; exact Nat.le_refl _
  | x :: r, a, y, h => by
    have q := foldl_max_le r (max a x)
    rw [List.foldl_cons]
    rcases List.mem_cons.mp h with e | e
    · exact Nat.le_trans (by rw [e]; exact Nat.le_max_left _ _) (q _ List.mem_cons_self)
    · rcases List.mem_cons.mp e with e | e
      · exact Nat.le_trans (by rw [e]; exact Nat.le_max_right _ _) (q _ List.mem_cons_self)
      · exact q _ (List.mem_cons_of_mem _ e)
theorem members_all (c : Cupboard) : c.members (2 ^ c.count - 1) = List.range c.count := by
  unfold Cupboard.members Cupboard.all_
  rw [List.filter_eq_self]
  intro i hi
  rw [Nat.testBit_two_pow_sub_one]
  exact decide_eq_true (List.mem_range.mp hi)
theorem enough_eq {c : Cupboard} {ds : List Nat} (hp : ds.Perm ((c.members (2 ^ c.count - 1)).map fun i => (c.thing i).comes)) {m : Int}
    (hm : m ∈ (0 :: ds.map fun d => ((c.taken (2 ^ c.count - 1) d : Nat) : Int))) (hle : ∀ y ∈ (0 :: ds.map fun d => ((c.taken (2 ^ c.count - 1) d : Nat) : Int)), y ≤ m) : m = ((c.enough : Nat) : Int) := by
  have same : ∀ d, d ∈ ds ↔ d ∈ c.days := fun d => by
    rw [hp.mem_iff, mem_days, members_all]
    constructor
    · intro h
      obtain ⟨i, hi, rfl⟩ := List.mem_map.mp h
      exact thing_comes_mem (List.mem_range.mp hi)
    · intro h
      obtain ⟨i, hi, rfl⟩ := mem_comes h
      exact List.mem_map.mpr ⟨i, List.mem_range.mpr hi, rfl⟩
  have h1 := foldl_max_mem (c.days.map fun d => c.taken (2 ^ c.count - 1) d) 0
  have h2 := foldl_max_le (c.days.map fun d => c.taken (2 ^ c.count - 1) d) 0
  have e : c.enough = (c.days.map fun d => c.taken (2 ^ c.count - 1) d).foldl max 0 := rfl
  rw [← e] at h1 h2
  have up : ((c.enough : Nat) : Int) ≤ m := by
    rcases List.mem_cons.mp h1 with q | q
    · rw [q]; exact hle _ List.mem_cons_self
    · obtain ⟨d, hd, hq⟩ := List.mem_map.mp q
      rw [← hq]
      exact hle _ (List.mem_cons_of_mem _ (List.mem_map.mpr ⟨d, (same d).mpr hd, rfl⟩))
  have down : m ≤ ((c.enough : Nat) : Int) := by
    rcases List.mem_cons.mp hm with q | q
    · rw [q]; exact Int.natCast_nonneg _
    · obtain ⟨d, hd, hq⟩ := List.mem_map.mp q
      rw [← hq]
      exact Int.ofNat_le.mpr (h2 _ (List.mem_cons_of_mem _ (List.mem_map.mpr ⟨d, (same d).mp hd, rfl⟩)))
  exact Int.le_antisymm down up

/-! ### the best -/
def bst (f g : Nat → Nat) (r : Option Best) (s : Nat) : Option Best := match r with
  | none => some ⟨f s, g s, 1, s⟩
  | some x => if more (f s) (g s) x.first x.second = true then some ⟨f s, g s, 1, s⟩ else if f s = x.first ∧ g s = x.second then some { x with many := x.many + 1 } else some x
theorem bestBy_eq (c : Cupboard) (f g : Nat → Nat) : c.bestBy f g = c.sets.foldl (bst f g) none := rfl
theorem bst_some (f g : Nat → Nat) (r : Option Best) (s : Nat) : ∃ x, bst f g r s = some x := by
  cases r with
  | none => exact ⟨_, rfl⟩
  | some x =>
    unfold bst
    simp only
    split
    · exact ⟨_, rfl⟩
    · split
      · exact ⟨_, rfl⟩
      · exact ⟨_, rfl⟩
theorem fold_bst_some (f g : Nat → Nat) : ∀ (l : List Nat) (x : Best), ∃ y, l.foldl (bst f g) (some x) = some y
  | [], x => ⟨x, rfl⟩
  | a :: l, x => by
    obtain ⟨y, e⟩ := bst_some f g (some x) a
    rw [List.foldl_cons, e]
    exact fold_bst_some f g l y
theorem taken_zero (c : Cupboard) (d : Nat) : c.taken 0 d = 0 := by
  have e : c.members 0 = [] := by
    unfold Cupboard.members
    rw [List.filter_eq_nil_iff]
    intro a _
    simp
  unfold Cupboard.taken
  rw [e]
  rfl
theorem zero_mem_sets (c : Cupboard) : 0 ∈ c.sets := by
  unfold Cupboard.sets
  rw [List.mem_filter, List.mem_range]
  refine ⟨Nat.pow_pos (by decide), ?_⟩
  unfold Cupboard.right
  rw [Bool.and_eq_true]
  refine ⟨decide_eq_true (Nat.pow_pos (by decide)), ?_⟩
  rw [Option.isNone_iff_eq_none]
  unfold Cupboard.full
  rw [List.find?_eq_none]
  intro d _
  rw [taken_zero]
  simp
theorem bestBy_some (c : Cupboard) (f g : Nat → Nat) : ∃ x, c.bestBy f g = some x := by
  rw [bestBy_eq]
  have h := zero_mem_sets c
  cases e : c.sets with
  | nil => rw [e] at h; cases h
  | cons a l =>
    rw [List.foldl_cons]
    exact fold_bst_some f g l _
theorem sets_bound {c : Cupboard} {s : Nat} (h : s ∈ c.sets) : s < 2 ^ c.count := List.mem_range.mp (List.mem_filter.mp h).1
theorem sets_eq (c : Cupboard) : c.sets = (List.range (2 ^ c.count)).filter fun s => (c.full s).isNone := by
  unfold Cupboard.sets
  refine List.filter_congr fun s hs => ?_
  unfold Cupboard.right
  rw [decide_eq_true (List.mem_range.mp hs), Bool.true_and]
theorem sets_length (c : Cupboard) : c.sets.length ≤ 2 ^ c.count := by
  unfold Cupboard.sets
  exact Nat.le_trans (List.length_filter_le _ _) (by rw [List.length_range]; exact Nat.le_refl _)
end CK

namespace CK
open Si89
/-! ### the line of things as they come -/
/-- i comes ahead of k, or is k -/
def ahead (c : Cupboard) (i k : Nat) : Bool := decide ((c.thing i).comes < (c.thing k).comes) || ((c.thing i).comes == (c.thing k).comes && decide (i ≤ k))
theorem ahead_iff {c : Cupboard} {i k : Nat} : ahead c i k = true ↔ (c.thing i).comes < (c.thing k).comes ∨ ((c.thing i).comes = (c.thing k).comes ∧ i ≤ k) := by
  unfold ahead
  rw [Bool.or_eq_true, Bool.and_eq_true, decide_eq_true_iff, decide_eq_true_iff, beq_iff_eq]
theorem line_def (c : Cupboard) : c.line = (List.range c.count).mergeSort (ahead c) := rfl
theorem line_perm (c : Cupboard) : c.line.Perm (List.range c.count) := by
  rw [line_def]
  exact List.mergeSort_perm _ _
theorem line_sorted (c : Cupboard) : c.line.Pairwise (fun i k => ahead c i k = true) := by
  rw [line_def]
  refine List.pairwise_mergeSort (fun a b d h1 h2 => ?_) (fun a b => ?_) _
  · rw [ahead_iff] at h1 h2 ⊢
    omega
  · rw [Bool.or_eq_true, ahead_iff, ahead_iff]
    omega
theorem line_eq {c : Cupboard} {l : List Nat} (hp : l.Perm (List.range c.count)) (hs : l.Pairwise (fun i k => ahead c i k = true)) : l = c.line := by
  refine List.Perm.eq_of_pairwise (fun a b _ _ h1 h2 => ?_) hs (line_sorted c) (hp.trans (line_perm c).symm)
  rw [ahead_iff] at h1 h2
  omega
/-! ### the one that is asked for last -/
/-- j is not asked for later than i -/
def notLater (c : Cupboard) (j i : Nat) : Prop := (c.thing j).asked < (c.thing i).asked ∨ ((c.thing j).asked = (c.thing i).asked ∧ j ≤ i)
theorem last_spec (c : Cupboard) : ∀ l : List Nat, (l = [] ∧ c.last l = none) ∨ ∃ i ∈ l, c.last l = some i ∧ ∀ j ∈ l, notLater c j i
  | [] => .inl ⟨rfl, rfl⟩
  | x :: l => by
    right
    rcases last_spec c l with ⟨rfl, h⟩ | ⟨i, hi, h, hm⟩
    · refine ⟨x, List.mem_cons_self, rfl, fun j hj => ?_⟩
      rw [List.mem_singleton.mp hj]
      exact .inr ⟨rfl, Nat.le_refl _⟩
    · unfold Cupboard.last
      rw [h]
      simp only
      by_cases q : (c.thing i).asked < (c.thing x).asked ∨ ((c.thing i).asked = (c.thing x).asked ∧ i < x)
      · rw [if_pos q]
        refine ⟨x, List.mem_cons_self, rfl, fun j hj => ?_⟩
        rcases List.mem_cons.mp hj with rfl | hj
        · exact .inr ⟨rfl, Nat.le_refl _⟩
        · have := hm j hj
          unfold notLater at this ⊢
          omega
      · rw [if_neg q]
        refine ⟨i, List.mem_cons_of_mem _ hi, rfl, fun j hj => ?_⟩
        rcases List.mem_cons.mp hj with rfl | hj
        · unfold notLater
          omega
        · exact hm j hj
theorem last_eq {c : Cupboard} {l : List Nat} {i : Nat} (hi : i ∈ l) (hm : ∀ j ∈ l, notLater c j i) : c.last l = some i := by
  rcases last_spec c l with ⟨rfl, _⟩ | ⟨k, hk, h, hk'⟩
  · cases hi
  · rw [h]
    have h1 := hm k hk
    have h2 := hk' i hi
    unfold notLater at h1 h2
    exact congrArg some (by omega)
/-! ### as they come -/
/-- one turn: what's kept behind the coming of i -/
def pturn (c : Cupboard) (kept : List Nat) (i : Nat) : List Nat :=
  if c.places < ((kept ++ [i]).filter (c.there (c.thing i).comes)).length then
    match c.last ((kept ++ [i]).filter (c.there (c.thing i).comes)) with
    | some k => (kept ++ [i]).filter fun j => j != k
    | none => kept ++ [i]
  else kept ++ [i]
theorem plainFrom_eq (c : Cupboard) : ∀ (l kept : List Nat), c.plainFrom kept l = l.foldl (pturn c) kept
  | [], kept => rfl
  | i :: l, kept => by
    rw [List.foldl_cons, ← plainFrom_eq c l]
    show (if c.places < ((kept ++ [i]).filter (c.there (c.thing i).comes)).length then _ else _) = _
    unfold pturn
    split <;> rfl
theorem pturn_sub (c : Cupboard) (kept : List Nat) (i : Nat) : (pturn c kept i).Sublist (kept ++ [i]) := by
  unfold pturn
  split
  · split
    · exact List.filter_sublist
    · exact List.Sublist.refl _
  · exact List.Sublist.refl _
theorem fold_sub (c : Cupboard) : ∀ (l kept : List Nat), (l.foldl (pturn c) kept).Sublist (kept ++ l)
  | [], kept => by rw [List.append_nil]; exact List.Sublist.refl _
  | i :: l, kept => by
    rw [List.foldl_cons]
    have h1 := fold_sub c l (pturn c kept i)
    have h2 : (pturn c kept i ++ l).Sublist ((kept ++ [i]) ++ l) := (pturn_sub c kept i).append (List.Sublist.refl l)
    have e : kept ++ i :: l = (kept ++ [i]) ++ l := by simp
    rw [e]
    exact h1.trans h2
/-- the things that are kept in the end -/
def kept (c : Cupboard) : List Nat := c.line.foldl (pturn c) []
theorem plain_def (c : Cupboard) : c.plain = ((kept c).map fun i => 2 ^ i).sum := by
  unfold Cupboard.plain kept
  rw [plainFrom_eq]
theorem kept_sub (c : Cupboard) : (kept c).Sublist c.line := fold_sub c c.line []
theorem kept_nodup (c : Cupboard) : (kept c).Nodup := ((line_perm c).symm.nodup (List.nodup_range)).sublist (kept_sub c)
theorem kept_lt {c : Cupboard} {i : Nat} (h : i ∈ kept c) : i < c.count := List.mem_range.mp ((line_perm c).mem_iff.mp ((kept_sub c).subset h))
theorem line_lt {c : Cupboard} {i : Nat} (h : i ∈ c.line) : i < c.count := List.mem_range.mp ((line_perm c).mem_iff.mp h)
theorem testBit_add_pow {a x : Nat} (h : x.testBit a = false) (i : Nat) : (2 ^ a + x).testBit i = (decide (i = a) || x.testBit i) := by
  rcases Nat.lt_trichotomy i a with q | q | q
  · rw [Nat.testBit_two_pow_add_gt q, decide_eq_false (by omega), Bool.false_or]
  · subst q
    rw [Nat.testBit_two_pow_add_eq, h, decide_eq_true rfl]
    rfl
  · rw [decide_eq_false (by omega), Bool.false_or]
    obtain ⟨j, rfl⟩ : ∃ j, i = a + 1 + j := ⟨i - (a + 1), by omega⟩
    rw [Nat.testBit_eq_decide_div_mod_eq] at h
    have hy : ¬ x / 2 ^ a % 2 = 1 := of_decide_eq_false h
    have e : (2 ^ a + x) / 2 ^ (a + 1) = x / 2 ^ (a + 1) := by
      rw [Nat.pow_succ, ← Nat.div_div_eq_div_mul, ← Nat.div_div_eq_div_mul, Nat.add_div_left _ (Nat.pow_pos (by decide))]
      omega
    rw [Nat.testBit_eq_decide_div_mod_eq, Nat.testBit_eq_decide_div_mod_eq, Nat.pow_add, ← Nat.div_div_eq_div_mul, ← Nat.div_div_eq_div_mul, e]
theorem testBit_sum : ∀ {l : List Nat}, l.Nodup → ∀ i, ((l.map fun i => 2 ^ i).sum).testBit i = decide (i ∈ l)
  | [], _, i => by simp
  | a :: l, h, i => by
    have h' := List.nodup_cons.mp h
    rw [List.map_cons, List.sum_cons, testBit_add_pow (by rw [testBit_sum h'.2, decide_eq_false h'.1]), testBit_sum h'.2]
    by_cases q : i = a
    · subst q; simp
    · simp [q]
theorem members_plain (c : Cupboard) : (c.members c.plain).Perm (kept c) := by
  rw [List.perm_ext_iff_of_nodup (members_nodup c _) (kept_nodup c)]
  intro i
  rw [mem_members, plain_def, testBit_sum (kept_nodup c), decide_eq_true_iff]
  exact ⟨fun h => h.2, fun h => ⟨kept_lt h, h⟩⟩
theorem size_plain (c : Cupboard) : c.size c.plain = (kept c).length := (members_plain c).length_eq
theorem plain_lt (c : Cupboard) : c.plain < 2 ^ c.count := by
  refine Nat.lt_pow_two_of_testBit _ fun i hi => ?_
  rw [plain_def, testBit_sum (kept_nodup c), decide_eq_false]
  intro h
  exact absurd (kept_lt h) (by omega)
/-! ### the calls read -/
open PySi89 (shape whole)
theorem shape_some {p : Int} {n k : Nat} (h : shape p = some (n, k)) : k = 0 ∧ ((p = 0 ∧ n = 1) ∨ (p = 1 ∧ n = 3) ∨ (p = 2 ∧ n = 1) ∨ (p = 3 ∧ n = 0) ∨ (p = 4 ∧ n = 0) ∨ (p = 5 ∧ n = 0) ∨ (p = 6 ∧ n = 0)) := by
  unfold shape at h
  split at h
  · cases h; omega
  split at h
  · cases h; omega
  split at h
  · cases h; omega
  split at h
  · cases h; omega
  split at h
  · cases h; omega
  split at h
  · cases h; omega
  split at h
  · cases h; omega
  · cases h
theorem calls_nil (f : Nat) : PyFlat.calls shape f [] = some [] := by
  cases f <;> rfl
theorem calls_cons {f : Nat} {p : Int} {r : List Int} {cs : List (List (List Int))} (h : PyFlat.calls shape (f + 1) (p :: r) = some cs) :
    ∃ n cs', shape p = some (n, 0) ∧ n ≤ r.length ∧ PyFlat.calls shape f (r.drop n) = some cs' ∧ cs = [p :: r.take n] :: cs' := by
  unfold PyFlat.calls at h
  cases e : PyFlat.call shape (p :: r) with
  | none => rw [e] at h; cases h
  | some ct =>
    obtain ⟨c, t⟩ := ct
    rw [e] at h
    simp only at h
    cases e2 : PyFlat.calls shape f t with
    | none => rw [e2] at h; cases h
    | some cs' =>
      rw [e2] at h
      simp only at h
      cases h
      unfold PyFlat.call at e
      simp only at e
      cases e3 : shape p with
      | none => rw [e3] at e; cases e
      | some nk =>
        obtain ⟨n, k⟩ := nk
        obtain ⟨rfl, _⟩ := shape_some e3
        rw [e3] at e
        simp only at e
        by_cases q : r.length < n
        · rw [if_pos q] at e; cases e
        · rw [if_neg q] at e
          have e' : some ([p :: r.take n], r.drop n) = some (c, t) := e
          cases e'
          exact ⟨n, cs', rfl, by omega, e2, rfl⟩
/-- a call's answer and what it leaves -/
def due (c : Cupboard) (cs : List (List (List Int))) : List Int := PyFlat.told (PyFlat.played Si89Neutral.step c (cs.map whole))
theorem due_nil (c : Cupboard) : due c [] = [] := rfl
theorem list_len0 {α : Type} {l : List α} (h : l.length = 0) : l = [] := List.eq_nil_of_length_eq_zero h
theorem list_len1 {α : Type} {l : List α} (h : l.length = 1) : ∃ a, l = [a] := by
  cases l with
  | nil => cases h
  | cons a r =>
    cases r with
    | nil => exact ⟨a, rfl⟩
    | cons b r => simp at h
theorem list_len3 {α : Type} {l : List α} (h : l.length = 3) : ∃ a b c, l = [a, b, c] := by
  cases l with
  | nil => cases h
  | cons a r =>
    cases r with
    | nil => simp at h
    | cons b r =>
      cases r with
      | nil => simp at h
      | cons d r =>
        cases r with
        | nil => exact ⟨a, b, d, rfl⟩
        | cons e r => simp at h
/-- the calls that there are -/
inductive Kind : Int → List Int → Prop where
  | begins (a : Int) : Kind 0 [a]
  | thing (a b w : Int) : Kind 1 [a, b, w]
  | check (s : Int) : Kind 2 [s]
  | best : Kind 3 []
  | most : Kind 4 []
  | plain : Kind 5 []
  | enough : Kind 6 []
theorem kind_of {p : Int} {n : Nat} {xs : List Int} (h : shape p = some (n, 0)) (hx : xs.length = n) : Kind p xs := by
  obtain ⟨_, h⟩ := shape_some h
  rcases h with ⟨rfl, rfl⟩ | ⟨rfl, rfl⟩ | ⟨rfl, rfl⟩ | ⟨rfl, rfl⟩ | ⟨rfl, rfl⟩ | ⟨rfl, rfl⟩ | ⟨rfl, rfl⟩
  · obtain ⟨a, rfl⟩ := list_len1 hx; exact .begins a
  · obtain ⟨a, b, w, rfl⟩ := list_len3 hx; exact .thing a b w
  · obtain ⟨a, rfl⟩ := list_len1 hx; exact .check a
  · rw [list_len0 hx]; exact .best
  · rw [list_len0 hx]; exact .most
  · rw [list_len0 hx]; exact .plain
  · rw [list_len0 hx]; exact .enough
theorem whole_kind {p : Int} {xs : List Int} (h : Kind p xs) : whole [p :: xs] = [p :: xs] := by
  cases h <;> rfl
theorem due_cons {c : Cupboard} {p : Int} {xs : List Int} (h : Kind p xs) (cs : List (List (List Int))) :
    due c ([p :: xs] :: cs) = (((Si89Neutral.step c [p :: xs]).2.length : Nat) : Int) :: ((Si89Neutral.step c [p :: xs]).2 ++ due (Si89Neutral.step c [p :: xs]).1 cs) := by
  unfold due
  rw [List.map_cons, whole_kind h]
  rfl
theorem step_begins (c : Cupboard) (a : Int) : Si89Neutral.step c [[0, a]] = ((Si89.step c (.begins a.toNat)).1, (Si89.step c (.begins a.toNat)).2.v :: (Si89.step c (.begins a.toNat)).2.l) := rfl
theorem step_thing (c : Cupboard) (a b w : Int) : Si89Neutral.step c [[1, a, b, w]] = ((Si89.step c (.thing ⟨a.toNat, b.toNat, w.toNat⟩)).1, (Si89.step c (.thing ⟨a.toNat, b.toNat, w.toNat⟩)).2.v :: (Si89.step c (.thing ⟨a.toNat, b.toNat, w.toNat⟩)).2.l) := rfl
theorem step_check (c : Cupboard) (a : Int) : Si89Neutral.step c [[2, a]] = ((Si89.step c (.check a.toNat)).1, (Si89.step c (.check a.toNat)).2.v :: (Si89.step c (.check a.toNat)).2.l) := rfl
theorem step_best (c : Cupboard) : Si89Neutral.step c [[3]] = (c, (toldBest c.best).v :: (toldBest c.best).l) := rfl
theorem step_most (c : Cupboard) : Si89Neutral.step c [[4]] = (c, (toldBest c.most).v :: (toldBest c.most).l) := rfl
theorem step_plain (c : Cupboard) : Si89Neutral.step c [[5]] = (c, [((c.size c.plain : Nat) : Int), ((c.worth c.plain : Nat) : Int), ((c.plain : Nat) : Int)]) := rfl
theorem step_enough (c : Cupboard) : Si89Neutral.step c [[6]] = (c, [((c.enough : Nat) : Int)]) := rfl
theorem asked_calls {l : List Int} (h : PySi89.answers_asked l = true) : ∃ cs, PyFlat.calls shape l.length l = some cs ∧ PySi89.answers l = due Si89.init cs ∧ (PySi89.answers l).length ≤ 10000000 := by
  unfold PySi89.answers_asked at h
  cases e : PyFlat.calls shape l.length l with
  | none => rw [e] at h; cases h
  | some cs =>
    rw [e] at h
    simp only [Bool.and_eq_true] at h
    have hs : (PySi89.answers l).length ≤ 10000000 := of_decide_eq_true h.2
    have ha : PySi89.answers l = due Si89.init cs := by
      unfold PySi89.answers PySi89.calls
      rw [e]
      rfl
    exact ⟨cs, rfl, ha, hs⟩
/-- what the loop stands before: nothing is left, or a call -/
theorem calls_next {f : Nat} {l : List Int} {cs : List (List (List Int))} (h : PyFlat.calls shape f l = some cs) :
    (l = [] ∧ cs = []) ∨ ∃ p r n f' cs', l = p :: r ∧ shape p = some (n, 0) ∧ n ≤ r.length ∧ PyFlat.calls shape f' (r.drop n) = some cs' ∧ cs = [p :: r.take n] :: cs' ∧ Kind p (r.take n) := by
  cases l with
  | nil =>
    rw [calls_nil] at h
    exact .inl ⟨rfl, (Option.some.inj h).symm⟩
  | cons p r =>
    cases f with
    | zero => cases h
    | succ f =>
      obtain ⟨n, cs', h1, h2, h3, h4⟩ := calls_cons h
      exact .inr ⟨p, r, n, f, cs', rfl, h1, h2, h3, h4, kind_of h1 (by rw [List.length_take]; omega)⟩
/-- the numbers a kind has -/
theorem shape_nums {p : Int} {n : Nat} (h : shape p = some (n, 0)) : 0 ≤ p ∧ p ≤ 6 ∧ ([1, 3, 1, 0, 0, 0, 0] : List Nat)[p.toNat]? = some n := by
  obtain ⟨_, h⟩ := shape_some h
  rcases h with ⟨rfl, rfl⟩ | ⟨rfl, rfl⟩ | ⟨rfl, rfl⟩ | ⟨rfl, rfl⟩ | ⟨rfl, rfl⟩ | ⟨rfl, rfl⟩ | ⟨rfl, rfl⟩ <;> exact ⟨by decide, by decide, rfl⟩
end CK

/-! # Rules that the layer lacks: > of two tuples of ints; max of a list of pairs of ints; a method's call within a body that raises -/
namespace L2
open PySem PySem.Spec PyProof.Rows
/-- the first of two lists of ints is the greater by place -/
def gtL : List Int → List Int → Bool
  | [], _ => false
  | _ :: _, [] => true
  | x :: xs, y :: ys => if x = y then gtL xs ys else decide (y < x)
def rGtT (K : PySem.W.Frag) : R2 := fun x y H Q => ∃ (a b : Addr) (ns ms : List Int), x = .ref a ∧ y = .ref b ∧ SqT K H a (ns.map V.int) ∧ SqT K H b (ms.map V.int) ∧
  Q (.bl (Ob.lexAt (fun j => decide (ns.getD j 0 = ms.getD j 0)) (fun j => decide (ms.getD j 0 < ns.getD j 0)) (decide (ns.length > ms.length)) 0 (min ns.length ms.length))) H
theorem rc_gtT {A : Around} {s : Shared} {a b : Addr} {its its2 : Array Value} {ns ms : List Int} (p1 : s.heap.IsTuple a its) (p2 : s.heap.IsTuple b its2) (i1 : IntsAre its.toList ns) (i2 : IntsAre its2.toList ms) (hu : A.units < cLine) :
    Ob.RcOp .Gt A s (.ref a) (.ref b) (Ob.lexAt (fun j => decide (ns.getD j 0 = ms.getD j 0)) (fun j => decide (ms.getD j 0 < ns.getD j 0)) (decide (ns.length > ms.length)) 0 (min ns.length ms.length)) := by
  have e1 : its.size = ns.length := by rw [← Array.length_toList]; exact i1.length
  have e2 : its2.size = ms.length := by rw [← Array.length_toList]; exact i2.length
  have at1 : ∀ j (h1 : j < its.size), ∃ t, its[j] = .int (ns.getD j 0) t := fun j h1 => PyProof.Rows.IntsAre.int_at i1 _ _ (by simp [h1])
  have at2 : ∀ j (h1 : j < its2.size), ∃ t, its2[j] = .int (ms.getD j 0) t := fun j h1 => PyProof.Rows.IntsAre.int_at i2 _ _ (by simp [h1])
  have R := Ob.RcOp.tuples_gt (A := A) (s := s) (e := fun j => decide (ns.getD j 0 = ms.getD j 0)) (r := fun j => decide (ms.getD j 0 < ns.getD j 0)) p1 p2 hu (fun j h1 h2 => by
    obtain ⟨t, et⟩ := at1 j h1
    obtain ⟨t', et'⟩ := at2 j h2
    rw [et, et']
    have z : (ns.getD j 0 == ms.getD j 0) = decide (ns.getD j 0 = ms.getD j 0) := by
      by_cases q : ns.getD j 0 = ms.getD j 0
      · rw [decide_eq_true q]; exact beq_iff_eq.mpr q
      · rw [decide_eq_false q]; exact beq_eq_false_iff_ne.mpr q
    rw [← z]
    exact SeqAt.EqAt.int_int _ _ _ _) (fun j h1 h2 _ => by
    obtain ⟨t, et⟩ := at1 j h1
    obtain ⟨t', et'⟩ := at2 j h2
    rw [et, et']
    exact Ob.RcOp.gt_int _ _ _ _)
  rw [e1, e2] at R
  exact R
theorem op_gtT {X : Cx} (hu : X.A.units < cLine) : OpR X (compareOp .Gt) (rGtT X.K) := by
  intro pins s σ H x y v u Q I rx ry h
  obtain ⟨a, b, ns, ms, rfl, rfl, ha, hb, q⟩ := h
  cases rx
  cases ry
  obtain ⟨its, r1, p1, _⟩ := I.tuple ha
  obtain ⟨its2, r2, p2, _⟩ := I.tuple hb
  have R := rc_gtT (A := X.A) (s := s) p1 p2 (by exact Vals.ints r1) (by exact Vals.ints r2) hu
  have z : wpAny (model X.prog X.w) X.A (compareOp .Gt (.ref a) (.ref b)) (EP X pins σ Q) X.xe s := R X.prog X.w X.xe (EP X pins σ Q) ⟨.bl _, H, I, rfl, q⟩
  exact z
/-- two pairs -/
theorem gt_pairs {a b c d : Int} : Ob.lexAt (fun j => decide (([a, b] : List Int).getD j 0 = ([c, d] : List Int).getD j 0)) (fun j => decide (([c, d] : List Int).getD j 0 < ([a, b] : List Int).getD j 0)) (decide (([a, b] : List Int).length > ([c, d] : List Int).length)) 0 (min ([a, b] : List Int).length ([c, d] : List Int).length)
    = (decide (c < a) || (decide (a = c) && decide (d < b))) := by
  show Ob.lexAt _ _ _ 0 2 = _
  rw [Ob.lexAt_succ, Ob.lexAt_succ, Ob.lexAt_zero]
  show (if decide (a = c) = true then (if decide (b = d) = true then decide ((2 : Nat) > 2) else decide (d < b)) else decide (c < a)) = _
  by_cases h1 : a = c
  · subst h1
    by_cases h2 : b = d
    · subst h2
      simp
    · simp [h2]
  · simp [h1]
/-- max of a list of pairs of ints: one of them, that none is above -/
def rMaxP (K : PySem.W.Frag) : List V → Hp → VK → Prop := fun vs H Q => ∃ (a : Addr) (ts : List Addr) (k : Addr → Int × Int), vs = [V.ref a] ∧ SqL K H a (ts.map V.ref) ∧ 0 < ts.length ∧
  (∀ t ∈ ts, H t = some (.tup [.int (k t).1, .int (k t).2])) ∧ ∀ t ∈ ts, (∀ u ∈ ts, (k u).1 < (k t).1 ∨ ((k u).1 = (k t).1 ∧ (k u).2 ≤ (k t).2)) → Q (.ref t) H
theorem argBest_top (k : Nat → Int × Int) (bt : Nat → Nat → Bool) (hb : ∀ i j, bt i j = (decide ((k j).1 < (k i).1) || (decide ((k i).1 = (k j).1) && decide ((k j).2 < (k i).2)))) :
    ∀ m, argBest bt m ≤ m ∧ ∀ j, j ≤ m → (k j).1 < (k (argBest bt m)).1 ∨ ((k j).1 = (k (argBest bt m)).1 ∧ (k j).2 ≤ (k (argBest bt m)).2)
  | 0 => ⟨Nat.le_refl _, fun j hj => by
    obtain rfl : j = 0 := by omega
    exact .inr ⟨rfl, Int.le_refl _⟩⟩
  | m + 1 => by
    obtain ⟨h1, h2⟩ := argBest_top k bt hb m
    have e : argBest bt (m + 1) = if bt (m + 1) (argBest bt m) then m + 1 else argBest bt m := rfl
    rw [e]
    cases q : bt (m + 1) (argBest bt m) with
    | true =>
      rw [if_pos rfl]
      refine ⟨Nat.le_refl _, fun j hj => ?_⟩
      rw [hb] at q
      simp only [Bool.or_eq_true, Bool.and_eq_true, decide_eq_true_eq] at q
      rcases Nat.lt_or_ge j (m + 1) with h | h
      · have := h2 j (by omega)
        omega
      · obtain rfl : j = m + 1 := by omega
        exact .inr ⟨rfl, Int.le_refl _⟩
    | false =>
      rw [if_neg Bool.false_ne_true]
      refine ⟨by omega, fun j hj => ?_⟩
      rw [hb] at q
      rw [Bool.or_eq_false_iff, Bool.and_eq_false_iff, decide_eq_false_iff_not, decide_eq_false_iff_not, decide_eq_false_iff_not] at q
      rcases Nat.lt_or_ge j (m + 1) with h | h
      · exact h2 j (by omega)
      · obtain rfl : j = m + 1 := by omega
        omega
theorem vals_refs : ∀ {ts : List Addr} {us : List Value}, Vals (ts.map V.ref) us → us = ts.map Value.ref
  | [], us, h => by cases h; rfl
  | t :: ts, us, h => by
    cases h with
    | cons r rs =>
      obtain rfl := (show _ = Value.ref t from r)
      rw [vals_refs rs]
      rfl
theorem cr_maxP {X : Cx} (hc : X.calm = true) (hu : X.A.units + 1 < cLine) : CallR X (.builtin "max") (rMaxP X.K) := by
  intro pins s σ H vs us Q I r h
  obtain ⟨a, ts, k, rfl, hs, hne, hx, q⟩ := h
  obtain ⟨its, rv, hl, _⟩ := I.list hs
  rw [Vals.ref1 r]
  have hits := vals_refs rv
  subst hits
  have hlen : (ts.map Value.ref).toArray.size = ts.length := by simp
  have hat : ∀ (i : Nat) (v : Value), (ts.map Value.ref).toArray[i]? = some v → ∃ t, ts[i]? = some t ∧ v = .ref t := fun i v e => by
    rw [List.getElem?_toArray, List.getElem?_map] at e
    cases q2 : ts[i]? with
    | none => rw [q2] at e; cases e
    | some t => rw [q2] at e; exact ⟨t, rfl, (Option.some.inj e).symm⟩
  refine call_max_walkH (PySem.W.iter_listW (A := X.A.in1) (I.ok.hd hc) hl.isList fun s₂ e W st hfp hw hk => ?_)
  refine ⟨_, _, _, _, _, _, _, s.heap, fun i j => decide ((k (ts.getD j 0)).1 < (k (ts.getD i 0)).1) || (decide ((k (ts.getD i 0)).1 = (k (ts.getD j 0)).1) && decide ((k (ts.getD j 0)).2 < (k (ts.getD i 0)).2)), rfl, W, st, hfp, by rw [hlen]; exact hne, hw, hk, ?_, fun v s' hP m => ?_⟩
  · intro i j vi vj s' Q' E' hk' hi hj hq
    obtain ⟨t, ei, rfl⟩ := hat i vi hi
    obtain ⟨u, ej, rfl⟩ := hat j vj hj
    have gi : ts.getD i 0 = t := by rw [List.getD_eq_getElem?_getD, ei]; rfl
    have gj : ts.getD j 0 = u := by rw [List.getD_eq_getElem?_getD, ej]; rfl
    simp only [gi, gj] at hq
    obtain ⟨_, its1, r1, p1⟩ := I.hok _ _ (hx t (List.mem_of_getElem? ei))
    obtain ⟨_, its2, r2, p2⟩ := I.hok _ _ (hx u (List.mem_of_getElem? ej))
    have p1' : s'.heap.IsTuple t its1.toArray := by
      obtain ⟨o, ho, rest⟩ := p1
      exact ⟨o, hk' _ _ ho, rest⟩
    have p2' : s'.heap.IsTuple u its2.toArray := by
      obtain ⟨o, ho, rest⟩ := p2
      exact ⟨o, hk' _ _ ho, rest⟩
    have R := rc_gtT (A := X.A.in1) (s := s') (ns := [(k t).1, (k t).2]) (ms := [(k u).1, (k u).2]) p1' p2' (by exact Vals.ints r1) (by exact Vals.ints r2) (by show X.A.units + 1 < cLine; exact hu)
    rw [gt_pairs] at R
    exact R X.prog X.w E' Q' hq
  · obtain ⟨h', tk, rfl, hk'⟩ := PySem.W.moved_old e rfl m
    rw [hlen] at hP
    obtain ⟨t, et, rfl⟩ := hat _ v hP
    obtain ⟨h1, h2⟩ := argBest_top (fun j => k (ts.getD j 0)) _ (fun i j => rfl) (ts.length - 1)
    refine ⟨.ref t, H, I.kept hk', rfl, q t (List.mem_of_getElem? et) fun u hu' => ?_⟩
    obtain ⟨j, hj, rfl⟩ := List.getElem_of_mem hu'
    have h3 := h2 j (by omega)
    have gt : ts.getD (argBest (fun i j => decide ((k (ts.getD j 0)).1 < (k (ts.getD i 0)).1) || (decide ((k (ts.getD i 0)).1 = (k (ts.getD j 0)).1) && decide ((k (ts.getD j 0)).2 < (k (ts.getD i 0)).2))) (ts.length - 1)) 0 = t := by
      rw [List.getD_eq_getElem?_getD, et]; rfl
    have gj : ts.getD j 0 = ts[j] := by rw [List.getD_eq_getElem?_getD, List.getElem?_eq_getElem hj]; rfl
    simp only [gt, gj] at h3
    exact h3
end L2

/-! # The cupboard's program: its text by places, what stands in the heap, the promises -/
namespace CK
open PySem PySem.Spec PyProof.Rows L2
open Si89 (Cupboard Thing Best)
/-! ### the text -/
def top (i : Nat) : Stmt := PySem.Challenge.pw_cupboardkept_s01_answers.main.body.getD i (.Pass ⟨0, 0, 0, 0⟩)
abbrev sIChosen : Stmt := inClass (top 1) 0
abbrev sMeasuresOf : Stmt := top 2
abbrev sChosen : Stmt := top 3
abbrev sToldC : Stmt := top 4
abbrev sIThing : Stmt := inClass (top 11) 0
abbrev sTakes : Stmt := inClass (top 11) 1
abbrev sICrowd : Stmt := inClass (top 12) 0
abbrev sICup : Stmt := inClass (top 13) 0
abbrev sThingsOf : Stmt := inClass (top 13) 1
abbrev sWorthOf : Stmt := inClass (top 13) 2
abbrev sTaking : Stmt := inClass (top 13) 3
abbrev sCrowds : Stmt := inClass (top 13) 4
abbrev sTooMany : Stmt := inClass (top 13) 5
abbrev sEnough : Stmt := inClass (top 13) 6
abbrev sAllKept : Stmt := inClass (top 13) 7
abbrev sThrownOut : Stmt := inClass (top 13) 8
abbrev sAsTheyCome : Stmt := inClass (top 13) 9
abbrev sICall : Stmt := inClass (top 26) 0
abbrev sILine : Stmt := inClass (top 27) 0
abbrev sCallAt : Stmt := top 28
abbrev sRefuse : Stmt := top 29
abbrev sBegins : Stmt := top 30
abbrev sNewThing : Stmt := top 31
abbrev sCheck : Stmt := top 32
abbrev sPlain : Stmt := top 33
abbrev sTold : Stmt := top 34
abbrev sToldOr : Stmt := top 36
abbrev sAnswers : Stmt := top 37
/-! ### where it all stands -/
structure Ads where
  cChosen : Addr
  cThing : Addr
  cCrowd : Addr
  cCup : Addr
  cRef : Addr
  cCall : Addr
  cLine : Addr
  iChosen : Addr
  iThing : Addr
  iCrowd : Addr
  iCup : Addr
  iRef : Addr
  iCall : Addr
  iLine : Addr
  takes : Addr
  thingsOf : Addr
  worthOf : Addr
  taking : Addr
  crowds : Addr
  tooMany : Addr
  enough : Addr
  allKept : Addr
  thrownOut : Addr
  asTheyCome : Addr
  measuresOf : Addr
  chosen : Addr
  toldC : Addr
  callAt : Addr
  refuse : Addr
  begins : Addr
  newThing : Addr
  check : Addr
  plain : Addr
  told : Addr
  toldOr : Addr
  numbersOf : Addr
/-- a def of the text stands at f -/
def At (K : PySem.W.Frag) (x qual : Str) (st : Stmt) (f : Addr) : Prop := ∃ fd, Fun K x qual st f fd
/-- the def at f keeps the promise sp -/
def Good (P : Program) (w : World) (K : PySem.W.Frag) (mg : Str → Option Value) (base : Heap) (CX : CXT) (k : Nat) (f : Addr) (ps : List Str) (sp : Sp) : Prop :=
  ∃ fd, FnOk P w K mg base CX k f fd ps sp ∧ Binds K fd ps [] ∧ PySem.W.keepIn K (.ref f) = true
/-- an int of the module -/
def IntAt (mg : Str → Option Value) (x : Str) (i : Int) : Prop := ∃ t, mg x = some (.int i t)
/-! ### values -/
abbrev nv (n : Nat) : V := .int (n : Int)
abbrev nvs (l : List Nat) : List V := l.map nv
abbrev rfs (l : List Addr) : List V := l.map V.ref
theorem nvs_ints (l : List Nat) : nvs l = (l.map fun (n : Nat) => (n : Int)).map V.int := by
  unfold nvs
  rw [List.map_map]
  rfl
/-! ### fields -/
theorem lk_here {k : Str} {v : V} {r : List (Str × V)} : List.lookup k ((k, v) :: r) = some v := by
  have e : (k == k) = true := beq_self_eq_true k
  simp only [List.lookup, e]
theorem lk_past {k g : Str} {v : V} {r : List (Str × V)} (h : (k == g) = false) : List.lookup k ((g, v) :: r) = List.lookup k r := by
  simp only [List.lookup, h]
theorem put_here {f : Str} {v x : V} {r : List (Str × V)} : putF f v ((f, x) :: r) = (f, v) :: r := if_pos rfl
theorem put_past {f g : Str} {v x : V} {r : List (Str × V)} (h : ¬ g = f) : putF f v ((g, x) :: r) = (g, x) :: putF f v r := if_neg h
/-- two fields -/
def f2 (a b : Str) (x y : V) : List (Str × V) := [(a, x), (b, y)]
def f3 (a b c : Str) (x y z : V) : List (Str × V) := [(a, x), (b, y), (c, z)]
theorem f2_1 {a b : Str} {x y : V} : (f2 a b x y).lookup a = some x := lk_here
theorem f2_2 {a b : Str} {x y : V} (h : (b == a) = false) : (f2 a b x y).lookup b = some y := (lk_past h).trans lk_here
theorem f2_0 {a b m : Str} {x y : V} (h : (m == a) = false) (h2 : (m == b) = false) : (f2 a b x y).lookup m = none := (lk_past h).trans ((lk_past h2).trans rfl)
theorem f3_1 {a b c : Str} {x y z : V} : (f3 a b c x y z).lookup a = some x := lk_here
theorem f3_2 {a b c : Str} {x y z : V} (h : (b == a) = false) : (f3 a b c x y z).lookup b = some y := (lk_past h).trans lk_here
theorem f3_3 {a b c : Str} {x y z : V} (h : (c == a) = false) (h2 : (c == b) = false) : (f3 a b c x y z).lookup c = some z := (lk_past h).trans ((lk_past h2).trans lk_here)
theorem f3_0 {a b c m : Str} {x y z : V} (h : (m == a) = false) (h2 : (m == b) = false) (h3 : (m == c) = false) : (f3 a b c x y z).lookup m = none := (lk_past h).trans ((lk_past h2).trans ((lk_past h3).trans rfl))
theorem f2_mk {a b : Str} {x y : V} (h : ¬ a = b) : putF b y (putF a x []) = f2 a b x y := (put_past h).trans rfl
theorem f3_mk {a b c : Str} {x y z : V} (h : ¬ a = b) (h2 : ¬ a = c) (h3 : ¬ b = c) : putF c z (putF b y (putF a x [])) = f3 a b c x y z := by
  rw [f2_mk h]
  exact (put_past h2).trans (congrArg _ ((put_past h3).trans rfl))
abbrev thF (t : Thing) : List (Str × V) := f3 "comes" "asked_for" "worth" (nv t.comes) (nv t.asked) (nv t.worth)
abbrev crF (d n : Nat) : List (Str × V) := f2 "day" "many" (nv d) (nv n)
abbrev cuF (p : Nat) (l : Addr) : List (Str × V) := f2 "places" "things" (nv p) (.ref l)
abbrev chF (t : Addr) (n s : Int) : List (Str × V) := f3 "measures" "many" "number" (.ref t) (.int n) (.int s)
abbrev caF (k : Int) (l : Addr) (e : Int) : List (Str × V) := f3 "kind" "some" "behind" (.int k) (.ref l) (.int e)
abbrev liF (c : Addr) : List (Str × V) := [("cupboard", .ref c)]
/-- an instance of C at a with these fields -/
def InsAt (C : Addr) (H : Hp) (a : Addr) (fs : List (Str × V)) : Prop := ∃ dx, H a = some (.ins C dx fs)
theorem InsAt.same {C : Addr} {H H' : Hp} {a : Addr} {fs : List (Str × V)} (h : InsAt C H a fs) (s : Same H H') : InsAt C H' a fs := by
  obtain ⟨dx, e⟩ := h
  exact ⟨dx, s _ _ e⟩
/-! ### heaps -/
theorem same_new {H H' : Hp} {p : Addr} {o : HO} (s : Same H H') (n : H p = none) : Same H (upd H' p o) := fun b u e => by
  rw [upd_ne (ne_of_none e n)]
  exact s b u e
theorem same_upd {H : Hp} {p : Addr} {o : HO} (n : H p = none) : Same H (upd H p o) := same_new (Same.refl H) n
/-- all but what stands at x is as it was -/
def But (x : Addr) (H H' : Hp) : Prop := ∀ b o, H b = some o → b ≠ x → H' b = some o
theorem Same.but {H H' : Hp} {x : Addr} (s : Same H H') : But x H H' := fun b o e _ => s b o e
/-! ### the cupboard in the heap: at a; its list of things at l, these at ts -/
structure CupAt (A : Ads) (H : Hp) (a l : Addr) (ts : List Addr) (c : Cupboard) : Prop where
  obj : InsAt A.cCup H a (cuF c.places l)
  lst : H l = some (.lst (rfs ts))
  len : ts.length = c.count
  things : ∀ i t, ts[i]? = some t → InsAt A.cThing H t (thF (c.thing i))
theorem CupAt.same {A : Ads} {H H' : Hp} {a l : Addr} {ts : List Addr} {c : Cupboard} (h : CupAt A H a l ts c) (s : Same H H') : CupAt A H' a l ts c :=
  ⟨h.obj.same s, s _ _ h.lst, h.len, fun i t e => (h.things i t e).same s⟩
theorem CupAt.at_ {A : Ads} {H : Hp} {a l : Addr} {ts : List Addr} {c : Cupboard} (h : CupAt A H a l ts c) {i : Nat} (hi : i < c.count) : ∃ t, (rfs ts)[i]? = some (.ref t) ∧ InsAt A.cThing H t (thF (c.thing i)) := by
  have hi' : i < ts.length := by rw [h.len]; exact hi
  refine ⟨ts[i], ?_, h.things i _ (List.getElem?_eq_getElem hi')⟩
  rw [List.getElem?_map, List.getElem?_eq_getElem hi']
  rfl
def LineAt (A : Ads) (H : Hp) (a c : Addr) : Prop := InsAt A.cLine H a (liF c)
/-- an if whose test is known -/
theorem if_true_of {c : Bool} {A B : Prop} (hc : c = true) (h : A) : if c = true then A else B := by
  rw [if_pos hc]
  exact h
theorem if_false_of {c : Bool} {A B : Prop} (hc : c = false) (h : B) : if c = true then A else B := by
  rw [hc, if_neg Bool.false_ne_true]
  exact h
/-! ### what the top has written -/
structure Txt (K : PySem.W.Frag) (mg : Str → Option Value) (A : Ads) : Prop where
  kChosen : Cls K A.cChosen
  kThing : Cls K A.cThing
  kCrowd : Cls K A.cCrowd
  kCup : Cls K A.cCup
  kCall : Cls K A.cCall
  kLine : Cls K A.cLine
  mChosen : Mk K A.cChosen A.iChosen
  mThing : Mk K A.cThing A.iThing
  mCrowd : Mk K A.cCrowd A.iCrowd
  mCup : Mk K A.cCup A.iCup
  mCall : Mk K A.cCall A.iCall
  mLine : Mk K A.cLine A.iLine
  nChosen1 : NoAttr K A.cChosen "measures"
  nChosen2 : NoAttr K A.cChosen "many"
  nChosen3 : NoAttr K A.cChosen "number"
  nThing1 : NoAttr K A.cThing "comes"
  nThing2 : NoAttr K A.cThing "asked_for"
  nThing3 : NoAttr K A.cThing "worth"
  nCrowd1 : NoAttr K A.cCrowd "day"
  nCrowd2 : NoAttr K A.cCrowd "many"
  nCup1 : NoAttr K A.cCup "places"
  nCup2 : NoAttr K A.cCup "things"
  nCall1 : NoAttr K A.cCall "kind"
  nCall2 : NoAttr K A.cCall "some"
  nCall3 : NoAttr K A.cCall "behind"
  nLine1 : NoAttr K A.cLine "cupboard"
  meTakes : Meth K A.cThing "takes" A.takes
  meThingsOf : Meth K A.cCup "things_of" A.thingsOf
  meWorthOf : Meth K A.cCup "worth_of" A.worthOf
  meTaking : Meth K A.cCup "taking" A.taking
  meCrowds : Meth K A.cCup "crowds" A.crowds
  meTooMany : Meth K A.cCup "too_many" A.tooMany
  meEnough : Meth K A.cCup "enough" A.enough
  meAllKept : Meth K A.cCup "all_kept" A.allKept
  meThrownOut : Meth K A.cCup "thrown_out" A.thrownOut
  meAsTheyCome : Meth K A.cCup "as_they_come" A.asTheyCome
  aIChosen : At K "__init__" "Chosen.__init__" sIChosen A.iChosen
  aIThing : At K "__init__" "Thing.__init__" sIThing A.iThing
  aICrowd : At K "__init__" "Crowd.__init__" sICrowd A.iCrowd
  aICup : At K "__init__" "Cupboard.__init__" sICup A.iCup
  aICall : At K "__init__" "Call.__init__" sICall A.iCall
  aILine : At K "__init__" "Line.__init__" sILine A.iLine
  aTakes : At K "takes" "Thing.takes" sTakes A.takes
  aThingsOf : At K "things_of" "Cupboard.things_of" sThingsOf A.thingsOf
  aWorthOf : At K "worth_of" "Cupboard.worth_of" sWorthOf A.worthOf
  aTaking : At K "taking" "Cupboard.taking" sTaking A.taking
  aCrowds : At K "crowds" "Cupboard.crowds" sCrowds A.crowds
  aTooMany : At K "too_many" "Cupboard.too_many" sTooMany A.tooMany
  aEnough : At K "enough" "Cupboard.enough" sEnough A.enough
  aAllKept : At K "all_kept" "Cupboard.all_kept" sAllKept A.allKept
  aThrownOut : At K "thrown_out" "Cupboard.thrown_out" sThrownOut A.thrownOut
  aAsTheyCome : At K "as_they_come" "Cupboard.as_they_come" sAsTheyCome A.asTheyCome
  aMeasuresOf : At K "measures_of" "measures_of" sMeasuresOf A.measuresOf
  aChosen : At K "chosen" "chosen" sChosen A.chosen
  aToldC : At K "told" "told" sToldC A.toldC
  aCallAt : At K "call_at" "call_at" sCallAt A.callAt
  aRefuse : At K "refuse_where" "refuse_where" sRefuse A.refuse
  aBegins : At K "begins" "begins" sBegins A.begins
  aNewThing : At K "new_thing" "new_thing" sNewThing A.newThing
  aCheck : At K "check" "check" sCheck A.check
  aPlain : At K "plain" "plain" sPlain A.plain
  aTold : At K "told" "told" sTold A.told
  aToldOr : At K "told_or_refused" "told_or_refused" sToldOr A.toldOr
  gChosenC : mg "Chosen" = some (.ref A.cChosen)
  gThing : mg "Thing" = some (.ref A.cThing)
  gCrowd : mg "Crowd" = some (.ref A.cCrowd)
  gCup : mg "Cupboard" = some (.ref A.cCup)
  gCall : mg "Call" = some (.ref A.cCall)
  gLine : mg "Line" = some (.ref A.cLine)
  gMeasuresOf : mg "measures_of" = some (.ref A.measuresOf)
  gChosen : mg "chosen" = some (.ref A.chosen)
  gToldC : mg "told_choosing" = some (.ref A.toldC)
  gCallAt : mg "call_at" = some (.ref A.callAt)
  gRefuse : mg "refuse_where" = some (.ref A.refuse)
  gBegins : mg "begins" = some (.ref A.begins)
  gNewThing : mg "new_thing" = some (.ref A.newThing)
  gCheck : mg "check" = some (.ref A.check)
  gPlain : mg "plain" = some (.ref A.plain)
  gTold : mg "told_cupboard" = some (.ref A.told)
  gToldOr : mg "told_or_refused" = some (.ref A.toldOr)
  gNumbersOf : mg "NUMBERS_OF" = some (.ref A.numbersOf)
  tNumbersOf : ∀ H, SqT K H A.numbersOf [nv 1, nv 3, nv 1, nv 0, nv 0, nv 0, nv 0]
  iMostPlaces : IntAt mg "MOST_PLACES" 5
  iMostThings : IntAt mg "MOST_THINGS" 9
  iLastDay : IntAt mg "LAST_DAY" 365
  iMostWorth : IntAt mg "MOST_WORTH" 1000
  iBegins : IntAt mg "BEGINS" 0
  iThing_ : IntAt mg "THING" 1
  iCheck : IntAt mg "CHECK" 2
  iBest : IntAt mg "BEST" 3
  iMost : IntAt mg "MOST" 4
  iPlain : IntAt mg "PLAIN" 5
  iNotSo : IntAt mg "NOT_SO" (-1)
  iFull : IntAt mg "FULL" (-5)
  iTooMany : IntAt mg "TOO_MANY" (-6)
  zLen : mg "len" = none
  zRange : mg "range" = none
  zSum : mg "sum" = none
  zSorted : mg "sorted" = none
  zMax : mg "max" = none
  zEnumerate : mg "enumerate" = none
end CK

/-! # Refused(numbers): an own error over ValueError whose __init__ keeps its one argument (a worked proof's block, turned to this class) -/
namespace PySem
namespace RefX
open PySem.W PySem.Calls PyProof.Rows PySem.HandSPX
/-! ### the text of __init__ -/
def iA (p1 p2 : Pos) : Arguments := { posonlyargs := [], args := [{ arg := "self", annotation := none, pos := p1 }, { arg := "numbers", annotation := none, pos := p2 }], vararg := none, kwonlyargs := [], kw_defaults := [], kwarg := none, defaults := [] }
def iB (q1 q2 q3 q4 : Pos) : List Stmt := [.Assign [.Attribute (.Name "self" q1) "some" q2] (.Name "numbers" q3) q4]
def iS : Scope := { kind := .function, names := [(PySem.Str.ofString "self", .local), (PySem.Str.ofString "numbers", .local)], isGenerator := false, isCoroutine := false, more := [] }
/-- what the written part says of Refused, at C, and of its __init__, at fI -/
structure RefTxt (K : Frag) (mg : Str → Option Value) (C fI : Addr) : Prop where
  gC : mg "Refused" = some (.ref C)
  cls : ∃ nm q N bs bm sn sub ab col dd k0 k1 k2 k3 k5, K.lookup C = some (excClassObj nm q C N bs bm true sn sub ab col dd k0 k1 k2 k3 k5 "ValueError.__new__") ∧ refsVE bm = true
  sa : findIn K (.ref C) "__setattr__" = some (some (.builtin "object.__setattr__"))
  ga : findIn K (.ref C) "__getattribute__" = some (some (.builtin "BaseException.__getattribute__"))
  gg : findIn K (.ref C) "__getattr__" = some none
  noN : findIn K (.ref C) "some" = some none
  iC : findIn K (.ref C) "__init__" = some (some (.ref fI))
  tC : typeIn K (.ref fI) = some (.type "function")
  kC : keepIn K (.ref C) = true
  exC : subIn K (.ref C) (.type "BaseException") = some true
  tyC : typeIn K (.ref C) = some (.type "type")
  hdC : hasDictIn K C = true
  te : exmOne K (.ref C) (.ref C) = some true
  fn : ∃ (oc : Value) (od : Option Addr) (doc pm : Value) (an : Option Addr) (cdv ct : Value) (osl : Array (Option Value)) (p1 p2 q1 q2 q3 q4 : Pos),
    K.lookup fI = some ⟨oc, od, .func (fnOf "__init__" "Refused.__init__" (iA p1 p2) (iB q1 q2 q3 q4) iS .none .none doc pm an cdv ct), osl⟩ ∧ codeIn K cdv "Refused.__init__" = true
theorem one_size (v : Value) : [v].length ≤ sizeLine := by
  rw [sizeLine_eq]
  exact (by decide : 1 ≤ 16777216)
theorem kept_but {K : Frag} {h h' : Heap} {x : Addr} (X : K.In h) (hx : K.lookup x = none) (k : ∀ b o, b ≠ x → h.get? b = some o → h'.get? b = some o) : K.In h' := fun a o e =>
  k a o (fun z => by rw [z, hx] at e; cases e) (X a o e)
theorem ldC {M : Model} {s : Shared} {name : Str} {scope : Scope} {L a : Addr} {cd : Value} {m : Str → Option Value} {x : Str} {pos : Pos} {v : Value} {Q : Value → Shared → Prop} {A : Around} {E : Value → Shared → Prop} (hn : s.heap.Ns L m) (hv : m x = some v) (h : Q v s)
    (hk : scope.kind = .function := by rfl) (hl : (envOfC name scope L a cd).kindOf x = some .local := by rfl) (hd : (x == ("__debug__" : Str)) = false := by decide) :
    wpAny M A (eval (.Name x pos) (envOfC name scope L a cd)) Q E s := wpAny_Name (wpAny_loadName_local hk hl hn hv h) hd
/-- what __init__ leaves of a fresh exception at x -/
structure InitEnd (h h' : Heap) (x C dx t1 : Addr) (v : Value) : Prop where
  keep : ∀ b o, b ≠ x → h.get? b = some o → h'.get? b = some o
  obj : h'.get? x = some { cls := .ref C, dict := some dx, data := .fields #[.ref t1, .none, .none, .none, .bool false, .none] }
  dbig : h.objs.size ≤ dx
  dne : dx ≠ x
  ns : h'.Ns1 dx (fun y => if y = "some" then some v else none)
/-- a made Refused -/
structure OwnMade (h h' : Heap) (e C d : Addr) (v : Value) : Prop where
  keep : ∀ b o, h.get? b = some o → h'.get? b = some o
  new : h.objs.size ≤ e
  obj : ∃ oe vs, h'.get? e = some oe ∧ oe.cls = .ref C ∧ oe.dict = some d ∧ oe.data = .fields vs ∧ vs[1]? = some .none
  dbig : h.objs.size ≤ d
  dne : d ≠ e
  ns : h'.Ns1 d (fun y => if y = "some" then some v else none)
section
variable {prog : Program} {w : World} {A : Around} {E : Value → Shared → Prop} {R : Result → Shared → Prop} {s : Shared} {K : Frag} {mg : Str → Option Value} {C fI : Addr}
theorem ref_init (T : RefTxt K mg C fI) {x t0 : Addr} {v : Value} (X : K.In s.heap) (hlim : s.heap.NoLimit) (hx : s.heap.get? x = some (excO C t0)) (hnx : K.lookup x = none) (hroom : A.depth < recursionLimit)
    (hq : ∀ h' tk dx, InitEnd s.heap h' x C dx t0 v → R (.ok (.ret .none)) { s with heap := h', toks := tk }) :
    codeAny (model prog w) A (.call (.ref fI) ⟨[.ref x, v], []⟩) R s := by
  obtain ⟨oc, od, doc, pm, an, cdv, ct, osl, p1, p2, q1, q2, q3, q4, ho, hcd⟩ := T.fn
  obtain ⟨nm, q, N, bs, bm, sn, sub, ab, col, dd, k0, k1, k2, k3, k5, hC, hbm⟩ := T.cls
  have hcl : clsIn K C = some { name := nm, bases := bs, mro := .ref C :: bm, ns := N, qualname := q, hasDict := true, slotNames := sn, subclasses := sub, abstract := ab, collection := col, hasDel := false } := by unfold clsIn; rw [hC] <;> rfl
  refine Att.call_fn (binds := [("self", .ref x), ("numbers", v)]) X hlim ho hcd hroom (BindsTo.of_eq (by first | rfl | with_unfolding_all rfl)) (by first | rfl | decide | with_unfolding_all rfl) (fun s₁ IC => ?_) rfl rfl rfl
  obtain ⟨h₁, tk₁, rfl⟩ := IC.toInCall.same
  have k : ∀ b o, s.heap.get? b = some o → h₁.get? b = some o := IC.toInCall.keep
  have hn := IC.toInCall.ns
  have hxL : s.heap.objs.size ≠ x := Nat.ne_of_gt (Heap.lt_size hx)
  have X₁ : K.In h₁ := X.keeps k
  have hx₁ := k _ _ hx
  -- self.some = numbers
  show wpAny _ _ (execs _ _) _ _ _
  refine wpAny_execs_cons (plainObj_wpAny_Assign_Attribute ?_)
  refine ldC (v := v) hn (by first | rfl | with_unfolding_all rfl | kernel_rfl) (ldC (v := .ref x) hn (by first | rfl | with_unfolding_all rfl | kernel_rfl) ?_)
  refine set_plain X₁ (ox := excO C t0) (od := none) ⟨hx₁, rfl, rfl, trivial⟩ T.sa ?_
  refine exc_osa X₁ hx₁ hcl (show refsVE (.ref C :: bm) = true from hbm) rfl T.noN (fun h₃ tk₃ dx k₃ dn dne hx₃ hn₃ => ?_)
  show wpAny _ _ (execs _ _) _ _ _
  have z : s.heap.objs.size < h₁.objs.size := hn.lt
  exact wpAny_execs_nil (hq h₃ tk₃ dx ⟨fun b o hb e => k₃ b o hb (k b o e), hx₃, Nat.le_of_lt (Nat.lt_of_lt_of_le z dn), dne, hn₃⟩)
theorem ref_made (T : RefTxt K mg C fI) {v : Value} (X : K.In s.heap) (hlim : s.heap.NoLimit) (hroom : A.depth + 1 < recursionLimit)
    (hq : ∀ h' tk e d, OwnMade s.heap h' e C d v → R (.ok (.ret (.ref e))) { s with heap := h', toks := tk }) :
    codeAny (model prog w) A (.call (.ref C) ⟨[v], []⟩) R s := by
  obtain ⟨nm, q, N, bs, bm, sn, sub, ab, col, dd, k0, k1, k2, k3, k5, hC, hbm⟩ := T.cls
  obtain ⟨hp, g, dr, tk, os⟩ := s
  have k : ∀ b o, hp.get? b = some o → ((hp.push (kdv_tup [v])).push (excO C hp.objs.size)).get? b = some o := fun b o e => Heap.get?_push_of_some _ (Heap.get?_push_of_some _ e)
  have hget : ((hp.push (kdv_tup [v])).push (excO C hp.objs.size)).get? (hp.objs.size + 1) = some (excO C hp.objs.size) := by heap_get
  have hnx : K.lookup (hp.objs.size + 1) = none := by
    cases e : K.lookup (hp.objs.size + 1) with
    | none => rfl
    | some o =>
      have z : hp.get? (hp.objs.size + 1) = some o := X _ _ e
      exact absurd (Nat.lt_of_succ_lt (Heap.lt_size z)) (Nat.lt_irrefl _)
  refine call_own F.excBase_ValueError (fun X => refsVE_contains X bm hbm) (X _ _ hC) (looks_findIn X T.iC) (fun self => bind_fn X self T.tC) (one_size v) ?_
  refine ref_init (s := ⟨(hp.push (kdv_tup [v])).push (excO C hp.objs.size), g, dr, tk, os⟩) T (X.keeps k) (hlim.keeps k) hget hnx ?_ fun h' tk' dx ⟨k', hx, dn, dne, hns⟩ => ?_
  · show A.depth + 1 < recursionLimit
    exact hroom
  · have old : ∀ b o, hp.get? b = some o → h'.get? b = some o := fun b o e => k' b o (Nat.ne_of_lt (Nat.lt_succ_of_lt (Heap.lt_size e))) (k b o e)
    have z : hp.objs.size + 1 + 1 ≤ dx := by
      first
        | (simpa only [Heap.size_push] using dn)
        | exact dn
        | (have q := dn; rw [Heap.size_push, Heap.size_push] at q; exact q)
    exact ⟨rfl, hq h' tk' (hp.objs.size + 1) dx ⟨old, Nat.le_succ _, ⟨_, _, hx, rfl, rfl, rfl, rfl⟩, Nat.le_trans (Nat.le_trans (Nat.le_succ _) (Nat.le_succ _)) z, dne, hns⟩⟩
end
end RefX
end PySem
namespace L2
open PySem PySem.Spec PyProof.Rows
theorem relO_ref {v : V} {v' : Value} (r : RelV v v') (f : Str) : RelO (List.lookup f [(("some" : Str), v)]) (if f = "some" then some v' else none) := by
  by_cases hw : f = "some"
  · subst hw
    rw [if_pos rfl]
    have q : List.lookup ("some" : Str) [(("some" : Str), v)] = some v := by simp [List.lookup]
    rw [q]
    exact r
  · rw [if_neg hw]
    have qw : (f == ("some" : Str)) = false := by simpa using hw
    have q2 : List.lookup f [(("some" : Str), v)] = none := by simp [List.lookup, qw]
    rw [q2]
    trivial
section
variable {X : Cx} {C fI : Addr}
/-- Refused(e) -/
def tMkRef (C : Addr) (ta : TA) : St → Hp → XK → Prop := fun σ H Q => ta σ H fun vs H1 => ∃ v, vs = [v] ∧ ∀ d, H1 d = none → Q (.ref C) (some d) (upd H1 d (.xd [(("some" : Str), v)]))
theorem pmk_ref {a : Expr} {ta : TA} {p pos : Pos} {k : Nat} (T : PySem.RefX.RefTxt X.K X.mg C fI) (hr : Room k X.A) (ha : PA X [a] ta) (hg : Gl X "Refused" := by rfl)
    (he : starEach (a :: []) X.env = (false, eval a X.env) :: starEach [] X.env := by rfl) (hpl : (backTo pos (starEach [] X.env)).any (·.1) = false := by rfl) :
    PMk X (.Call (.Name "Refused" p) [a] [] pos) (tMkRef C ta) := by
  intro pins s σ H Q I h
  refine wpAny_Call_Name_kw (ld_glob I hg T.gC ?_)
  refine PySem.W.callWith_K (h₀ := X.base) I.ok.mod.kin T.kC (thn (ha.run pos pins s σ H _ I h) fun us s1 hh => ?_) he hpl
  obtain ⟨vs, H1, I1, r1, v, ev, q1⟩ := hh
  subst ev
  refine ⟨I1.kIn, ?_⟩
  cases r1 with
  | cons rv rn =>
    rename_i v' us'
    cases rn
    show wpAny _ _ (call (.ref C) [v']) _ _ _
    have hlim := I1.nolimit
    obtain ⟨hp, g, dr, tk, os⟩ := s1
    refine wpAny_call (PySem.RefX.ref_made T I1.kIn hlim (by have := hr.dp; omega) fun h' tk' e d M => ?_)
    show MkP X pins σ Q (.ref e) ⟨h', g, dr, tk', os⟩
    obtain ⟨oe, fv, hoe, hc, hd, hdat, h1⟩ := M.obj
    have hns := M.ns
    obtain ⟨G', g1, g2⟩ := restrict h' fun b => decide (b ≠ e)
    have gk : ∀ b, b ≠ e → G'.get? b = h'.get? b := fun b hb => g1 b (decide_eq_true hb)
    have ge : G'.get? e = none := g2 e (by simp)
    have old : ∀ b o, hp.get? b = some o → G'.get? b = some o := fun b o q => (gk b (Nat.ne_of_lt (Nat.lt_of_lt_of_le (Heap.lt_size q) M.new))).trans (M.keep b o q)
    have ob : ObjOk X.prog X.w (upd H1 d (.xd [(("some" : Str), v)])) G' d (.xd [(("some" : Str), v)]) :=
      ⟨_, hns.at (fun o q => (gk d M.dne).trans q), fun f => relO_ref rv f⟩
    have J : Inv X pins σ (upd H1 d (.xd [(("some" : Str), v)])) ⟨G', g, dr, tk', os⟩ := I1.laid (t' := tk') old M.dbig ob
    refine ⟨e, oe, fv, ⟨G', g, dr, tk', os⟩, _, .ref C, some d, rfl, J, fun b o q => ?_, ge, hoe, ⟨hc, hd⟩, hdat, h1, ?_, rfl, I1.bare, raises_own T.exC T.tyC, q1 d (I1.hok.fresh M.dbig)⟩
    · by_cases hb : b = e
      · have q' : G'.get? b = some o := q
        rw [hb, ge] at q'; cases q'
      · exact (gk b hb).symm.trans q
    · rw [upd_ne (Ne.symm M.dne)]
      exact I1.hok.fresh M.new
/-- raise Refused(e) -/
def tRaiseRef (C : Addr) (W : WX) (ta : TA) : TS := fun _ σ H => tMkRef C ta σ H fun cls d H' => W cls d σ H'
theorem ps_raiseRef {a : Expr} {ta : TA} {W : WX} {p pos pos2 : Pos} {k : Nat} (hc : X.calm = true) (T : PySem.RefX.RefTxt X.K X.mg C fI) (hr : Room k X.A) (tk : Takes X W) (ha : PA X [a] ta) (hg : Gl X "Refused" := by rfl)
    (he : starEach (a :: []) X.env = (false, eval a X.env) :: starEach [] X.env := by rfl) (hpl : (backTo pos (starEach [] X.env)).any (·.1) = false := by rfl) :
    PS X (.Raise (some (.Call (.Name "Refused" p) [a] [] pos)) none pos2) (tRaiseRef C W ta) := ps_raise hc tk (pmk_ref T hr ha hg he hpl)
/-- refusal.some, the exception that the suite holds (at a; its class cls, its dict d) -/
def tSomeRef (C : Addr) (a : Addr) (cls : Value) (d : Option Addr) (te : TE) : TE := fun σ H Q => te σ H fun x H1 => x = .ref a ∧ cls = .ref C ∧ ∃ (dd : Addr) (v : V), d = some dd ∧ H1 dd = some (.xd [(("some" : Str), v)]) ∧ Q v H1
theorem pe_someRef {a : Addr} {oe : Obj} {cls : Value} {d : Option Addr} {pn : List (Addr × Obj)} {e : Expr} {te : TE} {pos : Pos} (T : PySem.RefX.RefTxt X.K X.mg C fI) (hz : Zc cls d oe) (hf : ∃ vs, oe.data = .fields vs) (he : PE (X.suite a ((a, oe) :: pn)) e te)
    (hb : attributeBase e "some" X.env (eval e X.env) = eval e X.env := by rfl) :
    PE (X.suite a ((a, oe) :: pn)) (.Attribute e "some" pos) (tSomeRef C a cls d te) := by
  refine ⟨fun pins s σ H Q I h => ?_⟩
  refine attr_of hb (thn (he.run pins s σ H _ I h) fun u s1 hh => ?_)
  obtain ⟨x, H1, I1, rx, ex, ec, dd, v, ed, ea, q⟩ := hh
  subst ex
  obtain rfl : u = Value.ref a := rx
  subst ec
  subst ed
  obtain ⟨ha, _⟩ := I1.pin (a, oe) (List.mem_append_left _ List.mem_cons_self)
  obtain ⟨vs, hd⟩ := hf
  have hx : ObjOk X.prog X.w H1 s1.heap dd (.xd [(("some" : Str), v)]) := I1.hok dd _ ea
  obtain ⟨mA, hns, hr⟩ := hx
  obtain ⟨od, ho, hl⟩ := lookIn_ns hns
  have l : List.lookup ("some" : Str) [(("some" : Str), v)] = some v := by simp [List.lookup]
  obtain ⟨u, hu, ru⟩ := RelO.some_of (v := v) (o := mA "some") (by rw [← l]; exact hr "some")
  have J : PySem.W.InstAt s1.heap a oe C (some od) := ⟨ha, hz.1, by unfold PySem.W.notCls; rw [hd] <;> rfl, by rw [hz.2]; exact ho⟩
  exact HandSPX.exc_get I1.kIn J T.ga T.gg T.exC (PySem.W.findObj_own T.hdC T.noN rfl (by rw [hl, hu])) (handed_of ru) ⟨v, H1, I1.tok _, ru, q⟩
end
end L2


namespace CK
open PySem PySem.Spec PyProof.Rows L2
open Si89 (Cupboard Thing Best)
section
variable {P : Program} {w : World} {K : PySem.W.Frag} {mg : Str → Option Value} {base : Heap} {A : Ads}
/-! ### the makers -/
def spIThing (A : Ads) : Sp := fun vs H Q _ => ∃ (p dx : Addr) (a b c : Int), vs = [.ref p, .int a, .int b, .int c] ∧ H p = some (.ins A.cThing dx []) ∧
  ∀ H', H' p = some (.ins A.cThing dx (f3 "comes" "asked_for" "worth" (.int a) (.int b) (.int c))) → But p H H' → Q .non H'
theorem scIThing : FnScope ["self", "comes", "asked_for", "worth"] ["self", "comes", "asked_for", "worth"] (defScope sIThing) := ⟨rfl, rfl, rfl, by decide +kernel, rfl, by decide +kernel, by decide +kernel⟩
theorem ok_iThing (T : Txt K mg A) : Good P w K mg base CX0 1 A.iThing ["self", "comes", "asked_for", "worth"] (spIThing A) := by
  obtain ⟨fd, F⟩ := T.aIThing
  refine ⟨fd, F.ok scIThing (fun vs H Q E h => ?_) (fun cdv Ar outer s H vs Q E hr h => ⟨_, pss_cons (ps_fld (pv 0) (pv 1) rfl) (pss_cons (ps_fld (pv 0) (pv 2) rfl) (pss_one (ps_fld (pv 0) (pv 3) rfl))), ?_⟩),
    F.binds (ps := ["self", "comes", "asked_for", "worth"]) fun _ _ _ _ _ _ us hl => match us, hl with | [_, _, _, _], _ => rfl, F.kp⟩
  · obtain ⟨p, dx, a, b, c, rfl, _⟩ := h
    rfl
  · obtain ⟨p, dx, a, b, c, rfl, hp, k⟩ := h
    refine ⟨_, rfl, _, rfl, p, A.cThing, dx, [], rfl, hp, T.kThing, T.nThing1, (by show 0 < 1000; decide), ?_⟩
    refine ⟨_, rfl, _, rfl, p, A.cThing, dx, _, rfl, upd_same, T.kThing, T.nThing2, (by show 1 < 1000; decide), ?_⟩
    refine ⟨_, rfl, _, rfl, p, A.cThing, dx, _, rfl, upd_same, T.kThing, T.nThing3, (by show 2 < 1000; decide), ?_⟩
    refine k _ (Eq.trans upd_same (congrArg (fun q => some (HO.ins A.cThing dx q)) (f3_mk (by decide +kernel) (by decide +kernel) (by decide +kernel)))) fun b o e hb => ?_
    rw [upd_ne hb, upd_ne hb, upd_ne hb]
    exact e
def spTakes (A : Ads) : Sp := fun vs H Q _ => ∃ (a : Addr) (t : Thing) (d : Nat), vs = [.ref a, nv d] ∧ InsAt A.cThing H a (thF t) ∧ Q (.bl (decide (t.comes ≤ d) && decide (d < t.asked))) H
theorem scTakes : FnScope ["self", "day"] ["self", "day"] (defScope sTakes) := ⟨rfl, rfl, rfl, by decide +kernel, rfl, by decide +kernel, by decide +kernel⟩
theorem ok_takes (T : Txt K mg A) : Good P w K mg base CX0 1 A.takes ["self", "day"] (spTakes A) := by
  obtain ⟨fd, F⟩ := T.aTakes
  refine ⟨fd, F.ok scTakes (fun vs H Q E h => ?_) (fun cdv Ar outer s H vs Q E hr h => ⟨_, pss_one (ps_ret (pe_chain op_le op_lt (pe_fld (pv 0) rfl) (pv 1) (pe_fld (pv 0) rfl))), ?_⟩),
    F.binds (ps := ["self", "day"]) fun _ _ _ _ _ _ us hl => match us, hl with | [_, _], _ => rfl, F.kp⟩
  · obtain ⟨a, t, d, rfl, _⟩ := h
    rfl
  · obtain ⟨a, t, d, rfl, ⟨dx, h1⟩, q⟩ := h
    refine ⟨_, rfl, a, A.cThing, dx, _, _, rfl, h1, T.kThing, T.nThing1, f3_1, _, rfl, _, _, rfl, rfl, _, rfl, ?_⟩
    by_cases c : t.comes ≤ d
    · rw [if_pos (decide_eq_true (Int.ofNat_le.mpr c))]
      refine ⟨_, rfl, a, A.cThing, dx, _, _, rfl, h1, T.kThing, T.nThing2, f3_2 (by decide +kernel), _, _, rfl, rfl, ?_⟩
      rw [decide_eq_true c, Bool.true_and] at q
      have e : decide ((d : Int) < (t.asked : Int)) = decide (d < t.asked) := decide_eq_decide.mpr Int.ofNat_lt
      rw [← e] at q
      exact q
    · rw [if_neg (by rw [decide_eq_true_iff, Int.ofNat_le]; exact c)]
      rw [decide_eq_false c, Bool.false_and] at q
      exact q
def spICrowd (A : Ads) : Sp := fun vs H Q _ => ∃ (p dx : Addr) (a : Int) (b : Int), vs = [.ref p, .int a, .int b] ∧ H p = some (.ins A.cCrowd dx []) ∧
  ∀ H', H' p = some (.ins A.cCrowd dx (f2 "day" "many" (.int a) (.int b))) → But p H H' → Q .non H'
theorem scICrowd : FnScope ["self", "day", "many"] ["self", "day", "many"] (defScope sICrowd) := ⟨rfl, rfl, rfl, by decide +kernel, rfl, by decide +kernel, by decide +kernel⟩
theorem ok_iCrowd (T : Txt K mg A) : Good P w K mg base CX0 1 A.iCrowd ["self", "day", "many"] (spICrowd A) := by
  obtain ⟨fd, F⟩ := T.aICrowd
  refine ⟨fd, F.ok scICrowd (fun vs H Q E h => ?_) (fun cdv Ar outer s H vs Q E hr h => ⟨_, pss_cons (ps_fld (pv 0) (pv 1) rfl) (pss_one (ps_fld (pv 0) (pv 2) rfl)), ?_⟩),
    F.binds (ps := ["self", "day", "many"]) fun _ _ _ _ _ _ us hl => match us, hl with | [_, _, _], _ => rfl, F.kp⟩
  · obtain ⟨p, dx, a, b, rfl, _⟩ := h
    rfl
  · obtain ⟨p, dx, a, b, rfl, hp, k⟩ := h
    refine ⟨_, rfl, _, rfl, p, A.cCrowd, dx, [], rfl, hp, T.kCrowd, T.nCrowd1, (by show 0 < 1000; decide), ?_⟩
    refine ⟨_, rfl, _, rfl, p, A.cCrowd, dx, _, rfl, upd_same, T.kCrowd, T.nCrowd2, (by show 1 < 1000; decide), ?_⟩
    refine k _ (Eq.trans upd_same (congrArg (fun q => some (HO.ins A.cCrowd dx q)) (f2_mk (by decide +kernel)))) fun b o e hb => ?_
    rw [upd_ne hb, upd_ne hb]
    exact e
def spIChosen (A : Ads) : Sp := fun vs H Q _ => ∃ (p dx : Addr) (a : Addr) (b : Int) (c : Int), vs = [.ref p, .ref a, .int b, .int c] ∧ H p = some (.ins A.cChosen dx []) ∧
  ∀ H', H' p = some (.ins A.cChosen dx (f3 "measures" "many" "number" (.ref a) (.int b) (.int c))) → But p H H' → Q .non H'
theorem scIChosen : FnScope ["self", "measures", "many", "number"] ["self", "measures", "many", "number"] (defScope sIChosen) := ⟨rfl, rfl, rfl, by decide +kernel, rfl, by decide +kernel, by decide +kernel⟩
theorem ok_iChosen (T : Txt K mg A) : Good P w K mg base CX0 1 A.iChosen ["self", "measures", "many", "number"] (spIChosen A) := by
  obtain ⟨fd, F⟩ := T.aIChosen
  refine ⟨fd, F.ok scIChosen (fun vs H Q E h => ?_) (fun cdv Ar outer s H vs Q E hr h => ⟨_, pss_cons (ps_fld (pv 0) (pv 1) rfl) (pss_cons (ps_fld (pv 0) (pv 2) rfl) (pss_one (ps_fld (pv 0) (pv 3) rfl))), ?_⟩),
    F.binds (ps := ["self", "measures", "many", "number"]) fun _ _ _ _ _ _ us hl => match us, hl with | [_, _, _, _], _ => rfl, F.kp⟩
  · obtain ⟨p, dx, a, b, c, rfl, _⟩ := h
    rfl
  · obtain ⟨p, dx, a, b, c, rfl, hp, k⟩ := h
    refine ⟨_, rfl, _, rfl, p, A.cChosen, dx, [], rfl, hp, T.kChosen, T.nChosen1, (by show 0 < 1000; decide), ?_⟩
    refine ⟨_, rfl, _, rfl, p, A.cChosen, dx, _, rfl, upd_same, T.kChosen, T.nChosen2, (by show 1 < 1000; decide), ?_⟩
    refine ⟨_, rfl, _, rfl, p, A.cChosen, dx, _, rfl, upd_same, T.kChosen, T.nChosen3, (by show 2 < 1000; decide), ?_⟩
    refine k _ (Eq.trans upd_same (congrArg (fun q => some (HO.ins A.cChosen dx q)) (f3_mk (by decide +kernel) (by decide +kernel) (by decide +kernel)))) fun b o e hb => ?_
    rw [upd_ne hb, upd_ne hb, upd_ne hb]
    exact e
def spICall (A : Ads) : Sp := fun vs H Q _ => ∃ (p dx : Addr) (a : Int) (b : Addr) (c : Int), vs = [.ref p, .int a, .ref b, .int c] ∧ H p = some (.ins A.cCall dx []) ∧
  ∀ H', H' p = some (.ins A.cCall dx (f3 "kind" "some" "behind" (.int a) (.ref b) (.int c))) → But p H H' → Q .non H'
theorem scICall : FnScope ["self", "kind", "numbers", "behind"] ["self", "kind", "numbers", "behind"] (defScope sICall) := ⟨rfl, rfl, rfl, by decide +kernel, rfl, by decide +kernel, by decide +kernel⟩
theorem ok_iCall (T : Txt K mg A) : Good P w K mg base CX0 1 A.iCall ["self", "kind", "numbers", "behind"] (spICall A) := by
  obtain ⟨fd, F⟩ := T.aICall
  refine ⟨fd, F.ok scICall (fun vs H Q E h => ?_) (fun cdv Ar outer s H vs Q E hr h => ⟨_, pss_cons (ps_fld (pv 0) (pv 1) rfl) (pss_cons (ps_fld (pv 0) (pv 2) rfl) (pss_one (ps_fld (pv 0) (pv 3) rfl))), ?_⟩),
    F.binds (ps := ["self", "kind", "numbers", "behind"]) fun _ _ _ _ _ _ us hl => match us, hl with | [_, _, _, _], _ => rfl, F.kp⟩
  · obtain ⟨p, dx, a, b, c, rfl, _⟩ := h
    rfl
  · obtain ⟨p, dx, a, b, c, rfl, hp, k⟩ := h
    refine ⟨_, rfl, _, rfl, p, A.cCall, dx, [], rfl, hp, T.kCall, T.nCall1, (by show 0 < 1000; decide), ?_⟩
    refine ⟨_, rfl, _, rfl, p, A.cCall, dx, _, rfl, upd_same, T.kCall, T.nCall2, (by show 1 < 1000; decide), ?_⟩
    refine ⟨_, rfl, _, rfl, p, A.cCall, dx, _, rfl, upd_same, T.kCall, T.nCall3, (by show 2 < 1000; decide), ?_⟩
    refine k _ (Eq.trans upd_same (congrArg (fun q => some (HO.ins A.cCall dx q)) (f3_mk (by decide +kernel) (by decide +kernel) (by decide +kernel)))) fun b o e hb => ?_
    rw [upd_ne hb, upd_ne hb, upd_ne hb]
    exact e
/-- a cupboard is made: its list of things is new -/
def spICup (A : Ads) : Sp := fun vs H Q _ => ∃ (p dx : Addr) (n : Nat), vs = [.ref p, nv n] ∧ H p = some (.ins A.cCup dx []) ∧
  ∀ H' l, CupAt A H' p l [] ⟨n, []⟩ → H l = none → But p H H' → Q .non H'
theorem scICup : FnScope ["self", "places"] ["self", "places"] (defScope sICup) := ⟨rfl, rfl, rfl, by decide +kernel, rfl, by decide +kernel, by decide +kernel⟩
theorem ok_iCup (T : Txt K mg A) : Good P w K mg base CX0 1 A.iCup ["self", "places"] (spICup A) := by
  obtain ⟨fd, F⟩ := T.aICup
  refine ⟨fd, F.ok scICup (fun vs H Q E h => ?_) (fun cdv Ar outer s H vs Q E hr h => ⟨_, pss_cons (ps_fld (pv 0) (pv 1) rfl) (pss_one (ps_fld (pv 0) (pe_lst pa_nil) rfl)), ?_⟩),
    F.binds (ps := ["self", "places"]) fun _ _ _ _ _ _ us hl => match us, hl with | [_, _], _ => rfl, F.kp⟩
  · obtain ⟨p, dx, n, rfl, _⟩ := h
    rfl
  · obtain ⟨p, dx, n, rfl, hp, k⟩ := h
    refine ⟨_, rfl, _, rfl, p, A.cCup, dx, [], rfl, hp, T.kCup, T.nCup1, (by show 0 < 1000; decide), ?_⟩
    refine ⟨(by show 0 ≤ sizeLine; decide), fun l hl => ?_⟩
    have lp : p ≠ l := ne_of_none upd_same hl
    refine ⟨_, rfl, p, A.cCup, dx, _, rfl, (upd_ne lp).trans upd_same, T.kCup, T.nCup2, (by show 1 < 1000; decide), ?_⟩
    have hl' : H l = none := by
      rw [upd_ne (Ne.symm lp)] at hl
      exact hl
    refine k _ l ⟨⟨dx, Eq.trans upd_same (congrArg (fun q => some (HO.ins A.cCup dx q)) (f2_mk (by decide +kernel)))⟩, (upd_ne (Ne.symm lp)).trans upd_same, rfl, fun i t e => by simp at e⟩ hl' fun b o e hb => ?_
    rw [upd_ne hb, upd_ne (ne_of_none e hl'), upd_ne hb]
    exact e
/-- a line is made: its cupboard, with one place, is new -/
def spILine (A : Ads) : Sp := fun vs H Q _ => ∃ (p dx : Addr), vs = [.ref p] ∧ H p = some (.ins A.cLine dx []) ∧
  ∀ H' a l, LineAt A H' p a → CupAt A H' a l [] Si89.init → H l = none → But p H H' → Q .non H'
theorem scILine : FnScope ["self"] ["self"] (defScope sILine) := ⟨rfl, rfl, rfl, by decide +kernel, rfl, by decide +kernel, by decide +kernel⟩
theorem ok_iLine (T : Txt K mg A) : Good P w K mg base CX0 3 A.iLine ["self"] (spILine A) := by
  obtain ⟨fd, F⟩ := T.aILine
  obtain ⟨fdC, GC, bC, _⟩ := ok_iCup (P := P) (w := w) (base := base) T
  refine ⟨fd, F.ok scILine (fun vs H Q E h => ?_) (fun cdv Ar outer s H vs Q E hr h => ⟨_, pss_one (ps_fld (pv 0) (pe_make T.mCup GC hr rfl T.gCup bC .nil pass0 (pa_cons pe_int pa_nil)) rfl), ?_⟩),
    F.binds (ps := ["self"]) fun _ _ _ _ _ _ us hl => match us, hl with | [_], _ => rfl, F.kp⟩
  · obtain ⟨p, dx, rfl, _⟩ := h
    rfl
  · obtain ⟨p, dx, rfl, hp, k⟩ := h
    intro x dy nx nd ne
    refine ⟨x, dy, 1, rfl, upd_same, fun H1 l J nl bt => ⟨rfl, ?_⟩⟩
    have s1 : Same H H1 := Same.made nx nd bt
    have px : p ≠ x := ne_of_none hp nx
    refine ⟨_, rfl, p, A.cLine, dx, _, rfl, s1 _ _ hp, T.kLine, T.nLine1, (by show 0 < 1000; decide), ?_⟩
    have pl : p ≠ l := fun e => by
      have h2 := s1 _ _ hp
      rw [e, J.lst] at h2
      cases h2
    refine k _ x l ⟨dx, upd_same⟩ ⟨?_, ?_, rfl, fun i t e => by simp at e⟩ ?_ fun b o e hb => ?_
    · obtain ⟨dz, e⟩ := J.obj
      exact ⟨dz, (upd_ne (Ne.symm px)).trans e⟩
    · exact (upd_ne (Ne.symm pl)).trans J.lst
    · cases e : H l with
      | none => rfl
      | some o =>
        have lx : l ≠ x := ne_of_none e nx
        have ld : l ≠ dy := ne_of_none e nd
        rw [upd_ne lx, upd_ne ld, e] at nl
        cases nl
    · rw [upd_ne hb]
      exact s1 _ _ e
end
end CK

namespace CK
open PySem PySem.Spec PyProof.Rows L2
open Si89 (Cupboard Thing Best)
section
variable {P : Program} {w : World} {K : PySem.W.Frag} {mg : Str → Option Value} {base : Heap} {A : Ads}
theorem bit_of (s at_ : Nat) : decide (Builtin.bitAnd ((s : Int) / 2 ^ ((at_ : Int).toNat)) 1 = 1) = s.testBit at_ := by
  have e : Builtin.bitAnd ((s : Int) / 2 ^ ((at_ : Int).toNat)) 1 = ((s / 2 ^ at_ % 2 : Nat) : Int) := by
    rw [Int.toNat_natCast]
    have h := Bits.bit_at (x := (s : Int)) at_
    have hp : (0 : Int) ≤ 2 ^ at_ := Int.le_of_lt (Int.pow_pos (by decide))
    rw [Int.fdiv_eq_ediv_of_nonneg _ hp] at h
    rw [h]
    simp
  rw [e, Nat.testBit_eq_decide_div_mod_eq]
  exact decide_eq_decide.mpr (by omega)
theorem range_filter_succ {p : Nat → Bool} (i : Nat) : (List.range (i + 1)).filter p = (List.range i).filter p ++ (if p i = true then [i] else []) := by
  rw [List.range_succ, List.filter_append]
  congr 1
  cases h : p i <;> simp [h]
theorem take_more {α : Type} {l : List α} {i : Nat} {x : α} (h : l[i]? = some x) : l.take (i + 1) = l.take i ++ [x] := by
  rw [List.take_succ, h]
  rfl
theorem nvs_at {l : List Nat} {i : Nat} {x : V} (h : (nvs l)[i]? = some x) : ∃ n, l[i]? = some n ∧ x = nv n := by
  rw [List.getElem?_map] at h
  cases e : l[i]? with
  | none => rw [e] at h; cases h
  | some n => rw [e] at h; exact ⟨n, rfl, (Option.some.inj h).symm⟩
theorem rfs_at {l : List Addr} {i : Nat} {x : V} (h : (rfs l)[i]? = some x) : ∃ n, l[i]? = some n ∧ x = .ref n := by
  rw [List.getElem?_map] at h
  cases e : l[i]? with
  | none => rw [e] at h; cases h
  | some n => rw [e] at h; exact ⟨n, rfl, (Option.some.inj h).symm⟩
theorem size_small {n : Nat} (h : n ≤ 1000) : n < sizeLine := small1000 h
/-! ### things_of -/
def spThingsOf (A : Ads) : Sp := fun vs H Q _ => ∃ (a l : Addr) (ts : List Addr) (c : Cupboard) (s : Nat), vs = [.ref a, nv s] ∧ CupAt A H a l ts c ∧ c.count ≤ 9 ∧
  ∀ H' p, Same H H' → H p = none → H' p = some (.lst (nvs (c.members s))) → Q (.ref p) H'
theorem scThingsOf : FnScope ["self", "number", "at"] ["self", "number"] (defScope sThingsOf) := ⟨rfl, rfl, rfl, by decide +kernel, rfl, by decide +kernel, by decide +kernel⟩
theorem ok_thingsOf (T : Txt K mg A) : Good P w K mg base CX0 1 A.thingsOf ["self", "number"] (spThingsOf A) := by
  obtain ⟨fd, F⟩ := T.aThingsOf
  refine ⟨fd, F.ok scThingsOf (fun vs H Q E h => ?_) (fun cdv Ar outer s H vs Q E hr h => ⟨_, pss_one (ps_ret
      (pe_lc (own := [("at", 2)]) (g := gName 2) rfl scThingsOf.nd (pi_range1 rfl T.zRange (pa_cons (pe_callB call_len_seq (by rfl) T.zLen PySem.boot_len (pa_cons (pe_fld (pv 0) rfl) pa_nil)) pa_nil))
        (blkOk_by (N := ["self", "number", "at"]) (sc := defScope sThingsOf) (by decide +kernel)) (fun _ _ _ _ _ => pg_name (i := 2) scThingsOf.nd rfl (Or.inl rfl))
        (fun _ _ _ _ _ => pts_one (pt_cmpR op_eq (pe_op op_and (pe_op op_shr (pv 1) (pv 2)) pe_int) pe_int (nomark _))) (fun _ _ _ _ _ => pv 2))), ?_⟩),
    F.binds (ps := ["self", "number"]) fun _ _ _ _ _ _ us hl => match us, hl with | [_, _], _ => rfl, F.kp⟩
  · obtain ⟨a, l, ts, c, n, rfl, _⟩ := h
    rfl
  · obtain ⟨a, l, ts, c, n, rfl, hc, h9, k⟩ := h
    obtain ⟨dx, h1⟩ := hc.obj
    have e1 : (rfs ts).length = c.count := by rw [List.length_map]; exact hc.len
    refine ⟨_, rfl, a, A.cCup, dx, _, _, rfl, h1, T.kCup, T.nCup2, f2_2 (by decide +kernel), l, rfs ts, rfl, .inl (SqL.of hc.lst), _, rfl, ?_, ?_, fun D hD => ?_⟩
    · rw [e1]; omega
    · rw [e1]; omega
    rw [e1, Int.toNat_natCast]
    refine lc_range (lo := 0) (n := c.count) (fun i H' => Same H H' ∧ H' D = some (.lst (nvs ((List.range i).filter fun i => n.testBit i)))) ⟨same_upd hD, upd_same⟩ (fun i H' hi ⟨s1, h2⟩ => ?_) fun H' ⟨s1, h2⟩ => ?_
    · refine ⟨rfl, _, rfl, _, rfl, _, _, rfl, rfl, (by show (0 : Int) ≤ 0 + (i : Int); omega), _, _, rfl, rfl, rfl, _, rfl, ?_⟩
      have e0 : ((0 : Int) + (i : Int)) = (i : Int) := Int.zero_add _
      have key : decide (V.int (Builtin.bitAnd ((n : Int) / 2 ^ ((0 : Int) + (i : Int)).toNat) 1) = V.int 1) = n.testBit i := by
        rw [e0, ← bit_of n i]
        exact decide_eq_decide.mpr ⟨fun h => V.int.inj h, fun h => by rw [h]⟩
      rw [key]
      cases q : n.testBit i with
      | true =>
        refine iteT ⟨_, rfl, _, h2, ?_, same_new s1 hD, ?_⟩
        · refine size_small ?_
          rw [List.length_map]
          have := List.length_filter_le (fun i => n.testBit i) (List.range i)
          rw [List.length_range] at this
          omega
        · rw [upd_same, range_filter_succ, q, if_pos rfl, e0]
          show _ = some (HO.lst (nvs (_ ++ [i])))
          unfold nvs
          rw [List.map_append]
          rfl
      | false =>
        refine iteF ⟨s1, ?_⟩
        rw [h2, range_filter_succ, q, if_neg Bool.false_ne_true, List.append_nil]
    · exact k _ _ s1 hD h2
/-! ### worth_of -/
theorem sum_cast : ∀ l : List Nat, (l.map fun (n : Nat) => (n : Int)).sum = ((l.sum : Nat) : Int)
  | [] => rfl
  | a :: r => by
    rw [List.map_cons, List.sum_cons, List.sum_cons, sum_cast r]
    exact (Int.natCast_add _ _).symm
def spWorthOf (A : Ads) : Sp := fun vs H Q _ => ∃ (a l : Addr) (ts : List Addr) (c : Cupboard) (s : Nat), vs = [.ref a, nv s] ∧ CupAt A H a l ts c ∧ c.count ≤ 9 ∧
  ∀ H', Same H H' → Q (nv (c.worth s)) H'
theorem members_length (c : Cupboard) (s : Nat) : (c.members s).length ≤ c.count := by
  unfold Cupboard.members Cupboard.all_
  exact Nat.le_trans (List.length_filter_le _ _) (by rw [List.length_range]; exact Nat.le_refl _)
theorem scWorthOf : FnScope ["self", "number", "at"] ["self", "number"] (defScope sWorthOf) := ⟨rfl, rfl, rfl, by decide +kernel, rfl, by decide +kernel, by decide +kernel⟩
theorem ok_worthOf (T : Txt K mg A) : Good P w K mg base CX0 2 A.worthOf ["self", "number"] (spWorthOf A) := by
  obtain ⟨fd, F⟩ := T.aWorthOf
  obtain ⟨_, G, b, _⟩ := ok_thingsOf (P := P) (w := w) (base := base) T
  refine ⟨fd, F.ok scWorthOf (fun vs H Q E h => ?_) (fun cdv Ar outer s H vs Q E hr h => ⟨_, pss_one (ps_ret
      (pe_callB (cr_sum rfl) (by rfl) T.zSum (by decide +kernel) (by exact (pa_cons
        (pe_lc (own := [("at", 2)]) (g := gName 2) (tt := tYes) (te := tFld K (tOp (rIxL K) (tFld K (tVar 0) "things") (tVar 2)) "worth") rfl scWorthOf.nd (pi_list (pe_meth (pv 0) T.kCup T.meThingsOf G hr b .nil pass0 (pa_cons (pv 1) pa_nil)))
          (blkOk_by (N := ["self", "number", "at"]) (sc := defScope sWorthOf) (by decide +kernel)) (fun _ _ _ _ _ => pg_name (i := 2) scWorthOf.nd rfl (Or.inl rfl))
          (fun _ _ _ _ _ => pts_nil) (fun _ _ _ _ _ => by exact (pe_fld (pe_ix ix_list (pe_fld (pv 0) rfl) (pv 2) (fun _ _ => rfl)) rfl))) pa_nil)))), ?_⟩),
    F.binds (ps := ["self", "number"]) fun _ _ _ _ _ _ us hl => match us, hl with | [_, _], _ => rfl, F.kp⟩
  · obtain ⟨a, l, ts, c, n, rfl, _⟩ := h
    rfl
  · obtain ⟨a, l, ts, c, n, rfl, hc, h9, k⟩ := h
    obtain ⟨dx, h1⟩ := hc.obj
    refine ⟨_, rfl, a, dx, _, rfl, h1, f2_0 (by decide +kernel) (by decide +kernel), _, rfl, a, l, ts, c, n, rfl, hc, h9, fun H1 p s1 np h2 => ?_⟩
    refine ⟨p, rfl, ⟨_, SqL.of h2⟩, fun D hD => ?_⟩
    have hp : p ≠ D := ne_of_none h2 hD
    refine lc_list (K := K) (a := p) (xs := nvs (c.members n)) (fun i H' => Same H1 H' ∧ H' D = some (.lst (nvs (((c.members n).take i).map fun j => (c.thing j).worth))))
      ⟨same_upd hD, upd_same⟩ (fun i H' _ ⟨s2, _⟩ => SqL.of (s2 _ _ h2)) (fun i x H' hi ⟨s2, h3⟩ => ?_) fun H' ⟨s2, h3⟩ => ?_
    · obtain ⟨j, hj, rfl⟩ := nvs_at hi
      have hc' := (hc.same s1).same s2
      obtain ⟨dx', h1'⟩ := hc'.obj
      obtain ⟨t, ht, dt, ho⟩ := hc'.at_ (mem_members.mp (List.mem_of_getElem? hj)).1
      refine ⟨rfl, _, rfl, a, A.cCup, dx', _, _, rfl, h1', T.kCup, T.nCup2, f2_2 (by decide +kernel), _, rfl, l, rfs ts, _, _, rfl, rfl, SqL.of hc'.lst, atI_nat ht, ?_⟩
      refine ⟨t, A.cThing, dt, _, _, rfl, ho, T.kThing, T.nThing3, f3_3 (by decide +kernel) (by decide +kernel), _, h3, ?_, same_new s2 hD, ?_⟩
      · refine size_small ?_
        rw [List.length_map, List.length_map, List.length_take]
        have := members_length c n
        omega
      · rw [upd_same, take_more hj]
        unfold nvs
        rw [List.map_append, List.map_append]
        rfl
    · have e : (nvs (c.members n)).length = (c.members n).length := List.length_map _
      rw [e, List.take_length, nvs_ints] at h3
      refine ⟨D, _, rfl, SqL.of h3, ?_⟩
      rw [sum_cast]
      exact k _ (s1.trans s2)
/-! ### taking -/
def spTaking (A : Ads) (K : PySem.W.Frag) : Sp := fun vs H Q _ => ∃ (a l m : Addr) (ts : List Addr) (c : Cupboard) (xs : List Nat) (d : Nat), vs = [.ref a, .ref m, nv d] ∧ CupAt A H a l ts c ∧ SqL K H m (nvs xs) ∧ (∀ x ∈ xs, x < c.count) ∧ xs.length ≤ 100 ∧
  ∀ H' p, Same H H' → H p = none → H' p = some (.lst (nvs (xs.filter (c.there d)))) → Q (.ref p) H'
theorem scTaking : FnScope ["self", "some", "day", "at"] ["self", "some", "day"] (defScope sTaking) := ⟨rfl, rfl, rfl, by decide +kernel, rfl, by decide +kernel, by decide +kernel⟩
theorem take_filter_more {p : Nat → Bool} {l : List Nat} {i x : Nat} (h : l[i]? = some x) : (l.take (i + 1)).filter p = (l.take i).filter p ++ (if p x = true then [x] else []) := by
  rw [take_more h, List.filter_append]
  congr 1
  cases q : p x <;> simp [q]
theorem ok_taking (T : Txt K mg A) : Good P w K mg base CX0 2 A.taking ["self", "some", "day"] (spTaking A K) := by
  obtain ⟨fd, F⟩ := T.aTaking
  obtain ⟨_, G, b, _⟩ := ok_takes (P := P) (w := w) (base := base) T
  refine ⟨fd, F.ok scTaking (fun vs H Q E h => ?_) (fun cdv Ar outer s H vs Q E hr h => ⟨_, pss_one (ps_ret
        (pe_lc (own := [("at", 3)]) (g := gName 3) (tt := tB (tMeth A.cThing "takes" (spTakes A) [] E0 (tOp (rIxL K) (tFld K (tVar 0) "things") (tVar 3)) (tCons (tVar 2) tNil))) rfl scTaking.nd (pi_list (pv 1))
          (blkOk_by (N := ["self", "some", "day", "at"]) (sc := defScope sTaking) (by decide +kernel)) (fun _ _ _ _ _ => pg_name (i := 3) scTaking.nd rfl (Or.inl rfl))
          (fun _ _ _ _ _ => pts_one (by exact (pt_val (pe_meth (pe_ix ix_list (pe_fld (pv 0) rfl) (pv 3) (fun _ _ => rfl)) T.kThing T.meTakes G hr b .nil pass0 (pa_cons (pv 2) pa_nil))))) (fun _ _ _ _ _ => pv 3))), ?_⟩),
    F.binds (ps := ["self", "some", "day"]) fun _ _ _ _ _ _ us hl => match us, hl with | [_, _, _], _ => rfl, F.kp⟩
  · obtain ⟨a, l, m, ts, c, xs, d, rfl, _⟩ := h
    rfl
  · obtain ⟨a, l, m, ts, c, xs, d, rfl, hc, hm, hx, hlen, k⟩ := h
    refine ⟨_, rfl, m, rfl, ⟨_, hm⟩, fun D hD => ?_⟩
    refine lc_list (K := K) (a := m) (xs := nvs xs) (fun i H' => Same H H' ∧ H' D = some (.lst (nvs ((xs.take i).filter (c.there d)))))
      ⟨same_upd hD, upd_same⟩ (fun i H' _ ⟨s2, _⟩ => s2.seq hm) (fun i x H' hi ⟨s2, h3⟩ => ?_) fun H' ⟨s2, h3⟩ => ?_
    · obtain ⟨j, hj, rfl⟩ := nvs_at hi
      have hc' := hc.same s2
      obtain ⟨dx', h1'⟩ := hc'.obj
      obtain ⟨t, ht, dt, ho⟩ := hc'.at_ (hx j (List.mem_of_getElem? hj))
      refine ⟨rfl, _, rfl, a, A.cCup, dx', _, _, rfl, h1', T.kCup, T.nCup2, f2_2 (by decide +kernel), _, rfl, l, rfs ts, _, _, rfl, rfl, SqL.of hc'.lst, atI_nat ht, ?_⟩
      refine ⟨t, dt, _, rfl, ho, f3_0 (by decide +kernel) (by decide +kernel) (by decide +kernel), _, rfl, t, c.thing j, d, rfl, ⟨dt, ho⟩, _, rfl, ?_⟩
      have e : (decide ((c.thing j).comes ≤ d) && decide (d < (c.thing j).asked)) = c.there d j := rfl
      rw [e]
      cases q : c.there d j with
      | true =>
        refine iteT ⟨_, rfl, _, h3, ?_, same_new s2 hD, ?_⟩
        · refine size_small ?_
          rw [List.length_map]
          have := List.length_filter_le (c.there d) (xs.take i)
          rw [List.length_take] at this
          omega
        · rw [upd_same, take_filter_more hj, q, if_pos rfl]
          show _ = some (HO.lst (nvs (_ ++ [j])))
          unfold nvs
          rw [List.map_append]
          rfl
      | false =>
        refine iteF ⟨s2, ?_⟩
        rw [h3, take_filter_more hj, q, if_neg Bool.false_ne_true, List.append_nil]
    · have e : (nvs xs).length = xs.length := List.length_map _
      rw [e, List.take_length] at h3
      exact k _ _ s2 hD h3
end
end CK

namespace CK
open PySem PySem.Spec PyProof.Rows L2
open Si89 (Cupboard Thing Best)
section
variable {P : Program} {w : World} {K : PySem.W.Frag} {mg : Str → Option Value} {base : Heap} {A : Ads}
/-! ### crowds -/
theorem back_nats {ns : List Int} {l : List Nat} (hp : ns.Perm (l.map fun (n : Nat) => (n : Int))) : ∃ ds : List Nat, ns = ds.map (fun (n : Nat) => (n : Int)) ∧ ds.Perm l := by
  refine ⟨ns.map Int.toNat, ?_, ?_⟩
  · rw [List.map_map]
    refine (List.map_id ns).symm.trans (List.map_congr_left fun x hx => ?_)
    obtain ⟨n, _, rfl⟩ := List.mem_map.mp (hp.mem_iff.mp hx)
    rfl
  · have h := hp.map Int.toNat
    rw [List.map_map] at h
    have e : l.map (Int.toNat ∘ fun (n : Nat) => (n : Int)) = l := by
      have : (Int.toNat ∘ fun (n : Nat) => (n : Int)) = id := by funext n; rfl
      rw [this, List.map_id]
    rw [e] at h
    exact h
/-- what len asks of a list or a tuple -/
def rLenS (K : PySem.W.Frag) : List V → Hp → VK → Prop := fun xs H Q => ∃ p ys, xs = [.ref p] ∧ (SqL K H p ys ∨ SqT K H p ys) ∧ Q (.int ys.length) H
def spCrowds (A : Ads) : Sp := fun vs H Q _ => ∃ (a l : Addr) (ts : List Addr) (c : Cupboard) (s : Nat), vs = [.ref a, nv s] ∧ CupAt A H a l ts c ∧ c.count ≤ 9 ∧
  ∀ H' p (cs : List Addr) (ds : List Nat), Same H H' → H p = none → H' p = some (.lst (rfs cs)) → ds.Pairwise (· ≤ ·) → ds.Perm ((c.members s).map fun i => (c.thing i).comes) → cs.length = ds.length →
    (∀ (i : Nat) (t : Addr) (d : Nat), cs[i]? = some t → ds[i]? = some d → InsAt A.cCrowd H' t (crF d (c.taken s d))) → Q (.ref p) H'
theorem scCrowds : FnScope ["self", "number", "some", "days", "at", "day"] ["self", "number"] (defScope sCrowds) := ⟨rfl, rfl, rfl, by decide +kernel, rfl, by decide +kernel, by decide +kernel⟩
theorem ok_crowds (T : Txt K mg A) : Good P w K mg base CX0 3 A.crowds ["self", "number"] (spCrowds A) := by
  obtain ⟨fd, F⟩ := T.aCrowds
  obtain ⟨_, G1, b1, _⟩ := ok_thingsOf (P := P) (w := w) (base := base) T
  obtain ⟨_, G2, b2, _⟩ := ok_taking (P := P) (w := w) (base := base) T
  obtain ⟨_, G3, b3, _⟩ := ok_iCrowd (P := P) (w := w) (base := base) T
  refine ⟨fd, F.ok scCrowds (fun vs H Q E h => ?_) (fun cdv Ar outer s H vs Q E hr h => ⟨_,
      pss_cons (ps_set (i := 2) scCrowds.nd rfl (Or.inr rfl) (pe_meth (pv 0) T.kCup T.meThingsOf G1 (hr.mono (by decide)) b1 .nil pass0 (pa_cons (pv 1) pa_nil)))
      (pss_cons (ps_set (i := 3) scCrowds.nd rfl (Or.inl rfl) (pe_callB cr_sorted (by rfl) T.zSorted (by decide +kernel) (by exact (pa_cons
        (pe_lc (own := [("at", 4)]) (g := gName 4) (tt := tYes) (te := tFld K (tOp (rIxL K) (tFld K (tVar 0) "things") (tVar 4)) "comes") rfl scCrowds.nd (pi_list (pv 2))
          (blkOk_by (N := ["self", "number", "some", "days", "at", "day"]) (sc := defScope sCrowds) (by decide +kernel)) (fun _ _ _ _ _ => pg_name (i := 4) scCrowds.nd rfl (Or.inl rfl))
          (fun _ _ _ _ _ => pts_nil) (fun _ _ _ _ _ => by exact (pe_fld (pe_ix ix_list (pe_fld (pv 0) rfl) (pv 4) (fun _ _ => rfl)) rfl))) pa_nil))))
      (pss_one (ps_ret
        (pe_lc (own := [("day", 5)]) (g := gName 5) (tt := tYes)
          (te := tMake A.cCrowd (spICrowd A) [] E0 (tCons (tVar 5) (tCons (tCB (rLenS K) (tCons (tMeth A.cCup "taking" (spTaking A K) [] E0 (tVar 0) (tCons (tVar 2) (tCons (tVar 5) tNil))) tNil)) tNil)))
          rfl scCrowds.nd (pi_list (pv 3))
          (blkOk_by (N := ["self", "number", "some", "days", "at", "day"]) (sc := defScope sCrowds) (by decide +kernel)) (fun _ _ _ _ _ => pg_name (i := 5) scCrowds.nd rfl (Or.inl rfl))
          (fun _ _ _ _ _ => pts_nil)
          (fun _ _ _ _ _ => by exact (pe_make T.mCrowd G3 hr rfl T.gCrowd b3 .nil pass0 (pa_cons (pv 5) (pa_cons (pe_callB call_len_seq (by rfl) T.zLen PySem.boot_len (by exact (pa_cons (pe_meth (pv 0) T.kCup T.meTaking G2 hr b2 .nil pass0 (pa_cons (pv 2) (pa_cons (pv 5) pa_nil))) pa_nil))) pa_nil)))))))), ?_⟩),
    F.binds (ps := ["self", "number"]) fun _ _ _ _ _ _ us hl => match us, hl with | [_, _], _ => rfl, F.kp⟩
  · obtain ⟨a, l, ts, c, n, rfl, _⟩ := h
    rfl
  · obtain ⟨a, l, ts, c, n, rfl, hc, h9, k⟩ := h
    obtain ⟨dx, h1⟩ := hc.obj
    have hlen := members_length c n
    have hlt : ∀ x ∈ c.members n, x < c.count := fun x hx => (mem_members.mp hx).1
    -- some = self.things_of(number)
    refine ⟨_, rfl, a, dx, _, rfl, h1, f2_0 (by decide +kernel) (by decide +kernel), _, rfl, a, l, ts, c, n, rfl, hc, h9, fun H1 p s1 np h2 => ?_⟩
    have hc1 := hc.same s1
    -- days = sorted([..])
    refine ⟨_, rfl, p, rfl, ⟨_, SqL.of h2⟩, fun D hD => ?_⟩
    refine lc_list (K := K) (a := p) (xs := nvs (c.members n)) (fun i H' => Same H1 H' ∧ H' D = some (.lst (nvs (((c.members n).take i).map fun j => (c.thing j).comes))))
      ⟨same_upd hD, upd_same⟩ (fun i H' _ ⟨s2, _⟩ => SqL.of (s2 _ _ h2)) (fun i x H' hi ⟨s2, h3⟩ => ?_) fun H2 ⟨s2, h3⟩ => ?_
    · obtain ⟨j, hj, rfl⟩ := nvs_at hi
      have hc' := hc1.same s2
      obtain ⟨dx', h1'⟩ := hc'.obj
      obtain ⟨t, ht, dt, ho⟩ := hc'.at_ (hlt j (List.mem_of_getElem? hj))
      refine ⟨rfl, _, rfl, a, A.cCup, dx', _, _, rfl, h1', T.kCup, T.nCup2, f2_2 (by decide +kernel), _, rfl, l, rfs ts, _, _, rfl, rfl, SqL.of hc'.lst, atI_nat ht, ?_⟩
      refine ⟨t, A.cThing, dt, _, _, rfl, ho, T.kThing, T.nThing1, f3_1, _, h3, ?_, same_new s2 hD, ?_⟩
      · refine size_small ?_
        rw [List.length_map, List.length_map, List.length_take]
        omega
      · rw [upd_same, take_more hj]
        unfold nvs
        rw [List.map_append, List.map_append]
        rfl
    · have e : (nvs (c.members n)).length = (c.members n).length := List.length_map _
      rw [e, List.take_length, nvs_ints] at h3
      refine ⟨D, _, rfl, SqL.of h3, ?_, fun ns' p2 hperm hsort hp2 => ?_⟩
      · rw [List.length_map, List.length_map]; omega
      obtain ⟨ds, rfl, hds⟩ := back_nats hperm
      have hsort' : ds.Pairwise (· ≤ ·) := (List.pairwise_map.mp hsort).imp fun h => Int.ofNat_le.mp h
      have hdl : ds.length = (c.members n).length := by rw [hds.length_eq, List.length_map]
      have s3 : Same H1 (upd H2 p2 (.lst ((ds.map fun (n : Nat) => (n : Int)).map V.int))) := same_new s2 (Same.free s2 hp2)
      rw [← nvs_ints] at s3 ⊢
      have hc3 := hc1.same s3
      refine ⟨_, rfl, p2, rfl, ⟨_, SqL.of upd_same⟩, fun D2 hD2 => ?_⟩
      generalize hH3 : upd H2 p2 (.lst (nvs ds)) = H3 at s3 hc3 hD2 ⊢
      have hp3 : H3 p2 = some (.lst (nvs ds)) := by rw [← hH3]; exact upd_same
      refine lc_list (K := K) (a := p2) (xs := nvs ds) (fun i H' => Same H3 H' ∧ ∃ cs : List Addr, H' D2 = some (.lst (rfs cs)) ∧ cs.length = i ∧ ∀ (j : Nat) (t : Addr) (d : Nat), cs[j]? = some t → ds[j]? = some d → InsAt A.cCrowd H' t (crF d (c.taken n d)))
        ⟨same_upd hD2, [], upd_same, rfl, fun j t d h => by simp at h⟩ (fun i H' _ ⟨s4, _⟩ => SqL.of (s4 _ _ hp3)) (fun i x H' hi ⟨s4, cs, h5, h6, h7⟩ => ?_) fun H4 ⟨s4, cs, h5, h6, h7⟩ => ?_
      · obtain ⟨d, hd, rfl⟩ := nvs_at hi
        have hc4 := hc3.same s4
        obtain ⟨dx4, h14⟩ := hc4.obj
        have hi' : i < ds.length := by
          obtain ⟨z, _⟩ := List.getElem?_eq_some_iff.mp hd
          exact z
        refine ⟨rfl, _, rfl, _, rfl, a, dx4, _, rfl, h14, f2_0 (by decide +kernel) (by decide +kernel), _, rfl, _, rfl, a, l, p, ts, c, c.members n, d, rfl, hc4, SqL.of (s4 _ _ (s3 _ _ h2)), hlt, by omega, fun H5 q s5 nq hq => ?_⟩
        refine ⟨q, _, rfl, .inl (SqL.of hq), ?_⟩
        intro x dx5 nx nd ne
        refine ⟨x, dx5, (d : Int), _, rfl, upd_same, fun H6 J bt => ⟨rfl, ?_⟩⟩
        have s6 : Same H5 H6 := Same.made nx nd bt
        have s7 : Same H' H6 := s5.trans s6
        refine ⟨rfs cs, s7 _ _ h5, ?_, same_new (s4.trans s7) hD2, cs ++ [x], ?_, ?_, fun j t d' hj hd' => ?_⟩
        · refine size_small ?_
          rw [List.length_map]
          omega
        · rw [upd_same]
          unfold rfs
          rw [List.map_append]
          rfl
        · rw [List.length_append, h6]; rfl
        · have nt : ∀ b o, H6 b = some o → (∀ xs, o ≠ .lst xs) → upd H6 D2 (.lst (rfs cs ++ [V.ref x])) b = some o := fun b o e no => by
            rw [upd_ne]
            · exact e
            · intro eb
              rw [eb, s7 _ _ h5] at e
              cases e
              exact no _ rfl
          rcases Nat.lt_or_ge j cs.length with hjl | hjl
          · rw [List.getElem?_append_left hjl] at hj
            obtain ⟨dy, ey⟩ := h7 j t d' hj hd'
            exact ⟨dy, nt _ _ (s7 _ _ ey) (fun xs z => by cases z)⟩
          · have ej : j = cs.length := by
              have := (List.getElem?_eq_some_iff.mp hj).1
              rw [List.length_append] at this
              simp at this
              omega
            subst ej
            rw [List.getElem?_append_right (Nat.le_refl _), Nat.sub_self] at hj
            obtain rfl : x = t := Option.some.inj hj
            rw [h6, hd] at hd'
            obtain rfl : d = d' := Option.some.inj hd'
            have e7 : (nvs ((c.members n).filter (c.there d))).length = c.taken n d := List.length_map _
            rw [e7] at J
            exact ⟨dx5, nt _ _ J (fun xs z => by cases z)⟩
      · have e : (nvs ds).length = ds.length := List.length_map _
        rw [e] at h6
        exact k H4 D2 cs ds ((s1.trans s3).trans s4) (Same.free (s1.trans s3) hD2) h5 hsort' hds h6 h7
end
end CK

namespace CK
open PySem PySem.Spec PyProof.Rows L2
open Si89 (Cupboard Thing Best)
section
variable {P : Program} {w : World} {K : PySem.W.Frag} {mg : Str → Option Value} {base : Heap} {A : Ads}
theorem lt_of_at {α : Type} {l : List α} {i : Nat} {x : α} (h : l[i]? = some x) : i < l.length := (List.getElem?_eq_some_iff.mp h).1
theorem find_here {p : Nat → Bool} {l : List Nat} {i d : Nat} (h : l[i]? = some d) (h1 : (l.take i).find? p = none) (h2 : p d = true) : l.find? p = some d := by
  have hi := lt_of_at h
  have e : l = l.take i ++ d :: l.drop (i + 1) := by
    have q := List.getElem?_eq_some_iff.mp h
    obtain ⟨_, rfl⟩ := q
    rw [← List.drop_eq_getElem_cons hi, List.take_append_drop]
  rw [e, List.find?_append, h1, List.find?_cons, h2]
  rfl
theorem find_more {p : Nat → Bool} {l : List Nat} {i d : Nat} (h : l[i]? = some d) (h1 : (l.take i).find? p = none) (h2 : p d = false) : (l.take (i + 1)).find? p = none := by
  rw [take_more h, List.find?_append, h1, List.find?_cons, h2]
  rfl
/-! ### too_many -/
def spTooMany (A : Ads) : Sp := fun vs H Q _ => ∃ (a l : Addr) (ts : List Addr) (c : Cupboard) (s : Nat), vs = [.ref a, nv s] ∧ CupAt A H a l ts c ∧ c.count ≤ 9 ∧
  (c.full s = none → ∀ H', Same H H' → Q .non H') ∧ ∀ d, c.full s = some d → ∀ H' t, Same H H' → InsAt A.cCrowd H' t (crF d (c.taken s d)) → Q (.ref t) H'
theorem scTooMany : FnScope ["self", "number", "crowd"] ["self", "number"] (defScope sTooMany) := ⟨rfl, rfl, rfl, by decide +kernel, rfl, by decide +kernel, by decide +kernel⟩
theorem ok_tooMany (T : Txt K mg A) : Good P w K mg base CX0 4 A.tooMany ["self", "number"] (spTooMany A) := by
  obtain ⟨fd, F⟩ := T.aTooMany
  obtain ⟨_, G, b, _⟩ := ok_crowds (P := P) (w := w) (base := base) T
  refine ⟨fd, F.ok scTooMany (fun vs H Q E h => ?_) (fun cdv Ar outer s H vs Q E hr h => ⟨_,
      pss_cons (ps_for PassesOwn.never rfl (pi_list (pe_meth (pv 0) T.kCup T.meCrowds G hr b .nil pass0 (pa_cons (pv 1) pa_nil))) (pg_name (i := 2) scTooMany.nd rfl (Or.inl rfl))
        (pss_one (ps_if (pt_cmpR op_gt (pe_fld (pv 2) rfl) (pe_fld (pv 0) rfl) (nomark _)) (pss_one (ps_ret (pv 2))) pss_nil)))
      (pss_one (ps_ret pe_non)), ?_⟩),
    F.binds (ps := ["self", "number"]) fun _ _ _ _ _ _ us hl => match us, hl with | [_, _], _ => rfl, F.kp⟩
  · obtain ⟨a, l, ts, c, n, rfl, _⟩ := h
    rfl
  · obtain ⟨a, l, ts, c, n, rfl, hc, h9, kN, kS⟩ := h
    obtain ⟨dx, h1⟩ := hc.obj
    refine ⟨_, rfl, a, dx, _, rfl, h1, f2_0 (by decide +kernel) (by decide +kernel), _, rfl, a, l, ts, c, n, rfl, hc, h9, fun H1 p cs ds s1 np h2 hsort hperm hlen hcr => ?_⟩
    have hf := full_eq hsort hperm
    refine ⟨p, rfl, ⟨_, SqL.of h2⟩, for_list (K := K) (a := p) (xs := rfs cs) (fun i σ H' => ∃ v : Option V, σ = [some (.ref a), some (nv n), v] ∧ H' = H1 ∧ (ds.take i).find? (fun d => decide (c.places < c.taken n d)) = none)
      ⟨none, rfl, rfl, rfl⟩ (fun i σ H' _ ⟨_, _, e, _⟩ => by rw [e]; exact SqL.of h2) ?_ ?_⟩
    · rintro i x σ H' hi ⟨v, rfl, rfl, h3⟩
      obtain ⟨t, ht, rfl⟩ := rfs_at hi
      have hil := lt_of_at ht
      rw [hlen] at hil
      have hd := List.getElem?_eq_getElem hil
      obtain ⟨dt, ho⟩ := hcr i t _ ht hd
      generalize ds[i] = d at hd ho
      obtain ⟨dx', h1'⟩ := (hc.same s1).obj
      refine ⟨_, rfl, t, A.cCrowd, dt, _, _, rfl, ho, T.kCrowd, T.nCrowd2, f2_2 (by decide +kernel), _, rfl, a, A.cCup, dx', _, _, rfl, h1', T.kCup, T.nCup1, f2_1, _, _, rfl, rfl, _, rfl, ?_⟩
      by_cases q : c.places < c.taken n d
      · refine if_true_of (decide_eq_true (Int.ofNat_lt.mpr q)) ?_
        exact ⟨_, rfl, kS d (hf.symm.trans (find_here hd h3 (decide_eq_true q))) _ t s1 ⟨dt, ho⟩⟩
      · refine if_false_of (decide_eq_false (fun z => q (Int.ofNat_lt.mp z))) ?_
        exact ⟨some (.ref t), rfl, rfl, find_more hd h3 (decide_eq_false q)⟩
    · rintro σ H' ⟨v, rfl, rfl, h3⟩
      have e : (rfs cs).length = ds.length := by rw [List.length_map]; exact hlen
      rw [e, List.take_length] at h3
      exact kN (hf.symm.trans h3) _ s1
/-! ### enough -/
def spEnough (A : Ads) : Sp := fun vs H Q _ => ∃ (a l : Addr) (ts : List Addr) (c : Cupboard), vs = [.ref a] ∧ CupAt A H a l ts c ∧ c.count ≤ 9 ∧ ∀ H', Same H H' → Q (nv c.enough) H'
theorem pow_of_len {ts : List Addr} {n : Nat} (h : ts.length = n) : (1 : Int) * 2 ^ (((rfs ts).length : Int).toNat) = ((2 ^ n : Nat) : Int) := by
  rw [List.length_map, h, Int.toNat_natCast, Int.one_mul]
  simp
theorem scEnough : FnScope ["self", "crowd"] ["self"] (defScope sEnough) := ⟨rfl, rfl, rfl, by decide +kernel, rfl, by decide +kernel, by decide +kernel⟩
theorem ok_enough (T : Txt K mg A) : Good P w K mg base CX0 4 A.enough ["self"] (spEnough A) := by
  obtain ⟨fd, F⟩ := T.aEnough
  obtain ⟨_, G, b, _⟩ := ok_crowds (P := P) (w := w) (base := base) T
  refine ⟨fd, F.ok scEnough (fun vs H Q E h => ?_) (fun cdv Ar outer s H vs Q E hr h => ⟨_,
      pss_one (ps_ret (pe_callB (cr_max rfl) (by rfl) T.zMax (by decide +kernel) (by exact (pa_cons (pe_op op_cat (pe_lst (pa_cons pe_int pa_nil))
        (pe_lc (own := [("crowd", 1)]) (g := gName 1) (tt := tYes) (te := tFld K (tVar 1) "many") rfl scEnough.nd
          (pi_list (pe_meth (pv 0) T.kCup T.meCrowds G hr b .nil pass0 (pa_cons (pe_op op_sub (pe_op op_shl pe_int (pe_callB call_len_seq (by rfl) T.zLen PySem.boot_len (by exact (pa_cons (pe_fld (pv 0) rfl) pa_nil)))) pe_int) pa_nil)))
          (blkOk_by (N := ["self", "crowd"]) (sc := defScope sEnough) (by decide +kernel)) (fun _ _ _ _ _ => pg_name (i := 1) scEnough.nd rfl (Or.inl rfl))
          (fun _ _ _ _ _ => pts_nil) (fun _ _ _ _ _ => by exact (pe_fld (pv 1) rfl)))) pa_nil)))), ?_⟩),
    F.binds (ps := ["self"]) fun _ _ _ _ _ _ us hl => match us, hl with | [_], _ => rfl, F.kp⟩
  · obtain ⟨a, l, ts, c, rfl, _⟩ := h
    rfl
  · obtain ⟨a, l, ts, c, rfl, hc, h9, k⟩ := h
    refine ⟨(by show 1 ≤ sizeLine; decide), fun p0 hp0 => ?_⟩
    have s0 : Same H (upd H p0 (.lst [V.int 0])) := same_upd hp0
    have hc0 := hc.same s0
    obtain ⟨dx, h1⟩ := hc0.obj
    have e2 := pow_of_len hc.len
    refine ⟨_, rfl, a, dx, _, rfl, h1, f2_0 (by decide +kernel) (by decide +kernel), _, rfl, a, A.cCup, dx, _, _, rfl, h1, T.kCup, T.nCup2, f2_2 (by decide +kernel), l, rfs ts, rfl, .inl (SqL.of hc0.lst), _, _, rfl, rfl, ⟨?_, ?_, by decide⟩, _, _, rfl, rfl, ?_⟩
    · exact Int.natCast_nonneg _
    · rw [List.length_map, hc.len]; omega
    refine ⟨a, l, ts, c, 2 ^ c.count - 1, ?_, hc0, h9, fun H1 p cs ds s1 np h2 hsort hperm hlen hcr => ?_⟩
    · show [V.ref a, V.int (1 * 2 ^ (((rfs ts).length : Int).toNat) - 1)] = _
      rw [e2]
      have hp : 0 < 2 ^ c.count := Nat.pow_pos (by decide)
      have : (((2 ^ c.count : Nat) : Int) - 1) = ((2 ^ c.count - 1 : Nat) : Int) := by omega
      rw [this]
    refine ⟨p, rfl, ⟨_, SqL.of h2⟩, fun D hD => ?_⟩
    refine lc_list (K := K) (a := p) (xs := rfs cs) (fun i H' => Same H1 H' ∧ H' D = some (.lst (nvs ((ds.take i).map fun d => c.taken (2 ^ c.count - 1) d))))
      ⟨same_upd hD, upd_same⟩ (fun i H' _ ⟨s2, _⟩ => SqL.of (s2 _ _ h2)) (fun i x H' hi ⟨s2, h3⟩ => ?_) fun H' ⟨s2, h3⟩ => ?_
    · obtain ⟨t, ht, rfl⟩ := rfs_at hi
      have hil := lt_of_at ht
      rw [hlen] at hil
      have hd := List.getElem?_eq_getElem hil
      obtain ⟨dt, ho⟩ := (hcr i t _ ht hd)
      generalize ds[i] = d at hd ho
      refine ⟨rfl, _, rfl, t, A.cCrowd, dt, _, _, rfl, s2 _ _ ho, T.kCrowd, T.nCrowd2, f2_2 (by decide +kernel), _, h3, ?_, same_new s2 hD, ?_⟩
      · refine size_small ?_
        rw [List.length_map, List.length_map, List.length_take]
        have := hperm.length_eq
        rw [List.length_map, members_all, List.length_range] at this
        omega
      · rw [upd_same, take_more hd]
        unfold nvs
        rw [List.map_append, List.map_append]
        rfl
    · have e : (rfs cs).length = ds.length := by rw [List.length_map]; exact hlen
      rw [e, List.take_length] at h3
      have hq0 : H' p0 = some (.lst [V.int 0]) := s2 _ _ (s1 _ _ upd_same)
      refine ⟨p0, D, _, _, rfl, rfl, hq0, h3, ?_, fun q hq => ?_⟩
      · refine Nat.le_of_lt (size_small ?_)
        rw [List.length_map, List.length_map]
        have := hperm.length_eq
        rw [List.length_map, members_all, List.length_range] at this
        show 1 + ds.length ≤ 1000
        omega
      refine ⟨q, (0 : Int) :: ds.map (fun d => ((c.taken (2 ^ c.count - 1) d : Nat) : Int)), rfl, ?_, Nat.succ_pos _, fun m hm hle => ?_⟩
      · refine SqL.of (upd_same.trans ?_)
        rw [nvs_ints, List.map_map, List.map_cons, List.map_map, List.map_map]
        rfl
      · rw [enough_eq hperm hm hle]
        exact k _ (same_new (s0.trans (s1.trans s2)) (Same.free (s0.trans (s1.trans s2)) hq))
/-! ### all_kept -/
def spAllKept (A : Ads) : Sp := fun vs H Q _ => ∃ (a l : Addr) (ts : List Addr) (c : Cupboard), vs = [.ref a] ∧ CupAt A H a l ts c ∧ c.count ≤ 9 ∧ ∀ H' p, Same H H' → H p = none → H' p = some (.lst (nvs c.sets)) → Q (.ref p) H'
def rIsN' : R2 := fun x y H Q => y = .non ∧ Q (.bl (decide (x = .non))) H
theorem scAllKept : FnScope ["self", "number"] ["self"] (defScope sAllKept) := ⟨rfl, rfl, rfl, by decide +kernel, rfl, by decide +kernel, by decide +kernel⟩
theorem ok_allKept (T : Txt K mg A) : Good P w K mg base CX0 5 A.allKept ["self"] (spAllKept A) := by
  obtain ⟨fd, F⟩ := T.aAllKept
  obtain ⟨_, G, b, _⟩ := ok_tooMany (P := P) (w := w) (base := base) T
  refine ⟨fd, F.ok scAllKept (fun vs H Q E h => ?_) (fun cdv Ar outer s H vs Q E hr h => ⟨_,
      pss_one (ps_ret
        (pe_lc (own := [("number", 1)]) (g := gName 1) (tt := tTest (tOp rIsN' (tMeth A.cCup "too_many" (spTooMany A) [] E0 (tVar 0) (tCons (tVar 1) tNil)) (tC .non))) rfl scAllKept.nd
          (pi_range1 rfl T.zRange (pa_cons (pe_op op_shl pe_int (pe_callB call_len_seq (by rfl) T.zLen PySem.boot_len (by exact (pa_cons (pe_fld (pv 0) rfl) pa_nil)))) pa_nil))
          (blkOk_by (N := ["self", "number"]) (sc := defScope sAllKept) (by decide +kernel)) (fun _ _ _ _ _ => pg_name (i := 1) scAllKept.nd rfl (Or.inl rfl))
          (fun _ _ _ _ _ => pts_one (by exact (pt_cmpR op_isN (pe_meth (pv 0) T.kCup T.meTooMany G hr b .nil pass0 (pa_cons (pv 1) pa_nil)) pe_non (nomark _)))) (fun _ _ _ _ _ => pv 1))), ?_⟩),
    F.binds (ps := ["self"]) fun _ _ _ _ _ _ us hl => match us, hl with | [_], _ => rfl, F.kp⟩
  · obtain ⟨a, l, ts, c, rfl, _⟩ := h
    rfl
  · obtain ⟨a, l, ts, c, rfl, hc, h9, k⟩ := h
    obtain ⟨dx, h1⟩ := hc.obj
    have e2 := pow_of_len hc.len
    have hb : 2 ^ c.count ≤ 2 ^ 9 := Nat.pow_le_pow_right (by decide) h9
    refine ⟨_, rfl, a, A.cCup, dx, _, _, rfl, h1, T.kCup, T.nCup2, f2_2 (by decide +kernel), l, rfs ts, rfl, .inl (SqL.of hc.lst), _, _, rfl, rfl, ⟨?_, ?_, by decide⟩, _, rfl, ?_, ?_, fun D hD => ?_⟩
    · exact Int.natCast_nonneg _
    · rw [List.length_map, hc.len]; omega
    · rw [e2]
      generalize 2 ^ c.count = m at hb ⊢
      omega
    · rw [e2]
      generalize 2 ^ c.count = m at hb ⊢
      omega
    rw [e2, Int.toNat_natCast]
    refine lc_range (lo := 0) (n := 2 ^ c.count) (fun i H' => Same H H' ∧ H' D = some (.lst (nvs ((List.range i).filter fun s => (c.full s).isNone)))) ⟨same_upd hD, upd_same⟩ (fun i H' hi ⟨s1, h2⟩ => ?_) fun H' ⟨s1, h2⟩ => ?_
    · have e0 : ((0 : Int) + (i : Int)) = (i : Int) := Int.zero_add _
      have hc1 := hc.same s1
      obtain ⟨dx1, h11⟩ := hc1.obj
      have hsz : ∀ acc : List V, acc = nvs ((List.range i).filter fun s => (c.full s).isNone) → acc.length < sizeLine := fun acc ea => by
        refine size_small ?_
        rw [ea, List.length_map]
        have := List.length_filter_le (fun s => (c.full s).isNone) (List.range i)
        rw [List.length_range] at this
        omega
      refine ⟨rfl, _, rfl, a, dx1, _, rfl, h11, f2_0 (by decide +kernel) (by decide +kernel), _, rfl, a, l, ts, c, i, ?_, hc1, h9, fun hn H2 s2 => ?_, fun d hd H2 t s2 _ => ?_⟩
      · show [V.ref a, V.int ((0 : Int) + (i : Int))] = _
        rw [e0]
      · refine ⟨rfl, true, rfl, iteT ⟨_, rfl, _, s2 _ _ h2, hsz _ rfl, same_new (s1.trans s2) hD, ?_⟩⟩
        have q : (c.full i).isNone = true := by rw [hn]; rfl
        rw [upd_same, range_filter_succ, q, if_pos rfl, e0]
        show _ = some (HO.lst (nvs (_ ++ [i])))
        unfold nvs
        rw [List.map_append]
        rfl
      · refine ⟨rfl, false, rfl, iteF ⟨s1.trans s2, ?_⟩⟩
        have q : (c.full i).isNone = false := by rw [hd]; rfl
        rw [range_filter_succ, q, if_neg Bool.false_ne_true, List.append_nil]
        exact s2 _ _ h2
    · rw [← sets_eq] at h2
      exact k _ _ s1 hD h2
end
end CK

namespace CK
open PySem PySem.Spec PyProof.Rows L2
open Si89 (Cupboard Thing Best)
section
variable {P : Program} {w : World} {K : PySem.W.Frag} {mg : Str → Option Value} {base : Heap} {A : Ads}
/-- the pair that stands at t -/
def pairAt (H : Hp) (t : Addr) : Int × Int := match H t with
  | some (.tup [.int a, .int b]) => (a, b)
  | _ => (0, 0)
theorem pairAt_of {H : Hp} {t : Addr} {a b : Int} (h : H t = some (.tup [.int a, .int b])) : pairAt H t = (a, b) := by
  unfold pairAt
  rw [h]
/-! ### thrown_out -/
def spThrownOut (A : Ads) (K : PySem.W.Frag) : Sp := fun vs H Q _ => ∃ (a l m : Addr) (ts : List Addr) (c : Cupboard) (xs : List Nat) (d k : Nat), vs = [.ref a, .ref m, nv d] ∧ CupAt A H a l ts c ∧ SqL K H m (nvs xs) ∧ (∀ x ∈ xs, x < c.count) ∧ xs.length ≤ 100 ∧
  c.last (xs.filter (c.there d)) = some k ∧ ∀ H', Same H H' → Q (nv k) H'
theorem scThrownOut : FnScope ["self", "some", "day", "at"] ["self", "some", "day"] (defScope sThrownOut) := ⟨rfl, rfl, rfl, by decide +kernel, rfl, by decide +kernel, by decide +kernel⟩
theorem ok_thrownOut (T : Txt K mg A) : Good P w K mg base CX0 3 A.thrownOut ["self", "some", "day"] (spThrownOut A K) := by
  obtain ⟨fd, F⟩ := T.aThrownOut
  obtain ⟨_, G, b, _⟩ := ok_taking (P := P) (w := w) (base := base) T
  refine ⟨fd, F.ok scThrownOut (fun vs H Q E h => ?_) (fun cdv Ar outer s H vs Q E hr h => ⟨_, pss_one (ps_ret
        (pe_ix ix_tup (pe_callB (cr_maxP rfl (hu_of hr)) (by rfl) T.zMax (by decide +kernel) (by exact (pa_cons
          (pe_lc (own := [("at", 3)]) (g := gName 3) (tt := tYes) (te := tTup (tCons (tFld K (tOp (rIxL K) (tFld K (tVar 0) "things") (tVar 3)) "asked_for") (tCons (tVar 3) tNil))) rfl scThrownOut.nd
            (pi_list (pe_meth (pv 0) T.kCup T.meTaking G hr b .nil pass0 (pa_cons (pv 1) (pa_cons (pv 2) pa_nil))))
            (blkOk_by (N := ["self", "some", "day", "at"]) (sc := defScope sThrownOut) (by decide +kernel)) (fun _ _ _ _ _ => pg_name (i := 3) scThrownOut.nd rfl (Or.inl rfl))
            (fun _ _ _ _ _ => pts_nil) (fun _ _ _ _ _ => by exact (pe_tup (pa_cons (pe_fld (pe_ix ix_list (pe_fld (pv 0) rfl) (pv 3) (fun _ _ => rfl)) rfl) (pa_cons (pv 3) pa_nil))))) pa_nil))) pe_int (fun _ _ => rfl))), ?_⟩),
    F.binds (ps := ["self", "some", "day"]) fun _ _ _ _ _ _ us hl => match us, hl with | [_, _, _], _ => rfl, F.kp⟩
  · obtain ⟨a, l, m, ts, c, xs, d, k, rfl, _⟩ := h
    rfl
  · obtain ⟨a, l, m, ts, c, xs, d, kk, rfl, hc, hm, hx, hlen, hlast, k⟩ := h
    obtain ⟨dx, h1⟩ := hc.obj
    refine ⟨_, rfl, a, dx, _, rfl, h1, f2_0 (by decide +kernel) (by decide +kernel), _, rfl, _, rfl, a, l, m, ts, c, xs, d, rfl, hc, hm, hx, hlen, fun H1 p s1 np h2 => ?_⟩
    have hys : ∀ y ∈ xs.filter (c.there d), y < c.count := fun y hy => hx y (List.mem_filter.mp hy).1
    have hyl : (xs.filter (c.there d)).length ≤ 100 := Nat.le_trans (List.length_filter_le _ _) hlen
    have hyne : xs.filter (c.there d) ≠ [] := fun e => by rw [e] at hlast; cases hlast
    have hc1 := hc.same s1
    generalize xs.filter (c.there d) = ys at h2 hys hyl hyne hlast
    refine ⟨p, rfl, ⟨_, SqL.of h2⟩, fun D hD => ?_⟩
    refine lc_list (K := K) (a := p) (xs := nvs ys) (fun i H' => Same H1 H' ∧ ∃ us : List Addr, H' D = some (.lst (rfs us)) ∧ us.length = i ∧ ∀ (j : Nat) (u : Addr) (x : Nat), us[j]? = some u → ys[j]? = some x → H' u = some (.tup [nv (c.thing x).asked, nv x]))
      ⟨same_upd hD, [], upd_same, rfl, fun j u x h => by simp at h⟩ (fun i H' _ ⟨s2, _⟩ => SqL.of (s2 _ _ h2)) (fun i x H' hi ⟨s2, us, h3, h4, h5⟩ => ?_) fun H' ⟨s2, us, h3, h4, h5⟩ => ?_
    · obtain ⟨j, hj, rfl⟩ := nvs_at hi
      have hil := lt_of_at hj
      have hc' := hc1.same s2
      obtain ⟨dx', h1'⟩ := hc'.obj
      obtain ⟨t, ht, dt, ho⟩ := hc'.at_ (hys j (List.mem_of_getElem? hj))
      refine ⟨rfl, _, rfl, a, A.cCup, dx', _, _, rfl, h1', T.kCup, T.nCup2, f2_2 (by decide +kernel), _, rfl, l, rfs ts, _, _, rfl, rfl, SqL.of hc'.lst, atI_nat ht, ?_⟩
      refine ⟨t, A.cThing, dt, _, _, rfl, ho, T.kThing, T.nThing2, f3_2 (by decide +kernel), _, rfl, (by show 2 ≤ sizeLine; decide), fun q hq => ?_⟩
      have s3 : Same H' (upd H' q (.tup [nv (c.thing j).asked, nv j])) := same_upd hq
      refine ⟨rfs us, s3 _ _ h3, ?_, same_new (s2.trans s3) hD, us ++ [q], ?_, ?_, fun j' u x hu hx' => ?_⟩
      · refine size_small ?_
        rw [List.length_map]
        omega
      · rw [upd_same]
        unfold rfs
        rw [List.map_append]
        rfl
      · rw [List.length_append, h4]; rfl
      · have nt : ∀ b xs, upd H' q (.tup [nv (c.thing j).asked, nv j]) b = some (.tup xs) → upd (upd H' q (.tup [nv (c.thing j).asked, nv j])) D (.lst (rfs us ++ [V.ref q])) b = some (.tup xs) := fun b xs e => by
          rw [upd_ne]
          · exact e
          · intro eb
            rw [eb, s3 _ _ h3] at e
            cases e
        rcases Nat.lt_or_ge j' us.length with hjl | hjl
        · rw [List.getElem?_append_left hjl] at hu
          exact nt _ _ (s3 _ _ (h5 j' u x hu hx'))
        · have ej : j' = us.length := by
            have := lt_of_at hu
            rw [List.length_append] at this
            simp at this
            omega
          subst ej
          rw [List.getElem?_append_right (Nat.le_refl _), Nat.sub_self] at hu
          obtain rfl : q = u := Option.some.inj hu
          rw [h4, hj] at hx'
          obtain rfl : j = x := Option.some.inj hx'
          exact nt _ _ upd_same
    · have e : (nvs ys).length = ys.length := List.length_map _
      rw [e] at h4
      have hat : ∀ u ∈ us, ∃ x ∈ ys, H' u = some (.tup [nv (c.thing x).asked, nv x]) := fun u hu => by
        obtain ⟨j, hj, rfl⟩ := List.getElem_of_mem hu
        have hj' : j < ys.length := by omega
        exact ⟨ys[j], List.getElem_mem hj', h5 j _ _ (List.getElem?_eq_getElem hj) (List.getElem?_eq_getElem hj')⟩
      refine ⟨D, us, pairAt H', rfl, SqL.of h3, ?_, fun t ht => ?_, fun t ht hmax => ?_⟩
      · rw [h4]
        exact List.length_pos_iff.mpr hyne
      · obtain ⟨x, _, hxx⟩ := hat t ht
        rw [pairAt_of hxx]
        exact hxx
      · obtain ⟨x, hxm, hxx⟩ := hat t ht
        have ek : kk = x := by
          have e1 := last_eq (c := c) hxm fun y hy => by
            obtain ⟨j, hj, rfl⟩ := List.getElem_of_mem hy
            have hj' : j < us.length := by omega
            have hu := h5 j _ _ (List.getElem?_eq_getElem hj') (List.getElem?_eq_getElem hj)
            have hm2 := hmax _ (List.getElem_mem hj')
            rw [pairAt_of hu, pairAt_of hxx] at hm2
            unfold notLater
            omega
          rw [hlast] at e1
          exact Option.some.inj e1
        subst ek
        refine ⟨t, _, _, _, rfl, rfl, SqT.of hxx, (show atI [nv (c.thing kk).asked, nv kk] 1 = some (nv kk) from rfl), k _ (s1.trans s2)⟩
end
end CK

namespace CK
open PySem PySem.Spec PyProof.Rows L2
open Si89 (Cupboard Thing Best)
/-! ### the sorted pairs are the line -/
def unref : V → Addr
  | .ref t => t
  | _ => 0
theorem rfs_of {ys : List V} {us : List Addr} (h : ys.Perm (rfs us)) : ∃ vs : List Addr, ys = rfs vs ∧ vs.Perm us := by
  refine ⟨ys.map unref, ?_, ?_⟩
  · show ys = (ys.map unref).map V.ref
    rw [List.map_map]
    refine (List.map_id ys).symm.trans (List.map_congr_left fun x hx => ?_)
    obtain ⟨t, _, rfl⟩ := List.mem_map.mp (h.mem_iff.mp hx)
    rfl
  · have h2 := h.map unref
    rw [List.map_map] at h2
    have e : us.map (unref ∘ V.ref) = us := by
      have : (unref ∘ V.ref) = id := by funext t; rfl
      rw [this, List.map_id]
    rw [e] at h2
    exact h2
theorem line_of {c : Cupboard} {us : List Addr} {ys : List V} {kf : V → Int × Int} (hl : us.length = c.count) (hk : ∀ (j : Nat) (u : Addr), us[j]? = some u → kf (.ref u) = (((c.thing j).comes : Int), (j : Int)))
    (hs : SrtO.Srtd (ltP kf) ys) (hp : ys.Perm (rfs us)) : ∃ vs : List Addr, ys = rfs vs ∧ (∀ t ∈ vs, t ∈ us) ∧ vs.map (fun t => (kf (.ref t)).2.toNat) = c.line := by
  obtain ⟨vs, rfl, hv⟩ := rfs_of hp
  refine ⟨vs, rfl, fun t ht => hv.mem_iff.mp ht, line_eq ?_ ?_⟩
  · have e : us.map (fun t => (kf (.ref t)).2.toNat) = List.range c.count := by
      refine List.ext_getElem (by rw [List.length_map, List.length_range]; exact hl) fun i h1 h2 => ?_
      rw [List.getElem_map, List.getElem_range]
      rw [List.length_map] at h1
      rw [hk i _ (List.getElem?_eq_getElem h1)]
      rfl
    rw [← e]
    exact hv.map _
  · rw [List.pairwise_map]
    have hs' := List.pairwise_map.mp hs
    refine List.Pairwise.imp_of_mem (fun {x y} hx hy h => ?_) hs'
    obtain ⟨i, hi, rfl⟩ := List.getElem_of_mem (hv.mem_iff.mp hx)
    obtain ⟨j, hj, rfl⟩ := List.getElem_of_mem (hv.mem_iff.mp hy)
    have h' : SrtO.lexB (kf (.ref us[j])) (kf (.ref us[i])) = false := h
    rw [hk i _ (List.getElem?_eq_getElem hi), hk j _ (List.getElem?_eq_getElem hj)] at h' ⊢
    have h2 := SrtO.lexB_no.mp h'
    rw [ahead_iff]
    simp only [Int.toNat_natCast] at h2 ⊢
    omega
section
variable {P : Program} {w : World} {K : PySem.W.Frag} {mg : Str → Option Value} {base : Heap} {A : Ads}
/-- the key of a value -/
def keyAt (H : Hp) (v : V) : Int × Int := pairAt H (unref v)
def spAsTheyCome (A : Ads) : Sp := fun vs H Q _ => ∃ (a l : Addr) (ts : List Addr) (c : Cupboard), vs = [.ref a] ∧ CupAt A H a l ts c ∧ c.count ≤ 9 ∧ ∀ H' p, Same H H' → H' p = some (.lst (nvs (kept c))) → Q (.ref p) H'
theorem scAsTheyCome : FnScope ["self", "kept", "day", "number", "out", "at", "thing"] ["self"] (defScope sAsTheyCome) := ⟨rfl, rfl, rfl, by decide +kernel, rfl, by decide +kernel, by decide +kernel⟩
theorem ok_asTheyCome (T : Txt K mg A) : Good P w K mg base CX0 4 A.asTheyCome ["self"] (spAsTheyCome A) := by
  obtain ⟨fd, F⟩ := T.aAsTheyCome
  obtain ⟨_, G1, b1, _⟩ := ok_taking (P := P) (w := w) (base := base) T
  obtain ⟨_, G2, b2, _⟩ := ok_thrownOut (P := P) (w := w) (base := base) T
  refine ⟨fd, F.ok scAsTheyCome (fun vs H Q E h => ?_) (fun cdv Ar outer s H vs Q E hr h => ⟨_,
      pss_cons (ps_set (i := 1) scAsTheyCome.nd rfl (Or.inl rfl) (pe_lst pa_nil))
      (pss_cons (ps_for PassesOwn.never rfl
          (pi_list (pe_callB cr_sortedPO (by rfl) T.zSorted (by decide +kernel) (by exact (pa_cons
            (pe_lc (own := [("at", 5), ("thing", 6)]) (g := gTup K 2 (gCons (gName 5) (gCons (gName 6) gNil))) (tt := tYes) (te := tTup (tCons (tFld K (tVar 6) "comes") (tCons (tVar 5) tNil))) rfl scAsTheyCome.nd
              (pi_enum (by rfl) T.zEnumerate (by exact (pa_cons (pe_fld (pv 0) rfl) pa_nil)))
              (blkOk_by (N := ["self", "kept", "day", "number", "out", "at", "thing"]) (sc := defScope sAsTheyCome) (by decide +kernel))
              (fun _ _ _ _ _ => by exact (pg_tup rfl (pgs_cons (pg_name (i := 5) scAsTheyCome.nd rfl (Or.inl rfl)) (pgs_cons (pg_name (i := 6) scAsTheyCome.nd rfl (Or.inl rfl)) pgs_nil))))
              (fun _ _ _ _ _ => pts_nil) (fun _ _ _ _ _ => by exact (pe_tup (pa_cons (pe_fld (pv 6) rfl) (pa_cons (pv 5) pa_nil))))) pa_nil))))
          (pg_tup rfl (pgs_cons (pg_name (i := 2) scAsTheyCome.nd rfl (Or.inl rfl)) (pgs_cons (pg_name (i := 3) scAsTheyCome.nd rfl (Or.inl rfl)) pgs_nil)))
          (pss_cons (ps_set (i := 1) scAsTheyCome.nd rfl (Or.inl rfl) (pe_op op_cat (pv 1) (pe_lst (pa_cons (pv 3) pa_nil))))
          (pss_one (ps_if (pt_cmpR op_gt (pe_callB call_len_seq (by rfl) T.zLen PySem.boot_len (by exact (pa_cons (pe_meth (pv 0) T.kCup T.meTaking G1 (hr.mono (by decide)) b1 .nil pass0 (pa_cons (pv 1) (pa_cons (pv 2) pa_nil))) pa_nil))) (pe_fld (pv 0) rfl) (nomark _))
            (pss_cons (ps_set (i := 4) scAsTheyCome.nd rfl (Or.inr rfl) (pe_meth (pv 0) T.kCup T.meThrownOut G2 hr b2 .nil pass0 (pa_cons (pv 1) (pa_cons (pv 2) pa_nil))))
              (pss_one (ps_setLc (i := 1) (own := [("at", 5)]) (g := gName 5) rfl scAsTheyCome.nd rfl rfl (sw_true rfl rfl rfl (by decide +kernel)) (pi_list (pv 1))
                (blkOk_by (N := ["self", "kept", "day", "number", "out", "at", "thing"]) (sc := defScope sAsTheyCome) (by decide +kernel)) (fun _ _ _ _ _ => pg_name (i := 5) scAsTheyCome.nd rfl (Or.inl rfl))
                (fun _ _ _ _ _ => pts_one (pt_cmpR op_ne (pv 5) (pv 4) (nomark _))) (fun _ _ _ _ _ => pv 5))))
            pss_nil))))
      (pss_one (ps_ret (pv 1)))), ?_⟩),
    F.binds (ps := ["self"]) fun _ _ _ _ _ _ us hl => match us, hl with | [_], _ => rfl, F.kp⟩
  · obtain ⟨a, l, ts, c, rfl, _⟩ := h
    rfl
  · obtain ⟨a, l, ts, c, rfl, hc, h9, k⟩ := h
    refine ⟨(by show 0 ≤ sizeLine; decide), fun p0 hp0 => ?_⟩
    have s0 : Same H (upd H p0 (.lst [])) := same_upd hp0
    have hc0 := hc.same s0
    have hk0 : (upd H p0 (.lst [])) p0 = some (.lst (nvs [])) := upd_same
    generalize upd H p0 (.lst []) = H0 at s0 hc0 hk0 ⊢
    obtain ⟨dx, h1⟩ := hc0.obj
    have e1 : (rfs ts).length = c.count := by rw [List.length_map]; exact hc.len
    -- the pairs
    refine ⟨_, rfl, a, A.cCup, dx, _, _, rfl, h1, T.kCup, T.nCup2, f2_2 (by decide +kernel), l, rfs ts, rfl, SqL.of hc0.lst, fun D hD => ?_⟩
    refine lc_it (walk_enum (K := K) (a := l) (xs := rfs ts)) (fun i H' => Same H0 H' ∧ ∃ us : List Addr, H' D = some (.lst (rfs us)) ∧ us.length = i ∧ ∀ (j : Nat) (u : Addr), us[j]? = some u → H' u = some (.tup [nv (c.thing j).comes, nv j]))
      ⟨same_upd hD, [], upd_same, rfl, fun j u h => by simp at h⟩ (fun i H' _ ⟨s2, _⟩ => SqL.of (hc0.same s2).lst) ?_ fun H' ⟨s2, us, h3, h4, h5⟩ => ?_
    · rintro i x H' H'' hi ⟨s2, us, h3, h4, h5⟩ ⟨T0, x0, y0, rfl, hT0, rfl, ex, ey⟩
      rw [e1] at hi
      have ex' : V.int ((i : Nat) : Int) = x0 := Option.some.inj ex
      subst ex'
      have hc' := hc0.same s2
      obtain ⟨t, ht, ho⟩ := hc'.at_ hi
      have ey' : (rfs ts)[i]? = some y0 := ey
      rw [ht] at ey'
      obtain rfl := Option.some.inj ey'
      have s3 : Same H' (upd H' T0 (.tup [nv i, .ref t])) := same_upd hT0
      obtain ⟨dt, ho'⟩ := ho.same s3
      refine ⟨T0, _, rfl, SqT.of upd_same, rfl, _, _, rfl, _, _, rfl, rfl, rfl, ?_⟩
      refine ⟨_, rfl, t, A.cThing, dt, _, _, rfl, ho', T.kThing, T.nThing1, f3_1, _, rfl, (by show 2 ≤ sizeLine; decide), fun q hq => ?_⟩
      have s4 : Same (upd H' T0 (.tup [nv i, .ref t])) (upd (upd H' T0 (.tup [nv i, .ref t])) q (.tup [nv (c.thing i).comes, nv i])) := same_upd hq
      generalize hH6 : upd (upd H' T0 (.tup [nv i, .ref t])) q (.tup [nv (c.thing i).comes, nv i]) = H6 at s4
      have hq6 : H6 q = some (.tup [nv (c.thing i).comes, nv i]) := by rw [← hH6]; exact upd_same
      have s5 : Same H' H6 := s3.trans s4
      refine ⟨rfs us, s5 _ _ h3, ?_, same_new (s2.trans s5) hD, us ++ [q], ?_, ?_, fun j' u hu => ?_⟩
      · refine size_small ?_
        rw [List.length_map]
        omega
      · rw [upd_same]
        unfold rfs
        rw [List.map_append]
        rfl
      · rw [List.length_append, h4]; rfl
      · have nt : ∀ b xs, H6 b = some (.tup xs) → upd H6 D (.lst (rfs us ++ [V.ref q])) b = some (.tup xs) := fun b xs e => by
          rw [upd_ne]
          · exact e
          · intro eb
            rw [eb, s5 _ _ h3] at e
            cases e
        rcases Nat.lt_or_ge j' us.length with hjl | hjl
        · rw [List.getElem?_append_left hjl] at hu
          exact nt _ _ (s5 _ _ (h5 j' u hu))
        · have ej : j' = us.length := by
            have := lt_of_at hu
            rw [List.length_append] at this
            simp at this
            omega
          subst ej
          rw [List.getElem?_append_right (Nat.le_refl _), Nat.sub_self] at hu
          obtain rfl : q = u := Option.some.inj hu
          rw [h4]
          exact nt _ _ hq6
    · rw [e1] at h4
      refine ⟨D, rfs us, keyAt H', rfl, SqL.of h3, fun x hx => ?_, fun ys p hsrt hstb np => ?_⟩
      · obtain ⟨u, hu, rfl⟩ := List.mem_map.mp hx
        obtain ⟨j, hj, rfl⟩ := List.getElem_of_mem hu
        have hq := h5 j _ (List.getElem?_eq_getElem hj)
        refine ⟨us[j], rfl, ?_⟩
        show H' us[j] = some (.tup [.int (pairAt H' us[j]).1, .int (pairAt H' us[j]).2])
        rw [pairAt_of hq]
        exact hq
      obtain ⟨vs, rfl, hmem, hline⟩ := line_of (kf := keyAt H') h4 (fun j u hu => pairAt_of (h5 j u hu)) hsrt hstb.perm
      have hvl : vs.length = c.count := by
        have := congrArg List.length hline
        rw [List.length_map, (line_perm c).length_eq, List.length_range] at this
        exact this
      have hvat : ∀ (i : Nat) (t : Addr), vs[i]? = some t → ∃ j, c.line[i]? = some j ∧ j < c.count ∧ H' t = some (.tup [nv (c.thing j).comes, nv j]) := fun i t ht => by
        obtain ⟨j, hj, rfl⟩ := List.getElem_of_mem (hmem t (List.mem_of_getElem? ht))
        have hq := h5 j _ (List.getElem?_eq_getElem hj)
        refine ⟨j, ?_, by omega, hq⟩
        rw [← hline, List.getElem?_map, ht]
        show some ((keyAt H' (.ref us[j])).2.toNat) = some j
        unfold keyAt
        show some ((pairAt H' us[j]).2.toNat) = some j
        rw [pairAt_of hq]
        rfl
      have s6 : Same H0 (upd H' p (.lst (rfs vs))) := same_new s2 (Same.free s2 np)
      have s7 : Same H' (upd H' p (.lst (rfs vs))) := same_upd np
      generalize hH3 : upd H' p (.lst (rfs vs)) = H3 at s6 s7
      have hp3 : H3 p = some (.lst (rfs vs)) := by rw [← hH3]; exact upd_same
      refine ⟨p, rfl, ⟨_, SqL.of hp3⟩, for_list (K := K) (a := p) (xs := rfs vs) (fun i σ H4 => ∃ (kp : Addr) (v2 v3 v4 v5 v6 : Option V), σ = [some (.ref a), some (.ref kp), v2, v3, v4, v5, v6] ∧ Same H3 H4 ∧ H4 kp = some (.lst (nvs ((c.line.take i).foldl (pturn c) []))))
        ⟨p0, none, none, none, none, none, rfl, fun _ _ z => z, s6 _ _ hk0⟩ (fun i σ H4 _ ⟨_, _, _, _, _, _, _, s8, _⟩ => SqL.of (s8 _ _ hp3)) ?_ ?_⟩
      · rintro i x σ H4 hi ⟨kp, v2, v3, v4, v5, v6, rfl, s8, hk⟩
        obtain ⟨t, ht, rfl⟩ := rfs_at hi
        obtain ⟨j, hj, hjc, htup⟩ := hvat i t ht
        have hil : i < c.count := by rw [← hvl]; exact lt_of_at ht
        refine ⟨t, _, rfl, SqT.of (s8 _ _ (s7 _ _ htup)), rfl, _, _, rfl, _, _, rfl, rfl, ?_⟩
        -- kept + [number]
        have hsub := fold_sub c (c.line.take i) []
        have hkl : ((c.line.take i).foldl (pturn c) []).length ≤ i := by
          have := hsub.length_le
          rw [List.nil_append, List.length_take] at this
          omega
        have hklt : ∀ z ∈ (c.line.take i).foldl (pturn c) [], z < c.count := fun z hz => line_lt (List.mem_of_mem_take (by have := hsub.subset hz; rw [List.nil_append] at this; exact this))
        have hnext : (c.line.take (i + 1)).foldl (pturn c) [] = pturn c ((c.line.take i).foldl (pturn c) []) j := by
          rw [take_more hj, List.foldl_append]
          rfl
        rw [hnext]
        generalize (c.line.take i).foldl (pturn c) [] = kk at hk hkl hklt
        refine ⟨_, rfl, _, rfl, (by show 1 ≤ sizeLine; decide), fun q1 hq1 => ?_⟩
        have s9 : Same H4 (upd H4 q1 (.lst [nv j])) := same_upd hq1
        refine ⟨kp, q1, _, _, rfl, rfl, s9 _ _ hk, upd_same, ?_, fun q2 hq2 => ?_⟩
        · refine Nat.le_of_lt (size_small ?_)
          rw [List.length_map]
          show kk.length + 1 ≤ 1000
          omega
        have s10 : Same H4 (upd (upd H4 q1 (.lst [nv j])) q2 (.lst (nvs kk ++ [nv j]))) := same_new s9 (Same.free s9 hq2)
        have hnow : nvs kk ++ [nv j] = nvs (kk ++ [j]) := by
          unfold nvs
          rw [List.map_append]
          rfl
        rw [hnow] at s10 ⊢
        generalize hH5 : upd (upd H4 q1 (.lst [nv j])) q2 (.lst (nvs (kk ++ [j]))) = H5 at s10 ⊢
        have hq5 : H5 q2 = some (.lst (nvs (kk ++ [j]))) := by rw [← hH5]; exact upd_same
        have hc5 := ((hc0.same s6).same s8).same s10
        obtain ⟨dx5, h15⟩ := hc5.obj
        have hnlt : ∀ z ∈ kk ++ [j], z < c.count := fun z hz => by
          rcases List.mem_append.mp hz with h | h
          · exact hklt z h
          · rw [List.mem_singleton.mp h]; exact hjc
        have hnl : (kk ++ [j]).length ≤ 100 := by rw [List.length_append]; show kk.length + 1 ≤ 100; omega
        refine ⟨_, rfl, a, dx5, _, rfl, h15, f2_0 (by decide +kernel) (by decide +kernel), _, rfl, _, rfl, a, l, q2, ts, c, kk ++ [j], (c.thing j).comes, rfl, hc5, SqL.of hq5, hnlt, hnl, fun H6 q3 s11 nq3 hq3 => ?_⟩
        have hc6 := hc5.same s11
        obtain ⟨dx6, h16⟩ := hc6.obj
        refine ⟨q3, _, rfl, .inl (SqL.of hq3), _, rfl, a, A.cCup, dx6, _, _, rfl, h16, T.kCup, T.nCup1, f2_1, _, _, rfl, rfl, _, rfl, ?_⟩
        have el : (nvs ((kk ++ [j]).filter (c.there (c.thing j).comes))).length = ((kk ++ [j]).filter (c.there (c.thing j).comes)).length := List.length_map _
        rw [el]
        by_cases q : c.places < ((kk ++ [j]).filter (c.there (c.thing j).comes)).length
        · refine if_true_of (decide_eq_true (Int.ofNat_lt.mpr q)) ?_
          obtain ⟨ko, _, hlast, _⟩ : ∃ ko ∈ (kk ++ [j]).filter (c.there (c.thing j).comes), c.last ((kk ++ [j]).filter (c.there (c.thing j).comes)) = some ko ∧ ∀ z ∈ (kk ++ [j]).filter (c.there (c.thing j).comes), notLater c z ko := by
            rcases last_spec c ((kk ++ [j]).filter (c.there (c.thing j).comes)) with ⟨e, _⟩ | h
            · rw [e] at q
              exact absurd q (Nat.not_lt_zero _)
            · exact h
          have hturn : pturn c kk j = (kk ++ [j]).filter fun z => z != ko := by
            unfold pturn
            rw [if_pos q, hlast]
          rw [hturn]
          have hq6 := s11 _ _ hq5
          refine ⟨_, rfl, a, dx6, _, rfl, h16, f2_0 (by decide +kernel) (by decide +kernel), _, rfl, _, rfl, a, l, q2, ts, c, kk ++ [j], (c.thing j).comes, ko, rfl, hc6, SqL.of hq6, hnlt, hnl, hlast, fun H7 s12 => ?_⟩
          have hq7 := s12 _ _ hq6
          refine ⟨_, rfl, q2, rfl, ⟨_, SqL.of hq7⟩, fun D2 hD2 => ?_⟩
          have s13 : Same H3 H7 := s8.trans (s10.trans (s11.trans s12))
          refine lc_list (K := K) (a := q2) (xs := nvs (kk ++ [j])) (fun i H' => Same H7 H' ∧ H' D2 = some (.lst (nvs (((kk ++ [j]).take i).filter fun z => z != ko))))
            ⟨same_upd hD2, upd_same⟩ (fun i H' _ ⟨s2, _⟩ => SqL.of (s2 _ _ hq7)) (fun i x H8 hi ⟨s14, h8⟩ => ?_) fun H8 ⟨s14, h8⟩ => ?_
          · obtain ⟨z, hz, rfl⟩ := nvs_at hi
            refine ⟨rfl, _, rfl, _, rfl, rfl, _, rfl, ?_⟩
            have key : (!decide (nv z = nv ko)) = (z != ko) := by
              by_cases ez : z = ko
              · subst ez
                simp
              · have : ¬ nv z = nv ko := fun h => ez (Int.ofNat_inj.mp (V.int.inj h))
                rw [decide_eq_false this]
                simp [ez]
            rw [key]
            cases qz : (z != ko) with
            | true =>
              refine iteT ⟨_, rfl, _, h8, ?_, same_new s14 hD2, ?_⟩
              · refine size_small ?_
                rw [List.length_map]
                have := List.length_filter_le (fun z => z != ko) ((kk ++ [j]).take i)
                rw [List.length_take] at this
                omega
              · rw [upd_same, take_filter_more hz, qz, if_pos rfl]
                show _ = some (HO.lst (nvs (_ ++ [z])))
                unfold nvs
                rw [List.map_append]
                rfl
            | false =>
              refine iteF ⟨s14, ?_⟩
              rw [h8, take_filter_more hz, qz, if_neg Bool.false_ne_true, List.append_nil]
          · have e : (nvs (kk ++ [j])).length = (kk ++ [j]).length := List.length_map _
            rw [e, List.take_length] at h8
            exact ⟨D2, _, _, _, _, _, rfl, s13.trans s14, h8⟩
        · refine if_false_of (decide_eq_false (fun z => q (Int.ofNat_lt.mp z))) ?_
          have hturn : pturn c kk j = kk ++ [j] := by
            unfold pturn
            rw [if_neg q]
          rw [hturn]
          exact ⟨q2, _, _, _, _, _, rfl, s8.trans (s10.trans s11), s11 _ _ hq5⟩
      · rintro σ H4 ⟨kp, v2, v3, v4, v5, v6, rfl, s8, hk⟩
        have e : (rfs vs).length = c.line.length := by rw [List.length_map, hvl, (line_perm c).length_eq, List.length_range]
        rw [e, List.take_length] at hk
        exact ⟨_, rfl, k _ _ ((s0.trans s6).trans s8) hk⟩
end
end CK

namespace CK
open PySem PySem.Spec PyProof.Rows L2
open Si89 (Cupboard Thing Best)
/-! ### the measures -/
def repF : Option Best → Int × Int
  | none => (-1, -1)
  | some x => (x.first, x.second)
def repM : Option Best → Int × Int
  | none => (0, 0)
  | some x => (x.many, x.set_)
theorem bst_gt {f g : Nat → Nat} {r : Option Best} {s : Nat} (h : (repF r).1 < f s ∨ ((f s : Int) = (repF r).1 ∧ (repF r).2 < g s)) : bst f g r s = some ⟨f s, g s, 1, s⟩ := by
  cases r with
  | none => rfl
  | some x =>
    have h' : ((x.first : Nat) : Int) < f s ∨ ((f s : Int) = x.first ∧ ((x.second : Nat) : Int) < g s) := h
    unfold bst
    simp only
    rw [if_pos]
    unfold Si89.more
    rw [Bool.or_eq_true, Bool.and_eq_true, decide_eq_true_iff, decide_eq_true_iff, beq_iff_eq]
    omega
theorem bst_eq {f g : Nat → Nat} {r : Option Best} {s : Nat} (h1 : (f s : Int) = (repF r).1) (h2 : (g s : Int) = (repF r).2) : ∃ x, r = some x ∧ bst f g r s = some { x with many := x.many + 1 } := by
  cases r with
  | none =>
    have h1' : ((f s : Nat) : Int) = -1 := h1
    omega
  | some x =>
    have h1' : ((f s : Nat) : Int) = ((x.first : Nat) : Int) := h1
    have h2' : ((g s : Nat) : Int) = ((x.second : Nat) : Int) := h2
    refine ⟨x, rfl, ?_⟩
    unfold bst
    simp only
    rw [if_neg, if_pos ⟨by omega, by omega⟩]
    unfold Si89.more
    rw [Bool.or_eq_true, Bool.and_eq_true, decide_eq_true_iff, decide_eq_true_iff, beq_iff_eq]
    omega
theorem bst_no {f g : Nat → Nat} {r : Option Best} {s : Nat} (h : ¬ ((repF r).1 < f s ∨ ((f s : Int) = (repF r).1 ∧ (repF r).2 < g s))) (h2 : ¬ ((f s : Int) = (repF r).1 ∧ (g s : Int) = (repF r).2)) : bst f g r s = r := by
  cases r with
  | none =>
    have h' : ¬ ((-1 : Int) < f s ∨ _) := h
    omega
  | some x =>
    have h' : ¬ (((x.first : Nat) : Int) < f s ∨ ((f s : Int) = x.first ∧ ((x.second : Nat) : Int) < g s)) := h
    have h2' : ¬ (((f s : Nat) : Int) = ((x.first : Nat) : Int) ∧ ((g s : Nat) : Int) = ((x.second : Nat) : Int)) := h2
    unfold bst
    simp only
    rw [if_neg, if_neg (fun z => h2' ⟨by omega, by omega⟩)]
    unfold Si89.more
    rw [Bool.or_eq_true, Bool.and_eq_true, decide_eq_true_iff, decide_eq_true_iff, beq_iff_eq]
    omega
section
variable {P : Program} {w : World} {K : PySem.W.Frag} {mg : Str → Option Value} {base : Heap} {A : Ads}
/-! ### measures_of -/
def fst_ (c : Cupboard) (b : Bool) : Nat → Nat := if b = true then c.worth else c.size
def snd_ (c : Cupboard) (b : Bool) : Nat → Nat := if b = true then c.size else c.worth
def spMeasuresOf (A : Ads) : Sp := fun vs H Q _ => ∃ (a l : Addr) (ts : List Addr) (c : Cupboard) (s : Nat) (b : Bool), vs = [.ref a, nv s, .bl b] ∧ CupAt A H a l ts c ∧ c.count ≤ 9 ∧
  ∀ H' p, Same H H' → H p = none → H' p = some (.tup [nv (fst_ c b s), nv (snd_ c b s)]) → Q (.ref p) H'
theorem scMeasuresOf : FnScope ["cupboard", "number", "by_worth", "worth", "many"] ["cupboard", "number", "by_worth"] (defScope sMeasuresOf) := ⟨rfl, rfl, rfl, by decide +kernel, rfl, by decide +kernel, by decide +kernel⟩
theorem ok_measuresOf (T : Txt K mg A) : Good P w K mg base CX0 3 A.measuresOf ["cupboard", "number", "by_worth"] (spMeasuresOf A) := by
  obtain ⟨fd, F⟩ := T.aMeasuresOf
  obtain ⟨_, G1, b1, _⟩ := ok_worthOf (P := P) (w := w) (base := base) T
  obtain ⟨_, G2, b2, _⟩ := ok_thingsOf (P := P) (w := w) (base := base) T
  refine ⟨fd, F.ok scMeasuresOf (fun vs H Q E h => ?_) (fun cdv Ar outer s H vs Q E hr h => ⟨_,
      pss_cons (ps_set (i := 3) scMeasuresOf.nd rfl (Or.inl rfl) (pe_meth (pv 0) T.kCup T.meWorthOf G1 hr b1 .nil pass0 (pa_cons (pv 1) pa_nil)))
      (pss_cons (ps_set (i := 4) scMeasuresOf.nd rfl (Or.inl rfl) (pe_callB call_len_seq (by rfl) T.zLen PySem.boot_len (by exact (pa_cons (pe_meth (pv 0) T.kCup T.meThingsOf G2 (hr.mono (by decide)) b2 .nil pass0 (pa_cons (pv 1) pa_nil)) pa_nil))))
      (pss_one (ps_ret (pe_ifExp (pt_val (pv 2)) (pe_tup (pa_cons (pv 3) (pa_cons (pv 4) pa_nil))) (pe_tup (pa_cons (pv 4) (pa_cons (pv 3) pa_nil))))))), ?_⟩),
    F.binds (ps := ["cupboard", "number", "by_worth"]) fun _ _ _ _ _ _ us hl => match us, hl with | [_, _, _], _ => rfl, F.kp⟩
  · obtain ⟨a, l, ts, c, n, b, rfl, _⟩ := h
    rfl
  · obtain ⟨a, l, ts, c, n, b, rfl, hc, h9, k⟩ := h
    obtain ⟨dx, h1⟩ := hc.obj
    refine ⟨_, rfl, a, dx, _, rfl, h1, f2_0 (by decide +kernel) (by decide +kernel), _, rfl, a, l, ts, c, n, rfl, hc, h9, fun H1 s1 => ?_⟩
    have hc1 := hc.same s1
    obtain ⟨dx1, h11⟩ := hc1.obj
    refine ⟨_, rfl, a, dx1, _, rfl, h11, f2_0 (by decide +kernel) (by decide +kernel), _, rfl, a, l, ts, c, n, rfl, hc1, h9, fun H2 p s2 np h2 => ?_⟩
    refine ⟨p, _, rfl, .inl (SqL.of h2), ?_⟩
    have e : (nvs (c.members n)).length = c.size n := List.length_map _
    rw [e]
    refine ⟨_, rfl, b, rfl, ?_⟩
    cases b with
    | true =>
      refine iteT ⟨_, rfl, _, rfl, (by show 2 ≤ sizeLine; decide), fun q hq => ?_⟩
      exact k _ q (same_new (s1.trans s2) (Same.free (s1.trans s2) hq)) (Same.free (s1.trans s2) hq) upd_same
    | false =>
      refine iteF ⟨_, rfl, _, rfl, (by show 2 ≤ sizeLine; decide), fun q hq => ?_⟩
      exact k _ q (same_new (s1.trans s2) (Same.free (s1.trans s2) hq)) (Same.free (s1.trans s2) hq) upd_same
/-! ### chosen -/
def spChosen (A : Ads) : Sp := fun vs H Q _ => ∃ (a l : Addr) (ts : List Addr) (c : Cupboard) (b : Bool), vs = [.ref a, .bl b] ∧ CupAt A H a l ts c ∧ c.count ≤ 9 ∧
  ∀ H' p t x, Same H H' → c.bestBy (fst_ c b) (snd_ c b) = some x → InsAt A.cChosen H' p (chF t x.many x.set_) → H' t = some (.tup [nv x.first, nv x.second]) → Q (.ref p) H'
theorem scChosen : FnScope ["cupboard", "by_worth", "found", "number", "measures"] ["cupboard", "by_worth"] (defScope sChosen) := ⟨rfl, rfl, rfl, by decide +kernel, rfl, by decide +kernel, by decide +kernel⟩
theorem eqv_pairs {K : PySem.W.Frag} {H : Hp} {t u : Addr} {a b c d : Int} (h1 : H t = some (.tup [.int a, .int b])) (h2 : H u = some (.tup [.int c, .int d])) {Q : VK} (h : Q (.bl (decide (a = c ∧ b = d))) H) : rEqD K (.ref t) (.ref u) H Q := by
  refine ⟨.tuple [.int a, .int b], .tuple [.int c, .int d], .tup (SqT.of h1) (.cons (.int _) (.cons (.int _) .nil)), .tup (SqT.of h2) (.cons (.int _) (.cons (.int _) .nil)), rfl, rfl, ?_⟩
  have e : PyData.eqv (.tuple [.int a, .int b]) (.tuple [.int c, .int d]) = decide (a = c ∧ b = d) := by
    simp only [PyData.eqv, PyData.eqvAll, Bool.and_true]
    by_cases h1 : a = c
    · by_cases h2 : b = d
      · simp [h1, h2]
      · simp [h1, h2]
    · simp [h1]
  rw [e]
  exact h
theorem ok_chosen (T : Txt K mg A) : Good P w K mg base CX0 6 A.chosen ["cupboard", "by_worth"] (spChosen A) := by
  obtain ⟨fd, F⟩ := T.aChosen
  obtain ⟨_, G1, b1, _⟩ := ok_iChosen (P := P) (w := w) (base := base) T
  obtain ⟨_, G2, b2, _⟩ := ok_allKept (P := P) (w := w) (base := base) T
  obtain ⟨_, G3, b3, k3⟩ := ok_measuresOf (P := P) (w := w) (base := base) T
  refine ⟨fd, F.ok scChosen (fun vs H Q E h => ?_) (fun cdv Ar outer s H vs Q E hr h => ⟨_,
      pss_cons (ps_set (i := 2) scChosen.nd rfl (Or.inl rfl) (pe_make T.mChosen G1 (hr.mono (by decide)) rfl T.gChosenC b1 .nil pass0 (by exact (pa_cons (pe_tup (pa_cons (pe_un un_neg pe_int) (pa_cons (pe_un un_neg pe_int) pa_nil))) (pa_cons pe_int (pa_cons pe_int pa_nil))))))
      (pss_cons (ps_for PassesOwn.never rfl (pi_list (pe_meth0 (pv 0) T.kCup T.meAllKept G2 hr b2 .nil pass0)) (pg_name (i := 3) scChosen.nd rfl (Or.inl rfl))
        (pss_cons (ps_set (i := 4) scChosen.nd rfl (Or.inl rfl) (pe_call G3 (hr.mono (by decide)) rfl T.gMeasuresOf k3 b3 .nil pass0 (by exact (pa_cons (pv 0) (pa_cons (pv 3) (pa_cons (pv 1) pa_nil))))))
        (pss_one (ps_if (pt_cmpR (op_gtT (Nat.lt_of_le_of_lt (Nat.le_add_right _ 1) (hu_of hr))) (pv 4) (pe_fld (pv 2) rfl) (nomark _))
          (pss_one (ps_set (i := 2) scChosen.nd rfl (Or.inl rfl) (pe_make T.mChosen G1 (hr.mono (by decide)) rfl T.gChosenC b1 .nil pass0 (by exact (pa_cons (pv 4) (pa_cons pe_int (pa_cons (pv 3) pa_nil)))))))
          (pss_one (ps_if (pt_cmpR (op_eqD hr.units) (pv 4) (pe_fld (pv 2) rfl) (nomark _))
            (pss_one (ps_fldaug (pv 2) pe_int in_add)) pss_nil))))))
      (pss_one (ps_ret (pv 2)))), ?_⟩),
    F.binds (ps := ["cupboard", "by_worth"]) fun _ _ _ _ _ _ us hl => match us, hl with | [_, _], _ => rfl, F.kp⟩
  · obtain ⟨a, l, ts, c, b, rfl, _⟩ := h
    rfl
  · obtain ⟨a, l, ts, c, b, rfl, hc, h9, k⟩ := h
    -- found = Chosen((-1, -1), 0, 0)
    refine ⟨_, rfl, _, rfl, (by show 2 ≤ sizeLine; decide), fun t0 ht0 => ?_⟩
    have s0 : Same H (upd H t0 (.tup [.int (-1), .int (-1)])) := same_upd ht0
    have hT0 : (upd H t0 (.tup [.int (-1), .int (-1)])) t0 = some (.tup [.int (-1), .int (-1)]) := upd_same
    generalize upd H t0 (.tup [.int (-1), .int (-1)]) = H0 at s0 hT0 ⊢
    intro x0 dx0 nx nd ne
    refine ⟨x0, dx0, t0, (0 : Int), (0 : Int), rfl, upd_same, fun H1 J bt => ⟨rfl, ?_⟩⟩
    have s1 : Same H0 H1 := Same.made nx nd bt
    have hc1 := (hc.same s0).same s1
    obtain ⟨dx1, h11⟩ := hc1.obj
    refine ⟨_, rfl, a, dx1, _, rfl, h11, f2_0 (by decide +kernel) (by decide +kernel), a, l, ts, c, rfl, hc1, h9, fun H2 p s2 np h2 => ?_⟩
    refine ⟨p, rfl, ⟨_, SqL.of h2⟩, for_list (K := K) (a := p) (xs := nvs c.sets) (fun i σ H' => ∃ (fp tp : Addr) (v3 v4 : Option V) (r : Option Best), r = (c.sets.take i).foldl (bst (fst_ c b) (snd_ c b)) none ∧ σ = [some (.ref a), some (.bl b), some (.ref fp), v3, v4] ∧
        Same H H' ∧ H fp = none ∧ H' p = some (.lst (nvs c.sets)) ∧ InsAt A.cChosen H' fp (chF tp (repM r).1 (repM r).2) ∧ H' tp = some (.tup [.int (repF r).1, .int (repF r).2]))
      ⟨x0, t0, none, none, none, rfl, rfl, s0.trans (s1.trans s2), Same.free s0 nx, h2, ⟨dx0, s2 _ _ J⟩, s2 _ _ (s1 _ _ hT0)⟩ (fun i σ H' _ ⟨_, _, _, _, _, _, _, _, _, e, _⟩ => SqL.of e) ?_ ?_⟩
    · rintro i x σ H' hi ⟨fp, tp, v3, v4, r, hr', rfl, s3, hfp, hp, ⟨dfp, hF⟩, hT⟩
      obtain ⟨n, hn, rfl⟩ := nvs_at hi
      have hnext : (c.sets.take (i + 1)).foldl (bst (fst_ c b) (snd_ c b)) none = bst (fst_ c b) (snd_ c b) r n := by
        rw [take_more hn, List.foldl_append, ← hr']
        rfl
      -- measures = measures_of(cupboard, number, by_worth)
      refine ⟨_, rfl, _, rfl, _, rfl, a, l, ts, c, n, b, rfl, hc.same s3, h9, fun H4 m s4 nm hm => ?_⟩
      have hF4 := s4 _ _ hF
      have hT4 := s4 _ _ hT
      have s5 : Same H H4 := s3.trans s4
      refine ⟨_, rfl, _, rfl, fp, A.cChosen, dfp, _, _, rfl, hF4, T.kChosen, T.nChosen1, f3_1, m, tp, [((fst_ c b n : Nat) : Int), ((snd_ c b n : Nat) : Int)], [(repF r).1, (repF r).2], rfl, rfl, SqT.of hm, SqT.of hT4, _, rfl, ?_⟩
      by_cases q : (repF r).1 < fst_ c b n ∨ ((fst_ c b n : Int) = (repF r).1 ∧ (repF r).2 < snd_ c b n)
      · refine if_true_of (gt_pairs.trans ?_) ?_
        · rw [Bool.or_eq_true, Bool.and_eq_true, decide_eq_true_iff, decide_eq_true_iff, decide_eq_true_iff]
          exact q
        refine ⟨_, rfl, _, rfl, ?_⟩
        intro x5 dx5 nx5 nd5 ne5
        refine ⟨x5, dx5, m, (1 : Int), (n : Int), rfl, upd_same, fun H5 J5 bt5 => ⟨rfl, ?_⟩⟩
        have s6 : Same H4 H5 := Same.made nx5 nd5 bt5
        refine ⟨x5, m, _, _, some ⟨fst_ c b n, snd_ c b n, 1, n⟩, (hnext.trans (bst_gt q)).symm, rfl, s5.trans s6, Same.free s5 nx5, s6 _ _ (s4 _ _ hp), ⟨dx5, J5⟩, s6 _ _ hm⟩
      · refine if_false_of (gt_pairs.trans ?_) ?_
        · rw [← Bool.not_eq_true, Bool.or_eq_true, Bool.and_eq_true, decide_eq_true_iff, decide_eq_true_iff, decide_eq_true_iff]
          exact q
        refine ⟨_, rfl, _, rfl, fp, A.cChosen, dfp, _, _, rfl, hF4, T.kChosen, T.nChosen1, f3_1, eqv_pairs hm hT4 ⟨_, rfl, ?_⟩⟩
        by_cases q2 : (fst_ c b n : Int) = (repF r).1 ∧ (snd_ c b n : Int) = (repF r).2
        · refine if_true_of (decide_eq_true q2) ?_
          obtain ⟨y, rfl, hy⟩ := bst_eq q2.1 q2.2
          refine ⟨_, rfl, fp, A.cChosen, dfp, _, _, rfl, hF4, T.kChosen, T.nChosen2, f3_2 (by decide +kernel), _, _, rfl, rfl, dfp, _, hF4, (by show 3 < 1000; decide), ?_⟩
          have nf : ∀ b o, H4 b = some o → (∀ C dx fs, o ≠ .ins C dx fs) → upd H4 fp (.ins A.cChosen dfp (putF "many" (.int (((y.many : Nat) : Int) + 1)) (chF tp (y.many : Nat) (y.set_ : Nat)))) b = some o := fun b o e no => by
            rw [upd_ne]
            · exact e
            · intro eb
              rw [eb, hF4] at e
              cases e
              exact no _ _ _ rfl
          refine ⟨fp, tp, _, _, some { y with many := y.many + 1 }, (hnext.trans hy).symm, rfl, fun z o e => ?_, hfp, nf _ _ (s4 _ _ hp) (fun _ _ _ z => by cases z), ⟨dfp, upd_same.trans ?_⟩, nf _ _ hT4 (fun _ _ _ z => by cases z)⟩
          · rw [upd_ne (ne_of_none e hfp)]
            exact s5 _ _ e
          · have e9 : putF "many" (.int (((y.many : Nat) : Int) + 1)) (chF tp (y.many : Nat) (y.set_ : Nat)) = chF tp ((y.many + 1 : Nat) : Int) (y.set_ : Nat) := (put_past (by decide +kernel)).trans (congrArg _ put_here)
            exact congrArg (fun z => some (HO.ins A.cChosen dfp z)) e9
        · refine if_false_of (decide_eq_false q2) ?_
          exact ⟨fp, tp, _, _, r, (hnext.trans (bst_no q q2)).symm, rfl, s5, hfp, s4 _ _ hp, ⟨dfp, hF4⟩, hT4⟩
    · rintro σ H' ⟨fp, tp, v3, v4, r, hr', rfl, s3, hfp, hp, hF, hT⟩
      have e : (nvs c.sets).length = c.sets.length := List.length_map _
      rw [e, List.take_length, ← bestBy_eq] at hr'
      obtain ⟨x, hx⟩ := bestBy_some c (fst_ c b) (snd_ c b)
      rw [hx] at hr'
      subst hr'
      exact ⟨_, rfl, k H' fp tp x s3 hx hF hT⟩
/-! ### told, of choosing -/
def spToldC (A : Ads) : Sp := fun vs H Q _ => ∃ (p t : Addr) (x : Best), vs = [.ref p] ∧ InsAt A.cChosen H p (chF t x.many x.set_) ∧ H t = some (.tup [nv x.first, nv x.second]) ∧
  ∀ H' q, Same H H' → H q = none → H' q = some (.lst [nv x.first, nv x.second, nv x.many, nv x.set_]) → Q (.ref q) H'
theorem scToldC : FnScope ["found"] ["found"] (defScope sToldC) := ⟨rfl, rfl, rfl, by decide +kernel, rfl, by decide +kernel, by decide +kernel⟩
theorem ok_toldC (T : Txt K mg A) : Good P w K mg base CX0 1 A.toldC ["found"] (spToldC A) := by
  obtain ⟨fd, F⟩ := T.aToldC
  refine ⟨fd, F.ok scToldC (fun vs H Q E h => ?_) (fun cdv Ar outer s H vs Q E hr h => ⟨_,
      pss_one (ps_ret (pe_lst (pa_cons (pe_ix ix_tup (pe_fld (pv 0) rfl) pe_int (fun _ _ => rfl)) (pa_cons (pe_ix ix_tup (pe_fld (pv 0) rfl) pe_int (fun _ _ => rfl)) (pa_cons (pe_fld (pv 0) rfl) (pa_cons (pe_fld (pv 0) rfl) pa_nil)))))), ?_⟩),
    F.binds (ps := ["found"]) fun _ _ _ _ _ _ us hl => match us, hl with | [_], _ => rfl, F.kp⟩
  · obtain ⟨p, t, x, rfl, _⟩ := h
    rfl
  · obtain ⟨p, t, x, rfl, ⟨dx, hF⟩, hT, k⟩ := h
    refine ⟨_, rfl, p, A.cChosen, dx, _, _, rfl, hF, T.kChosen, T.nChosen1, f3_1, t, _, _, _, rfl, rfl, SqT.of hT, (show atI [nv x.first, nv x.second] 0 = some (nv x.first) from rfl), ?_⟩
    refine ⟨_, rfl, p, A.cChosen, dx, _, _, rfl, hF, T.kChosen, T.nChosen1, f3_1, t, _, _, _, rfl, rfl, SqT.of hT, (show atI [nv x.first, nv x.second] 1 = some (nv x.second) from rfl), ?_⟩
    refine ⟨_, rfl, p, A.cChosen, dx, _, _, rfl, hF, T.kChosen, T.nChosen2, f3_2 (by decide +kernel), ?_⟩
    refine ⟨_, rfl, p, A.cChosen, dx, _, _, rfl, hF, T.kChosen, T.nChosen3, f3_3 (by decide +kernel) (by decide +kernel), (by show 4 ≤ sizeLine; decide), fun q hq => ?_⟩
    exact k _ q (same_upd hq) hq upd_same
end
end CK

namespace CK
open PySem PySem.Spec PyProof.Rows L2
open Si89 (Cupboard Thing Best)
theorem rel_ref (a : Addr) : RelV (.ref a) (.ref a) := rfl
theorem rel_int (i : Int) (t : Tok) : RelV (.int i) (.int i t) := ⟨_, rfl⟩
abbrev ivs (l : List Int) : List V := l.map V.int
section
variable {P : Program} {w : World} {K : PySem.W.Frag} {mg : Str → Option Value} {base : Heap} {A : Ads}
/-! ### call_at -/
theorem cut_ints (ns : List Int) (k n : Nat) (h : k + n ≤ ns.length) {lo hi : Int} (e1 : lo = (k : Int)) (e2 : hi = ((k + n : Nat) : Int)) : cutV (ivs ns) (some lo) (some hi) = ivs ((ns.drop k).take n) := by
  subst e1
  subst e2
  unfold cutV
  rw [HT.sIx_nat, HT.sIx_nat, List.length_map, Nat.min_eq_left (by omega), Nat.min_eq_left (by omega)]
  have e : k + n - k = n := by omega
  rw [e]
  unfold ivs
  rw [List.map_take, List.map_drop]
def spCallAt (A : Ads) (K : PySem.W.Frag) : Sp := fun vs H Q _ => ∃ (m : Addr) (ns : List Int) (k n : Nat) (p : Int), vs = [.ref m, nv k] ∧ SqL K H m (ivs ns) ∧ ns[k]? = some p ∧ PySi89.shape p = some (n, 0) ∧ k + 1 + n ≤ ns.length ∧
  ∀ H' x q, Same H H' → H x = none → InsAt A.cCall H' x (caF p q ((k + 1 + n : Nat) : Int)) → H' q = some (.lst (ivs ((ns.drop (k + 1)).take n))) → Q (.ref x) H'
theorem scCallAt : FnScope ["calls", "at", "kind", "end"] ["calls", "at"] (defScope sCallAt) := ⟨rfl, rfl, rfl, by decide +kernel, rfl, by decide +kernel, by decide +kernel⟩
theorem ok_callAt (T : Txt K mg A) : Good P w K mg base CX0 3 A.callAt ["calls", "at"] (spCallAt A K) := by
  obtain ⟨fd, F⟩ := T.aCallAt
  obtain ⟨_, G, b, _⟩ := ok_iCall (P := P) (w := w) (base := base) T
  refine ⟨fd, F.ok scCallAt (fun vs H Q E h => ?_) (fun cdv Ar outer s H vs Q E hr h => ⟨_,
      pss_cons (ps_set (i := 2) scCallAt.nd rfl (Or.inl rfl) (pe_ix ix_list (pv 0) (pv 1) (fun _ _ => rfl)))
      (pss_cons (ps_set (i := 3) scCallAt.nd rfl (Or.inl rfl) (pe_op op_add (pe_op op_add (pv 1) pe_int) (pe_ix ix_tup (pe_glob rfl T.gNumbersOf (rel_ref _)) (pv 2) (fun _ _ => rfl))))
      (pss_one (ps_ret (pe_make T.mCall G hr rfl T.gCall b .nil pass0 (by exact (pa_cons (pv 2) (pa_cons (pe_slice sl_list (pv 0) (po_some (pe_op op_add (pv 1) pe_int)) (po_some (pv 3))) (pa_cons (pv 3) pa_nil)))))))), ?_⟩),
    F.binds (ps := ["calls", "at"]) fun _ _ _ _ _ _ us hl => match us, hl with | [_, _], _ => rfl, F.kp⟩
  · obtain ⟨m, ns, k, n, p, rfl, _⟩ := h
    rfl
  · obtain ⟨m, ns, k, n, p, rfl, hm, hp, hsh, hle, kk⟩ := h
    have hp' : (ivs ns)[k]? = some (.int p) := by
      rw [List.getElem?_map, hp]
      rfl
    obtain ⟨h0, h6, hnum⟩ := shape_nums hsh
    have hn : ([nv 1, nv 3, nv 1, nv 0, nv 0, nv 0, nv 0] : List V)[p.toNat]? = some (nv n) := by
      show (nvs [1, 3, 1, 0, 0, 0, 0])[p.toNat]? = _
      rw [List.getElem?_map, hnum]
      rfl
    refine ⟨_, rfl, _, rfl, m, _, _, _, rfl, rfl, hm, atI_nat hp', ?_⟩
    refine ⟨_, rfl, _, _, rfl, rfl, _, rfl, A.numbersOf, _, _, _, rfl, rfl, T.tNumbersOf H, at_of (j := p.toNat) (by omega) hn, _, _, rfl, rfl, ?_⟩
    refine ⟨_, rfl, _, rfl, _, rfl, _, _, rfl, rfl, _, rfl, _, rfl, _, rfl, m, _, rfl, hm, fun q hq => ?_⟩
    refine ⟨_, rfl, ?_⟩
    intro x dx nx nd ne
    have ec := cut_ints ns (k + 1) n hle (lo := (k : Int) + 1) (hi := (k : Int) + 1 + (n : Int)) (by omega) (by omega)
    refine ⟨x, dx, p, q, (k : Int) + 1 + (n : Int), rfl, upd_same, fun H1 J bt => ⟨rfl, ?_⟩⟩
    have s0 : Same H (upd H q (.lst (cutV (ivs ns) (some ((k : Int) + 1)) (some ((k : Int) + 1 + (n : Int)))))) := same_upd hq
    have s1 := Same.made nx nd bt
    have ee : (k : Int) + 1 + (n : Int) = ((k + 1 + n : Nat) : Int) := by omega
    refine kk H1 x q (s0.trans s1) (Same.free s0 nx) ⟨dx, J.trans ?_⟩ (s1 _ _ (upd_same.trans (by rw [ec])))
    rw [ee]
/-! ### what is raised -/
/-- every way to refuse with these numbers is fine -/
def Raises (A : Ads) (E : XK) (H : Hp) (nums : List Int) : Prop := ∀ (H' : Hp) (d l : Addr), Same H H' → H l = none → H' d = some (.xd [(("some" : Str), .ref l)]) → H' l = some (.lst (ivs nums)) → E (.ref A.cRef) (some d) H'
theorem Raises.same {E : XK} {H H1 : Hp} {nums : List Int} (h : Raises A E H nums) (s : Same H H1) : Raises A E H1 nums := fun H' d l s' n hd hl => h H' d l (s.trans s') (Same.free s n) hd hl
/-! ### refuse_where -/
abbrev RefTxt (K : PySem.W.Frag) (mg : Str → Option Value) (A : Ads) : Prop := PySem.RefX.RefTxt K mg A.cRef A.iRef
def spRefuse (A : Ads) : Sp := fun vs H Q E => ∃ (b : Bool) (z : Int), vs = [.bl b, .int z] ∧ (b = true → Raises A E H [z]) ∧ (b = false → Q .non H)
theorem scRefuse : FnScope ["truth", "code"] ["truth", "code"] (defScope sRefuse) := ⟨rfl, rfl, rfl, by decide +kernel, rfl, by decide +kernel, by decide +kernel⟩
theorem ok_refuse (T : Txt K mg A) (R : RefTxt K mg A) : Good P w K mg base (L2.CX P w) 2 A.refuse ["truth", "code"] (spRefuse A) := by
  obtain ⟨fd, F⟩ := T.aRefuse
  refine ⟨fd, F.okX scRefuse (fun vs H Q E h => ?_) (fun cdv Ar outer s H vs Q E hr h => ⟨_,
      pss_one (ps_if (pt_val (pv 0)) (pss_one (ps_raiseRef rfl R hr (takes_of rfl rfl rfl rfl) (by exact (pa_cons (pe_lst (pa_cons (pv 1) pa_nil)) pa_nil)))) pss_nil), ?_⟩),
    F.binds (ps := ["truth", "code"]) fun _ _ _ _ _ _ us hl => match us, hl with | [_, _], _ => rfl, F.kp⟩
  · obtain ⟨b, z, rfl, _⟩ := h
    rfl
  · obtain ⟨b, z, rfl, kR, kN⟩ := h
    refine ⟨_, rfl, b, rfl, ?_⟩
    cases b with
    | true =>
      refine iteT ⟨_, rfl, (by show 1 ≤ sizeLine; decide), fun l hl => ⟨_, rfl, fun d hd => ?_⟩⟩
      have ld : l ≠ d := ne_of_none upd_same hd
      exact kR rfl _ d l (same_new (same_upd hl) (Same.free (same_upd hl) hd)) hl upd_same ((upd_ne ld).trans upd_same)
    | false =>
      exact iteF (kN rfl)
/-! ### begins -/
def spBegins (A : Ads) : Sp := fun vs H Q E => ∃ (aL a : Addr) (n : Nat), vs = [.ref aL, nv n] ∧ LineAt A H aL a ∧ ((n < 1 ∨ 5 < n) → Raises A E H [-1]) ∧
  (¬ (n < 1 ∨ 5 < n) → ∀ H' p a' l', But aL H H' → LineAt A H' aL a' → CupAt A H' a' l' [] ⟨n, []⟩ → H l' = none → H p = none → H' p = some (.lst (ivs [0])) → Q (.ref p) H')
theorem scBegins : FnScope ["line", "places"] ["line", "places"] (defScope sBegins) := ⟨rfl, rfl, rfl, by decide +kernel, rfl, by decide +kernel, by decide +kernel⟩
theorem ok_begins (T : Txt K mg A) (R : RefTxt K mg A) : Good P w K mg base (L2.CX P w) 3 A.begins ["line", "places"] (spBegins A) := by
  obtain ⟨fd, F⟩ := T.aBegins
  obtain ⟨_, G1, b1, k1⟩ := ok_refuse (P := P) (w := w) (base := base) T R
  obtain ⟨_, G2, b2, _⟩ := ok_iCup (P := P) (w := w) (base := base) T
  obtain ⟨t5, hMP⟩ := T.iMostPlaces
  obtain ⟨tn, hNS⟩ := T.iNotSo
  refine ⟨fd, F.okX scBegins (fun vs H Q E h => ?_) (fun cdv Ar outer s H vs Q E hr h => ⟨_,
      pss_cons (ps_expr (pe_call G1 hr rfl T.gRefuse k1 b1 .nil (passes_call (takes_of rfl rfl rfl rfl) (fun _ _ _ _ h => h)) (by exact (pa_cons (pe_not (pe_chain op_le op_le pe_int (pv 1) (pe_glob rfl hMP (rel_int _ _)))) (pa_cons (pe_glob rfl hNS (rel_int _ _)) pa_nil)))))
      (pss_cons (ps_fld (pv 0) (pe_make T.mCup G2 hr rfl T.gCup b2 .nil pass0 (by exact (pa_cons (pv 1) pa_nil))) rfl)
      (pss_one (ps_ret (pe_lst (pa_cons pe_int pa_nil))))), ?_⟩),
    F.binds (ps := ["line", "places"]) fun _ _ _ _ _ _ us hl => match us, hl with | [_, _], _ => rfl, F.kp⟩
  · obtain ⟨aL, a, n, rfl, _⟩ := h
    rfl
  · obtain ⟨aL, a, n, rfl, ⟨dl, hL⟩, kR, kS⟩ := h
    refine ⟨_, rfl, _, _, rfl, rfl, _, rfl, ?_⟩
    by_cases h1 : 1 ≤ n
    · refine if_true_of (decide_eq_true (by omega)) ?_
      refine ⟨_, _, rfl, rfl, _, rfl, _, _, rfl, fun e => kR ?_, fun e => ?_⟩
      · right
        have e' : decide ((n : Int) ≤ 5) = false := by
          cases q : decide ((n : Int) ≤ 5) with
          | true => rw [q] at e; cases e
          | false => rfl
        have := of_decide_eq_false e'
        omega
      have h5 : n ≤ 5 := by
        have e' : decide ((n : Int) ≤ 5) = true := by
          cases q : decide ((n : Int) ≤ 5) with
          | false => rw [q] at e; cases e
          | true => rfl
        have := of_decide_eq_true e'
        omega
      refine ⟨_, rfl, ?_⟩
      intro x dx nx nd ne
      refine ⟨x, dx, n, rfl, upd_same, fun H1 l J nl bt => ⟨rfl, ?_⟩⟩
      have s1 : Same H H1 := Same.made nx nd bt
      have lx : aL ≠ x := ne_of_none hL nx
      have hl0 : H l = none := by
        cases e : H l with
        | none => rfl
        | some o =>
          rw [upd_ne (ne_of_none e nx), upd_ne (ne_of_none e nd), e] at nl
          cases nl
      have ll : aL ≠ l := ne_of_none hL hl0
      refine ⟨_, rfl, aL, A.cLine, dl, _, rfl, s1 _ _ hL, T.kLine, T.nLine1, (by show 1 < 1000; decide), (by show 1 ≤ sizeLine; decide), fun q hq => ?_⟩
      have hq1 : H1 q = none := by
        cases e : H1 q with
        | none => rfl
        | some o =>
          by_cases z : q = aL
          · rw [z, upd_same] at hq
            cases hq
          · rw [upd_ne z, e] at hq
            cases hq
      have hq0 : H q = none := Same.free s1 hq1
      have lq : aL ≠ q := ne_of_none hL hq0
      refine kS (by omega) _ q x l (fun b o e hb => ?_) ⟨dl, ?_⟩ ⟨?_, ?_, rfl, fun i t e => by simp at e⟩ hl0 hq0 upd_same
      · rw [upd_ne (ne_of_none e hq0), upd_ne hb]
        exact s1 _ _ e
      · rw [upd_ne lq]
        exact upd_same
      · obtain ⟨dz, ez⟩ := J.obj
        refine ⟨dz, ?_⟩
        rw [upd_ne (ne_of_none ez hq1), upd_ne (Ne.symm lx)]
        exact ez
      · rw [upd_ne (ne_of_none J.lst hq1), upd_ne (Ne.symm ll)]
        exact J.lst
    · refine if_false_of (decide_eq_false (by omega)) ?_
      exact ⟨_, rfl, _, _, rfl, fun _ => kR (.inl (by omega)), fun e => by cases e⟩
end
end CK

namespace CK
open PySem PySem.Spec PyProof.Rows L2
open Si89 (Cupboard Thing Best)
section
variable {P : Program} {w : World} {K : PySem.W.Frag} {mg : Str → Option Value} {base : Heap} {A : Ads}
/-! ### new_thing -/
def badThing (x y z : Nat) : Prop := y ≤ x ∨ 365 < y ∨ 1000 < z
def spNewThing (A : Ads) (K : PySem.W.Frag) : Sp := fun vs H Q E => ∃ (a l m : Addr) (ts : List Addr) (c : Cupboard) (x y z : Nat), vs = [.ref a, .ref m] ∧ CupAt A H a l ts c ∧ c.count ≤ 9 ∧ SqL K H m [nv x, nv y, nv z] ∧
  (badThing x y z → Raises A E H [-1]) ∧ (¬ badThing x y z → c.count = 9 → Raises A E H [-5]) ∧
  (¬ badThing x y z → c.count ≠ 9 → ∀ H' p t, But l H H' → CupAt A H' a l (ts ++ [t]) { c with things := c.things ++ [⟨x, y, z⟩] } → H p = none → H' p = some (.lst (ivs [(c.count : Int)])) → Q (.ref p) H')
theorem scNewThing : FnScope ["cupboard", "numbers", "comes", "asked_for", "worth"] ["cupboard", "numbers"] (defScope sNewThing) := ⟨rfl, rfl, rfl, by decide +kernel, rfl, by decide +kernel, by decide +kernel⟩
theorem thing_old {c : Cupboard} {t : Thing} {i : Nat} (h : i < c.count) : ({ c with things := c.things ++ [t] } : Cupboard).thing i = c.thing i := by
  have h' : i < c.things.length := h
  unfold Cupboard.thing
  rw [List.getD_eq_getElem?_getD, List.getD_eq_getElem?_getD, List.getElem?_append_left h']
theorem thing_new {c : Cupboard} {t : Thing} : ({ c with things := c.things ++ [t] } : Cupboard).thing c.count = t := by
  unfold Cupboard.thing Cupboard.count
  rw [List.getD_eq_getElem?_getD, List.getElem?_append_right (Nat.le_refl _), Nat.sub_self]
  rfl
theorem ok_newThing (T : Txt K mg A) (R : RefTxt K mg A) : Good P w K mg base (L2.CX P w) 3 A.newThing ["cupboard", "numbers"] (spNewThing A K) := by
  obtain ⟨fd, F⟩ := T.aNewThing
  obtain ⟨_, G1, b1, k1⟩ := ok_refuse (P := P) (w := w) (base := base) T R
  obtain ⟨_, G2, b2, _⟩ := ok_iThing (P := P) (w := w) (base := base) T
  obtain ⟨t1, h365⟩ := T.iLastDay
  obtain ⟨t2, h1000⟩ := T.iMostWorth
  obtain ⟨t3, hNS⟩ := T.iNotSo
  obtain ⟨t4, h99⟩ := T.iMostThings
  obtain ⟨t5, hFU⟩ := T.iFull
  refine ⟨fd, F.okX scNewThing (fun vs H Q E h => ?_) (fun cdv Ar outer s H vs Q E hr h => ⟨_,
      pss_cons (ps_asg (pv 1) (pg_lst rfl (pgs_cons (pg_name (i := 2) scNewThing.nd rfl (Or.inl rfl)) (pgs_cons (pg_name (i := 3) scNewThing.nd rfl (Or.inl rfl)) (pgs_cons (pg_name (i := 4) scNewThing.nd rfl (Or.inl rfl)) pgs_nil)))))
      (pss_cons (ps_expr (pe_call G1 hr rfl T.gRefuse k1 b1 .nil (passes_call (takes_of rfl rfl rfl rfl) (fun _ _ _ _ h => h)) (by exact (pa_cons
          (pe_or (pe_cmpR op_le (pv 3) (pv 2) (nomark _)) (pe_or (pe_cmpR op_gt (pv 3) (pe_glob rfl h365 (rel_int _ _)) (nomark _)) (pe_one (pe_cmpR op_gt (pv 4) (pe_glob rfl h1000 (rel_int _ _)) (nomark _)))))
          (pa_cons (pe_glob rfl hNS (rel_int _ _)) pa_nil)))))
      (pss_cons (ps_expr (pe_call G1 hr rfl T.gRefuse k1 b1 .nil (passes_call (takes_of rfl rfl rfl rfl) (fun _ _ _ _ h => h)) (by exact (pa_cons
          (pe_cmpR op_eq (pe_callB call_len_seq (by rfl) T.zLen PySem.boot_len (by exact (pa_cons (pe_fld (pv 0) rfl) pa_nil))) (pe_glob rfl h99 (rel_int _ _)) (nomark _))
          (pa_cons (pe_glob rfl hFU (rel_int _ _)) pa_nil)))))
      (pss_cons (ps_expr (pe_bm PySem.F.plainAttrs_list PySem.F.slot_list_append PySem.F.type_list_append mt_append (pe_fld (pv 0) rfl) (by exact (pa_cons (pe_make T.mThing G2 hr rfl T.gThing b2 .nil pass0 (by exact (pa_cons (pv 2) (pa_cons (pv 3) (pa_cons (pv 4) pa_nil))))) pa_nil))))
      (pss_one (ps_ret (pe_lst (pa_cons (pe_op op_sub (pe_callB call_len_seq (by rfl) T.zLen PySem.boot_len (by exact (pa_cons (pe_fld (pv 0) rfl) pa_nil))) pe_int) pa_nil))))))), ?_⟩),
    F.binds (ps := ["cupboard", "numbers"]) fun _ _ _ _ _ _ us hl => match us, hl with | [_, _], _ => rfl, F.kp⟩
  · obtain ⟨a, l, m, ts, c, x, y, z, rfl, _⟩ := h
    rfl
  · obtain ⟨a, l, m, ts, c, x, y, z, rfl, hc, h9, hm, kB, kF, kS⟩ := h
    obtain ⟨dx, h1⟩ := hc.obj
    have e1 : (rfs ts).length = c.count := by rw [List.length_map]; exact hc.len
    refine ⟨_, rfl, m, _, rfl, hm, rfl, _, _, rfl, _, _, rfl, _, _, rfl, rfl, ?_⟩
    -- the truth of the first refusal, whatever way it is found
    refine ⟨_, rfl, _, rfl, _, _, rfl, rfl, _, rfl, ?_⟩
    by_cases q1 : y ≤ x
    · refine if_true_of (decide_eq_true (Int.ofNat_le.mpr q1)) ?_
      exact ⟨_, _, rfl, fun _ => kB (.inl q1), fun e => by cases e⟩
    refine if_false_of (decide_eq_false (fun z => q1 (Int.ofNat_le.mp z))) ?_
    refine ⟨_, rfl, _, _, rfl, rfl, _, rfl, ?_⟩
    by_cases q2 : 365 < y
    · refine if_true_of (decide_eq_true (by omega)) ?_
      exact ⟨_, _, rfl, fun _ => kB (.inr (.inl q2)), fun e => by cases e⟩
    refine if_false_of (decide_eq_false (by omega)) ?_
    refine ⟨_, rfl, _, _, rfl, rfl, ?_⟩
    refine ⟨_, _, rfl, fun e => kB (.inr (.inr ?_)), fun e => ?_⟩
    · have := of_decide_eq_true e
      omega
    have q3 : ¬ 1000 < z := by
      have := of_decide_eq_false e
      omega
    have qn : ¬ badThing x y z := fun h => by
      rcases h with h | h | h
      · exact q1 h
      · exact q2 h
      · exact q3 h
    -- full?
    refine ⟨_, rfl, a, A.cCup, dx, _, _, rfl, h1, T.kCup, T.nCup2, f2_2 (by decide +kernel), l, rfs ts, rfl, .inl (SqL.of hc.lst), ?_⟩
    rw [e1]
    refine ⟨rfl, _, _, rfl, fun e => kF qn ?_, fun e => ?_⟩
    · have := of_decide_eq_true e
      have := V.int.inj this
      omega
    have q9 : c.count ≠ 9 := fun h => by
      have := of_decide_eq_false e
      rw [h] at this
      exact this rfl
    -- the list of things grows
    refine ⟨_, rfl, a, A.cCup, dx, _, _, rfl, h1, T.kCup, T.nCup2, f2_2 (by decide +kernel), .inl ⟨rfl, _, SqL.of hc.lst⟩, _, rfl, _, rfl, _, rfl, ?_⟩
    intro t dt nt nd ne
    refine ⟨t, dt, (x : Int), (y : Int), (z : Int), rfl, upd_same, fun H1 J bt => ⟨rfl, ?_⟩⟩
    have s1 : Same H H1 := Same.made nt nd bt
    refine ⟨l, rfs ts, .ref t, rfl, rfl, s1 _ _ hc.lst, size_small (by omega), ?_⟩
    have hrt : rfs ts ++ [V.ref t] = rfs (ts ++ [t]) := by
      unfold rfs
      rw [List.map_append]
      rfl
    rw [hrt]
    have ins : ∀ (C b : Addr) (fs : List (Str × V)), InsAt C H1 b fs → InsAt C (upd H1 l (.lst (rfs (ts ++ [t])))) b fs := fun C b fs ⟨dy, e⟩ => ⟨dy, by
      rw [upd_ne]
      · exact e
      · intro eb
        rw [eb, s1 _ _ hc.lst] at e
        cases e⟩
    have hc2 : CupAt A (upd H1 l (.lst (rfs (ts ++ [t])))) a l (ts ++ [t]) { c with things := c.things ++ [⟨x, y, z⟩] } := by
      refine ⟨ins _ _ _ (hc.obj.same s1), upd_same, ?_, fun i u e => ?_⟩
      · rw [List.length_append, hc.len]
        unfold Cupboard.count
        rw [List.length_append]
        rfl
      · rcases Nat.lt_or_ge i ts.length with h | h
        · rw [List.getElem?_append_left h] at e
          rw [thing_old (by rw [← hc.len]; exact h)]
          exact ins _ _ _ ((hc.things i u e).same s1)
        · have ei : i = ts.length := by
            have := lt_of_at e
            rw [List.length_append] at this
            simp at this
            omega
          subst ei
          rw [List.getElem?_append_right (Nat.le_refl _), Nat.sub_self] at e
          obtain rfl : t = u := Option.some.inj e
          rw [hc.len, thing_new]
          exact ins _ _ _ ⟨dt, J⟩
    have bt2 : But l H (upd H1 l (.lst (rfs (ts ++ [t])))) := fun b o e hb => by
      rw [upd_ne hb]
      exact s1 _ _ e
    generalize upd H1 l (.lst (rfs (ts ++ [t]))) = H2 at hc2 bt2
    obtain ⟨dx2, h12⟩ := hc2.obj
    refine ⟨_, rfl, a, A.cCup, dx2, _, _, rfl, h12, T.kCup, T.nCup2, f2_2 (by decide +kernel), l, rfs (ts ++ [t]), rfl, .inl (SqL.of hc2.lst), _, _, rfl, rfl, (by show 1 ≤ sizeLine; decide), fun p hp => ?_⟩
    have hp0 : H p = none := by
      cases e : H p with
      | none => rfl
      | some o =>
        by_cases z : p = l
        · rw [z, hc2.lst] at hp
          cases hp
        · rw [bt2 _ _ e z] at hp
          cases hp
    refine kS qn q9 _ p t (fun b o e hb => ?_) (hc2.same (same_upd hp)) hp0 (upd_same.trans ?_)
    · rw [upd_ne (ne_of_none e hp0)]
      exact bt2 _ _ e hb
    · have e5 : (((rfs (ts ++ [t])).length : Nat) : Int) - 1 = (c.count : Int) := by
        rw [List.length_map, List.length_append, hc.len]
        show ((c.count + 1 : Nat) : Int) - 1 = _
        omega
      show some (HO.lst [V.int ((((rfs (ts ++ [t])).length : Nat) : Int) - 1)]) = _
      rw [e5]
      rfl
/-! ### check -/
def spCheck (A : Ads) : Sp := fun vs H Q E => ∃ (a l : Addr) (ts : List Addr) (c : Cupboard) (s : Nat), vs = [.ref a, nv s] ∧ CupAt A H a l ts c ∧ c.count ≤ 9 ∧
  (2 ^ c.count ≤ s → Raises A E H [-1]) ∧ (¬ 2 ^ c.count ≤ s → ∀ d, c.full s = some d → Raises A E H [-6, (d : Int), ((c.taken s d : Nat) : Int)]) ∧
  (¬ 2 ^ c.count ≤ s → c.full s = none → ∀ H' p, Same H H' → H p = none → H' p = some (.lst (ivs [((c.worth s : Nat) : Int), ((c.size s : Nat) : Int)])) → Q (.ref p) H')
theorem scCheck : FnScope ["cupboard", "number", "crowd"] ["cupboard", "number"] (defScope sCheck) := ⟨rfl, rfl, rfl, by decide +kernel, rfl, by decide +kernel, by decide +kernel⟩
theorem shr_pos (s n : Nat) : (0 : Int) < (s : Int) / 2 ^ ((n : Int).toNat) ↔ 2 ^ n ≤ s := by
  have e : (s : Int) / 2 ^ ((n : Int).toNat) = ((s / 2 ^ n : Nat) : Int) := by
    rw [Int.toNat_natCast]
    simp
  rw [e]
  have h : 0 < s / 2 ^ n ↔ 2 ^ n ≤ s := by
    rw [Nat.div_pos_iff]
    exact ⟨fun h => h.2, fun h => ⟨Nat.pow_pos (by decide), h⟩⟩
  rw [← h]
  omega
theorem ok_check (T : Txt K mg A) (R : RefTxt K mg A) : Good P w K mg base (L2.CX P w) 5 A.check ["cupboard", "number"] (spCheck A) := by
  obtain ⟨fd, F⟩ := T.aCheck
  obtain ⟨_, G1, b1, k1⟩ := ok_refuse (P := P) (w := w) (base := base) T R
  obtain ⟨_, G2, b2, _⟩ := ok_tooMany (P := P) (w := w) (base := base) T
  obtain ⟨_, G3, b3, _⟩ := ok_worthOf (P := P) (w := w) (base := base) T
  obtain ⟨_, G4, b4, _⟩ := ok_thingsOf (P := P) (w := w) (base := base) T
  obtain ⟨t3, hNS⟩ := T.iNotSo
  obtain ⟨t4, hTM⟩ := T.iTooMany
  refine ⟨fd, F.okX scCheck (fun vs H Q E h => ?_) (fun cdv Ar outer s H vs Q E hr h => ⟨_,
      pss_cons (ps_expr (pe_call G1 (hr.mono (by decide)) rfl T.gRefuse k1 b1 .nil (passes_call (takes_of rfl rfl rfl rfl) (fun _ _ _ _ h => h)) (by exact (pa_cons
          (pe_cmpR op_gt (pe_op op_shr (pv 1) (pe_callB call_len_seq (by rfl) T.zLen PySem.boot_len (by exact (pa_cons (pe_fld (pv 0) rfl) pa_nil)))) pe_int (nomark _))
          (pa_cons (pe_glob rfl hNS (rel_int _ _)) pa_nil)))))
      (pss_cons (ps_set (i := 2) scCheck.nd rfl (Or.inl rfl) (pe_meth (pv 0) T.kCup T.meTooMany G2 hr b2 .nil pass0 (pa_cons (pv 1) pa_nil)))
      (pss_cons (ps_if (pt_cmpR op_notN (pv 2) pe_non (nomark _))
          (pss_one (ps_raiseRef rfl R hr (takes_of rfl rfl rfl rfl) (by exact (pa_cons (pe_lst (pa_cons (pe_glob rfl hTM (rel_int _ _)) (pa_cons (pe_fld (pv 2) rfl) (pa_cons (pe_fld (pv 2) rfl) pa_nil)))) pa_nil)))) pss_nil)
      (pss_one (ps_ret (pe_lst (pa_cons (pe_meth (pv 0) T.kCup T.meWorthOf G3 (hr.mono (by decide)) b3 .nil pass0 (pa_cons (pv 1) pa_nil))
          (pa_cons (pe_callB call_len_seq (by rfl) T.zLen PySem.boot_len (by exact (pa_cons (pe_meth (pv 0) T.kCup T.meThingsOf G4 (hr.mono (by decide)) b4 .nil pass0 (pa_cons (pv 1) pa_nil)) pa_nil))) pa_nil))))))), ?_⟩),
    F.binds (ps := ["cupboard", "number"]) fun _ _ _ _ _ _ us hl => match us, hl with | [_, _], _ => rfl, F.kp⟩
  · obtain ⟨a, l, ts, c, n, rfl, _⟩ := h
    rfl
  · obtain ⟨a, l, ts, c, n, rfl, hc, h9, kB, kF, kS⟩ := h
    obtain ⟨dx, h1⟩ := hc.obj
    have e1 : (rfs ts).length = c.count := by rw [List.length_map]; exact hc.len
    refine ⟨_, rfl, _, rfl, a, A.cCup, dx, _, _, rfl, h1, T.kCup, T.nCup2, f2_2 (by decide +kernel), l, rfs ts, rfl, .inl (SqL.of hc.lst), _, _, rfl, rfl, Int.natCast_nonneg _, _, _, rfl, rfl, ?_⟩
    rw [e1]
    refine ⟨_, _, rfl, fun e => kB ((shr_pos n c.count).mp (of_decide_eq_true e)), fun e => ?_⟩
    have qs : ¬ 2 ^ c.count ≤ n := fun h => of_decide_eq_false e ((shr_pos n c.count).mpr h)
    refine ⟨_, rfl, a, dx, _, rfl, h1, f2_0 (by decide +kernel) (by decide +kernel), _, rfl, a, l, ts, c, n, rfl, hc, h9, fun hn H1 s1 => ?_, fun d hd H1 t s1 ⟨dt, ht⟩ => ?_⟩
    · refine ⟨_, rfl, rfl, false, rfl, iteF ?_⟩
      have hc1 := hc.same s1
      obtain ⟨dx1, h11⟩ := hc1.obj
      refine ⟨_, rfl, a, dx1, _, rfl, h11, f2_0 (by decide +kernel) (by decide +kernel), _, rfl, a, l, ts, c, n, rfl, hc1, h9, fun H2 s2 => ?_⟩
      have hc2 := hc1.same s2
      obtain ⟨dx2, h12⟩ := hc2.obj
      refine ⟨_, rfl, a, dx2, _, rfl, h12, f2_0 (by decide +kernel) (by decide +kernel), _, rfl, a, l, ts, c, n, rfl, hc2, h9, fun H3 q s3 nq hq => ?_⟩
      refine ⟨q, _, rfl, .inl (SqL.of hq), (by show 2 ≤ sizeLine; decide), fun p hp => ?_⟩
      have s4 := s1.trans (s2.trans s3)
      have e5 : (nvs (c.members n)).length = c.size n := List.length_map _
      refine kS qs hn _ p (same_new s4 (Same.free s4 hp)) (Same.free s4 hp) (upd_same.trans ?_)
      rw [e5]
      rfl
    · refine ⟨_, rfl, rfl, true, rfl, iteT ?_⟩
      refine ⟨_, rfl, t, A.cCrowd, dt, _, _, rfl, ht, T.kCrowd, T.nCrowd1, f2_1, ?_⟩
      refine ⟨_, rfl, t, A.cCrowd, dt, _, _, rfl, ht, T.kCrowd, T.nCrowd2, f2_2 (by decide +kernel), (by show 3 ≤ sizeLine; decide), fun p hp => ⟨_, rfl, fun d2 hd2 => ?_⟩⟩
      have s2 : Same H (upd H1 p (.lst [V.int (-6), nv d, nv (c.taken n d)])) := same_new s1 (Same.free s1 hp)
      have pd : p ≠ d2 := ne_of_none upd_same hd2
      exact kF qs d hd _ d2 p (same_new s2 (Same.free s2 hd2)) (Same.free s1 hp) upd_same ((upd_ne pd).trans upd_same)
/-! ### plain -/
def spPlain (A : Ads) : Sp := fun vs H Q _ => ∃ (a l : Addr) (ts : List Addr) (c : Cupboard), vs = [.ref a] ∧ CupAt A H a l ts c ∧ c.count ≤ 9 ∧
  ∀ H' p, Same H H' → H p = none → H' p = some (.lst (ivs [((c.size c.plain : Nat) : Int), ((c.worth c.plain : Nat) : Int), ((c.plain : Nat) : Int)])) → Q (.ref p) H'
theorem scPlain : FnScope ["cupboard", "kept", "number", "at"] ["cupboard"] (defScope sPlain) := ⟨rfl, rfl, rfl, by decide +kernel, rfl, by decide +kernel, by decide +kernel⟩
theorem ok_plain (T : Txt K mg A) : Good P w K mg base CX0 5 A.plain ["cupboard"] (spPlain A) := by
  obtain ⟨fd, F⟩ := T.aPlain
  obtain ⟨_, G1, b1, _⟩ := ok_asTheyCome (P := P) (w := w) (base := base) T
  obtain ⟨_, G2, b2, _⟩ := ok_worthOf (P := P) (w := w) (base := base) T
  refine ⟨fd, F.ok scPlain (fun vs H Q E h => ?_) (fun cdv Ar outer s H vs Q E hr h => ⟨_,
      pss_cons (ps_set (i := 1) scPlain.nd rfl (Or.inl rfl) (pe_meth0 (pv 0) T.kCup T.meAsTheyCome G1 hr b1 .nil pass0))
      (pss_cons (ps_set (i := 2) scPlain.nd rfl (Or.inl rfl) (pe_callB (cr_sum rfl) (by rfl) T.zSum (by decide +kernel) (by exact (pa_cons
        (pe_lc (own := [("at", 3)]) (g := gName 3) (tt := tYes) rfl scPlain.nd (pi_list (pv 1))
          (blkOk_by (N := ["cupboard", "kept", "number", "at"]) (sc := defScope sPlain) (by decide +kernel)) (fun _ _ _ _ _ => pg_name (i := 3) scPlain.nd rfl (Or.inl rfl))
          (fun _ _ _ _ _ => pts_nil) (fun _ _ _ _ _ => pe_op op_shl pe_int (pv 3))) pa_nil))))
      (pss_one (ps_ret (pe_lst (pa_cons (pe_callB call_len_seq (by rfl) T.zLen PySem.boot_len (by exact (pa_cons (pv 1) pa_nil))) (pa_cons (pe_meth (pv 0) T.kCup T.meWorthOf G2 (hr.mono (by decide)) b2 .nil pass0 (pa_cons (pv 2) pa_nil)) (pa_cons (pv 2) pa_nil))))))), ?_⟩),
    F.binds (ps := ["cupboard"]) fun _ _ _ _ _ _ us hl => match us, hl with | [_], _ => rfl, F.kp⟩
  · obtain ⟨a, l, ts, c, rfl, _⟩ := h
    rfl
  · obtain ⟨a, l, ts, c, rfl, hc, h9, k⟩ := h
    obtain ⟨dx, h1⟩ := hc.obj
    refine ⟨_, rfl, a, dx, _, rfl, h1, f2_0 (by decide +kernel) (by decide +kernel), a, l, ts, c, rfl, hc, h9, fun H1 p s1 h2 => ?_⟩
    refine ⟨_, rfl, p, rfl, ⟨_, SqL.of h2⟩, fun D hD => ?_⟩
    have hkl : (kept c).length ≤ c.count := by
      have := (kept_sub c).length_le
      rw [(line_perm c).length_eq, List.length_range] at this
      exact this
    refine lc_list (K := K) (a := p) (xs := nvs (kept c)) (fun i H' => Same H1 H' ∧ H' D = some (.lst (nvs (((kept c).take i).map fun j => 2 ^ j))))
      ⟨same_upd hD, upd_same⟩ (fun i H' _ ⟨s2, _⟩ => SqL.of (s2 _ _ h2)) (fun i x H' hi ⟨s2, h3⟩ => ?_) fun H2 ⟨s2, h3⟩ => ?_
    · obtain ⟨j, hj, rfl⟩ := nvs_at hi
      have hjc := kept_lt (List.mem_of_getElem? hj)
      refine ⟨rfl, _, rfl, _, _, rfl, rfl, ⟨Int.natCast_nonneg _, by omega, by decide⟩, _, h3, ?_, same_new s2 hD, ?_⟩
      · refine size_small ?_
        rw [List.length_map, List.length_map, List.length_take]
        omega
      · have e2 : (1 : Int) * 2 ^ ((j : Int).toNat) = ((2 ^ j : Nat) : Int) := by
          rw [Int.toNat_natCast, Int.one_mul]
          simp
        rw [upd_same, take_more hj]
        show some (HO.lst (nvs _ ++ [V.int ((1 : Int) * 2 ^ ((j : Int).toNat))])) = _
        rw [e2]
        unfold nvs
        rw [List.map_append, List.map_append]
        rfl
    · have e : (nvs (kept c)).length = (kept c).length := List.length_map _
      rw [e, List.take_length, nvs_ints] at h3
      refine ⟨D, _, rfl, SqL.of h3, ?_⟩
      rw [sum_cast, ← plain_def]
      have hc2 := (hc.same s1).same s2
      obtain ⟨dx2, h12⟩ := hc2.obj
      refine ⟨_, rfl, p, _, rfl, .inl (SqL.of (s2 _ _ h2)), ?_⟩
      rw [e, ← size_plain]
      refine ⟨_, rfl, a, dx2, _, rfl, h12, f2_0 (by decide +kernel) (by decide +kernel), _, rfl, a, l, ts, c, c.plain, rfl, hc2, h9, fun H3 s3 => ?_⟩
      refine ⟨_, rfl, (by show 3 ≤ sizeLine; decide), fun q hq => ?_⟩
      have s4 := s1.trans (s2.trans s3)
      exact k _ q (same_new s4 (Same.free s4 hq)) (Same.free s4 hq) upd_same
end
end CK

namespace CK
open PySem PySem.Spec PyProof.Rows L2
open Si89 (Cupboard Thing Best)
/-! ### what each call is due -/
theorem st_begins_bad {c : Cupboard} {n : Nat} (h : n < 1 ∨ 5 < n) : Si89Neutral.step c [[0, (n : Int)]] = (c, [-1]) := by
  rw [step_begins]
  have e : Si89.step c (.begins ((n : Int).toNat)) = (c, Si89.ok (-1)) := by
    show (if n < 1 ∨ 5 < n then (c, Si89.ok (-1)) else _) = _
    rw [if_pos h]
  rw [e]
  rfl
theorem st_begins_ok {c : Cupboard} {n : Nat} (h : ¬ (n < 1 ∨ 5 < n)) : Si89Neutral.step c [[0, (n : Int)]] = (⟨n, []⟩, [0]) := by
  rw [step_begins]
  have e : Si89.step c (.begins ((n : Int).toNat)) = (⟨n, []⟩, Si89.ok 0) := by
    show (if n < 1 ∨ 5 < n then (c, Si89.ok (-1)) else ((⟨n, []⟩ : Cupboard), Si89.ok 0)) = _
    rw [if_neg h]
  rw [e]
  rfl
theorem st_thing_bad {c : Cupboard} {x y z : Nat} (h : badThing x y z) : Si89Neutral.step c [[1, (x : Int), (y : Int), (z : Int)]] = (c, [-1]) := by
  rw [step_thing]
  have e : Si89.step c (.thing ⟨(x : Int).toNat, (y : Int).toNat, (z : Int).toNat⟩) = (c, Si89.ok (-1)) := by
    show (if y ≤ x ∨ 365 < y ∨ 1000 < z then (c, Si89.ok (-1)) else _) = _
    rw [if_pos (show y ≤ x ∨ 365 < y ∨ 1000 < z from h)]
  rw [e]
  rfl
theorem st_thing_full {c : Cupboard} {x y z : Nat} (h : ¬ badThing x y z) (h9 : c.count = 9) : Si89Neutral.step c [[1, (x : Int), (y : Int), (z : Int)]] = (c, [-5]) := by
  rw [step_thing]
  have e : Si89.step c (.thing ⟨(x : Int).toNat, (y : Int).toNat, (z : Int).toNat⟩) = (c, Si89.ok (-5)) := by
    show (if y ≤ x ∨ 365 < y ∨ 1000 < z then (c, Si89.ok (-1)) else if 9 ≤ c.count then (c, Si89.ok (-5)) else _) = _
    rw [if_neg (show ¬ (y ≤ x ∨ 365 < y ∨ 1000 < z) from h), if_pos (by omega)]
  rw [e]
  rfl
theorem st_thing_ok {c : Cupboard} {x y z : Nat} (h : ¬ badThing x y z) (h9 : c.count ≤ 9) (n9 : c.count ≠ 9) : Si89Neutral.step c [[1, (x : Int), (y : Int), (z : Int)]] = ({ c with things := c.things ++ [⟨x, y, z⟩] }, [(c.count : Int)]) := by
  rw [step_thing]
  have e : Si89.step c (.thing ⟨(x : Int).toNat, (y : Int).toNat, (z : Int).toNat⟩) = ({ c with things := c.things ++ [⟨x, y, z⟩] }, Si89.ok (c.count : Int)) := by
    show (if y ≤ x ∨ 365 < y ∨ 1000 < z then (c, Si89.ok (-1)) else if 9 ≤ c.count then (c, Si89.ok (-5)) else (({ c with things := c.things ++ [⟨x, y, z⟩] } : Cupboard), Si89.ok (c.count : Int))) = _
    rw [if_neg (show ¬ (y ≤ x ∨ 365 < y ∨ 1000 < z) from h), if_neg (by omega)]
  rw [e]
  rfl
theorem st_check_bad {c : Cupboard} {n : Nat} (h : 2 ^ c.count ≤ n) : Si89Neutral.step c [[2, (n : Int)]] = (c, [-1]) := by
  rw [step_check]
  have e : Si89.step c (.check ((n : Int).toNat)) = (c, Si89.ok (-1)) := by
    show (if 2 ^ c.count ≤ n then (c, Si89.ok (-1)) else _) = _
    rw [if_pos h]
  rw [e]
  rfl
theorem st_check_full {c : Cupboard} {n d : Nat} (h : ¬ 2 ^ c.count ≤ n) (hd : c.full n = some d) : Si89Neutral.step c [[2, (n : Int)]] = (c, [-6, (d : Int), ((c.taken n d : Nat) : Int)]) := by
  rw [step_check]
  have e : Si89.step c (.check ((n : Int).toNat)) = (c, ⟨-6, Si89.ints [d, c.taken n d]⟩) := by
    show (if 2 ^ c.count ≤ n then (c, Si89.ok (-1)) else (c, match c.full n with | some d => (⟨-6, Si89.ints [d, c.taken n d]⟩ : Si89.Ans) | none => ⟨((c.worth n : Nat) : Int), Si89.ints [c.size n]⟩)) = _
    rw [if_neg h, hd]
  rw [e]
  rfl
theorem st_check_ok {c : Cupboard} {n : Nat} (h : ¬ 2 ^ c.count ≤ n) (hd : c.full n = none) : Si89Neutral.step c [[2, (n : Int)]] = (c, [((c.worth n : Nat) : Int), ((c.size n : Nat) : Int)]) := by
  rw [step_check]
  have e : Si89.step c (.check ((n : Int).toNat)) = (c, ⟨((c.worth n : Nat) : Int), Si89.ints [c.size n]⟩) := by
    show (if 2 ^ c.count ≤ n then (c, Si89.ok (-1)) else (c, match c.full n with | some d => (⟨-6, Si89.ints [d, c.taken n d]⟩ : Si89.Ans) | none => ⟨((c.worth n : Nat) : Int), Si89.ints [c.size n]⟩)) = _
    rw [if_neg h, hd]
  rw [e]
  rfl
abbrev four (x : Best) : List Int := [((x.first : Nat) : Int), ((x.second : Nat) : Int), ((x.many : Nat) : Int), ((x.set_ : Nat) : Int)]
theorem st_best {c : Cupboard} {x : Best} (h : c.bestBy c.worth c.size = some x) : Si89Neutral.step c [[3]] = (c, four x) := by
  rw [step_best, show c.best = some x from h]
  rfl
theorem st_most {c : Cupboard} {x : Best} (h : c.bestBy c.size c.worth = some x) : Si89Neutral.step c [[4]] = (c, four x) := by
  rw [step_most, show c.most = some x from h]
  rfl
theorem st_count {c : Cupboard} {p : Int} {xs : List Int} (h9 : c.count ≤ 9) (hk : Kind p xs) (h0 : ∀ x ∈ xs, 0 ≤ x) : (Si89Neutral.step c [p :: xs]).1.count ≤ 9 := by
  cases hk with
  | begins a =>
    obtain ⟨n, rfl⟩ := Int.eq_ofNat_of_zero_le (h0 a (by simp))
    by_cases q : n < 1 ∨ 5 < n
    · rw [st_begins_bad q]; exact h9
    · rw [st_begins_ok q]; exact Nat.zero_le _
  | thing a b d =>
    obtain ⟨x, rfl⟩ := Int.eq_ofNat_of_zero_le (h0 a (by simp))
    obtain ⟨y, rfl⟩ := Int.eq_ofNat_of_zero_le (h0 b (by simp))
    obtain ⟨z, rfl⟩ := Int.eq_ofNat_of_zero_le (h0 d (by simp))
    by_cases q : badThing x y z
    · rw [st_thing_bad q]; exact h9
    · by_cases q9 : c.count = 9
      · rw [st_thing_full q q9]; exact h9
      · rw [st_thing_ok q h9 q9]
        show (c.things ++ [_]).length ≤ 9
        rw [List.length_append]
        show c.count + 1 ≤ 9
        omega
  | check s =>
    rw [step_check]
    show (if _ then _ else _ : Cupboard × Si89.Ans).1.count ≤ 9
    split <;> exact h9
  | best => exact h9
  | most => exact h9
  | plain => exact h9
  | enough => exact h9
section
variable {P : Program} {w : World} {K : PySem.W.Frag} {mg : Str → Option Value} {base : Heap} {A : Ads}
/-! ### told -/
/-- behind a call: the line's cupboard is c'; what else stood stands -/
def Ends (A : Ads) (H H' : Hp) (aL l : Addr) (c' : Cupboard) : Prop := ∃ (a' l' : Addr) (ts' : List Addr), LineAt A H' aL a' ∧ CupAt A H' a' l' ts' c' ∧ (l' = l ∨ H l' = none) ∧ ∀ b o, H b = some o → b ≠ aL → b ≠ l → H' b = some o
theorem Ends.same {H H' : Hp} {aL a l : Addr} {ts : List Addr} {c : Cupboard} (hL : LineAt A H aL a) (hc : CupAt A H a l ts c) (s : Same H H') : Ends A H H' aL l c := ⟨a, l, ts, hL.same s, hc.same s, .inl rfl, fun b o e _ _ => s b o e⟩
def spTold (A : Ads) : Sp := fun vs H Q E => ∃ (aL a l aK m : Addr) (ts : List Addr) (c : Cupboard) (p : Int) (xs : List Int) (e : Int), vs = [.ref aL, .ref aK] ∧ LineAt A H aL a ∧ CupAt A H a l ts c ∧ c.count ≤ 9 ∧ InsAt A.cCall H aK (caF p m e) ∧ H m = some (.lst (ivs xs)) ∧ Kind p xs ∧ (∀ x ∈ xs, 0 ≤ x) ∧
  (∀ nums, Si89Neutral.step c [p :: xs] = (c, nums) → Raises A E H nums) ∧ (∀ H' q, Ends A H H' aL l (Si89Neutral.step c [p :: xs]).1 → H q = none → H' q = some (.lst (ivs (Si89Neutral.step c [p :: xs]).2)) → Q (.ref q) H')
theorem scTold : FnScope ["line", "call", "cupboard"] ["line", "call"] (defScope sTold) := ⟨rfl, rfl, rfl, by decide +kernel, rfl, by decide +kernel, by decide +kernel⟩
theorem kind_ne {i j : Int} (h : ¬ i = j) : decide (V.int i = V.int j) = false := decide_eq_false fun e => h (V.int.inj e)
theorem kind_eq {i : Int} : decide (V.int i = V.int i) = true := decide_eq_true rfl
theorem ok_told (T : Txt K mg A) (R : RefTxt K mg A) : Good P w K mg base (L2.CX P w) 7 A.told ["line", "call"] (spTold A) := by
  obtain ⟨fd, F⟩ := T.aTold
  obtain ⟨_, G1, b1, k1⟩ := ok_begins (P := P) (w := w) (base := base) T R
  obtain ⟨_, G2, b2, k2⟩ := ok_newThing (P := P) (w := w) (base := base) T R
  obtain ⟨_, G3, b3, k3⟩ := ok_check (P := P) (w := w) (base := base) T R
  obtain ⟨_, G4, b4, k4⟩ := ok_chosen (P := P) (w := w) (base := base) T
  obtain ⟨_, G5, b5, k5⟩ := ok_toldC (P := P) (w := w) (base := base) T
  obtain ⟨_, G6, b6, k6⟩ := ok_plain (P := P) (w := w) (base := base) T
  obtain ⟨_, G7, b7, k7⟩ := ok_enough (P := P) (w := w) (base := base) T
  obtain ⟨t0, h0⟩ := T.iBegins
  obtain ⟨t1, h1⟩ := T.iThing_
  obtain ⟨t2, h2⟩ := T.iCheck
  obtain ⟨t3, h3⟩ := T.iBest
  obtain ⟨t4, h4⟩ := T.iMost
  obtain ⟨t5, h5⟩ := T.iPlain
  refine ⟨fd, F.okX scTold (fun vs H Q E h => ?_) (fun cdv Ar outer s H vs Q E hr h => ⟨_,
      pss_cons (ps_set (i := 2) scTold.nd rfl (Or.inl rfl) (pe_fld (pv 0) rfl))
      (pss_cons (ps_if (pt_cmpR op_eq (pe_fld (pv 1) rfl) (pe_glob rfl h0 (rel_int _ _)) (nomark _))
          (pss_one (ps_ret (pe_call G1 (hr.mono (by decide)) rfl T.gBegins k1 b1 .nil (passes_call (takes_of rfl rfl rfl rfl) (fun _ _ _ _ h => h)) (by exact (pa_cons (pv 0) (pa_cons (pe_ix ix_list (pe_fld (pv 1) rfl) pe_int (fun _ _ => rfl)) pa_nil)))))) pss_nil)
      (pss_cons (ps_if (pt_cmpR op_eq (pe_fld (pv 1) rfl) (pe_glob rfl h1 (rel_int _ _)) (nomark _))
          (pss_one (ps_ret (pe_call G2 (hr.mono (by decide)) rfl T.gNewThing k2 b2 .nil (passes_call (takes_of rfl rfl rfl rfl) (fun _ _ _ _ h => h)) (by exact (pa_cons (pv 2) (pa_cons (pe_fld (pv 1) rfl) pa_nil)))))) pss_nil)
      (pss_cons (ps_if (pt_cmpR op_eq (pe_fld (pv 1) rfl) (pe_glob rfl h2 (rel_int _ _)) (nomark _))
          (pss_one (ps_ret (pe_call G3 (hr.mono (by decide)) rfl T.gCheck k3 b3 .nil (passes_call (takes_of rfl rfl rfl rfl) (fun _ _ _ _ h => h)) (by exact (pa_cons (pv 2) (pa_cons (pe_ix ix_list (pe_fld (pv 1) rfl) pe_int (fun _ _ => rfl)) pa_nil)))))) pss_nil)
      (pss_cons (ps_if (pt_cmpR op_in_seq (pe_fld (pv 1) rfl) (pe_tup (pa_cons (pe_glob rfl h3 (rel_int _ _)) (pa_cons (pe_glob rfl h4 (rel_int _ _)) pa_nil))) (by rfl))
          (pss_one (ps_ret (pe_call G5 (hr.mono (by decide)) rfl T.gToldC k5 b5 .nil pass0 (by exact (pa_cons
            (pe_call G4 hr rfl T.gChosen k4 b4 .nil pass0 (by exact (pa_cons (pv 2) (pa_cons (pe_cmpR op_eq (pe_fld (pv 1) rfl) (pe_glob rfl h3 (rel_int _ _)) (nomark _)) pa_nil)))) pa_nil))))) pss_nil)
      (pss_cons (ps_if (pt_cmpR op_eq (pe_fld (pv 1) rfl) (pe_glob rfl h5 (rel_int _ _)) (nomark _))
          (pss_one (ps_ret (pe_call G6 (hr.mono (by decide)) rfl T.gPlain k6 b6 .nil pass0 (by exact (pa_cons (pv 2) pa_nil))))) pss_nil)
      (pss_one (ps_ret (pe_lst (pa_cons (pe_meth0 (pv 2) T.kCup T.meEnough G7 (hr.mono (by decide)) b7 .nil pass0) pa_nil))))))))), ?_⟩),
    F.binds (ps := ["line", "call"]) fun _ _ _ _ _ _ us hl => match us, hl with | [_, _], _ => rfl, F.kp⟩
  · obtain ⟨aL, a, l, aK, m, ts, c, p, xs, e, rfl, _⟩ := h
    rfl
  · obtain ⟨aL, a, l, aK, m, ts, c, p, xs, e, rfl, hL, hc, h9, ⟨dk, hK⟩, hm, hk, hx, kR, kS⟩ := h
    obtain ⟨dl, hL1⟩ := id hL
    -- cupboard = line.cupboard
    refine ⟨_, rfl, aL, A.cLine, dl, _, _, rfl, hL1, T.kLine, T.nLine1, lk_here, ?_⟩
    cases hk with
    | begins z =>
      obtain ⟨n, rfl⟩ := Int.eq_ofNat_of_zero_le (hx z (by simp))
      refine ⟨_, rfl, aK, A.cCall, dk, _, _, rfl, hK, T.kCall, T.nCall1, f3_1, rfl, _, rfl, if_true_of kind_eq ?_⟩
      refine ⟨_, rfl, _, rfl, aK, A.cCall, dk, _, _, rfl, hK, T.kCall, T.nCall2, f3_2 (by decide +kernel), m, _, _, _, rfl, rfl, SqL.of hm, (show atI (ivs [(n : Int)]) 0 = some (nv n) from rfl), ?_⟩
      refine ⟨aL, a, n, rfl, hL, fun q => kR _ (st_begins_bad q), fun q H' r a' l' bt hL' hc' nl nr hr' => kS H' r ?_ nr ?_⟩
      · rw [st_begins_ok q]
        exact ⟨a', l', [], hL', hc', .inr nl, fun b o e hb _ => bt b o e hb⟩
      · rw [st_begins_ok q]
        exact hr'
    | thing u v y' =>
      refine ⟨_, rfl, aK, A.cCall, dk, _, _, rfl, hK, T.kCall, T.nCall1, f3_1, rfl, _, rfl, if_false_of (kind_ne (by decide)) ?_⟩
      refine ⟨_, rfl, aK, A.cCall, dk, _, _, rfl, hK, T.kCall, T.nCall1, f3_1, rfl, _, rfl, if_true_of kind_eq ?_⟩
      obtain ⟨x, rfl⟩ := Int.eq_ofNat_of_zero_le (hx u (by simp))
      obtain ⟨y, rfl⟩ := Int.eq_ofNat_of_zero_le (hx v (by simp))
      obtain ⟨z, rfl⟩ := Int.eq_ofNat_of_zero_le (hx y' (by simp))
      refine ⟨_, rfl, _, rfl, aK, A.cCall, dk, _, _, rfl, hK, T.kCall, T.nCall2, f3_2 (by decide +kernel), ?_⟩
      refine ⟨a, l, m, ts, c, x, y, z, rfl, hc, h9, SqL.of hm, fun q => kR _ (st_thing_bad q), fun q q9 => kR _ (st_thing_full q q9), fun q q9 H' r t bt hc' nr hr' => kS H' r ?_ nr ?_⟩
      · rw [st_thing_ok q h9 q9]
        refine ⟨a, l, ts ++ [t], ⟨dl, bt _ _ hL1 fun z => ?_⟩, hc', .inl rfl, fun b o e _ hb => bt b o e hb⟩
        rw [z, hc.lst] at hL1
        cases hL1
      · rw [st_thing_ok q h9 q9]
        exact hr'
    | check z =>
      refine ⟨_, rfl, aK, A.cCall, dk, _, _, rfl, hK, T.kCall, T.nCall1, f3_1, rfl, _, rfl, if_false_of (kind_ne (by decide)) ?_⟩
      refine ⟨_, rfl, aK, A.cCall, dk, _, _, rfl, hK, T.kCall, T.nCall1, f3_1, rfl, _, rfl, if_false_of (kind_ne (by decide)) ?_⟩
      refine ⟨_, rfl, aK, A.cCall, dk, _, _, rfl, hK, T.kCall, T.nCall1, f3_1, rfl, _, rfl, if_true_of kind_eq ?_⟩
      obtain ⟨n, rfl⟩ := Int.eq_ofNat_of_zero_le (hx z (by simp))
      refine ⟨_, rfl, _, rfl, aK, A.cCall, dk, _, _, rfl, hK, T.kCall, T.nCall2, f3_2 (by decide +kernel), m, _, _, _, rfl, rfl, SqL.of hm, (show atI (ivs [(n : Int)]) 0 = some (nv n) from rfl), ?_⟩
      refine ⟨a, l, ts, c, n, rfl, hc, h9, fun q => kR _ (st_check_bad q), fun q d hd => kR _ (st_check_full q hd), fun q hn H' r s1 nr hr' => kS H' r ?_ nr ?_⟩
      · rw [st_check_ok q hn]
        exact Ends.same hL hc s1
      · rw [st_check_ok q hn]
        exact hr'
    | best =>
      refine ⟨_, rfl, aK, A.cCall, dk, _, _, rfl, hK, T.kCall, T.nCall1, f3_1, rfl, _, rfl, if_false_of (kind_ne (by decide)) ?_⟩
      refine ⟨_, rfl, aK, A.cCall, dk, _, _, rfl, hK, T.kCall, T.nCall1, f3_1, rfl, _, rfl, if_false_of (kind_ne (by decide)) ?_⟩
      refine ⟨_, rfl, aK, A.cCall, dk, _, _, rfl, hK, T.kCall, T.nCall1, f3_1, rfl, _, rfl, if_false_of (kind_ne (by decide)) ?_⟩
      refine ⟨_, rfl, aK, A.cCall, dk, _, _, rfl, hK, T.kCall, T.nCall1, f3_1, (by show 2 ≤ sizeLine; decide), fun pp hpp => ?_⟩
      refine ⟨pp, _, rfl, .inr (SqT.of upd_same), rfl, rfl, _, rfl, if_true_of (by decide) ?_⟩
      have s1 : Same H (upd H pp (.tup [.int 3, .int 4])) := same_upd hpp
      generalize upd H pp (.tup [.int 3, .int 4]) = H1 at s1 ⊢
      have hc1 := hc.same s1
      have hK1 := s1 _ _ hK
      refine ⟨_, rfl, _, rfl, aK, A.cCall, dk, _, _, rfl, hK1, T.kCall, T.nCall1, f3_1, rfl, ?_⟩
      refine ⟨a, l, ts, c, true, ?_, hc1, h9, fun H2 r t x s2 hx hC hT => ?_⟩
      · show [V.ref a, V.bl (decide (V.int 3 = V.int 3))] = [V.ref a, V.bl true]
        rw [show decide (V.int 3 = V.int 3) = true by decide]
      refine ⟨r, t, x, rfl, hC, hT, fun H3 q s3 nq hq => kS H3 q ?_ (Same.free (s1.trans s2) nq) ?_⟩
      · rw [st_best hx]
        exact Ends.same hL hc (s1.trans (s2.trans s3))
      · rw [st_best hx]
        exact hq
    | most =>
      refine ⟨_, rfl, aK, A.cCall, dk, _, _, rfl, hK, T.kCall, T.nCall1, f3_1, rfl, _, rfl, if_false_of (kind_ne (by decide)) ?_⟩
      refine ⟨_, rfl, aK, A.cCall, dk, _, _, rfl, hK, T.kCall, T.nCall1, f3_1, rfl, _, rfl, if_false_of (kind_ne (by decide)) ?_⟩
      refine ⟨_, rfl, aK, A.cCall, dk, _, _, rfl, hK, T.kCall, T.nCall1, f3_1, rfl, _, rfl, if_false_of (kind_ne (by decide)) ?_⟩
      refine ⟨_, rfl, aK, A.cCall, dk, _, _, rfl, hK, T.kCall, T.nCall1, f3_1, (by show 2 ≤ sizeLine; decide), fun pp hpp => ?_⟩
      refine ⟨pp, _, rfl, .inr (SqT.of upd_same), rfl, rfl, _, rfl, if_true_of (by decide) ?_⟩
      have s1 : Same H (upd H pp (.tup [.int 3, .int 4])) := same_upd hpp
      generalize upd H pp (.tup [.int 3, .int 4]) = H1 at s1 ⊢
      have hc1 := hc.same s1
      have hK1 := s1 _ _ hK
      refine ⟨_, rfl, _, rfl, aK, A.cCall, dk, _, _, rfl, hK1, T.kCall, T.nCall1, f3_1, rfl, ?_⟩
      refine ⟨a, l, ts, c, false, ?_, hc1, h9, fun H2 r t x s2 hx hC hT => ?_⟩
      · show [V.ref a, V.bl (decide (V.int 4 = V.int 3))] = [V.ref a, V.bl false]
        rw [show decide (V.int 4 = V.int 3) = false by decide]
      refine ⟨r, t, x, rfl, hC, hT, fun H3 q s3 nq hq => kS H3 q ?_ (Same.free (s1.trans s2) nq) ?_⟩
      · rw [st_most hx]
        exact Ends.same hL hc (s1.trans (s2.trans s3))
      · rw [st_most hx]
        exact hq
    | plain =>
      refine ⟨_, rfl, aK, A.cCall, dk, _, _, rfl, hK, T.kCall, T.nCall1, f3_1, rfl, _, rfl, if_false_of (kind_ne (by decide)) ?_⟩
      refine ⟨_, rfl, aK, A.cCall, dk, _, _, rfl, hK, T.kCall, T.nCall1, f3_1, rfl, _, rfl, if_false_of (kind_ne (by decide)) ?_⟩
      refine ⟨_, rfl, aK, A.cCall, dk, _, _, rfl, hK, T.kCall, T.nCall1, f3_1, rfl, _, rfl, if_false_of (kind_ne (by decide)) ?_⟩
      refine ⟨_, rfl, aK, A.cCall, dk, _, _, rfl, hK, T.kCall, T.nCall1, f3_1, (by show 2 ≤ sizeLine; decide), fun pp hpp => ?_⟩
      refine ⟨pp, _, rfl, .inr (SqT.of upd_same), rfl, rfl, _, rfl, if_false_of (by decide) ?_⟩
      have s1 : Same H (upd H pp (.tup [.int 3, .int 4])) := same_upd hpp
      generalize upd H pp (.tup [.int 3, .int 4]) = H1 at s1 ⊢
      have hc1 := hc.same s1
      have hK1 := s1 _ _ hK
      refine ⟨_, rfl, aK, A.cCall, dk, _, _, rfl, hK1, T.kCall, T.nCall1, f3_1, rfl, _, rfl, if_true_of kind_eq ?_⟩
      refine ⟨_, rfl, a, l, ts, c, rfl, hc1, h9, fun H2 q s2 nq hq => kS H2 q ?_ (Same.free s1 nq) ?_⟩
      · rw [step_plain]
        exact Ends.same hL hc (s1.trans s2)
      · rw [step_plain]
        exact hq
    | enough =>
      refine ⟨_, rfl, aK, A.cCall, dk, _, _, rfl, hK, T.kCall, T.nCall1, f3_1, rfl, _, rfl, if_false_of (kind_ne (by decide)) ?_⟩
      refine ⟨_, rfl, aK, A.cCall, dk, _, _, rfl, hK, T.kCall, T.nCall1, f3_1, rfl, _, rfl, if_false_of (kind_ne (by decide)) ?_⟩
      refine ⟨_, rfl, aK, A.cCall, dk, _, _, rfl, hK, T.kCall, T.nCall1, f3_1, rfl, _, rfl, if_false_of (kind_ne (by decide)) ?_⟩
      refine ⟨_, rfl, aK, A.cCall, dk, _, _, rfl, hK, T.kCall, T.nCall1, f3_1, (by show 2 ≤ sizeLine; decide), fun pp hpp => ?_⟩
      refine ⟨pp, _, rfl, .inr (SqT.of upd_same), rfl, rfl, _, rfl, if_false_of (by decide) ?_⟩
      have s1 : Same H (upd H pp (.tup [.int 3, .int 4])) := same_upd hpp
      generalize upd H pp (.tup [.int 3, .int 4]) = H1 at s1 ⊢
      have hc1 := hc.same s1
      have hK1 := s1 _ _ hK
      refine ⟨_, rfl, aK, A.cCall, dk, _, _, rfl, hK1, T.kCall, T.nCall1, f3_1, rfl, _, rfl, if_false_of (kind_ne (by decide)) ?_⟩
      obtain ⟨dx1, h11⟩ := hc1.obj
      refine ⟨_, rfl, a, dx1, _, rfl, h11, f2_0 (by decide +kernel) (by decide +kernel), a, l, ts, c, rfl, hc1, h9, fun H2 s2 => ?_⟩
      have s3 := s1.trans s2
      refine ⟨(by show 1 ≤ sizeLine; decide), fun q hq => kS _ q ?_ (Same.free s3 hq) ?_⟩
      · rw [step_enough]
        exact Ends.same hL hc (same_new s3 (Same.free s3 hq))
      · rw [step_enough]
        exact upd_same
end
end CK

namespace CK
open PySem PySem.Spec PyProof.Rows L2
open Si89 (Cupboard Thing Best)
section
variable {P : Program} {w : World} {K : PySem.W.Frag} {mg : Str → Option Value} {base : Heap} {A : Ads}
/-! ### told_or_refused -/
def spToldOr (A : Ads) : Sp := fun vs H Q _ => ∃ (aL a l aK m : Addr) (ts : List Addr) (c : Cupboard) (p : Int) (xs : List Int) (e : Int), vs = [.ref aL, .ref aK] ∧ LineAt A H aL a ∧ CupAt A H a l ts c ∧ c.count ≤ 9 ∧ InsAt A.cCall H aK (caF p m e) ∧ H m = some (.lst (ivs xs)) ∧ Kind p xs ∧ (∀ x ∈ xs, 0 ≤ x) ∧
  (∀ H' q, Ends A H H' aL l (Si89Neutral.step c [p :: xs]).1 → H q = none → H' q = some (.lst (ivs (Si89Neutral.step c [p :: xs]).2)) → Q (.ref q) H')
theorem scToldOr : FnScope ["line", "call", "refusal"] ["line", "call"] (defScope sToldOr) := ⟨rfl, rfl, rfl, by decide +kernel, rfl, by decide +kernel, by decide +kernel⟩
theorem ok_toldOr (T : Txt K mg A) (R : RefTxt K mg A) : Good P w K mg base CX0 8 A.toldOr ["line", "call"] (spToldOr A) := by
  obtain ⟨fd, F⟩ := T.aToldOr
  obtain ⟨_, G, b, k⟩ := ok_told (P := P) (w := w) (base := base) T R
  refine ⟨fd, F.ok scToldOr (fun vs H Q E h => ?_) (fun cdv Ar outer s H vs Q E hr h => ⟨_,
      pss_one (ps_try_as (i := 2) (tb := fun W => tRet (tCallS (spTold A) (WE W) (tCons (tVar 0) (tCons (tVar 1) tNil)))) (ts := fun a cls d => tRet (tSomeRef A.cRef a cls d (tVar 2))) (Wout := fun _ _ _ _ => False) rfl rfl scToldOr.nd rfl rfl ⟨rfl, by decide, Or.inl R.gC⟩ takes0
        (fun W pn xe tk _ => pss_one (ps_ret (by exact (pe_callS G hr rfl T.gTold k b (fun σ => passAt tk σ) (by exact (pa_cons (pv 0) (pa_cons (pv 1) pa_nil)))))))
        (fun a oe cls d pn hz hf => pss_one (ps_ret (by exact (pe_someRef R hz hf (pv 2)))))), ?_⟩),
    F.binds (ps := ["line", "call"]) fun _ _ _ _ _ _ us hl => match us, hl with | [_, _], _ => rfl, F.kp⟩
  · obtain ⟨aL, a, l, aK, m, ts, c, p, xs, e, rfl, _⟩ := h
    rfl
  · obtain ⟨aL, a, l, aK, m, ts, c, p, xs, e, rfl, hL, hc, h9, hK, hm, hk, hx, kS⟩ := h
    refine ⟨_, rfl, _, rfl, aL, a, l, aK, m, ts, c, p, xs, e, rfl, hL, hc, h9, hK, hm, hk, hx, fun nums hs H' d q s1 nq hd hq => ?_, fun H' q hE nq hq => kS H' q hE nq hq⟩
    refine ⟨true, R.te, fun _ a0 _ => ?_, fun q => Bool.noConfusion q⟩
    refine ⟨_, rfl, rfl, rfl, d, _, rfl, hd, kS H' q ?_ nq ?_⟩
    · rw [hs]
      exact Ends.same hL hc s1
    · rw [hs]
      exact hq
/-! ### answers -/
def spAnswers (K : PySem.W.Frag) : Sp := fun vs H Q _ => ∃ (m : Addr) (ns : List Int), vs = [.ref m] ∧ SqL K H m (ivs ns) ∧ (∀ n ∈ ns, 0 ≤ n) ∧ PySi89.answers_asked ns = true ∧
  ∀ (H' : Hp) (p : Addr), H' p = some (.lst (ivs (PySi89.answers ns))) → Q (.ref p) H'
theorem scAnswers : FnScope ["calls", "found", "line", "at", "call", "answer"] ["calls"] (defScope sAnswers) := ⟨rfl, rfl, rfl, by decide +kernel, rfl, by decide +kernel, by decide +kernel⟩
theorem ok_answers1 (T : Txt K mg A) (R : RefTxt K mg A) {f : Addr} {fd : FuncData} (F : Fun K "answers" "answers" sAnswers f fd) : FnOk P w K mg base CX0 9 f fd ["calls"] (spAnswers K) := by
  obtain ⟨_, G1, b1, _⟩ := ok_iLine (P := P) (w := w) (base := base) T
  obtain ⟨_, G2, b2, k2⟩ := ok_callAt (P := P) (w := w) (base := base) T
  obtain ⟨_, G3, b3, k3⟩ := ok_toldOr (P := P) (w := w) (base := base) T R
  refine F.ok scAnswers (fun vs H Q E h => ?_) (fun cdv Ar outer s H vs Q E hr h => ⟨_,
      pss_cons (ps_set (i := 1) scAnswers.nd rfl (Or.inl rfl) (pe_lst pa_nil))
      (pss_cons (ps_set (i := 2) scAnswers.nd rfl (Or.inl rfl) (pe_make0 T.mLine G1 (hr.mono (by decide)) rfl T.gLine b1 .nil pass0))
      (pss_cons (ps_set (i := 3) scAnswers.nd rfl (Or.inl rfl) pe_int)
      (pss_cons (ps_while PassesOwn.never (pt_cmpR op_lt (pv 3) (pe_callB call_len_seq (by rfl) T.zLen PySem.boot_len (by exact (pa_cons (pv 0) pa_nil))) (nomark _))
        (pss_cons (ps_set (i := 4) scAnswers.nd rfl (Or.inl rfl) (pe_call G2 (hr.mono (by decide)) rfl T.gCallAt k2 b2 .nil pass0 (by exact (pa_cons (pv 0) (pa_cons (pv 3) pa_nil)))))
        (pss_cons (ps_set (i := 5) scAnswers.nd rfl (Or.inl rfl) (pe_call G3 hr rfl T.gToldOr k3 b3 .nil pass0 (by exact (pa_cons (pv 2) (pa_cons (pv 4) pa_nil)))))
        (pss_cons (ps_expr (pe_bm PySem.F.plainAttrs_list PySem.F.slot_list_append PySem.F.type_list_append mt_append (pv 1) (by exact (pa_cons (pe_callB call_len_seq (by rfl) T.zLen PySem.boot_len (by exact (pa_cons (pv 5) pa_nil))) pa_nil))))
        (pss_cons (ps_expr (pe_bm PySem.F.plainAttrs_list PySem.F.slot_list_extend PySem.F.type_list_extend mt_extend (pv 1) (by exact (pa_cons (pv 5) pa_nil))))
        (pss_one (ps_set (i := 3) scAnswers.nd rfl (Or.inl rfl) (pe_fld (pv 4) rfl))))))))
      (pss_one (ps_ret (pv 1)))))), ?_⟩)
  · obtain ⟨m, ns, rfl, _⟩ := h
    rfl
  · obtain ⟨m, ns, rfl, hm, hpos, hask, k⟩ := h
    obtain ⟨cs0, hcs0, hans, hlen⟩ := asked_calls hask
    have hz : (10000000 : Nat) < sizeLine := by decide
    -- found = []; line = Line(); at = 0
    refine ⟨(by show 0 ≤ sizeLine; decide), fun pf hpf => ?_⟩
    have s0 : Same H (upd H pf (.lst [])) := same_upd hpf
    have hf0 : (upd H pf (.lst [])) pf = some (.lst (ivs [])) := upd_same
    generalize upd H pf (.lst []) = H0 at s0 hf0 ⊢
    intro aL dL nx nd ne
    refine ⟨aL, dL, rfl, upd_same, fun H1 a1 l1 hL1 hc1 nl1 bt => ⟨rfl, ?_⟩⟩
    have s1 : Same H0 H1 := Same.made nx nd bt
    have nl : H0 l1 = none := by
      cases e : H0 l1 with
      | none => rfl
      | some o =>
        rw [upd_ne (ne_of_none e nx), upd_ne (ne_of_none e nd), e] at nl1
        cases nl1
    refine while_by (fun σ H' => ∃ (at_ : Nat) (v4 v5 : Option V) (c : Cupboard) (a l : Addr) (ts : List Addr) (acc : List Int) (fu : Nat) (cs : List (List (List Int))),
        σ = [some (.ref m), some (.ref pf), some (.ref aL), some (nv at_), v4, v5] ∧ at_ ≤ ns.length ∧ PyFlat.calls PySi89.shape fu (ns.drop at_) = some cs ∧ acc ++ due c cs = PySi89.answers ns ∧
        Same H H' ∧ H' pf = some (.lst (ivs acc)) ∧ LineAt A H' aL a ∧ CupAt A H' a l ts c ∧ c.count ≤ 9 ∧ l ≠ pf ∧ H aL = none ∧ H l = none)
      (fun σ _ => match σ with | [_, _, _, some (.int i), _, _] => ns.length - i.toNat | _ => 0) ?_ ?_ ?_
    · exact ⟨0, none, none, Si89.init, a1, l1, [], [], ns.length, cs0, rfl, Nat.zero_le _, hcs0, hans.symm, s0.trans s1, s1 _ _ hf0, hL1, hc1, Nat.zero_le _, Ne.symm (ne_of_none hf0 nl), Same.free s0 nx, Same.free s0 nl⟩
    · rintro σ H' ⟨at_, v4, v5, c, a, l, ts, acc, fu, cs, rfl, hat, hcs, hacc, s2, hf, hL, hc, h9, hlf, hLn, hln⟩
      have e1 : (ivs ns).length = ns.length := List.length_map _
      refine ⟨_, rfl, _, rfl, m, _, rfl, .inl (s2.seq hm), ?_⟩
      rw [e1]
      refine ⟨_, _, rfl, rfl, _, rfl, ?_⟩
      rcases calls_next hcs with ⟨hd, rfl⟩ | ⟨p, r, n, fu', cs', hd, hsh, hle, hcs', rfl, hkind⟩
      · -- nothing is left
        have hge : ns.length ≤ at_ := by
          have := congrArg List.length hd
          rw [List.length_drop] at this
          simp at this
          omega
        refine if_false_of (decide_eq_false (by omega)) ?_
        rw [due_nil, List.append_nil] at hacc
        subst hacc
        exact ⟨_, rfl, k H' pf hf⟩
      · have hlt : at_ < ns.length := by
          have := congrArg List.length hd
          rw [List.length_drop, List.length_cons] at this
          omega
        have hp : ns[at_]? = some p := by
          have := congrArg (fun z => z[0]?) hd
          simp only [List.getElem?_drop, Nat.add_zero, List.getElem?_cons_zero] at this
          exact this
        have hr : r = ns.drop (at_ + 1) := by
          rw [← List.drop_drop, hd]
          rfl
        have hrl : r.length = ns.length - (at_ + 1) := by rw [hr, List.length_drop]
        refine if_true_of (decide_eq_true (Int.ofNat_lt.mpr hlt)) ?_
        -- call = call_at(calls, at)
        refine ⟨_, rfl, _, rfl, m, ns, at_, n, p, rfl, s2.seq hm, hp, hsh, by omega, fun H3 aK q s3 nK hK hq => ?_⟩
        rw [← hr] at hq
        -- answer = told_or_refused(line, call)
        refine ⟨_, rfl, _, rfl, aL, a, l, aK, q, ts, c, p, r.take n, _, rfl, hL.same s3, hc.same s3, h9, hK, hq, hkind, fun x hx => hpos x (List.mem_of_mem_drop (by rw [← hr]; exact List.mem_of_mem_take hx)), fun H4 qa hE nqa hqa => ?_⟩
        have hdue := due_cons (c := c) hkind cs'
        have h9' := st_count h9 hkind (fun x hx => hpos x (List.mem_of_mem_drop (by rw [← hr]; exact List.mem_of_mem_take hx)))
        rw [hdue] at hacc
        generalize hstep : Si89Neutral.step c [p :: r.take n] = st at hE hqa hacc h9'
        obtain ⟨c', ans⟩ := st
        simp only at hE hqa hacc h9'
        obtain ⟨a', l', ts', hL', hc', hl', hkeep⟩ := hE
        have hpfL : pf ≠ aL := fun z => by
          obtain ⟨dz, ez⟩ := hL
          rw [← z, hf] at ez
          cases ez
        have hf4 : H4 pf = some (.lst (ivs acc)) := hkeep _ _ (s3 _ _ hf) hpfL (Ne.symm hlf)
        have hK4 : InsAt A.cCall H4 aK (caF p q ((at_ + 1 + n : Nat) : Int)) := by
          obtain ⟨dk, ek⟩ := hK
          refine ⟨dk, hkeep _ _ ek (fun z => ?_) fun z => ?_⟩
          · obtain ⟨dz, ez⟩ := hL
            rw [← z, nK] at ez
            cases ez
          · rw [z, (hc.same s3).lst] at ek
            cases ek
        have hql : qa ≠ pf := fun z => by
          rw [z, s3 _ _ hf] at nqa
          cases nqa
        have htot : acc.length + 1 + ans.length ≤ 10000000 := by
          have := congrArg List.length hacc
          rw [List.length_append, List.length_cons, List.length_append] at this
          omega
        -- found.append(len(answer))
        refine ⟨_, rfl, .inl ⟨rfl, _, SqL.of hf4⟩, _, rfl, qa, _, rfl, .inl (SqL.of hqa), ?_⟩
        refine ⟨pf, _, _, rfl, rfl, hf4, by rw [List.length_map]; omega, ?_⟩
        -- found.extend(answer)
        refine ⟨_, rfl, .inl ⟨rfl, _, SqL.of upd_same⟩, _, rfl, pf, qa, _, _, rfl, rfl, upd_same, (upd_ne hql).trans hqa, ?_, ?_⟩
        · rw [List.length_append, List.length_map, List.length_map]
          show acc.length + 1 + ans.length ≤ sizeLine
          omega
        have elst : (ivs acc ++ [V.int ((ivs ans).length : Int)]) ++ ivs ans = ivs (acc ++ ((ans.length : Int) :: ans)) := by
          have el : (ivs ans).length = ans.length := List.length_map _
          rw [el]
          unfold ivs
          rw [List.map_append, List.map_cons, List.append_assoc]
          rfl
        rw [elst]
        have h6 : ∀ b, b ≠ pf → upd (upd H4 pf (.lst (ivs acc ++ [V.int ((ivs ans).length : Int)]))) pf (.lst (ivs (acc ++ ((ans.length : Int) :: ans)))) b = H4 b := fun b hb => by
          rw [upd_ne hb, upd_ne hb]
        have h6f : upd (upd H4 pf (.lst (ivs acc ++ [V.int ((ivs ans).length : Int)]))) pf (.lst (ivs (acc ++ ((ans.length : Int) :: ans)))) pf = some (.lst (ivs (acc ++ ((ans.length : Int) :: ans)))) := upd_same
        generalize upd (upd H4 pf (.lst (ivs acc ++ [V.int ((ivs ans).length : Int)]))) pf (.lst (ivs (acc ++ ((ans.length : Int) :: ans)))) = H6 at h6 h6f ⊢
        have ins6 : ∀ (C b : Addr) (fs : List (Str × V)), InsAt C H4 b fs → InsAt C H6 b fs := fun C b fs ⟨dy, e⟩ => ⟨dy, by
          rw [h6]
          · exact e
          · intro eb
            rw [eb, hf4] at e
            cases e⟩
        obtain ⟨dk6, hK6⟩ := ins6 _ _ _ hK4
        refine ⟨_, rfl, aK, A.cCall, dk6, _, _, rfl, hK6, T.kCall, T.nCall3, f3_3 (by decide +kernel) (by decide +kernel), ?_⟩
        have hl'f : l' ≠ pf := by
          rcases hl' with z | z
          · rw [z]; exact hlf
          · exact fun y => by
              rw [y, s3 _ _ hf] at z
              cases z
        refine ⟨⟨at_ + 1 + n, some (.ref aK), some (.ref qa), c', a', l', ts', acc ++ ((ans.length : Int) :: ans), fu', cs', rfl, by omega, ?_, ?_, fun b o e => ?_, h6f, ins6 _ _ _ hL', ⟨ins6 _ _ _ hc'.obj, ?_, hc'.len, fun i t e => ins6 _ _ _ (hc'.things i t e)⟩, h9', hl'f, hLn, ?_⟩, ?_⟩
        · rw [hr, List.drop_drop] at hcs'
          exact hcs'
        · rw [← hacc, List.append_assoc]
          rfl
        · rw [h6 b (ne_of_none e hpf)]
          exact hkeep _ _ (s3 _ _ (s2 _ _ e)) (ne_of_none e hLn) (ne_of_none e hln)
        · rw [h6 l' hl'f]
          exact hc'.lst
        · rcases hl' with z | z
          · rw [z]; exact hln
          · exact Same.free (s2.trans s3) z
        · show ns.length - (((at_ + 1 + n : Nat) : Int)).toNat < ns.length - ((at_ : Nat) : Int).toNat
          rw [Int.toNat_natCast, Int.toNat_natCast]
          omega
    · intro σ H' Q1 Q2 hQ h
      obtain ⟨v, hv, u, hu, p, ys, e, hs, i, j, e1, e2, kk, e3, q⟩ := h
      exact ⟨v, hv, u, hu, p, ys, e, hs, i, j, e1, e2, kk, e3, hQ _ _ q⟩
end
end CK

namespace CK
open PySem PySem.Spec PyProof.Rows L2
open PySem.W (Codec)
/-! ### The end: what the top has written -/
/-- an error of the class at S is what «except S» names -/
theorem exm_self {K : PySem.W.Frag} {S : Addr} (h1 : PySem.W.subIn K (.ref S) (.type "BaseException") = some true) (h2 : PySem.W.isClsIn K S = true) (h3 : PySem.W.typeIn K (.ref S) = some (.type "type")) (h4 : PySem.W.subIn K (.ref S) (.ref S) = some true) :
    PySem.W.exmOne K (.ref S) (.ref S) = some true := by
  have e1 : (PySem.W.subIn K (.ref S) (.type "BaseException") == some true) = true := by rw [h1] <;> rfl
  have e2 : ((PySem.W.clsIn K S).isSome && PySem.W.typeIn K (.ref S) == some (.type "type")) = true := by
    have h2' : (PySem.W.clsIn K S).isSome = true := h2
    rw [h2', h3] <;> rfl
  show (if (PySem.W.subIn K (.ref S) (.type "BaseException") == some true) = true then (if ((PySem.W.clsIn K S).isSome && PySem.W.typeIn K (.ref S) == some (.type "type")) = true then PySem.W.subIn K (.ref S) (.ref S) else none) else none) = some true
  rw [if_pos e1, if_pos e2]
  exact h4
theorem all_mk {P : Program} {w : World} {K : PySem.W.Frag} {h : Heap} {mg : Str → Option Value} {fa : Addr} {cChosen iChosen cThing iThing cCrowd iCrowd cCup iCup cCall iCall cLine iLine takes thingsOf worthOf taking crowds tooMany enough allKept thrownOut asTheyCome measuresOf chosen toldC callAt refuse begins newThing check plain told toldOr answers numbersOf cRef iRef : Addr} (X : K.In h) (G : h.Ns mainGlobals mg) (hfa : mg "answers" = some (.ref fa))
    {od1 an1 od2 an2 od3 an3 od4 an4 od5 an5 od6 an6 od7 an7 od8 an8 od9 an9 od10 an10 od11 an11 od12 an12 od13 an13 od14 an14 od15 an15 od16 an16 od17 an17 od18 an18 od19 an19 od20 an20 od21 an21 od22 an22 od23 an23 od24 an24 od25 an25 od26 an26 od27 an27 od28 an28 odN odR anR : Option Addr} {sl1 sl2 sl3 sl4 sl5 sl6 sl7 sl8 sl9 sl10 sl11 sl12 sl13 sl14 sl15 sl16 sl17 sl18 sl19 sl20 sl21 sl22 sl23 sl24 sl25 sl26 sl27 sl28 slN slR : Array (Option Value)} {oc1 kV1 dc1 pm1 cd1 ct1 oc2 kV2 dc2 pm2 cd2 ct2 oc3 kV3 dc3 pm3 cd3 ct3 oc4 kV4 dc4 pm4 cd4 ct4 oc5 kV5 dc5 pm5 cd5 ct5 oc6 kV6 dc6 pm6 cd6 ct6 oc7 kV7 dc7 pm7 cd7 ct7 oc8 kV8 dc8 pm8 cd8 ct8 oc9 kV9 dc9 pm9 cd9 ct9 oc10 kV10 dc10 pm10 cd10 ct10 oc11 kV11 dc11 pm11 cd11 ct11 oc12 kV12 dc12 pm12 cd12 ct12 oc13 kV13 dc13 pm13 cd13 ct13 oc14 kV14 dc14 pm14 cd14 ct14 oc15 kV15 dc15 pm15 cd15 ct15 oc16 kV16 dc16 pm16 cd16 ct16 oc17 kV17 dc17 pm17 cd17 ct17 oc18 kV18 dc18 pm18 cd18 ct18 oc19 kV19 dc19 pm19 cd19 ct19 oc20 kV20 dc20 pm20 cd20 ct20 oc21 kV21 dc21 pm21 cd21 ct21 oc22 kV22 dc22 pm22 cd22 ct22 oc23 kV23 dc23 pm23 cd23 ct23 oc24 kV24 dc24 pm24 cd24 ct24 oc25 kV25 dc25 pm25 cd25 ct25 oc26 kV26 dc26 pm26 cd26 ct26 oc27 kV27 dc27 pm27 cd27 ct27 oc28 kV28 dc28 pm28 cd28 ct28 ocR dcR pmR cdR ctR : Value} {tiMostPlaces tiMostThings tiLastDay tiMostWorth tiBegins tiThing_ tiCheck tiBest tiMost tiPlain tiNotSo tiFull tiTooMany u0 u1 u2 u3 u4 u5 u6 : Tok} {nN : Nat}
    {nmR qR : Str} {nR : Addr} {bsR : List Value} {snR : List Str} {subR : List Value} {abR : Bool} {colR : Option Bool} {ddR : Option Addr} {m0R m1R m2R m3R m5R : Option Value}
    (gChosen : PySem.W.nsIn K mainGlobals "Chosen" = some (some (.ref cChosen)))
    (pgChosen : PySem.W.plainGet K cChosen Str.empty = true)
    (hdChosen : PySem.W.hasDictIn K cChosen = true)
    (poChosen : PySem.W.plainOver K cChosen = true)
    (saChosen : PySem.W.findIn K (.ref cChosen) "__setattr__" = some (some (.builtin "object.__setattr__")))
    (mkChosen : PySem.W.makesIn K cChosen = true)
    (inChosen : PySem.W.findIn K (.ref cChosen) "__init__" = some (some (.ref iChosen)))
    (fnChosen : PySem.W.isFn K (.ref iChosen) = true)
    (kcChosen : PySem.W.keepIn K (.ref cChosen) = true)
    (nChosen1 : PySem.W.findIn K (.ref cChosen) "measures" = some none)
    (nChosen2 : PySem.W.findIn K (.ref cChosen) "many" = some none)
    (nChosen3 : PySem.W.findIn K (.ref cChosen) "number" = some none)
    (l1 : K.lookup iChosen = some ⟨oc1, od1, .func (PySem.W.fnOf "__init__" "Chosen.__init__" (defArgs sIChosen) (defBody sIChosen) (defScope sIChosen) .none kV1 dc1 pm1 an1 cd1 ct1), sl1⟩)
    (c1 : PySem.W.codeIn K cd1 "Chosen.__init__" = true)
    (k1 : PySem.W.keepIn K (.ref iChosen) = true)
    (gThing : PySem.W.nsIn K mainGlobals "Thing" = some (some (.ref cThing)))
    (pgThing : PySem.W.plainGet K cThing Str.empty = true)
    (hdThing : PySem.W.hasDictIn K cThing = true)
    (poThing : PySem.W.plainOver K cThing = true)
    (saThing : PySem.W.findIn K (.ref cThing) "__setattr__" = some (some (.builtin "object.__setattr__")))
    (mkThing : PySem.W.makesIn K cThing = true)
    (inThing : PySem.W.findIn K (.ref cThing) "__init__" = some (some (.ref iThing)))
    (fnThing : PySem.W.isFn K (.ref iThing) = true)
    (kcThing : PySem.W.keepIn K (.ref cThing) = true)
    (nThing1 : PySem.W.findIn K (.ref cThing) "comes" = some none)
    (nThing2 : PySem.W.findIn K (.ref cThing) "asked_for" = some none)
    (nThing3 : PySem.W.findIn K (.ref cThing) "worth" = some none)
    (l2 : K.lookup iThing = some ⟨oc2, od2, .func (PySem.W.fnOf "__init__" "Thing.__init__" (defArgs sIThing) (defBody sIThing) (defScope sIThing) .none kV2 dc2 pm2 an2 cd2 ct2), sl2⟩)
    (c2 : PySem.W.codeIn K cd2 "Thing.__init__" = true)
    (k2 : PySem.W.keepIn K (.ref iThing) = true)
    (gCrowd : PySem.W.nsIn K mainGlobals "Crowd" = some (some (.ref cCrowd)))
    (pgCrowd : PySem.W.plainGet K cCrowd Str.empty = true)
    (hdCrowd : PySem.W.hasDictIn K cCrowd = true)
    (poCrowd : PySem.W.plainOver K cCrowd = true)
    (saCrowd : PySem.W.findIn K (.ref cCrowd) "__setattr__" = some (some (.builtin "object.__setattr__")))
    (mkCrowd : PySem.W.makesIn K cCrowd = true)
    (inCrowd : PySem.W.findIn K (.ref cCrowd) "__init__" = some (some (.ref iCrowd)))
    (fnCrowd : PySem.W.isFn K (.ref iCrowd) = true)
    (kcCrowd : PySem.W.keepIn K (.ref cCrowd) = true)
    (nCrowd1 : PySem.W.findIn K (.ref cCrowd) "day" = some none)
    (nCrowd2 : PySem.W.findIn K (.ref cCrowd) "many" = some none)
    (l3 : K.lookup iCrowd = some ⟨oc3, od3, .func (PySem.W.fnOf "__init__" "Crowd.__init__" (defArgs sICrowd) (defBody sICrowd) (defScope sICrowd) .none kV3 dc3 pm3 an3 cd3 ct3), sl3⟩)
    (c3 : PySem.W.codeIn K cd3 "Crowd.__init__" = true)
    (k3 : PySem.W.keepIn K (.ref iCrowd) = true)
    (gCup : PySem.W.nsIn K mainGlobals "Cupboard" = some (some (.ref cCup)))
    (pgCup : PySem.W.plainGet K cCup Str.empty = true)
    (hdCup : PySem.W.hasDictIn K cCup = true)
    (poCup : PySem.W.plainOver K cCup = true)
    (saCup : PySem.W.findIn K (.ref cCup) "__setattr__" = some (some (.builtin "object.__setattr__")))
    (mkCup : PySem.W.makesIn K cCup = true)
    (inCup : PySem.W.findIn K (.ref cCup) "__init__" = some (some (.ref iCup)))
    (fnCup : PySem.W.isFn K (.ref iCup) = true)
    (kcCup : PySem.W.keepIn K (.ref cCup) = true)
    (nCup1 : PySem.W.findIn K (.ref cCup) "places" = some none)
    (nCup2 : PySem.W.findIn K (.ref cCup) "things" = some none)
    (l4 : K.lookup iCup = some ⟨oc4, od4, .func (PySem.W.fnOf "__init__" "Cupboard.__init__" (defArgs sICup) (defBody sICup) (defScope sICup) .none kV4 dc4 pm4 an4 cd4 ct4), sl4⟩)
    (c4 : PySem.W.codeIn K cd4 "Cupboard.__init__" = true)
    (k4 : PySem.W.keepIn K (.ref iCup) = true)
    (gCall : PySem.W.nsIn K mainGlobals "Call" = some (some (.ref cCall)))
    (pgCall : PySem.W.plainGet K cCall Str.empty = true)
    (hdCall : PySem.W.hasDictIn K cCall = true)
    (poCall : PySem.W.plainOver K cCall = true)
    (saCall : PySem.W.findIn K (.ref cCall) "__setattr__" = some (some (.builtin "object.__setattr__")))
    (mkCall : PySem.W.makesIn K cCall = true)
    (inCall : PySem.W.findIn K (.ref cCall) "__init__" = some (some (.ref iCall)))
    (fnCall : PySem.W.isFn K (.ref iCall) = true)
    (kcCall : PySem.W.keepIn K (.ref cCall) = true)
    (nCall1 : PySem.W.findIn K (.ref cCall) "kind" = some none)
    (nCall2 : PySem.W.findIn K (.ref cCall) "some" = some none)
    (nCall3 : PySem.W.findIn K (.ref cCall) "behind" = some none)
    (l5 : K.lookup iCall = some ⟨oc5, od5, .func (PySem.W.fnOf "__init__" "Call.__init__" (defArgs sICall) (defBody sICall) (defScope sICall) .none kV5 dc5 pm5 an5 cd5 ct5), sl5⟩)
    (c5 : PySem.W.codeIn K cd5 "Call.__init__" = true)
    (k5 : PySem.W.keepIn K (.ref iCall) = true)
    (gLine : PySem.W.nsIn K mainGlobals "Line" = some (some (.ref cLine)))
    (pgLine : PySem.W.plainGet K cLine Str.empty = true)
    (hdLine : PySem.W.hasDictIn K cLine = true)
    (poLine : PySem.W.plainOver K cLine = true)
    (saLine : PySem.W.findIn K (.ref cLine) "__setattr__" = some (some (.builtin "object.__setattr__")))
    (mkLine : PySem.W.makesIn K cLine = true)
    (inLine : PySem.W.findIn K (.ref cLine) "__init__" = some (some (.ref iLine)))
    (fnLine : PySem.W.isFn K (.ref iLine) = true)
    (kcLine : PySem.W.keepIn K (.ref cLine) = true)
    (nLine1 : PySem.W.findIn K (.ref cLine) "cupboard" = some none)
    (l6 : K.lookup iLine = some ⟨oc6, od6, .func (PySem.W.fnOf "__init__" "Line.__init__" (defArgs sILine) (defBody sILine) (defScope sILine) .none kV6 dc6 pm6 an6 cd6 ct6), sl6⟩)
    (c6 : PySem.W.codeIn K cd6 "Line.__init__" = true)
    (k6 : PySem.W.keepIn K (.ref iLine) = true)
    (a7 : PySem.W.findIn K (.ref cThing) "takes" = some (some (.ref takes)))
    (i7 : PySem.W.isFn K (.ref takes) = true)
    (l7 : K.lookup takes = some ⟨oc7, od7, .func (PySem.W.fnOf "takes" "Thing.takes" (defArgs sTakes) (defBody sTakes) (defScope sTakes) .none kV7 dc7 pm7 an7 cd7 ct7), sl7⟩)
    (c7 : PySem.W.codeIn K cd7 "Thing.takes" = true)
    (k7 : PySem.W.keepIn K (.ref takes) = true)
    (a8 : PySem.W.findIn K (.ref cCup) "things_of" = some (some (.ref thingsOf)))
    (i8 : PySem.W.isFn K (.ref thingsOf) = true)
    (l8 : K.lookup thingsOf = some ⟨oc8, od8, .func (PySem.W.fnOf "things_of" "Cupboard.things_of" (defArgs sThingsOf) (defBody sThingsOf) (defScope sThingsOf) .none kV8 dc8 pm8 an8 cd8 ct8), sl8⟩)
    (c8 : PySem.W.codeIn K cd8 "Cupboard.things_of" = true)
    (k8 : PySem.W.keepIn K (.ref thingsOf) = true)
    (a9 : PySem.W.findIn K (.ref cCup) "worth_of" = some (some (.ref worthOf)))
    (i9 : PySem.W.isFn K (.ref worthOf) = true)
    (l9 : K.lookup worthOf = some ⟨oc9, od9, .func (PySem.W.fnOf "worth_of" "Cupboard.worth_of" (defArgs sWorthOf) (defBody sWorthOf) (defScope sWorthOf) .none kV9 dc9 pm9 an9 cd9 ct9), sl9⟩)
    (c9 : PySem.W.codeIn K cd9 "Cupboard.worth_of" = true)
    (k9 : PySem.W.keepIn K (.ref worthOf) = true)
    (a10 : PySem.W.findIn K (.ref cCup) "taking" = some (some (.ref taking)))
    (i10 : PySem.W.isFn K (.ref taking) = true)
    (l10 : K.lookup taking = some ⟨oc10, od10, .func (PySem.W.fnOf "taking" "Cupboard.taking" (defArgs sTaking) (defBody sTaking) (defScope sTaking) .none kV10 dc10 pm10 an10 cd10 ct10), sl10⟩)
    (c10 : PySem.W.codeIn K cd10 "Cupboard.taking" = true)
    (k10 : PySem.W.keepIn K (.ref taking) = true)
    (a11 : PySem.W.findIn K (.ref cCup) "crowds" = some (some (.ref crowds)))
    (i11 : PySem.W.isFn K (.ref crowds) = true)
    (l11 : K.lookup crowds = some ⟨oc11, od11, .func (PySem.W.fnOf "crowds" "Cupboard.crowds" (defArgs sCrowds) (defBody sCrowds) (defScope sCrowds) .none kV11 dc11 pm11 an11 cd11 ct11), sl11⟩)
    (c11 : PySem.W.codeIn K cd11 "Cupboard.crowds" = true)
    (k11 : PySem.W.keepIn K (.ref crowds) = true)
    (a12 : PySem.W.findIn K (.ref cCup) "too_many" = some (some (.ref tooMany)))
    (i12 : PySem.W.isFn K (.ref tooMany) = true)
    (l12 : K.lookup tooMany = some ⟨oc12, od12, .func (PySem.W.fnOf "too_many" "Cupboard.too_many" (defArgs sTooMany) (defBody sTooMany) (defScope sTooMany) .none kV12 dc12 pm12 an12 cd12 ct12), sl12⟩)
    (c12 : PySem.W.codeIn K cd12 "Cupboard.too_many" = true)
    (k12 : PySem.W.keepIn K (.ref tooMany) = true)
    (a13 : PySem.W.findIn K (.ref cCup) "enough" = some (some (.ref enough)))
    (i13 : PySem.W.isFn K (.ref enough) = true)
    (l13 : K.lookup enough = some ⟨oc13, od13, .func (PySem.W.fnOf "enough" "Cupboard.enough" (defArgs sEnough) (defBody sEnough) (defScope sEnough) .none kV13 dc13 pm13 an13 cd13 ct13), sl13⟩)
    (c13 : PySem.W.codeIn K cd13 "Cupboard.enough" = true)
    (k13 : PySem.W.keepIn K (.ref enough) = true)
    (a14 : PySem.W.findIn K (.ref cCup) "all_kept" = some (some (.ref allKept)))
    (i14 : PySem.W.isFn K (.ref allKept) = true)
    (l14 : K.lookup allKept = some ⟨oc14, od14, .func (PySem.W.fnOf "all_kept" "Cupboard.all_kept" (defArgs sAllKept) (defBody sAllKept) (defScope sAllKept) .none kV14 dc14 pm14 an14 cd14 ct14), sl14⟩)
    (c14 : PySem.W.codeIn K cd14 "Cupboard.all_kept" = true)
    (k14 : PySem.W.keepIn K (.ref allKept) = true)
    (a15 : PySem.W.findIn K (.ref cCup) "thrown_out" = some (some (.ref thrownOut)))
    (i15 : PySem.W.isFn K (.ref thrownOut) = true)
    (l15 : K.lookup thrownOut = some ⟨oc15, od15, .func (PySem.W.fnOf "thrown_out" "Cupboard.thrown_out" (defArgs sThrownOut) (defBody sThrownOut) (defScope sThrownOut) .none kV15 dc15 pm15 an15 cd15 ct15), sl15⟩)
    (c15 : PySem.W.codeIn K cd15 "Cupboard.thrown_out" = true)
    (k15 : PySem.W.keepIn K (.ref thrownOut) = true)
    (a16 : PySem.W.findIn K (.ref cCup) "as_they_come" = some (some (.ref asTheyCome)))
    (i16 : PySem.W.isFn K (.ref asTheyCome) = true)
    (l16 : K.lookup asTheyCome = some ⟨oc16, od16, .func (PySem.W.fnOf "as_they_come" "Cupboard.as_they_come" (defArgs sAsTheyCome) (defBody sAsTheyCome) (defScope sAsTheyCome) .none kV16 dc16 pm16 an16 cd16 ct16), sl16⟩)
    (c16 : PySem.W.codeIn K cd16 "Cupboard.as_they_come" = true)
    (k16 : PySem.W.keepIn K (.ref asTheyCome) = true)
    (a17 : PySem.W.nsIn K mainGlobals "measures_of" = some (some (.ref measuresOf)))
    (l17 : K.lookup measuresOf = some ⟨oc17, od17, .func (PySem.W.fnOf "measures_of" "measures_of" (defArgs sMeasuresOf) (defBody sMeasuresOf) (defScope sMeasuresOf) .none kV17 dc17 pm17 an17 cd17 ct17), sl17⟩)
    (c17 : PySem.W.codeIn K cd17 "measures_of" = true)
    (k17 : PySem.W.keepIn K (.ref measuresOf) = true)
    (a18 : PySem.W.nsIn K mainGlobals "chosen" = some (some (.ref chosen)))
    (l18 : K.lookup chosen = some ⟨oc18, od18, .func (PySem.W.fnOf "chosen" "chosen" (defArgs sChosen) (defBody sChosen) (defScope sChosen) .none kV18 dc18 pm18 an18 cd18 ct18), sl18⟩)
    (c18 : PySem.W.codeIn K cd18 "chosen" = true)
    (k18 : PySem.W.keepIn K (.ref chosen) = true)
    (a19 : PySem.W.nsIn K mainGlobals "told_choosing" = some (some (.ref toldC)))
    (l19 : K.lookup toldC = some ⟨oc19, od19, .func (PySem.W.fnOf "told" "told" (defArgs sToldC) (defBody sToldC) (defScope sToldC) .none kV19 dc19 pm19 an19 cd19 ct19), sl19⟩)
    (c19 : PySem.W.codeIn K cd19 "told" = true)
    (k19 : PySem.W.keepIn K (.ref toldC) = true)
    (a20 : PySem.W.nsIn K mainGlobals "call_at" = some (some (.ref callAt)))
    (l20 : K.lookup callAt = some ⟨oc20, od20, .func (PySem.W.fnOf "call_at" "call_at" (defArgs sCallAt) (defBody sCallAt) (defScope sCallAt) .none kV20 dc20 pm20 an20 cd20 ct20), sl20⟩)
    (c20 : PySem.W.codeIn K cd20 "call_at" = true)
    (k20 : PySem.W.keepIn K (.ref callAt) = true)
    (a21 : PySem.W.nsIn K mainGlobals "refuse_where" = some (some (.ref refuse)))
    (l21 : K.lookup refuse = some ⟨oc21, od21, .func (PySem.W.fnOf "refuse_where" "refuse_where" (defArgs sRefuse) (defBody sRefuse) (defScope sRefuse) .none kV21 dc21 pm21 an21 cd21 ct21), sl21⟩)
    (c21 : PySem.W.codeIn K cd21 "refuse_where" = true)
    (k21 : PySem.W.keepIn K (.ref refuse) = true)
    (a22 : PySem.W.nsIn K mainGlobals "begins" = some (some (.ref begins)))
    (l22 : K.lookup begins = some ⟨oc22, od22, .func (PySem.W.fnOf "begins" "begins" (defArgs sBegins) (defBody sBegins) (defScope sBegins) .none kV22 dc22 pm22 an22 cd22 ct22), sl22⟩)
    (c22 : PySem.W.codeIn K cd22 "begins" = true)
    (k22 : PySem.W.keepIn K (.ref begins) = true)
    (a23 : PySem.W.nsIn K mainGlobals "new_thing" = some (some (.ref newThing)))
    (l23 : K.lookup newThing = some ⟨oc23, od23, .func (PySem.W.fnOf "new_thing" "new_thing" (defArgs sNewThing) (defBody sNewThing) (defScope sNewThing) .none kV23 dc23 pm23 an23 cd23 ct23), sl23⟩)
    (c23 : PySem.W.codeIn K cd23 "new_thing" = true)
    (k23 : PySem.W.keepIn K (.ref newThing) = true)
    (a24 : PySem.W.nsIn K mainGlobals "check" = some (some (.ref check)))
    (l24 : K.lookup check = some ⟨oc24, od24, .func (PySem.W.fnOf "check" "check" (defArgs sCheck) (defBody sCheck) (defScope sCheck) .none kV24 dc24 pm24 an24 cd24 ct24), sl24⟩)
    (c24 : PySem.W.codeIn K cd24 "check" = true)
    (k24 : PySem.W.keepIn K (.ref check) = true)
    (a25 : PySem.W.nsIn K mainGlobals "plain" = some (some (.ref plain)))
    (l25 : K.lookup plain = some ⟨oc25, od25, .func (PySem.W.fnOf "plain" "plain" (defArgs sPlain) (defBody sPlain) (defScope sPlain) .none kV25 dc25 pm25 an25 cd25 ct25), sl25⟩)
    (c25 : PySem.W.codeIn K cd25 "plain" = true)
    (k25 : PySem.W.keepIn K (.ref plain) = true)
    (a26 : PySem.W.nsIn K mainGlobals "told_cupboard" = some (some (.ref told)))
    (l26 : K.lookup told = some ⟨oc26, od26, .func (PySem.W.fnOf "told" "told" (defArgs sTold) (defBody sTold) (defScope sTold) .none kV26 dc26 pm26 an26 cd26 ct26), sl26⟩)
    (c26 : PySem.W.codeIn K cd26 "told" = true)
    (k26 : PySem.W.keepIn K (.ref told) = true)
    (a27 : PySem.W.nsIn K mainGlobals "told_or_refused" = some (some (.ref toldOr)))
    (l27 : K.lookup toldOr = some ⟨oc27, od27, .func (PySem.W.fnOf "told_or_refused" "told_or_refused" (defArgs sToldOr) (defBody sToldOr) (defScope sToldOr) .none kV27 dc27 pm27 an27 cd27 ct27), sl27⟩)
    (c27 : PySem.W.codeIn K cd27 "told_or_refused" = true)
    (k27 : PySem.W.keepIn K (.ref toldOr) = true)
    (a28 : PySem.W.nsIn K mainGlobals "answers" = some (some (.ref answers)))
    (l28 : K.lookup answers = some ⟨oc28, od28, .func (PySem.W.fnOf "answers" "answers" (defArgs sAnswers) (defBody sAnswers) (defScope sAnswers) .none kV28 dc28 pm28 an28 cd28 ct28), sl28⟩)
    (c28 : PySem.W.codeIn K cd28 "answers" = true)
    (k28 : PySem.W.keepIn K (.ref answers) = true)
    (viMostPlaces : PySem.W.nsIn K mainGlobals "MOST_PLACES" = some (some (.int 5 tiMostPlaces)))
    (viMostThings : PySem.W.nsIn K mainGlobals "MOST_THINGS" = some (some (.int 9 tiMostThings)))
    (viLastDay : PySem.W.nsIn K mainGlobals "LAST_DAY" = some (some (.int 365 tiLastDay)))
    (viMostWorth : PySem.W.nsIn K mainGlobals "MOST_WORTH" = some (some (.int 1000 tiMostWorth)))
    (viBegins : PySem.W.nsIn K mainGlobals "BEGINS" = some (some (.int 0 tiBegins)))
    (viThing_ : PySem.W.nsIn K mainGlobals "THING" = some (some (.int 1 tiThing_)))
    (viCheck : PySem.W.nsIn K mainGlobals "CHECK" = some (some (.int 2 tiCheck)))
    (viBest : PySem.W.nsIn K mainGlobals "BEST" = some (some (.int 3 tiBest)))
    (viMost : PySem.W.nsIn K mainGlobals "MOST" = some (some (.int 4 tiMost)))
    (viPlain : PySem.W.nsIn K mainGlobals "PLAIN" = some (some (.int 5 tiPlain)))
    (viNotSo : PySem.W.nsIn K mainGlobals "NOT_SO" = some (some (.int (-1) tiNotSo)))
    (viFull : PySem.W.nsIn K mainGlobals "FULL" = some (some (.int (-5) tiFull)))
    (viTooMany : PySem.W.nsIn K mainGlobals "TOO_MANY" = some (some (.int (-6) tiTooMany)))
    (vzLen : PySem.W.nsIn K mainGlobals "len" = some none)
    (vzRange : PySem.W.nsIn K mainGlobals "range" = some none)
    (vzSum : PySem.W.nsIn K mainGlobals "sum" = some none)
    (vzSorted : PySem.W.nsIn K mainGlobals "sorted" = some none)
    (vzMax : PySem.W.nsIn K mainGlobals "max" = some none)
    (vzEnumerate : PySem.W.nsIn K mainGlobals "enumerate" = some none)
    (gN : PySem.W.nsIn K mainGlobals "NUMBERS_OF" = some (some (.ref numbersOf)))
    (lN : K.lookup numbersOf = some ⟨.type "tuple", odN, .seq #[.int 1 u0, .int 3 u1, .int 1 u2, .int 0 u3, .int 0 u4, .int 0 u5, .int 0 u6] nN, slN⟩)
    (aR : PySem.W.nsIn K mainGlobals "Refused" = some (some (.ref cRef)))
    (xR : K.lookup cRef = some (excClassObj nmR qR cRef nR bsR [.type "ValueError", .type "Exception", .type "BaseException", .type "object"] true snR subR abR colR ddR m0R m1R m2R m3R m5R "ValueError.__new__"))
    (saR : PySem.W.findIn K (.ref cRef) "__setattr__" = some (some (.builtin "object.__setattr__")))
    (gaR : PySem.W.findIn K (.ref cRef) "__getattribute__" = some (some (.builtin "BaseException.__getattribute__")))
    (ggR : PySem.W.findIn K (.ref cRef) "__getattr__" = some none)
    (nbR : PySem.W.findIn K (.ref cRef) "some" = some none)
    (inR : PySem.W.findIn K (.ref cRef) "__init__" = some (some (.ref iRef)))
    (tyR : PySem.W.typeIn K (.ref iRef) = some (.type "function"))
    (lR : K.lookup iRef = some ⟨ocR, odR, .func (PySem.W.fnOf "__init__" "Refused.__init__" (PySem.RefX.iA ⟨99, 17, 99, 21⟩ ⟨99, 23, 99, 30⟩) (PySem.RefX.iB ⟨100, 8, 100, 12⟩ ⟨100, 8, 100, 17⟩ ⟨100, 20, 100, 27⟩ ⟨100, 8, 100, 27⟩) PySem.RefX.iS .none .none dcR pmR anR cdR ctR), slR⟩)
    (coR : PySem.W.codeIn K cdR "Refused.__init__" = true)
    (kR : PySem.W.keepIn K (.ref cRef) = true)
    (eR : PySem.W.subIn K (.ref cRef) (.type "BaseException") = some true)
    (tR : PySem.W.typeIn K (.ref cRef) = some (.type "type"))
    (hR : PySem.W.hasDictIn K cRef = true)
    (isR : PySem.W.isClsIn K cRef = true)
    (sR : PySem.W.subIn K (.ref cRef) (.ref cRef) = some true) :
    ∃ fd : FuncData, (∀ (s : Shared) (us : List Value), us.length = (["calls"] : List Str).length → BindsTo s fd ⟨us, []⟩ ((["calls"] : List Str).zip us)) ∧ ∀ base : Heap, K.In base → base.Ns mainGlobals mg → FnOk P w K mg base CX0 9 fa fd ["calls"] (spAnswers K) := by
  have e := hfa.symm.trans (PySem.W.mg_of X G a28)
  cases e
  have T : Txt K mg ⟨cChosen, cThing, cCrowd, cCup, cRef, cCall, cLine, iChosen, iThing, iCrowd, iCup, iRef, iCall, iLine, takes, thingsOf, worthOf, taking, crowds, tooMany, enough, allKept, thrownOut, asTheyCome, measuresOf, chosen, toldC, callAt, refuse, begins, newThing, check, plain, told, toldOr, numbersOf⟩ :=
    { kChosen := ⟨pgChosen, hdChosen, poChosen, saChosen⟩
      mChosen := ⟨mkChosen, inChosen, fnChosen, kcChosen⟩
      nChosen1 := nChosen1
      nChosen2 := nChosen2
      nChosen3 := nChosen3
      aIChosen := ⟨_, fun_mk (st := sIChosen) l1 c1 k1⟩
      gChosenC := PySem.W.mg_of X G gChosen
      kThing := ⟨pgThing, hdThing, poThing, saThing⟩
      mThing := ⟨mkThing, inThing, fnThing, kcThing⟩
      nThing1 := nThing1
      nThing2 := nThing2
      nThing3 := nThing3
      aIThing := ⟨_, fun_mk (st := sIThing) l2 c2 k2⟩
      gThing := PySem.W.mg_of X G gThing
      kCrowd := ⟨pgCrowd, hdCrowd, poCrowd, saCrowd⟩
      mCrowd := ⟨mkCrowd, inCrowd, fnCrowd, kcCrowd⟩
      nCrowd1 := nCrowd1
      nCrowd2 := nCrowd2
      aICrowd := ⟨_, fun_mk (st := sICrowd) l3 c3 k3⟩
      gCrowd := PySem.W.mg_of X G gCrowd
      kCup := ⟨pgCup, hdCup, poCup, saCup⟩
      mCup := ⟨mkCup, inCup, fnCup, kcCup⟩
      nCup1 := nCup1
      nCup2 := nCup2
      aICup := ⟨_, fun_mk (st := sICup) l4 c4 k4⟩
      gCup := PySem.W.mg_of X G gCup
      kCall := ⟨pgCall, hdCall, poCall, saCall⟩
      mCall := ⟨mkCall, inCall, fnCall, kcCall⟩
      nCall1 := nCall1
      nCall2 := nCall2
      nCall3 := nCall3
      aICall := ⟨_, fun_mk (st := sICall) l5 c5 k5⟩
      gCall := PySem.W.mg_of X G gCall
      kLine := ⟨pgLine, hdLine, poLine, saLine⟩
      mLine := ⟨mkLine, inLine, fnLine, kcLine⟩
      nLine1 := nLine1
      aILine := ⟨_, fun_mk (st := sILine) l6 c6 k6⟩
      gLine := PySem.W.mg_of X G gLine
      meTakes := ⟨a7, i7, k7⟩
      aTakes := ⟨_, fun_mk (st := sTakes) l7 c7 k7⟩
      meThingsOf := ⟨a8, i8, k8⟩
      aThingsOf := ⟨_, fun_mk (st := sThingsOf) l8 c8 k8⟩
      meWorthOf := ⟨a9, i9, k9⟩
      aWorthOf := ⟨_, fun_mk (st := sWorthOf) l9 c9 k9⟩
      meTaking := ⟨a10, i10, k10⟩
      aTaking := ⟨_, fun_mk (st := sTaking) l10 c10 k10⟩
      meCrowds := ⟨a11, i11, k11⟩
      aCrowds := ⟨_, fun_mk (st := sCrowds) l11 c11 k11⟩
      meTooMany := ⟨a12, i12, k12⟩
      aTooMany := ⟨_, fun_mk (st := sTooMany) l12 c12 k12⟩
      meEnough := ⟨a13, i13, k13⟩
      aEnough := ⟨_, fun_mk (st := sEnough) l13 c13 k13⟩
      meAllKept := ⟨a14, i14, k14⟩
      aAllKept := ⟨_, fun_mk (st := sAllKept) l14 c14 k14⟩
      meThrownOut := ⟨a15, i15, k15⟩
      aThrownOut := ⟨_, fun_mk (st := sThrownOut) l15 c15 k15⟩
      meAsTheyCome := ⟨a16, i16, k16⟩
      aAsTheyCome := ⟨_, fun_mk (st := sAsTheyCome) l16 c16 k16⟩
      aMeasuresOf := ⟨_, fun_mk (st := sMeasuresOf) l17 c17 k17⟩
      gMeasuresOf := PySem.W.mg_of X G a17
      aChosen := ⟨_, fun_mk (st := sChosen) l18 c18 k18⟩
      gChosen := PySem.W.mg_of X G a18
      aToldC := ⟨_, fun_mk (st := sToldC) l19 c19 k19⟩
      gToldC := PySem.W.mg_of X G a19
      aCallAt := ⟨_, fun_mk (st := sCallAt) l20 c20 k20⟩
      gCallAt := PySem.W.mg_of X G a20
      aRefuse := ⟨_, fun_mk (st := sRefuse) l21 c21 k21⟩
      gRefuse := PySem.W.mg_of X G a21
      aBegins := ⟨_, fun_mk (st := sBegins) l22 c22 k22⟩
      gBegins := PySem.W.mg_of X G a22
      aNewThing := ⟨_, fun_mk (st := sNewThing) l23 c23 k23⟩
      gNewThing := PySem.W.mg_of X G a23
      aCheck := ⟨_, fun_mk (st := sCheck) l24 c24 k24⟩
      gCheck := PySem.W.mg_of X G a24
      aPlain := ⟨_, fun_mk (st := sPlain) l25 c25 k25⟩
      gPlain := PySem.W.mg_of X G a25
      aTold := ⟨_, fun_mk (st := sTold) l26 c26 k26⟩
      gTold := PySem.W.mg_of X G a26
      aToldOr := ⟨_, fun_mk (st := sToldOr) l27 c27 k27⟩
      gToldOr := PySem.W.mg_of X G a27
      iMostPlaces := ⟨_, PySem.W.mg_of X G viMostPlaces⟩
      iMostThings := ⟨_, PySem.W.mg_of X G viMostThings⟩
      iLastDay := ⟨_, PySem.W.mg_of X G viLastDay⟩
      iMostWorth := ⟨_, PySem.W.mg_of X G viMostWorth⟩
      iBegins := ⟨_, PySem.W.mg_of X G viBegins⟩
      iThing_ := ⟨_, PySem.W.mg_of X G viThing_⟩
      iCheck := ⟨_, PySem.W.mg_of X G viCheck⟩
      iBest := ⟨_, PySem.W.mg_of X G viBest⟩
      iMost := ⟨_, PySem.W.mg_of X G viMost⟩
      iPlain := ⟨_, PySem.W.mg_of X G viPlain⟩
      iNotSo := ⟨_, PySem.W.mg_of X G viNotSo⟩
      iFull := ⟨_, PySem.W.mg_of X G viFull⟩
      iTooMany := ⟨_, PySem.W.mg_of X G viTooMany⟩
      zLen := PySem.W.mg_none_of X G vzLen
      zRange := PySem.W.mg_none_of X G vzRange
      zSum := PySem.W.mg_none_of X G vzSum
      zSorted := PySem.W.mg_none_of X G vzSorted
      zMax := PySem.W.mg_none_of X G vzMax
      zEnumerate := PySem.W.mg_none_of X G vzEnumerate
      gNumbersOf := PySem.W.mg_of X G gN
      tNumbersOf := fun H => .inr ⟨_, _, _, lN, rfl, rfl, (by show 7 ≤ sizeLine; decide), .cons ⟨_, rfl⟩ (.cons ⟨_, rfl⟩ (.cons ⟨_, rfl⟩ (.cons ⟨_, rfl⟩ (.cons ⟨_, rfl⟩ (.cons ⟨_, rfl⟩ (.cons ⟨_, rfl⟩ (.nil)))))))⟩ }
  have R : RefTxt K mg ⟨cChosen, cThing, cCrowd, cCup, cRef, cCall, cLine, iChosen, iThing, iCrowd, iCup, iRef, iCall, iLine, takes, thingsOf, worthOf, taking, crowds, tooMany, enough, allKept, thrownOut, asTheyCome, measuresOf, chosen, toldC, callAt, refuse, begins, newThing, check, plain, told, toldOr, numbersOf⟩ :=
    { gC := PySem.W.mg_of X G aR, cls := ⟨nmR, qR, nR, bsR, _, snR, subR, abR, colR, ddR, m0R, m1R, m2R, m3R, m5R, xR, by decide +kernel⟩, sa := saR, ga := gaR, gg := ggR, noN := nbR, iC := inR, tC := tyR, kC := kR, exC := eR, tyC := tR, hdC := hR, te := exm_self eR isR tR sR,
      fn := ⟨_, _, _, _, _, _, _, _, _, _, _, _, _, _, lR, coR⟩ }
  refine ⟨PySem.W.fnOf "answers" "answers" (defArgs sAnswers) (defBody sAnswers) (defScope sAnswers) .none kV28 dc28 pm28 an28 cd28 ct28, fun s us hu => match us, hu with | [_], _ => .of_eq rfl, fun base _ _ => ?_⟩
  have F0 : Fun K "answers" "answers" sAnswers fa _ := fun_mk (st := sAnswers) l28 c28 k28
  exact ok_answers1 (P := P) (w := w) (base := base) T R F0
end CK
open PySem PySem.W PyProof.Rows
set_option maxRecDepth 100000 in
set_option maxHeartbeats 0 in
theorem PySem.Challenge.cw_cupboardkept_s01_answers_holds : PySem.Challenge.rw_cupboardkept_s01_answers.Holds := by
  w_on; k_headS; (case hw => exact ⟨[.list [.int 0, .int 1]], by decide +kernel, by decide +kernel⟩)
  k_fillS
  refine L2.walk_specK (r := PySem.Challenge.rw_cupboardkept_s01_answers) (k := 9) (CX := L2.CX0) (ps := ["calls"]) (sp := CK.spAnswers) (by decide +kernel) rfl rfl ⟨rfl, by decide, by decide⟩ (fun w h Y => PySem.W.kIn_of Y) ?F ?S (fun _ _ _ _ z => z)
  case F =>
    intro w mg fa h Y KX G hmg
    refine' CK.all_mk KX G hmg ?gChosen ?pgChosen ?hdChosen ?poChosen ?saChosen ?mkChosen ?inChosen ?fnChosen ?kcChosen ?nChosen1 ?nChosen2 ?nChosen3 ?l1 ?c1 ?k1 ?gThing ?pgThing ?hdThing ?poThing ?saThing ?mkThing ?inThing ?fnThing ?kcThing ?nThing1 ?nThing2 ?nThing3 ?l2 ?c2 ?k2 ?gCrowd ?pgCrowd ?hdCrowd ?poCrowd ?saCrowd ?mkCrowd ?inCrowd ?fnCrowd ?kcCrowd ?nCrowd1 ?nCrowd2 ?l3 ?c3 ?k3 ?gCup ?pgCup ?hdCup ?poCup ?saCup ?mkCup ?inCup ?fnCup ?kcCup ?nCup1 ?nCup2 ?l4 ?c4 ?k4 ?gCall ?pgCall ?hdCall ?poCall ?saCall ?mkCall ?inCall ?fnCall ?kcCall ?nCall1 ?nCall2 ?nCall3 ?l5 ?c5 ?k5 ?gLine ?pgLine ?hdLine ?poLine ?saLine ?mkLine ?inLine ?fnLine ?kcLine ?nLine1 ?l6 ?c6 ?k6 ?a7 ?i7 ?l7 ?c7 ?k7 ?a8 ?i8 ?l8 ?c8 ?k8 ?a9 ?i9 ?l9 ?c9 ?k9 ?a10 ?i10 ?l10 ?c10 ?k10 ?a11 ?i11 ?l11 ?c11 ?k11 ?a12 ?i12 ?l12 ?c12 ?k12 ?a13 ?i13 ?l13 ?c13 ?k13 ?a14 ?i14 ?l14 ?c14 ?k14 ?a15 ?i15 ?l15 ?c15 ?k15 ?a16 ?i16 ?l16 ?c16 ?k16 ?a17 ?l17 ?c17 ?k17 ?a18 ?l18 ?c18 ?k18 ?a19 ?l19 ?c19 ?k19 ?a20 ?l20 ?c20 ?k20 ?a21 ?l21 ?c21 ?k21 ?a22 ?l22 ?c22 ?k22 ?a23 ?l23 ?c23 ?k23 ?a24 ?l24 ?c24 ?k24 ?a25 ?l25 ?c25 ?k25 ?a26 ?l26 ?c26 ?k26 ?a27 ?l27 ?c27 ?k27 ?a28 ?l28 ?c28 ?k28 ?viMostPlaces ?viMostThings ?viLastDay ?viMostWorth ?viBegins ?viThing_ ?viCheck ?viBest ?viMost ?viPlain ?viNotSo ?viFull ?viTooMany ?vzLen ?vzRange ?vzSum ?vzSorted ?vzMax ?vzEnumerate ?gN ?lN ?aR ?xR ?saR ?gaR ?ggR ?nbR ?inR ?tyR ?lR ?coR ?kR ?eR ?tR ?hR ?isR ?sR
    (case gChosen => k_is)
    (case pgChosen => k_is)
    (case hdChosen => k_is)
    (case poChosen => k_is)
    (case saChosen => k_is)
    (case mkChosen => k_is)
    (case inChosen => k_is)
    (case fnChosen => k_is)
    (case kcChosen => k_is)
    (case nChosen1 => k_is)
    (case nChosen2 => k_is)
    (case nChosen3 => k_is)
    (case l1 => k_is)
    (case c1 => k_is)
    (case k1 => k_is)
    (case gThing => k_is)
    (case pgThing => k_is)
    (case hdThing => k_is)
    (case poThing => k_is)
    (case saThing => k_is)
    (case mkThing => k_is)
    (case inThing => k_is)
    (case fnThing => k_is)
    (case kcThing => k_is)
    (case nThing1 => k_is)
    (case nThing2 => k_is)
    (case nThing3 => k_is)
    (case l2 => k_is)
    (case c2 => k_is)
    (case k2 => k_is)
    (case gCrowd => k_is)
    (case pgCrowd => k_is)
    (case hdCrowd => k_is)
    (case poCrowd => k_is)
    (case saCrowd => k_is)
    (case mkCrowd => k_is)
    (case inCrowd => k_is)
    (case fnCrowd => k_is)
    (case kcCrowd => k_is)
    (case nCrowd1 => k_is)
    (case nCrowd2 => k_is)
    (case l3 => k_is)
    (case c3 => k_is)
    (case k3 => k_is)
    (case gCup => k_is)
    (case pgCup => k_is)
    (case hdCup => k_is)
    (case poCup => k_is)
    (case saCup => k_is)
    (case mkCup => k_is)
    (case inCup => k_is)
    (case fnCup => k_is)
    (case kcCup => k_is)
    (case nCup1 => k_is)
    (case nCup2 => k_is)
    (case l4 => k_is)
    (case c4 => k_is)
    (case k4 => k_is)
    (case gCall => k_is)
    (case pgCall => k_is)
    (case hdCall => k_is)
    (case poCall => k_is)
    (case saCall => k_is)
    (case mkCall => k_is)
    (case inCall => k_is)
    (case fnCall => k_is)
    (case kcCall => k_is)
    (case nCall1 => k_is)
    (case nCall2 => k_is)
    (case nCall3 => k_is)
    (case l5 => k_is)
    (case c5 => k_is)
    (case k5 => k_is)
    (case gLine => k_is)
    (case pgLine => k_is)
    (case hdLine => k_is)
    (case poLine => k_is)
    (case saLine => k_is)
    (case mkLine => k_is)
    (case inLine => k_is)
    (case fnLine => k_is)
    (case kcLine => k_is)
    (case nLine1 => k_is)
    (case l6 => k_is)
    (case c6 => k_is)
    (case k6 => k_is)
    (case a7 => k_is)
    (case i7 => k_is)
    (case l7 => k_is)
    (case c7 => k_is)
    (case k7 => k_is)
    (case a8 => k_is)
    (case i8 => k_is)
    (case l8 => k_is)
    (case c8 => k_is)
    (case k8 => k_is)
    (case a9 => k_is)
    (case i9 => k_is)
    (case l9 => k_is)
    (case c9 => k_is)
    (case k9 => k_is)
    (case a10 => k_is)
    (case i10 => k_is)
    (case l10 => k_is)
    (case c10 => k_is)
    (case k10 => k_is)
    (case a11 => k_is)
    (case i11 => k_is)
    (case l11 => k_is)
    (case c11 => k_is)
    (case k11 => k_is)
    (case a12 => k_is)
    (case i12 => k_is)
    (case l12 => k_is)
    (case c12 => k_is)
    (case k12 => k_is)
    (case a13 => k_is)
    (case i13 => k_is)
    (case l13 => k_is)
    (case c13 => k_is)
    (case k13 => k_is)
    (case a14 => k_is)
    (case i14 => k_is)
    (case l14 => k_is)
    (case c14 => k_is)
    (case k14 => k_is)
    (case a15 => k_is)
    (case i15 => k_is)
    (case l15 => k_is)
    (case c15 => k_is)
    (case k15 => k_is)
    (case a16 => k_is)
    (case i16 => k_is)
    (case l16 => k_is)
    (case c16 => k_is)
    (case k16 => k_is)
    (case a17 => k_is)
    (case l17 => k_is)
    (case c17 => k_is)
    (case k17 => k_is)
    (case a18 => k_is)
    (case l18 => k_is)
    (case c18 => k_is)
    (case k18 => k_is)
    (case a19 => k_is)
    (case l19 => k_is)
    (case c19 => k_is)
    (case k19 => k_is)
    (case a20 => k_is)
    (case l20 => k_is)
    (case c20 => k_is)
    (case k20 => k_is)
    (case a21 => k_is)
    (case l21 => k_is)
    (case c21 => k_is)
    (case k21 => k_is)
    (case a22 => k_is)
    (case l22 => k_is)
    (case c22 => k_is)
    (case k22 => k_is)
    (case a23 => k_is)
    (case l23 => k_is)
    (case c23 => k_is)
    (case k23 => k_is)
    (case a24 => k_is)
    (case l24 => k_is)
    (case c24 => k_is)
    (case k24 => k_is)
    (case a25 => k_is)
    (case l25 => k_is)
    (case c25 => k_is)
    (case k25 => k_is)
    (case a26 => k_is)
    (case l26 => k_is)
    (case c26 => k_is)
    (case k26 => k_is)
    (case a27 => k_is)
    (case l27 => k_is)
    (case c27 => k_is)
    (case k27 => k_is)
    (case a28 => k_is)
    (case l28 => k_is)
    (case c28 => k_is)
    (case k28 => k_is)
    (case viMostPlaces => k_is)
    (case viMostThings => k_is)
    (case viLastDay => k_is)
    (case viMostWorth => k_is)
    (case viBegins => k_is)
    (case viThing_ => k_is)
    (case viCheck => k_is)
    (case viBest => k_is)
    (case viMost => k_is)
    (case viPlain => k_is)
    (case viNotSo => k_is)
    (case viFull => k_is)
    (case viTooMany => k_is)
    (case vzLen => k_is)
    (case vzRange => k_is)
    (case vzSum => k_is)
    (case vzSorted => k_is)
    (case vzMax => k_is)
    (case vzEnumerate => k_is)
    (case gN => k_is)
    (case lN => k_is)
    (case aR => k_is)
    (case xR => k_is)
    (case saR => k_is)
    (case gaR => k_is)
    (case ggR => k_is)
    (case nbR => k_is)
    (case inR => k_is)
    (case tyR => k_is)
    (case lR => k_is)
    (case coR => k_is)
    (case kR => k_is)
    (case eR => k_is)
    (case tR => k_is)
    (case hR => k_is)
    (case isR => k_is)
    (case sR => first | rfl | k_is)
  case S =>
    intro K H xs a hO hwi hask hx
    cases hx with
    | cons h1 h2 =>
      cases h2
      cases h1 with
      | lst hs ha =>
        have e := L2.ints_dw a.1 _ ha
        subst e
        have q : ((Codec.inLen 0 240 a.1 && a.1.all (Codec.inInt 0 4294967295)) && true) = true := hwi
        rw [Bool.and_eq_true, Bool.and_eq_true] at q
        refine ⟨_, a.1, rfl, hs, fun n hn => ?_, hask, fun H' p hp => .lst (L2.SqL.of hp) (L2.dw_ints _)⟩
        have z := List.all_eq_true.mp q.1.2 n hn
        exact (Codec.inInt_iff.mp z).1
