/- IsValidConsole of the program returns what the reference's returns, for every console. No conditions. -/
import Derived.Test.YtgmodeeebkngcaaGreatDoorQFnExactIsValidConsolex
namespace Go.Proofs.YtgmodeeebkngcaaGreatDoor.Pure
open Go.RowKit Go.Proofs.YtgmodeeebkngcaaGreatDoor.QFnExactIsValidConsole Go.Proofs.YtgmodeeebkngcaaGreatDoorW.PrintWords Go.Proofs.YtgmodeeebkngcaaGreatDoorW.PrintLast Go.Proofs.YtgmodeeebkngcaaGreatDoorW.PrintMore
set_option linter.unusedVariables false
set_option linter.unusedSimpArgs false

theorem wrap_id {x : Int} (h0 : -9223372036854775808 ≤ x) (h1 : x ≤ 9223372036854775807) : wrap64 x = x := by
 unfold wrap64
 omega
theorem wrap_one {i n : Nat} (h : i < n) (hn : n ≤ 4611686018427387904) : wrap64 ((i : Int) + 1) = ((i + 1 : Nat) : Int) := by
 unfold wrap64
 omega
theorem rd_nat (l : List Int) (i : Nat) : rd l (i : Int) = l.getD i 0 := by unfold rd; simp
theorem rd_get (l : List Int) (i : Nat) (h : i < l.length) : rd l (i : Int) = l[i] := by rw [rd_nat]; simp [List.getD, h]
theorem fuel {k d : Nat} (h : d < k) : ∃ m, k = m + 1 ∧ d ≤ m := ⟨k - 1, by omega, by omega⟩

theorem spec_l1In_eq (n a b : Int) : spec_l1In.f n a b = some (decide (a ≤ n ∧ n ≤ b)) := by
 unfold spec_l1In.f
 by_cases h : n ≥ a
 ·rw [if_pos h]
  simp [show a ≤ n from h]
 ·rw [if_neg h]
  simp [show ¬ a ≤ n from h]
theorem impl_within_eq (n a b : Int) : impl_within.f n a b = some (decide (a ≤ n ∧ n ≤ b)) := by
 unfold impl_within.f
 by_cases h : n ≥ a
 ·rw [if_pos h]
  simp [show a ≤ n from h]
 ·rw [if_neg h]
  simp [show ¬ a ≤ n from h]

theorem impl_allWithin_l0 (l : List Int) (a b : Int) (hl : l.length ≤ 1048576) (d : Nat) : ∀ (k i : Nat), i ≤ l.length → l.length - i = d → d < k → impl_allWithin.l0 k a b l (l.length : Int) i = some (decide (∀ x ∈ l.drop i, a ≤ x ∧ x ≤ b)) := by
 induction d with
 | zero =>
  intro k i hi hd hk
  obtain ⟨k, rfl, _⟩ := fuel hk
  simp only [impl_allWithin.l0]
  rw [if_neg (by omega), List.drop_eq_nil_of_le (by omega)]
  simp
 | succ d ih =>
  intro k i hi hd hk
  obtain ⟨k, rfl, _⟩ := fuel hk
  simp only [impl_allWithin.l0]
  rw [if_pos (by omega), if_pos (by omega), if_pos (by omega), wrap_one (n := l.length) (by omega) (by omega), rd_get l i (by omega), impl_within_eq, ih k (i + 1) (by omega) (by omega) (by omega)]
  rw [List.drop_eq_getElem_cons (l := l) (i := i) (by omega)]
  rw [Option.bind_some]
  by_cases h : a ≤ l[i]'(by omega) ∧ l[i]'(by omega) ≤ b
  ·rw [if_pos (by simp only [h]; simp)]
   refine congrArg some ?_
   rw [decide_eq_decide]
   simp only [List.mem_cons]
   exact ⟨fun e x hx => hx.elim (fun z => z ▸ h) (e x), fun e x hx => e x (.inr hx)⟩
  ·rw [if_neg (by rw [decide_eq_true_eq]; exact h)]
   refine congrArg some ?_
   symm
   rw [decide_eq_false_iff_not]
   exact fun e => h (e _ List.mem_cons_self)
theorem impl_allWithin_eq (l : List Int) (a b : Int) (hl : l.length ≤ 1048576) (k : Nat) (hk : l.length < k) : impl_allWithin.f k l a b = some (decide (∀ x ∈ l, a ≤ x ∧ x ≤ b)) :=
 impl_allWithin_l0 l a b hl l.length k 0 (by omega) (by omega) hk

def Rising (l : List Int) (a b : Int) : Prop := ∀ i, (h : i < l.length) → (a ≤ l[i] ∧ l[i] ≤ b) ∧ (0 < i → l.getD (i - 1) 0 < l[i])
def RowOK (s : Int) (ring : Bool) (t : List Int) : Prop := (2 ≤ s ∧ s ≤ 24) ∧ (ring = true → 3 ≤ s) ∧ Rising t 0 (s - 1)
open Classical in
theorem spec_l1Rising_l0 (l : List Int) (a b : Int) (hl : l.length ≤ 1048576) (d : Nat) : ∀ (k i : Nat), i ≤ l.length → l.length - i = d → d < k → (∀ j, (h : j < i) → (hj : j < l.length) → (a ≤ l[j] ∧ l[j] ≤ b) ∧ (0 < j → l.getD (j - 1) 0 < l[j])) →
  spec_l1Rising.l0 k l a b i = some (decide (Rising l a b)) := by
 induction d with
 | zero =>
  intro k i hi hd hk hp
  obtain ⟨k, rfl, _⟩ := fuel hk
  simp only [spec_l1Rising.l0]
  rw [if_neg (by omega)]
  refine congrArg some ?_
  symm
  rw [decide_eq_true_eq]
  exact fun j hj => hp j (by omega) hj
 | succ d ih =>
  intro k i hi hd hk hp
  obtain ⟨k, rfl, _⟩ := fuel hk
  have no : ¬ ((a ≤ l[i]'(by omega) ∧ l[i]'(by omega) ≤ b) ∧ (0 < i → l.getD (i - 1) 0 < l[i]'(by omega))) → ¬ Rising l a b := fun g e => g (e i (by omega))
  have go : ((a ≤ l[i]'(by omega) ∧ l[i]'(by omega) ≤ b) ∧ (0 < i → l.getD (i - 1) 0 < l[i]'(by omega))) → spec_l1Rising.l0 k l a b (wrap64 ((i : Int) + 1)) = some (decide (Rising l a b)) := by
   intro g
   rw [wrap_one (n := l.length) (by omega) (by omega)]
   refine ih k (i + 1) (by omega) (by omega) (by omega) fun j hj hj' => ?_
   by_cases e : j = i
   ·subst e; exact g
   ·exact hp j (by omega) hj'
  simp only [spec_l1Rising.l0]
  rw [if_pos (by omega), if_pos (by omega), rd_get l i (by omega), spec_l1In_eq, Option.bind_some]
  by_cases g : a ≤ l[i]'(by omega) ∧ l[i]'(by omega) ≤ b
  ·rw [if_pos (decide_eq_true g)]
   by_cases h0 : 0 < i
   ·rw [if_pos (by omega), wrap_id (by omega) (by omega), if_pos (by omega), if_pos (by omega), show (i : Int) - 1 = ((i - 1 : Nat) : Int) from by omega, rd_nat]
    by_cases g2 : l.getD (i - 1) 0 < l[i]'(by omega)
    ·rw [if_neg (by omega)]
     exact go ⟨g, fun _ => g2⟩
    ·rw [if_pos (by omega), decide_eq_false (no fun e => g2 (e.2 h0))]
   ·rw [if_neg (by omega)]
    exact go ⟨g, fun e => absurd e h0⟩
  ·rw [if_neg (by rw [decide_eq_true_eq]; exact g), decide_eq_false (no fun e => g e.1)]
open Classical in
theorem spec_l1Rising_eq (l : List Int) (a b : Int) (hl : l.length ≤ 1048576) (k : Nat) (hk : l.length < k) : spec_l1Rising.f k l a b = some (decide (Rising l a b)) :=
 spec_l1Rising_l0 l a b hl l.length k 0 (by omega) (by omega) hk (fun j h => by omega)
open Classical in
theorem spec_l2Row_eq (s : Int) (ring : Bool) (t : List Int) (ht : t.length ≤ 1048576) (k : Nat) (hk : t.length < k) : spec_l2Row.f k s ring t = some (decide (RowOK s ring t)) := by
 unfold spec_l2Row.f
 rw [spec_l1In_eq, Option.bind_some]
 by_cases h : 2 ≤ s ∧ s ≤ 24
 ·rw [if_pos (decide_eq_true h), wrap_id (by omega) (by omega), spec_l1Rising_eq t _ _ ht k hk, Option.bind_some]
  cases ring with
  | true =>
   rw [if_pos rfl]
   by_cases h3 : s > 2
   ·rw [if_pos h3]
    refine congrArg some ?_
    rw [decide_eq_decide]
    exact ⟨fun e => ⟨h, fun _ => by omega, e⟩, fun e => e.2.2⟩
   ·rw [if_neg h3]
    refine congrArg some ?_
    symm
    rw [decide_eq_false_iff_not]
    exact fun e => h3 (by have := e.2.1 rfl; omega)
  | false =>
   rw [if_neg (by simp)]
   refine congrArg some ?_
   rw [decide_eq_decide]
   exact ⟨fun e => ⟨h, (fun z => by cases z), e⟩, fun e => e.2.2⟩
 ·rw [if_neg (by rw [decide_eq_true_eq]; exact h)]
  refine congrArg some ?_
  symm
  rw [decide_eq_false_iff_not]
  exact fun e => h e.1
theorem impl_bench_has_one (s : Int) (ring : Bool) (p : Int) (k : Nat) (hk : 2 < k) : impl_bench_has.f k s ring [p] = some (decide (0 ≤ p ∧ p ≤ wrap64 (s - 1))) := by
 unfold impl_bench_has.f
 rw [impl_allWithin_eq [p] _ _ (by simp) k (by simp; omega), Option.bind_some]
 refine congrArg some ?_
 rw [decide_eq_decide]
 simp
theorem impl_bench_valid_eq (s : Int) (ring : Bool) : impl_bench_valid.f s ring = some (decide ((2 ≤ s ∧ s ≤ 24) ∧ (ring = true → 3 ≤ s))) := by
 unfold impl_bench_valid.f
 rw [impl_within_eq, Option.bind_some]
 by_cases h : 2 ≤ s ∧ s ≤ 24
 ·rw [if_pos (decide_eq_true h)]
  cases ring with
  | true =>
   rw [if_pos rfl]
   refine congrArg some ?_
   rw [decide_eq_decide]
   exact ⟨fun e => ⟨h, fun _ => e⟩, fun e => e.2 rfl⟩
  | false =>
   rw [if_neg (by simp)]
   refine congrArg some ?_
   symm
   rw [decide_eq_true_eq]
   exact ⟨h, (fun z => by cases z)⟩
 ·rw [if_neg (by rw [decide_eq_true_eq]; exact h)]
  refine congrArg some ?_
  symm
  rw [decide_eq_false_iff_not]
  exact fun e => h e.1
open Classical in
theorem impl_IsRow_l0 (s : Int) (ring : Bool) (l : List Int) (hl : l.length ≤ 1048576) (d : Nat) : ∀ (k i : Nat), i ≤ l.length → l.length - i = d → d + 3 < k → ((2 ≤ s ∧ s ≤ 24) → ∀ j, (h : j < i) → (hj : j < l.length) → (0 ≤ l[j] ∧ l[j] ≤ s - 1) ∧ (0 < j → l.getD (j - 1) 0 < l[j])) →
  impl_IsRow.l0 k l (l.length : Int) i s ring l = some (decide (RowOK s ring l)) := by
 induction d with
 | zero =>
  intro k i hi hd hk hp
  obtain ⟨k, rfl, _⟩ := fuel hk
  simp only [impl_IsRow.l0]
  rw [if_neg (by omega), impl_Row_bench.f, Option.bind_some]
  dsimp only
  rw [impl_bench_valid_eq, Option.bind_some]
  refine congrArg some ?_
  rw [decide_eq_decide]
  exact ⟨fun e => ⟨e.1, e.2, fun j hj => hp e.1 j (by omega) hj⟩, fun e => ⟨e.1, e.2.1⟩⟩
 | succ d ih =>
  intro k i hi hd hk hp
  obtain ⟨k, rfl, _⟩ := fuel hk
  have no : (2 ≤ s ∧ s ≤ 24 → ¬ ((0 ≤ l[i]'(by omega) ∧ l[i]'(by omega) ≤ s - 1) ∧ (0 < i → l.getD (i - 1) 0 < l[i]'(by omega)))) → ¬ RowOK s ring l := fun g e => g e.1 (e.2.2 i (by omega))
  have go : (2 ≤ s ∧ s ≤ 24 → ((0 ≤ l[i]'(by omega) ∧ l[i]'(by omega) ≤ s - 1) ∧ (0 < i → l.getD (i - 1) 0 < l[i]'(by omega)))) → impl_IsRow.l0 k l (l.length : Int) (wrap64 ((i : Int) + 1)) s ring l = some (decide (RowOK s ring l)) := by
   intro g
   rw [wrap_one (n := l.length) (by omega) (by omega)]
   refine ih k (i + 1) (by omega) (by omega) (by omega) fun hs j hj hj' => ?_
   by_cases e : j = i
   ·subst e; exact g hs
   ·exact hp hs j (by omega) hj'
  simp only [impl_IsRow.l0]
  rw [if_pos (by omega), if_pos (by omega), if_pos (by omega), impl_Row_bench.f, Option.bind_some]
  dsimp only
  rw [rd_get l i (by omega), impl_bench_has_one _ _ _ k (by omega), Option.bind_some]
  by_cases g : 0 ≤ l[i]'(by omega) ∧ l[i]'(by omega) ≤ wrap64 (s - 1)
  ·rw [if_pos (decide_eq_true g)]
   have g' : 2 ≤ s ∧ s ≤ 24 → 0 ≤ l[i]'(by omega) ∧ l[i]'(by omega) ≤ s - 1 := fun hs => by
    rw [wrap_id (by omega) (by omega)] at g
    exact g
   by_cases h0 : 0 < i
   ·rw [if_pos (by omega), wrap_id (by omega) (by omega), if_pos (by omega), if_pos (by omega), show (i : Int) - 1 = ((i - 1 : Nat) : Int) from by omega, rd_nat]
    by_cases g2 : l.getD (i - 1) 0 < l[i]'(by omega)
    ·rw [if_neg (by omega)]
     exact go fun hs => ⟨g' hs, fun _ => g2⟩
    ·rw [if_pos (by omega), decide_eq_false (no fun _ e => g2 (e.2 h0))]
   ·rw [if_neg (by omega)]
    exact go fun hs => ⟨g' hs, fun e => absurd e h0⟩
  ·rw [if_neg (by rw [decide_eq_true_eq]; exact g)]
   rw [decide_eq_false (no fun hs e => g ?_)]
   rw [wrap_id (by omega) (by omega)]
   exact e.1
open Classical in
theorem impl_IsRow_eq (s : Int) (ring : Bool) (l : List Int) (hl : l.length ≤ 1048576) (k : Nat) (hk : l.length + 3 < k) : impl_IsRow.f k s ring l = some (decide (RowOK s ring l)) :=
 impl_IsRow_l0 s ring l hl l.length k 0 (by omega) (by omega) hk (fun _ j h => by omega)
theorem rising_lt (l : List Int) (a b : Int) (h : Rising l a b) (i j : Nat) (hij : i < j) (hj : j < l.length) : l[i]'(by omega) < l[j] := by
 induction j with
 | zero => omega
 | succ j ih =>
  have h1 := (h (j + 1) hj).2 (by omega)
  rw [show j + 1 - 1 = j from by omega, show l.getD j 0 = l[j]'(by omega) from by simp [List.getD, show j < l.length by omega]] at h1
  by_cases e : i = j
  ·subst e; exact h1
  ·have := ih (by omega) (by omega)
   omega
theorem rising_nodup (l : List Int) (a b : Int) (h : Rising l a b) : l.Nodup := by
 refine List.pairwise_iff_getElem.2 fun i j hi hj hij e => ?_
 have := rising_lt l a b h i j hij hj
 omega
theorem bne_self {α : Type} [BEq α] [LawfulBEq α] (a : α) : ¬ (a != a) = true := by simp
theorem Ev.succ {α : Type} {g : Nat → Option α} {r : α} (h : Ev (fun k => g (k + 1)) r) : Ev g r := by
 obtain ⟨K, h⟩ := h
 refine ⟨K + 1, fun k hk => ?_⟩
 obtain ⟨k, rfl, hk'⟩ := fuel (show K < k by omega)
 exact h k hk'
theorem Ev.pos {α : Type} {g f : Nat → Option α} {r : α} {c : Prop} [Decidable c] (hc : c) (h : Ev g r) : Ev (fun k => if c then g k else f k) r := by
 obtain ⟨K, h⟩ := h
 exact ⟨K, fun k hk => by show (if c then g k else f k) = some r; rw [if_pos hc]; exact h k hk⟩
theorem Ev.neg {α : Type} {g f : Nat → Option α} {r : α} {c : Prop} [Decidable c] (hc : ¬ c) (h : Ev f r) : Ev (fun k => if c then g k else f k) r := by
 obtain ⟨K, h⟩ := h
 exact ⟨K, fun k hk => by show (if c then g k else f k) = some r; rw [if_neg hc]; exact h k hk⟩
theorem Ev.have {α β : Type} {x : Option α} {a : α} {f : Nat → α → Option β} {r : β} (e : x = some a) (h : Ev (fun k => f k a) r) : Ev (fun k => x.bind (f k)) r := by
 obtain ⟨K, h⟩ := h
 exact ⟨K, fun k hk => by show x.bind (f k) = some r; rw [e, Option.bind_some]; exact h k hk⟩
theorem Ev.bound {α : Type} {g : Nat → Option α} {r : α} (K : Nat) (h : ∀ k, K < k → g k = some r) : Ev g r := ⟨K + 1, fun k hk => h k (by omega)⟩
theorem Ev.same {α : Type} {g : Nat → Option α} {r r' : α} (h : Ev g r) (e : r = r') : Ev g r' := e ▸ h
theorem Ev.uniq {α : Type} {g : Nat → Option α} {r r' : α} (h : Ev g r) (h' : Ev g r') : r = r' := by
 obtain ⟨K, h⟩ := h
 obtain ⟨K', h'⟩ := h'
 exact Option.some.inj ((h (K + K') (by omega)).symm.trans (h' (K + K') (by omega)))

theorem spec_l1Has_l0 (l : List Int) (n : Int) (hl : l.length ≤ 1048576) (d : Nat) : ∀ (k i : Nat), i ≤ l.length → l.length - i = d → d < k → spec_l1Has.l0 k l n i = some (decide (n ∈ l.drop i)) := by
 induction d with
 | zero =>
  intro k i hi hd hk
  obtain ⟨k, rfl, _⟩ := fuel hk
  simp only [spec_l1Has.l0]
  rw [if_neg (by omega), List.drop_eq_nil_of_le (by omega)]
  simp
 | succ d ih =>
  intro k i hi hd hk
  obtain ⟨k, rfl, _⟩ := fuel hk
  simp only [spec_l1Has.l0]
  rw [if_pos (by omega), if_pos (by omega), wrap_one (n := l.length) (by omega) (by omega), rd_get l i (by omega), ih k (i + 1) (by omega) (by omega) (by omega)]
  rw [List.drop_eq_getElem_cons (l := l) (i := i) (by omega)]
  by_cases h : l[i]'(by omega) = n
  ·rw [if_pos h, h]
   simp
  ·rw [if_neg h]
   refine congrArg some ?_
   rw [decide_eq_decide, List.mem_cons]
   exact ⟨.inr, fun e => e.resolve_left fun e => h e.symm⟩
theorem spec_l1Has_eq (l : List Int) (n : Int) (hl : l.length ≤ 1048576) (k : Nat) (hk : l.length < k) : spec_l1Has.f k l n = some (decide (n ∈ l)) := by
 have := spec_l1Has_l0 l n hl l.length k 0 (by omega) (by omega) hk
 exact this

theorem cover_perm : ∀ (r l : List Int), r.Nodup → r ⊆ l → l.length ≤ r.length → l.Perm r
 | [], l, _, _, hl => by
  have : l = [] := List.eq_nil_of_length_eq_zero (by simpa using hl)
  subst this
  exact List.Perm.refl _
 | a :: t, l, hn, hs, hl => by
  have ha : a ∈ l := hs List.mem_cons_self
  have hc := List.nodup_cons.1 hn
  have hlen := List.length_erase_of_mem ha
  have hpos := List.length_pos_of_mem ha
  have ht : t ⊆ l.erase a := fun x hx => (List.mem_erase_of_ne (by rintro rfl; exact hc.1 hx)).2 (hs (List.mem_cons_of_mem _ hx))
  have hl' : l.length ≤ t.length + 1 := by simpa using hl
  exact (List.perm_cons_erase ha).trans ((cover_perm t (l.erase a) hc.2 ht (by omega)).cons a)
theorem sorted_unique : ∀ (a b : List Int), a.Pairwise (· ≤ ·) → b.Pairwise (· ≤ ·) → a.Perm b → a = b
 | [], b, _, _, h => (List.perm_nil.1 h.symm).symm
 | x :: a, [], _, _, h => absurd (List.perm_nil.1 h) (by simp)
 | x :: a, y :: b, ha, hb, h => by
  obtain ⟨h1, h2⟩ := List.pairwise_cons.1 ha
  obtain ⟨h3, h4⟩ := List.pairwise_cons.1 hb
  have e1 : x ≤ y := by
   rcases List.mem_cons.1 (h.mem_iff.2 List.mem_cons_self : y ∈ x :: a) with e | e
   ·omega
   ·exact h1 y e
  have e2 : y ≤ x := by
   rcases List.mem_cons.1 (h.mem_iff.1 List.mem_cons_self : x ∈ y :: b) with e | e
   ·omega
   ·exact h3 x e
  obtain rfl : x = y := by omega
  rw [sorted_unique a b h2 h4 (List.Perm.cons_inv h)]
def sortL (c : List Int) : List Int := c.mergeSort fun x y => decide (x ≤ y)
theorem sort_perm (c : List Int) : (sortL c).Perm c := List.mergeSort_perm c _
theorem sort_pairwise (c : List Int) : (sortL c).Pairwise (· ≤ ·) := by
 have := List.pairwise_mergeSort (le := fun x y : Int => decide (x ≤ y)) (fun a b c h1 h2 => by simp at *; omega) (fun a b => by simp; omega) c
 exact this.imp fun h => by simpa using h
theorem sort_taken {s : Int} {ring : Bool} {t c : List Int} (h : RowOK s ring t) : sortL c = t ↔ c.length = t.length ∧ ∀ x ∈ t, x ∈ c := by
 constructor
 ·intro e
  refine ⟨by rw [← e]; exact (sort_perm c).length_eq.symm, fun x hx => ?_⟩
  rw [← e] at hx
  exact (sort_perm c).mem_iff.1 hx
 ·rintro ⟨h1, h2⟩
  have p := cover_perm t c (rising_nodup t _ _ h.2.2) h2 (by omega)
  refine sorted_unique _ _ (sort_pairwise c) ?_ ((sort_perm c).trans p)
  exact List.pairwise_iff_getElem.2 fun i j hi hj hij => by have := rising_lt t _ _ h.2.2 i j hij hj; omega
def HouseOK (s : Int) (ring : Bool) (t c : List Int) (n : Int) : Prop := RowOK s ring t ∧ (c.length = t.length ∧ ∀ x ∈ t, x ∈ c) ∧ 0 ≤ n ∧ n ≤ 1000
theorem equal_eq (a b : List Int) (ha : a.length ≤ 1048576) (k : Nat) (hk : a.length < k) : slices_Equal_int_int.f k a b = some (decide (a = b)) := by
 unfold slices_Equal_int_int.f
 by_cases hl : a.length = b.length
 ·rw [if_pos (by omega)]
  have main : ∀ d k i, i + d = a.length → d < k → (∀ j, j < i → a[j]? = b[j]?) → slices_Equal_int_int.l0 k a b (a.length : Int) (i : Int) = some (decide (a = b)) := by
   intro d
   induction d with
   | zero =>
    intro k i hi hk hj
    obtain ⟨k, rfl, _⟩ := fuel hk
    simp only [slices_Equal_int_int.l0]
    rw [if_neg (by omega)]
    refine congrArg some (decide_eq_true ?_).symm
    refine List.ext_getElem hl fun j h1 h2 => ?_
    have := hj j (by omega)
    rw [List.getElem?_eq_getElem h1, List.getElem?_eq_getElem h2] at this
    exact Option.some.inj this
   | succ d ih =>
    intro k i hi hk hj
    obtain ⟨k, rfl, _⟩ := fuel hk
    simp only [slices_Equal_int_int.l0]
    rw [if_pos (by omega), if_pos (by omega), if_pos (by omega), if_pos (by omega), rd_get a i (by omega), rd_get b i (by omega), wrap_one (n := a.length) (by omega) (by omega)]
    by_cases e : a[i]'(by omega) = b[i]'(by omega)
    ·rw [if_pos e]
     refine ih k (i + 1) (by omega) (by omega) fun j hj' => ?_
     by_cases g : j = i
     ·subst g
      rw [List.getElem?_eq_getElem (by omega), List.getElem?_eq_getElem (by omega), e]
     ·exact hj j (by omega)
    ·rw [if_neg e]
     refine congrArg some (decide_eq_false fun h => e ?_).symm
     simp only [h]
  exact main a.length k 0 (by omega) hk (fun j hj => by omega)
 ·rw [if_neg (by omega)]
  exact congrArg some (decide_eq_false fun h => hl (by rw [h])).symm
open Classical in
theorem spec_good_eq (s : Int) (ring : Bool) (t c : List Int) (n : Int) (ht : t.length ≤ 1048576) (hc : c.length ≤ 1048576) : Ev (fun k => spec_l12Good.f k s ring t c n) (decide (HouseOK s ring t c n)) := by
 have jn : Ev (fun k => spec_l12Good.j0 k true s ring t c n) false := by
  refine Ev.succ ?_
  simp only [spec_l12Good.j0]
  exact Ev.pos (by first | rfl | exact True.intro) (Ev.now _)
 unfold spec_l12Good.f
 refine Ev.bind (Ev.bound t.length fun k hk => spec_l2Row_eq s ring t ht k hk) ?_
 by_cases h : RowOK s ring t
 ·rw [decide_eq_true h]
  refine Ev.pos rfl ?_
  by_cases hl : c.length = t.length
  ·refine Ev.pos (by omega) (Ev.have (spec_l1In_eq _ _ _) ?_)
   by_cases hn : 0 ≤ n ∧ n ≤ 1000
   ·rw [decide_eq_true hn]
    refine Ev.succ ?_
    simp only [spec_l12Good.j0]
    refine Ev.neg (by simp) ?_
    have main : ∀ d i : Nat, i + d = t.length → (∀ j, (hj : j < i) → (h2 : j < t.length) → t[j] ∈ c) → Ev (fun k => spec_l12Good.l0 k (i : Int) s ring t c n) (decide (HouseOK s ring t c n)) := by
     intro d
     induction d with
     | zero =>
      intro i hi hj
      refine Ev.succ ?_
      simp only [spec_l12Good.l0]
      rw [decide_eq_true (show HouseOK s ring t c n from ⟨h, ⟨hl, fun x hx => by
       obtain ⟨j, hj2, rfl⟩ := List.getElem_of_mem hx
       exact hj j (by omega) hj2⟩, hn⟩)]
      exact Ev.neg (by omega) (Ev.now _)
     | succ d ih =>
      intro i hi hj
      refine Ev.succ ?_
      simp only [spec_l12Good.l0]
      rw [rd_get t i (by omega), wrap_one (n := t.length) (by omega) (by omega)]
      refine Ev.pos (by omega) (Ev.pos (by omega) (Ev.bind (Ev.bound c.length fun k hk => spec_l1Has_eq c _ hc k hk) ?_))
      by_cases g : t[i]'(by omega) ∈ c
      ·refine Ev.pos (decide_eq_true g) (ih (i + 1) (by omega) fun j hj' h2 => ?_)
       by_cases e : j = i
       ·subst e; exact g
       ·exact hj j (by omega) h2
      ·rw [decide_eq_false (fun z : HouseOK s ring t c n => g (z.2.1.2 _ (List.getElem_mem _)))]
       exact Ev.neg (by rw [decide_eq_true_eq]; exact g) (Ev.now _)
    exact main t.length 0 (by omega) (fun j hj => by omega)
   ·rw [decide_eq_false hn, decide_eq_false (fun z : HouseOK s ring t c n => hn z.2.2)]
    exact jn
  ·rw [decide_eq_false (fun z : HouseOK s ring t c n => hl z.2.1.1)]
   exact Ev.neg (by omega) jn
 ·rw [decide_eq_false h, decide_eq_false (fun z : HouseOK s ring t c n => h z.1)]
  exact Ev.neg (by simp) jn
open Classical in
theorem impl_house_eq (s : Int) (ring : Bool) (t c : List Int) (n : Int) (ht : t.length ≤ 1048576) (hc : c.length ≤ 1048576) : Ev (fun k => impl_IsHouse.f k s ring t c n) (decide (HouseOK s ring t c n)) := by
 unfold impl_IsHouse.f
 refine Ev.bind (Ev.bound (t.length + 3) fun k hk => impl_IsRow_eq s ring t ht k hk) ?_
 by_cases h : RowOK s ring t
 ·rw [decide_eq_true h]
  have es : slices_Sorted_int.f c = some (sortL c) := by unfold slices_Sorted_int.f; rw [if_pos hc]; rfl
  refine Ev.pos rfl (Ev.have es (Ev.bind (Ev.bound (sortL c).length fun k hk => equal_eq (sortL c) t (by rw [(sort_perm c).length_eq]; exact hc) k hk) ?_))
  by_cases e : sortL c = t
  ·refine Ev.pos (decide_eq_true e) (Ev.have (impl_within_eq _ _ _) ?_)
   rw [show decide (HouseOK s ring t c n) = decide (0 ≤ n ∧ n ≤ 1000) from decide_eq_decide.2 ⟨fun z => z.2.2, fun z => ⟨h, (sort_taken h).1 e, z⟩⟩]
   exact Ev.now _
  ·rw [decide_eq_false (fun z : HouseOK s ring t c n => e ((sort_taken h).2 z.2.1))]
   exact Ev.neg (by rw [decide_eq_true_eq]; exact e) (Ev.now _)
 ·rw [decide_eq_false h, decide_eq_false (fun z : HouseOK s ring t c n => h z.1)]
  exact Ev.neg (by simp) (Ev.now _)

theorem laws_toIntS_l0 (l : List Int) (hl : l.length ≤ 1048576) (d : Nat) : ∀ (k i : Nat) (x : List Int), x.length = l.length → i ≤ l.length → l.length - i = d → d < k → (∀ j (h : j < i) (h' : j < x.length) (h'' : j < l.length), x[j] = l[j]) → laws_toIntS.l0 k l x i = some l := by
 induction d with
 | zero =>
  intro k i x hx hi hd hk hp
  obtain ⟨k, rfl, _⟩ := fuel hk
  simp only [laws_toIntS.l0]
  rw [if_neg (by omega)]
  refine congrArg some ?_
  apply List.ext_getElem hx
  intro j h1 h2
  exact hp j (by omega) h1 h2
 | succ d ih =>
  intro k i x hx hi hd hk hp
  obtain ⟨k, rfl, _⟩ := fuel hk
  simp only [laws_toIntS.l0]
  rw [if_pos (by omega), if_pos (by omega), if_pos (by omega), wrap_one (n := l.length) (by omega) (by omega)]
  rw [rd_get l i (by omega), Int.toNat_natCast, ih k (i + 1) _ (by simp [hx]) (by omega) (by omega) (by omega)]
  intro j h h' h''
  rw [List.getElem_set]
  split
  ·rename_i e
   subst e
   rfl
  ·rename_i e
   exact hp j (by omega) (by simpa using h') h''
theorem laws_toIntS_eq (l : List Int) (hl : l.length ≤ 1048576) (k : Nat) (hk : l.length < k) : laws_toIntS.f k l = some l := by
 unfold laws_toIntS.f
 rw [if_pos (by omega), if_pos (by omega)]
 exact laws_toIntS_l0 l hl l.length k 0 _ (by simp) (by omega) (by omega) hk (fun j h => by omega)

theorem laws_eqIntS_l0 (a b : List Int) (hl : a.length ≤ 1048576) (he : a.length = b.length) (d : Nat) : ∀ (k i : Nat), i ≤ a.length → a.length - i = d → d < k → laws_eqIntS.l0 k a b i = some (decide (a.drop i = b.drop i)) := by
 induction d with
 | zero =>
  intro k i hi hd hk
  obtain ⟨k, rfl, _⟩ := fuel hk
  simp only [laws_eqIntS.l0]
  rw [if_neg (by omega), List.drop_eq_nil_of_le (by omega), List.drop_eq_nil_of_le (by omega)]
  simp
 | succ d ih =>
  intro k i hi hd hk
  obtain ⟨k, rfl, _⟩ := fuel hk
  simp only [laws_eqIntS.l0]
  rw [if_pos (by omega), if_pos (by omega), if_pos (by omega), wrap_one (n := a.length) (by omega) (by omega), rd_get a i (by omega), rd_get b i (by omega), ih k (i + 1) (by omega) (by omega) (by omega)]
  rw [List.drop_eq_getElem_cons (l := a) (i := i) (by omega), List.drop_eq_getElem_cons (l := b) (i := i) (by omega)]
  by_cases h : a[i]'(by omega) = b[i]'(by omega)
  ·rw [if_pos h]
   refine congrArg some ?_
   rw [decide_eq_decide, List.cons.injEq]
   exact ⟨fun e => ⟨h, e⟩, fun e => e.2⟩
  ·rw [if_neg h]
   refine congrArg some ?_
   symm
   rw [decide_eq_false_iff_not, List.cons.injEq]
   exact fun e => h e.1
theorem laws_eqIntS_eq (a b : List Int) (hl : a.length ≤ 1048576) (k : Nat) (hk : a.length < k) : laws_eqIntS.f k a b = some (decide (a = b)) := by
 unfold laws_eqIntS.f
 by_cases h : a.length = b.length
 ·rw [if_pos (by omega)]
  have := laws_eqIntS_l0 a b hl h a.length k 0 (by omega) (by omega) hk
  simpa using this
 ·rw [if_neg (by omega)]
  refine congrArg some ?_
  symm
  rw [decide_eq_false_iff_not]
  intro e
  exact h (by rw [e])
theorem laws_eqIntS_self (a : List Int) (hl : a.length ≤ 1048576) (k : Nat) (hk : a.length < k) : laws_eqIntS.f k a a = some true := by
 rw [laws_eqIntS_eq a a hl k hk]
 simp

theorem laws_toIntS_ev (l : List Int) (hl : l.length ≤ 1048576) : Ev (fun k => laws_toIntS.f k l) l := Ev.bound l.length fun k hk => laws_toIntS_eq l hl k hk
theorem laws_eqIntS_ev (l : List Int) (hl : l.length ≤ 1048576) : Ev (fun k => laws_eqIntS.f k l l) true := Ev.bound l.length fun k hk => laws_eqIntS_self l hl k hk

theorem laws_szRow_eq (s : Int) (b : Bool) (t : List Int) (m : Nat) (hm : m ≤ 1048576) (ht : t.length ≤ maxLen) : laws_szRow.f s b t (m : Int) = some (if t.length ≤ m then ((m - t.length : Nat) : Int) else -1) := by
 have hmax : t.length ≤ 9223372036854775807 := ht
 unfold laws_szRow.f laws_szIntS.f
 rw [wrap_id (by omega) (by omega)]
 by_cases h : t.length ≤ m
 ·rw [if_neg (by omega), Option.bind_some, if_neg (by omega), if_pos h]
  refine congrArg some ?_
  omega
 ·rw [if_pos (by omega), Option.bind_some, if_pos (by omega), if_neg h]
theorem laws_toRow_ev (s : Int) (b : Bool) (t : List Int) (ht : t.length ≤ 1048576) : Ev (fun k => laws_toRow.f k s b t) (s, b, t) := by
 unfold laws_toRow.f
 exact Ev.bind (laws_toIntS_ev t ht) (Ev.now _)
theorem laws_eqRow_ev (s : Int) (b : Bool) (t : List Int) (ht : t.length ≤ 1048576) : Ev (fun k => laws_eqRow.f k s b t s b t) true := by
 unfold laws_eqRow.f
 refine Ev.pos rfl (Ev.neg (by simp) ?_)
 exact Ev.bind (laws_eqIntS_ev t ht) (Ev.pos rfl (Ev.now _))

theorem laws_szHouse_eq (s : Int) (b : Bool) (t c : List Int) (n : Int) (ht : t.length ≤ maxLen) (hc : c.length ≤ maxLen) : laws_szHouse.f s b t c n 1048576 = some (if t.length + c.length ≤ 1048576 then ((1048576 - t.length - c.length : Nat) : Int) else -1) := by
 have hc' : c.length ≤ 9223372036854775807 := hc
 unfold laws_szHouse.f
 have e := laws_szRow_eq s b t 1048576 (by omega) ht
 rw [show ((1048576 : Nat) : Int) = 1048576 from rfl] at e
 rw [e, Option.bind_some]
 by_cases h : t.length ≤ 1048576
 ·rw [if_pos h, if_neg (by omega)]
  unfold laws_szIntS.f
  rw [wrap_id (by omega) (by omega)]
  by_cases g : t.length + c.length ≤ 1048576
  ·rw [if_neg (by omega), Option.bind_some, if_neg (by omega), if_pos g]
   refine congrArg some ?_
   omega
  ·rw [if_pos (by omega), Option.bind_some, if_pos (by omega), if_neg g]
 ·rw [if_neg h, if_pos (by omega), if_neg (by omega)]
theorem laws_toHouse_ev (s : Int) (b : Bool) (t c : List Int) (n : Int) (ht : t.length ≤ 1048576) (hc : c.length ≤ 1048576) : Ev (fun k => laws_toHouse.f k s b t c n) (s, b, t, c, n) := by
 unfold laws_toHouse.f
 exact Ev.bind (laws_toRow_ev s b t ht) (Ev.bind (laws_toIntS_ev c hc) (Ev.now _))
theorem laws_eqHouse_ev (s : Int) (b : Bool) (t c : List Int) (n : Int) (ht : t.length ≤ 1048576) (hc : c.length ≤ 1048576) : Ev (fun k => laws_eqHouse.f k s b t c n s b t c n) true := by
 unfold laws_eqHouse.f
 exact Ev.bind (laws_eqRow_ev s b t ht) (Ev.pos rfl (Ev.bind (laws_eqIntS_ev c hc) (Ev.pos rfl (Ev.pos (by first | rfl | exact True.intro) (Ev.now _)))))

theorem in_iff (a b c : Int) : spec_l1In.f a b c = some (decide (b ≤ a ∧ a ≤ c)) := by
 unfold spec_l1In.f
 by_cases h : a ≥ b
 ·rw [if_pos h]
  refine congrArg some ?_
  rw [decide_eq_decide]
  omega
 ·rw [if_neg h, decide_eq_false (by omega)]
def PR (s : ByteArray) (j : Nat) : Prop := 32 ≤ bt s j ∧ bt s j ≤ 126
theorem from_succ {n i : Nat} (h : i < n) (P : Nat → Prop) : (∀ j : Nat, i ≤ j → j < n → P j) ↔ P i ∧ ∀ j : Nat, i + 1 ≤ j → j < n → P j := by
 constructor
 ·intro e
  exact ⟨e i (Nat.le_refl _) h, fun j h1 h2 => e j (by omega) h2⟩
 ·rintro ⟨e1, e2⟩ j h1 h2
  by_cases c : j = i
  ·rw [c]; exact e1
  ·exact e2 j (by omega) h2
theorem bytes_ev (s : ByteArray) (hs : s.size ≤ 140737488351232) (most : Int) : ∃ v, Ev (fun k => spec_l12Bytes.f k s most) v ∧ (v = true ↔ (∀ j : Nat, 0 ≤ j → j < s.size → PR s j ∧ bt s j ≠ 35) ∧ (s.size : Int) ≤ most) := by
 have main : ∀ d i, i + d = s.size → ∃ v, Ev (fun k => spec_l12Bytes.l0 k s most i) v ∧ (v = true ↔ (∀ j : Nat, i ≤ j → j < s.size → PR s j ∧ bt s j ≠ 35) ∧ (s.size : Int) ≤ most) := by
  intro d
  induction d with
  | zero =>
   intro i hi
   refine ⟨decide ((s.size : Int) ≤ most), Ev.succ ?_, ?_⟩
   ·simp only [spec_l12Bytes.l0]
    exact Ev.neg (by omega) (Ev.now _)
   ·rw [decide_eq_true_eq]
    exact ⟨fun e => ⟨fun j h1 h2 => by omega, e⟩, fun e => e.2⟩
  | succ d ih =>
   intro i hi
   obtain ⟨v, go, hv⟩ := ih (i + 1) (by omega)
   have hr := bt_range s i
   have fs := from_succ (show i < s.size by omega) fun j => PR s j ∧ bt s j ≠ 35
   by_cases g : 32 ≤ bt s i ∧ bt s i ≤ 126
   ·by_cases g2 : bt s i = 35
    ·refine ⟨false, Ev.succ ?_, fun e => absurd e (by simp), fun e => absurd g2 (fs.1 e.1).1.2⟩
     simp only [spec_l12Bytes.l0]
     rw [wrap_id (x := bt s i) (by omega) (by omega), in_iff]
     exact Ev.pos (by omega) (Ev.pos (by omega) (Ev.have rfl (Ev.pos (decide_eq_true g) (Ev.pos g2 (Ev.now _)))))
    ·refine ⟨v, Ev.succ ?_, hv.trans ⟨fun e => ⟨fs.2 ⟨⟨g, g2⟩, e.1⟩, e.2⟩, fun e => ⟨(fs.1 e.1).2, e.2⟩⟩⟩
     simp only [spec_l12Bytes.l0]
     rw [wrap_id (x := bt s i) (by omega) (by omega), wrap_one (n := s.size) (by omega) (by omega), in_iff]
     exact Ev.pos (by omega) (Ev.pos (by omega) (Ev.have rfl (Ev.pos (decide_eq_true g) (Ev.neg g2 go))))
   ·refine ⟨false, Ev.succ ?_, fun e => absurd e (by simp), fun e => absurd (fs.1 e.1).1.1 g⟩
    simp only [spec_l12Bytes.l0]
    rw [wrap_id (x := bt s i) (by omega) (by omega), in_iff]
    exact Ev.pos (by omega) (Ev.pos (by omega) (Ev.have rfl (Ev.neg (by rw [decide_eq_true_eq]; exact g) (Ev.now _))))
 exact main s.size 0 (Nat.zero_add _)
theorem stands_ev (s : ByteArray) (hs : s.size ≤ 140737488351232) (c : Int) : ∃ v, Ev (fun k => spec_l1Stands.f k s c) v ∧ (v = true ↔ ¬ ∀ j : Nat, 0 ≤ j → j < s.size → bt s j ≠ c) := by
 have main : ∀ d i, i + d = s.size → ∃ v, Ev (fun k => spec_l1Stands.l0 k s c i) v ∧ (v = true ↔ ¬ ∀ j : Nat, i ≤ j → j < s.size → bt s j ≠ c) := by
  intro d
  induction d with
  | zero =>
   intro i hi
   refine ⟨false, Ev.succ ?_, fun e => absurd e (by simp), fun e => absurd (fun j h1 h2 => by omega) e⟩
   simp only [spec_l1Stands.l0]
   exact Ev.neg (by omega) (Ev.now _)
  | succ d ih =>
   intro i hi
   obtain ⟨v, go, hv⟩ := ih (i + 1) (by omega)
   have fs := from_succ (show i < s.size by omega) fun j => bt s j ≠ c
   by_cases g : bt s i = c
   ·refine ⟨true, Ev.succ ?_, fun _ e => (fs.1 e).1 g, fun _ => rfl⟩
    simp only [spec_l1Stands.l0]
    exact Ev.pos (by omega) (Ev.pos (by omega) (Ev.pos g (Ev.now _)))
   ·refine ⟨v, Ev.succ ?_, hv.trans ⟨fun e z => e (fs.1 z).2, fun e z => e (fs.2 ⟨g, z⟩)⟩⟩
    simp only [spec_l1Stands.l0]
    rw [wrap_one (n := s.size) (by omega) (by omega)]
    exact Ev.pos (by omega) (Ev.pos (by omega) (Ev.neg g go))
 exact main s.size 0 (Nat.zero_add _)
theorem idx_iff (chars : List UInt8) : ∀ l : List UInt8, 0 ≤ Lib.indexAny l chars ↔ ∃ b ∈ l, b ∈ chars
 | [] => by simp [Lib.indexAny]
 | b :: l => by
  have ih := idx_iff chars l
  have ge := Lib.indexAny_ge chars l
  unfold Lib.indexAny
  by_cases h : chars.contains b = true
  ·rw [if_pos h]
   exact ⟨fun _ => ⟨b, List.mem_cons_self, by simpa using h⟩, fun _ => by omega⟩
  ·rw [if_neg h]
   have hb : b ∉ chars := by simpa using h
   have rest : (∃ x ∈ b :: l, x ∈ chars) ↔ ∃ x ∈ l, x ∈ chars := by
    constructor
    ·rintro ⟨x, hx, hc⟩
     rcases List.mem_cons.1 hx with e | e
     ·exact absurd (e ▸ hc) hb
     ·exact ⟨x, e, hc⟩
    ·rintro ⟨x, hx, hc⟩
     exact ⟨x, List.mem_cons_of_mem _ hx, hc⟩
   rw [rest, ← ih]
   by_cases e : (Lib.indexAny l chars == -1) = true
   ·rw [if_pos e]
    have : Lib.indexAny l chars = -1 := by simpa using e
    omega
   ·rw [if_neg e]
    have : Lib.indexAny l chars ≠ -1 := by simpa using e
    omega
theorem bt_list (s : ByteArray) (j : Nat) (h : j < s.size) : bt s j = ((s.data.toList[j]'(by simpa using h)).toNat : Int) := by
 unfold bt
 rw [dif_pos (by simpa using h)]
 simp
 rfl
theorem mem_bytes (s : ByteArray) (b : UInt8) : b ∈ s.data.toList ↔ ∃ j : Nat, j < s.size ∧ bt s j = (b.toNat : Int) := by
 constructor
 ·intro h
  obtain ⟨j, hj, e⟩ := List.getElem_of_mem h
  have hj2 : j < s.size := by simpa using hj
  exact ⟨j, hj2, by rw [bt_list s j hj2, e]⟩
 ·rintro ⟨j, hj, e⟩
  rw [bt_list s j hj] at e
  have : s.data.toList[j]'(by simpa using hj) = b := UInt8.toNat_inj.1 (by omega)
  rw [← this]
  exact List.getElem_mem _
theorem plain_ev (s : ByteArray) (hs : s.size ≤ 140737488351232) (most : Int) (hm : most ≤ 1000) (o : ByteArray) (ho : o.size < 4294967281) (ha : (o.data.toList.all fun b => decide (b.toNat < 128)) = true) : ∃ v, Ev (fun k => impl_isPlain.f k s most o) v ∧ (v = true ↔ (∀ j : Nat, 0 ≤ j → j < s.size → PR s j) ∧ (s.size : Int) ≤ most ∧ ¬ ∃ b ∈ s.data.toList, b ∈ o.data.toList) := by
 have main : ∀ d i, i + d = s.size → (∀ j : Nat, j < i → PR s j) → ∃ v, Ev (fun k => impl_isPlain.l0 k s most o s.size i) v ∧ (v = true ↔ (∀ j : Nat, i ≤ j → j < s.size → PR s j) ∧ (s.size : Int) ≤ most ∧ ¬ ∃ b ∈ s.data.toList, b ∈ o.data.toList) := by
  intro d
  induction d with
  | zero =>
   intro i hi hp
   by_cases g : (s.size : Int) ≤ most
   ·have asc : (s.data.toList.all fun b => decide (b.toNat < 128)) = true := by
     rw [List.all_eq_true]
     intro b hb
     obtain ⟨j, hj, e⟩ := (mem_bytes s b).1 hb
     have := (hp j (by omega)).2
     rw [e] at this
     exact decide_eq_true (by omega)
    have hc : strings_ContainsAny.f s o = some (Lib.containsAny s.data.toList o.data.toList) := by
     unfold strings_ContainsAny.f
     rw [if_pos ⟨by omega, ho, asc, ha⟩]
    refine ⟨!Lib.containsAny s.data.toList o.data.toList, Ev.succ ?_, ?_⟩
    ·simp only [impl_isPlain.l0]
     exact Ev.neg (by omega) (Ev.pos g (Ev.have hc (Ev.now _)))
    ·unfold Lib.containsAny
     rw [Bool.not_eq_true', decide_eq_false_iff_not, idx_iff]
     exact ⟨fun e => ⟨fun j h1 h2 => by omega, g, e⟩, fun e => e.2.2⟩
   ·refine ⟨false, Ev.succ ?_, fun e => absurd e (by simp), fun e => absurd e.2.1 g⟩
    simp only [impl_isPlain.l0]
    exact Ev.neg (by omega) (Ev.neg g (Ev.now _))
  | succ d ih =>
   intro i hi hp
   have fs := from_succ (show i < s.size by omega) fun j => PR s j
   by_cases g1 : bt s i < 32
   ·refine ⟨false, Ev.succ ?_, fun e => absurd e (by simp), fun e => by have := (fs.1 e.1).1.1; omega⟩
    simp only [impl_isPlain.l0]
    exact Ev.pos (by omega) (Ev.pos (by omega) (Ev.pos (by omega) (Ev.pos g1 (Ev.now _))))
   ·by_cases g2 : bt s i > 126
    ·refine ⟨false, Ev.succ ?_, fun e => absurd e (by simp), fun e => by have := (fs.1 e.1).1.2; omega⟩
     simp only [impl_isPlain.l0]
     exact Ev.pos (by omega) (Ev.pos (by omega) (Ev.pos (by omega) (Ev.neg g1 (Ev.pos g2 (Ev.now _)))))
    ·have hpr : PR s i := ⟨by omega, by omega⟩
     obtain ⟨v, go, hv⟩ := ih (i + 1) (by omega) fun j hj => by
      by_cases c : j = i
      ·rw [c]; exact hpr
      ·exact hp j (by omega)
     refine ⟨v, Ev.succ ?_, hv.trans ⟨fun e => ⟨fs.2 ⟨hpr, e.1⟩, e.2⟩, fun e => ⟨(fs.1 e.1).2, e.2⟩⟩⟩
     simp only [impl_isPlain.l0]
     rw [wrap_one (n := s.size) (by omega) (by omega)]
     exact Ev.pos (by omega) (Ev.pos (by omega) (Ev.pos (by omega) (Ev.neg g1 (Ev.neg g2 go))))
 exact main s.size 0 (Nat.zero_add _) fun j hj => by omega
theorem one_of (s : ByteArray) (c : UInt8) : (∃ b ∈ s.data.toList, b = c) ↔ ¬ ∀ j : Nat, 0 ≤ j → j < s.size → bt s j ≠ (c.toNat : Int) := by
 constructor
 ·rintro ⟨b, hb, rfl⟩ e
  obtain ⟨j, hj, z⟩ := (mem_bytes s b).1 hb
  exact e j (Nat.zero_le _) hj z
 ·intro e
  refine Classical.byContradiction fun n => e fun j _ hj z => n ⟨c, (mem_bytes s c).2 ⟨j, hj, z⟩, rfl⟩
theorem reply_ev (s : ByteArray) (hs : s.size ≤ 140737488351232) : ∃ r, Ev (fun k => spec_l12Bytes.f k s 250) r ∧ Ev (fun k => impl_isPlain.f k s 250 (⟨#[35]⟩ : ByteArray)) r := by
 obtain ⟨v, e1, hv⟩ := bytes_ev s hs 250
 obtain ⟨u, e2, hu⟩ := plain_ev s hs 250 (by omega) ⟨#[35]⟩ (by decide) (by decide)
 refine ⟨v, e1, Ev.same e2 (Bool.eq_iff_iff.2 (hu.trans (Iff.trans ?_ hv.symm)))⟩
 have h := one_of s 35
 constructor
 ·rintro ⟨h1, h2, h3⟩
  refine ⟨fun j a b => ⟨h1 j a b, fun z => h3 ?_⟩, h2⟩
  obtain ⟨x, hx, e⟩ := h.2 fun q => q j a b z
  exact ⟨x, hx, by rw [e]; simp⟩
 ·rintro ⟨h1, h2⟩
  refine ⟨fun j a b => (h1 j a b).1, h2, ?_⟩
  rintro ⟨x, hx, e⟩
  have e : x = 35 := by simpa using e
  exact h.1 ⟨x, hx, e⟩ fun j a b => (h1 j a b).2
theorem command_ev (s : ByteArray) (hs : s.size ≤ 140737488351232) : ∃ a b, Ev (fun k => spec_l12Bytes.f k s 160) a ∧ Ev (fun k => spec_l1Stands.f k s 64) b ∧ Ev (fun k => impl_isPlain.f k s 160 (⟨#[35, 64]⟩ : ByteArray)) (a && !b) := by
 obtain ⟨v, e1, hv⟩ := bytes_ev s hs 160
 obtain ⟨z, e3, hz⟩ := stands_ev s hs 64
 obtain ⟨u, e2, hu⟩ := plain_ev s hs 160 (by omega) ⟨#[35, 64]⟩ (by decide) (by decide)
 refine ⟨v, z, e1, e3, Ev.same e2 ?_⟩
 rw [Bool.eq_iff_iff, Bool.and_eq_true, Bool.not_eq_true', ← Bool.not_eq_true, hu, hv, hz, Classical.not_not]
 have h := one_of s 35
 have h' := one_of s 64
 constructor
 ·rintro ⟨h1, h2, h3⟩
  refine ⟨⟨fun j a b => ⟨h1 j a b, fun z => h3 ?_⟩, h2⟩, fun j a b z => h3 ?_⟩
  ·obtain ⟨x, hx, e⟩ := h.2 fun q => q j a b z
   exact ⟨x, hx, by rw [e]; simp⟩
  ·obtain ⟨x, hx, e⟩ := h'.2 fun q => q j a b z
   exact ⟨x, hx, by rw [e]; simp⟩
 ·rintro ⟨⟨h1, h2⟩, h3⟩
  refine ⟨fun j a b => (h1 j a b).1, h2, ?_⟩
  rintro ⟨x, hx, e⟩
  have e : x = 35 ∨ x = 64 := by simpa using e
  rcases e with e | e
  ·exact h.1 ⟨x, hx, e⟩ fun j a b => (h1 j a b).2
  ·exact h'.1 ⟨x, hx, e⟩ h3
def Valid (c r : List UInt8) : Prop := c ≠ [] ∧ (∀ b ∈ c, 32 ≤ b.toNat ∧ b.toNat ≤ 126 ∧ b ≠ 35 ∧ b ≠ 64) ∧ c.length ≤ 160 ∧ (∀ b ∈ r, 32 ≤ b.toNat ∧ b.toNat ≤ 126 ∧ b ≠ 35) ∧ r.length ≤ 250
theorem each_byte (s : ByteArray) (P : UInt8 → Prop) (Q : Int → Prop) (h : ∀ b : UInt8, P b ↔ Q b.toNat) : (∀ j : Nat, 0 ≤ j → j < s.size → Q (bt s j)) ↔ ∀ b ∈ s.data.toList, P b := by
 constructor
 ·intro e b hb
  obtain ⟨j, hj, z⟩ := (mem_bytes s b).1 hb
  exact (h b).2 (z ▸ e j (Nat.zero_le _) hj)
 ·intro e j _ hj
  have hm : (s.data.toList[j]'(by simpa using hj)) ∈ s.data.toList := List.getElem_mem _
  rw [bt_list s j hj]
  exact (h _).1 (e _ hm)
theorem ne_nat (b : UInt8) (n : Nat) (hn : n < 256) : b ≠ UInt8.ofNat n ↔ (b.toNat : Int) ≠ n := by
 constructor
 ·intro h e
  exact h (UInt8.toNat_inj.1 (by rw [UInt8.toNat_ofNat_of_lt' hn]; omega))
 ·intro h e
  rw [e, UInt8.toNat_ofNat_of_lt' hn] at h
  exact h rfl
theorem record_ev (c r : ByteArray) (hc : c.size ≤ 140737488351232) (hr : r.size ≤ 140737488351232) : ∃ v, Ev (fun k => spec_l12Record.f k c r) v ∧ Ev (fun k => impl_IsValidRecord.f k c r) v ∧ (v = true ↔ Valid c.data.toList r.data.toList) := by
 obtain ⟨z, z1, hz⟩ := bytes_ev r hr 250
 obtain ⟨z', y1, z2⟩ := reply_ev r hr
 obtain ⟨a, a1, ha⟩ := bytes_ev c hc 160
 obtain ⟨b, b1, hb⟩ := stands_ev c hc 64
 obtain ⟨a', b', x1, x2, p1⟩ := command_ev c hc
 have ez : z' = z := Ev.uniq y1 z1
 have ea : a' = a := Ev.uniq x1 a1
 have eb : b' = b := Ev.uniq x2 b1
 subst ez ea eb
 have hsz : ∀ s : ByteArray, s.size = s.data.toList.length := fun s => by simp
 have hN : c.toList = ([] : List UInt8) ↔ c.data.toList = [] := by rw [Lib.toList_data]
 have mean : (c.data.toList ≠ [] ∧ ((a' && !b') && z') = true) ↔ Valid c.data.toList r.data.toList := by
  rw [Bool.and_eq_true, Bool.and_eq_true, Bool.not_eq_true', ← Bool.not_eq_true, ha, hb, hz, Classical.not_not]
  have e1 := each_byte c (fun b => 32 ≤ b.toNat ∧ b.toNat ≤ 126 ∧ b ≠ 35) (fun i => (32 ≤ i ∧ i ≤ 126) ∧ i ≠ 35) (fun b => by have := ne_nat b 35 (by decide); constructor <;> intro q <;> refine ⟨?_, ?_⟩ <;> first | omega | exact this.1 q.2.2 | (exact ⟨by omega, this.2 q.2⟩))
  have e2 := each_byte c (fun b => b ≠ 64) (fun i => i ≠ 64) (fun b => ne_nat b 64 (by decide))
  have e3 := each_byte r (fun b => 32 ≤ b.toNat ∧ b.toNat ≤ 126 ∧ b ≠ 35) (fun i => (32 ≤ i ∧ i ≤ 126) ∧ i ≠ 35) (fun b => by have := ne_nat b 35 (by decide); constructor <;> intro q <;> refine ⟨?_, ?_⟩ <;> first | omega | exact this.1 q.2.2 | (exact ⟨by omega, this.2 q.2⟩))
  unfold Valid PR
  rw [e1, e2, e3, hsz c, hsz r]
  constructor
  ·rintro ⟨n, ⟨⟨h1, h2⟩, h3⟩, h4, h5⟩
   exact ⟨n, fun b hb => ⟨(h1 b hb).1, (h1 b hb).2.1, (h1 b hb).2.2, h3 b hb⟩, by omega, h4, by omega⟩
  ·rintro ⟨n, h1, h2, h4, h5⟩
   exact ⟨n, ⟨⟨fun b hb => ⟨(h1 b hb).1, (h1 b hb).2.1, (h1 b hb).2.2.1⟩, by omega⟩, fun b hb => (h1 b hb).2.2.2⟩, h4, by omega⟩
 by_cases he : c.toList = ([] : List UInt8)
 ·refine ⟨false, ?_, ?_, fun e => absurd e (by simp), fun e => absurd (hN.1 he) e.1⟩
  ·unfold spec_l12Record.f
   exact Ev.pos he (Ev.now false)
  ·unfold impl_IsValidRecord.f impl_isCommand.f
   exact Ev.bind (Ev.pos he (Ev.now false)) (Ev.neg (by simp) (Ev.now _))
 ·refine ⟨(a' && !b') && z', ?_, ?_, ?_⟩
  ·unfold spec_l12Record.f
   refine Ev.neg he (Ev.bind a1 ?_)
   cases a' with
   | false => exact Ev.neg (by simp) (Ev.now _)
   | true =>
    refine Ev.pos rfl (Ev.bind b1 ?_)
    cases b' with
    | true => exact Ev.pos rfl (Ev.now _)
    | false => exact Ev.neg (by simp) (Ev.bind z1 (Ev.now _))
  ·unfold impl_IsValidRecord.f impl_isCommand.f
   refine Ev.bind (a := a' && !b') (Ev.neg he (Ev.bind p1 (Ev.now _))) ?_
   cases hab : (a' && !b') with
   | false => exact Ev.neg (by simp) (Ev.now _)
   | true => exact Ev.pos rfl (Ev.bind z2 (Ev.now _))
  ·rw [← mean]
   exact ⟨fun e => ⟨fun q => he (hN.2 q), e⟩, fun e => e.2⟩

def ofL (l : List UInt8) : ByteArray := ⟨l.toArray⟩
theorem data_ofL (l : List UInt8) : (ofL l).data.toList = l := by simp [ofL]
theorem ofL_data (s : ByteArray) : ofL s.data.toList = s := by
 apply ByteArray.ext
 simp [ofL]
theorem all_ofL (s : ByteArray) : ∃ l, s = ofL l := ⟨_, (ofL_data s).symm⟩
theorem ofL_size (l : List UInt8) : (ofL l).size = l.length := by simp [ofL, ByteArray.size]
theorem ofL_append (a b : List UInt8) : ofL a ++ ofL b = ofL (a ++ b) := by
 apply ByteArray.ext
 simp [ofL, ByteArray.data_append]
theorem ofL_extract (l : List UInt8) (i j : Nat) : (ofL l).extract i j = ofL ((l.take j).drop i) := by
 apply ByteArray.ext
 rw [ByteArray.data_extract]
 apply Array.toList_inj.1
 rw [Array.toList_extract, List.extract_eq_take_drop]
 simp [ofL, List.drop_take]
theorem toList_ofL (l : List UInt8) : (ofL l).toList = l := by rw [Lib.toList_data, data_ofL]
theorem bt_ofL (l : List UInt8) (i : Nat) (h : i < l.length) : bt (ofL l) (i : Int) = (l[i].toNat : Int) := by
 rw [bt_list (ofL l) i (by rw [ofL_size]; exact h)]
 simp [ofL]
def D (n : Nat) : List UInt8 := Lib.decDigits n
theorem D_small {n : Nat} (h : n < 10) : D n = [UInt8.ofNat (48 + n)] := Lib.decDigits_one h
theorem D_big {n : Nat} (h : ¬ n < 10) : D n = D (n / 10) ++ [UInt8.ofNat (48 + n % 10)] := by
 unfold D
 rw [Lib.decDigits, dif_neg h]
theorem D_len : ∀ d n, n < 10 ^ (d + 1) → (D n).length ≤ d + 1
 | 0, n, h => by rw [D_small (by omega)]; simp
 | d + 1, n, h => by
  by_cases c : n < 10
  ·rw [D_small c]; simp
  ·have := D_len d (n / 10) (by rw [Nat.pow_succ] at h; omega)
   rw [D_big c, List.length_append]
   simp
   omega
theorem digit_byte (m : Nat) (h : m < 10) : (UInt8.ofNat (48 + m)).toNat = 48 + m := UInt8.toNat_ofNat_of_lt' (by show 48 + m < 256; omega)
theorem D_digits (n : Nat) : ∀ b ∈ D n, 48 ≤ b.toNat ∧ b.toNat ≤ 57 := by
 induction n using Nat.strongRecOn with
 | _ n ih =>
 intro b hb
 by_cases c : n < 10
 ·rw [D_small c] at hb
  rw [List.mem_singleton.1 hb, digit_byte n c]
  omega
 ·rw [D_big c] at hb
  rcases List.mem_append.1 hb with h | h
  ·exact ih (n / 10) (by omega) b h
  ·rw [List.mem_singleton.1 h, digit_byte _ (Nat.mod_lt _ (by omega))]
   omega
theorem dig : ∀ n, n < 10 → (⟨#[48, 49, 50, 51, 52, 53, 54, 55, 56, 57]⟩ : ByteArray).extract n (n + 1) = ofL [UInt8.ofNat (48 + n)] := by
 intro n h
 rw [show (⟨#[48, 49, 50, 51, 52, 53, 54, 55, 56, 57]⟩ : ByteArray) = ofL [48, 49, 50, 51, 52, 53, 54, 55, 56, 57] from rfl, ofL_extract]
 refine congrArg ofL ?_
 match n, h with
 | 0, _ => rfl
 | 1, _ => rfl
 | 2, _ => rfl
 | 3, _ => rfl
 | 4, _ => rfl
 | 5, _ => rfl
 | 6, _ => rfl
 | 7, _ => rfl
 | 8, _ => rfl
 | 9, _ => rfl
theorem num_ev (n : Nat) (h : n < 1000000000) : Ev (fun k => spec_l1Num.f k (n : Int)) (ofL (D n)) := by
 induction n using Nat.strongRecOn with
 | _ n ih =>
 refine Ev.succ ?_
 simp only [spec_l1Num.f]
 refine Ev.neg (by omega) ?_
 by_cases c : n < 10
 ·rw [wrap_one (n := 10) c (by omega)]
  refine Ev.pos (by omega) (Ev.pos (by omega) (Ev.pos (by omega) (Ev.pos (by omega) ?_)))
  rw [Int.toNat_natCast, Int.toNat_natCast, dig n c, D_small c]
  exact Ev.now _
 ·have e1 : Int.tdiv (n : Int) 10 = ((n / 10 : Nat) : Int) := rfl
  have e2 : Int.tmod (n : Int) 10 = ((n % 10 : Nat) : Int) := rfl
  have hm : n % 10 < 10 := Nat.mod_lt _ (by omega)
  have hl : (D (n / 10)).length ≤ 9 := D_len 8 _ (by omega)
  rw [e1, e2, wrap_id (x := ((n / 10 : Nat) : Int)) (by omega) (by omega), wrap_one (n := 10) hm (by omega)]
  simp only [Int.toNat_natCast]
  rw [dig _ hm]
  refine Ev.neg (by omega) (Ev.bind (ih (n / 10) (by omega) (by omega)) ?_)
  refine Ev.pos (by omega) (Ev.pos (by omega) (Ev.pos (by omega) (Ev.pos (by rw [ofL_size, ofL_size]; simp; omega) ?_)))
  rw [ofL_append, ← D_big c]
  exact Ev.now _
theorem itoa_at (n : Nat) (h : n < 1000000000) : strconv_Itoa.f (n : Int) = some (ofL (D n)) := by
 unfold strconv_Itoa.f
 rw [if_pos (by omega), Lib.itoa_nonneg]
 rfl
def sumL : List UInt8 → Nat → Nat
 | [], h => h
 | b :: l, h => sumL l ((41 * h + b.toNat + 1) % 999979)
theorem sumL_lt : ∀ (l : List UInt8) (h : Nat), h < 999979 → sumL l h < 999979
 | [], _, h => h
 | _ :: l, _, _ => sumL_lt l _ (Nat.mod_lt _ (by omega))
theorem sum_step (h b : Nat) (hh : h < 999979) (hb : b < 256) : Int.tmod (wrap64 ((wrap64 ((wrap64 (41 * (h : Int))) + (wrap64 (b : Int)))) + 1)) 999979 = (((41 * h + b + 1) % 999979 : Nat) : Int) := by
 rw [wrap_id (x := 41 * (h : Int)) (by omega) (by omega), wrap_id (x := (b : Int)) (by omega) (by omega), wrap_id (x := 41 * (h : Int) + b) (by omega) (by omega), wrap_id (by omega) (by omega),
  show 41 * (h : Int) + b + 1 = ((41 * h + b + 1 : Nat) : Int) by omega]
 rfl
theorem drop_cons {l pre rest : List UInt8} {b : UInt8} (e : l = pre ++ b :: rest) : ∃ h : pre.length < l.length, l[pre.length]'h = b := by
 subst e
 exact ⟨by simp, by simp⟩
theorem spec_sum_ev (l : List UInt8) (hl : l.length ≤ 140737488351232) : Ev (fun k => spec_l1Sum.f k (ofL l)) (sumL l 7 : Int) := by
 have main : ∀ (rest pre : List UInt8) (h : Nat), l = pre ++ rest → h < 999979 → Ev (fun k => spec_l1Sum.l0 k (ofL l) (h : Int) (pre.length : Int)) (sumL rest h : Int) := by
  intro rest
  induction rest with
  | nil =>
   intro pre h e hh
   refine Ev.succ ?_
   simp only [spec_l1Sum.l0]
   rw [List.append_nil] at e
   exact Ev.neg (by rw [ofL_size, e]; omega) (Ev.now _)
  | cons b rest ih =>
   intro pre h e hh
   obtain ⟨hlt, hb⟩ := drop_cons e
   have hbb := b.toNat_lt
   refine Ev.succ ?_
   simp only [spec_l1Sum.l0]
   rw [bt_ofL l _ hlt, hb, sum_step h b.toNat hh hbb, wrap_one hlt (by omega)]
   refine Ev.pos (by rw [ofL_size]; omega) (Ev.pos (by omega) ?_)
   have := ih (pre ++ [b]) ((41 * h + b.toNat + 1) % 999979) (by simp [e]) (Nat.mod_lt _ (by omega))
   rw [List.length_append, List.length_singleton] at this
   exact this
 exact main l [] 7 rfl (by omega)
theorem impl_sum_ev (l : List UInt8) (hl : l.length ≤ 140737488351232) : Ev (fun k => impl_checksum.f k (ofL l)) (sumL l 7 : Int) := by
 have main : ∀ (rest pre : List UInt8) (h : Nat), l = pre ++ rest → h < 999979 → Ev (fun k => impl_checksum.l0 k (ofL l) (h : Int) (((ofL l).size : Nat) : Int) (pre.length : Int)) (sumL rest h : Int) := by
  intro rest
  induction rest with
  | nil =>
   intro pre h e hh
   refine Ev.succ ?_
   simp only [impl_checksum.l0]
   rw [List.append_nil] at e
   exact Ev.neg (by rw [ofL_size, e]; omega) (Ev.now _)
  | cons b rest ih =>
   intro pre h e hh
   obtain ⟨hlt, hb⟩ := drop_cons e
   have hbb := b.toNat_lt
   refine Ev.succ ?_
   simp only [impl_checksum.l0]
   rw [bt_ofL l _ hlt, hb, sum_step h b.toNat hh hbb, wrap_one hlt (by omega)]
   refine Ev.pos (by rw [ofL_size]; omega) (Ev.pos (by omega) (Ev.pos (by rw [ofL_size]; omega) ?_))
   have := ih (pre ++ [b]) ((41 * h + b.toNat + 1) % 999979) (by simp [e]) (Nat.mod_lt _ (by omega))
   rw [List.length_append, List.length_singleton] at this
   exact this
 exact main l [] 7 rfl (by omega)
def sealL (t : List UInt8) : List UInt8 := t ++ [35] ++ D (sumL t 7)
theorem sum_len (t : List UInt8) : (D (sumL t 7)).length ≤ 6 := D_len 5 _ (by have := sumL_lt t 7 (by omega); omega)
theorem sealL_len (t : List UInt8) : t.length + 1 ≤ (sealL t).length ∧ (sealL t).length ≤ t.length + 7 := by
 have := sum_len t
 unfold sealL
 simp
 omega
theorem spec_seal_ev (t : List UInt8) (ht : t.length ≤ 4611686018427) : Ev (fun k => spec_l1Seal.f k (ofL t)) (ofL (sealL t)) := by
 have h6 := sum_len t
 have hs := sumL_lt t 7 (by omega)
 unfold spec_l1Seal.f
 rw [show (⟨#[35]⟩ : ByteArray) = ofL [35] from rfl, ofL_append]
 refine Ev.pos (by rw [ofL_size]; omega) (Ev.bind (spec_sum_ev t (by omega)) (Ev.bind (num_ev _ (by omega)) ?_))
 refine Ev.pos (by rw [ofL_size, ofL_size]; simp; omega) ?_
 rw [ofL_append]
 exact Ev.now _
theorem has_iff (l : List UInt8) (c : UInt8) : c ∈ l ↔ 0 ≤ Lib.indexByte l c := by
 induction l with
 | nil => simp [Lib.indexByte]
 | cons b l ih =>
  have ge := Lib.indexByte_ge l c
  unfold Lib.indexByte
  by_cases h : (b == c) = true
  ·rw [if_pos h]
   have : b = c := by simpa using h
   simp [this]
  ·rw [if_neg h]
   have hb : ¬ c = b := fun e => h (by simp [e])
   rw [List.mem_cons, or_iff_right hb, ih]
   by_cases e : (Lib.indexByte l c == -1) = true
   ·rw [if_pos e]
    have : Lib.indexByte l c = -1 := by simpa using e
    omega
   ·rw [if_neg e]
    have : Lib.indexByte l c ≠ -1 := by simpa using e
    omega
theorem contains_at (l : List UInt8) (c : UInt8) : strings_Contains.f (ofL l) ⟨#[c]⟩ = some (decide (c ∈ l)) := by
 have e1 : stringslite_Index.f (ofL l) ⟨#[c]⟩ = some (Lib.indexByte l c) := by
  unfold stringslite_Index.f
  rw [if_pos (show (⟨#[c]⟩ : ByteArray).size = 1 from rfl), data_ofL]
  rfl
 unfold strings_Contains.f strings_Index.f
 rw [e1, Option.bind_some, Option.bind_some]
 refine congrArg some ?_
 rw [decide_eq_decide, has_iff]
def Sealable (t : List UInt8) : Prop := t.length ≤ 4000 ∧ 35 ∉ t ∧ (sealL t).length ≤ 4000
theorem append_yes (t : List UInt8) (h : Sealable t) : Ev (fun k => impl_AppendChecksum.f k (ofL t)) (ofL (sealL t), true) := by
 obtain ⟨h1, h2, h3⟩ := h
 have h6 := sum_len t
 have hs := sumL_lt t 7 (by omega)
 have h3' := h3
 unfold sealL at h3'
 unfold impl_AppendChecksum.f
 rw [contains_at, decide_eq_false h2]
 refine Ev.neg (by rw [ofL_size]; omega) (Ev.have rfl (Ev.succ ?_))
 simp only [impl_AppendChecksum.j0]
 rw [show (⟨#[35]⟩ : ByteArray) = ofL [35] from rfl, ofL_append]
 refine Ev.neg (by simp) (Ev.pos (by rw [ofL_size]; omega) (Ev.bind (impl_sum_ev t (by omega)) (Ev.have (itoa_at _ (by omega)) ?_)))
 rw [ofL_append]
 refine Ev.pos (by rw [ofL_size, ofL_size]; simp; omega) (Ev.neg (by rw [ofL_size]; omega) ?_)
 exact Ev.now _
theorem append_no (t : List UInt8) (ht : t.length ≤ 1099511627776) (h : ¬ Sealable t) : Ev (fun k => impl_AppendChecksum.f k (ofL t)) (ofL [], false) := by
 have h6 := sum_len t
 have hs := sumL_lt t 7 (by omega)
 unfold impl_AppendChecksum.f
 by_cases h1 : t.length ≤ 4000
 ·refine Ev.neg (by rw [ofL_size]; omega) ?_
  rw [contains_at]
  refine Ev.have rfl (Ev.succ ?_)
  simp only [impl_AppendChecksum.j0]
  by_cases h2 : 35 ∈ t
  ·exact Ev.pos (by simpa using h2) (Ev.now _)
  ·have h3 : ¬ (sealL t).length ≤ 4000 := fun z => h ⟨h1, h2, z⟩
   unfold sealL at h3
   rw [show (⟨#[35]⟩ : ByteArray) = ofL [35] from rfl, ofL_append]
   refine Ev.neg (by simpa using h2) (Ev.pos (by rw [ofL_size]; omega) (Ev.bind (impl_sum_ev t (by omega)) (Ev.have (itoa_at _ (by omega)) ?_)))
   rw [ofL_append]
   refine Ev.pos (by rw [ofL_size, ofL_size]; simp; omega) (Ev.pos (by rw [ofL_size]; omega) ?_)
   exact Ev.now _
 ·refine Ev.pos (by rw [ofL_size]; omega) (Ev.succ ?_)
  simp only [impl_AppendChecksum.j0]
  exact Ev.pos trivial (Ev.now _)
def textL (k : Nat) (c r : List UInt8) : List UInt8 := D k ++ [32] ++ c ++ [64] ++ r
def lineL (k : Nat) (c r : List UInt8) : List UInt8 := sealL (textL k c r) ++ [10]
theorem textL_len (k : Nat) (hk : k < 1000000) (c r : List UInt8) : c.length + r.length + 2 ≤ (textL k c r).length ∧ (textL k c r).length ≤ c.length + r.length + 8 := by
 have := D_len 5 k (by omega)
 unfold textL
 simp
 omega
theorem spec_line_ev (k : Nat) (hk : k < 1000000) (c r : List UInt8) (hc : c.length ≤ 1099511627776) (hr : r.length ≤ 1099511627776) : Ev (fun n => spec_l12Line.f n (k : Int) (ofL c) (ofL r)) (ofL (lineL k c r)) := by
 have h6 := D_len 5 k (by omega)
 have ht := textL_len k hk c r
 have hs := sealL_len (textL k c r)
 unfold spec_l12Line.f
 refine Ev.bind (num_ev k (by omega)) ?_
 (try dsimp only)
 rw [show (⟨#[32]⟩ : ByteArray) = ofL [32] from rfl, show (⟨#[64]⟩ : ByteArray) = ofL [64] from rfl, show (⟨#[10]⟩ : ByteArray) = ofL [10] from rfl]
 simp only [ofL_append, ofL_size]
 refine Ev.pos (by omega) (Ev.pos (by simp; omega) (Ev.pos (by simp; omega) (Ev.pos (by simp; omega) ?_)))
 refine Ev.bind (spec_seal_ev (textL k c r) (by omega)) ?_
 (try dsimp only)
 rw [ofL_append, ofL_size]
 exact Ev.pos (by omega) (Ev.now _)
theorem valid_text (k : Nat) (hk : k < 1000000) (c r : List UInt8) (h : Valid c r) : Sealable (textL k c r) ∧ 35 ∉ textL k c r := by
 obtain ⟨_, h1, h2, h3, h4⟩ := h
 have ht := textL_len k hk c r
 have hs := sealL_len (textL k c r)
 have hn : 35 ∉ textL k c r := by
  unfold textL
  intro e
  simp only [List.mem_append, List.mem_singleton] at e
  rcases e with (((e | e) | e) | e) | e
  ·have := D_digits k _ e
   exact absurd this (by decide)
  ·exact absurd e (by decide)
  ·exact (h1 _ e).2.2.1 rfl
  ·exact absurd e (by decide)
  ·exact (h3 _ e).2.2 rfl
 exact ⟨⟨by omega, hn, by omega⟩, hn⟩
theorem record_at (c r : List UInt8) (hc : c.length ≤ 140737488351232) (hr : r.length ≤ 140737488351232) : ∃ v, Ev (fun k => spec_l12Record.f k (ofL c) (ofL r)) v ∧ Ev (fun k => impl_IsValidRecord.f k (ofL c) (ofL r)) v ∧ (v = true ↔ Valid c r) := by
 have := record_ev (ofL c) (ofL r) (by rw [ofL_size]; exact hc) (by rw [ofL_size]; exact hr)
 rw [data_ofL, data_ofL] at this
 exact this
theorem within_at (a b c : Int) : impl_within.f a b c = some (decide (b ≤ a ∧ a ≤ c)) := by
 unfold impl_within.f
 by_cases h : a ≥ b
 ·rw [if_pos h]
  refine congrArg some ?_
  rw [decide_eq_decide]
  omega
 ·rw [if_neg h, decide_eq_false (by omega)]
theorem impl_enc_yes (k : Nat) (hk : k < 60) (c r : List UInt8) (h : Valid c r) : Ev (fun n => impl_EncodeRecord.f n (k : Int) (ofL c) (ofL r)) (ofL (lineL k c r), true) := by
 have ⟨_, _, l1, _, l2⟩ := h
 have h6 := D_len 5 k (by omega)
 have ht := textL_len k (by omega) c r
 have hs := sealL_len (textL k c r)
 obtain ⟨v, _, e2, hv⟩ := record_at c r (by omega) (by omega)
 obtain rfl : v = true := hv.2 h
 unfold impl_EncodeRecord.f
 rw [within_at, decide_eq_true (show (0 : Int) ≤ k ∧ (k : Int) ≤ 59 by omega)]
 refine Ev.have rfl (Ev.pos rfl (Ev.bind e2 (Ev.succ ?_)))
 simp only [impl_EncodeRecord.j0]
 refine Ev.neg (by simp) (Ev.have (itoa_at k (by omega)) ?_)
 rw [show (⟨#[32]⟩ : ByteArray) = ofL [32] from rfl, show (⟨#[64]⟩ : ByteArray) = ofL [64] from rfl, show (⟨#[10]⟩ : ByteArray) = ofL [10] from rfl]
 simp only [ofL_append, ofL_size]
 refine Ev.pos (by omega) (Ev.pos (by simp; omega) (Ev.pos (by simp; omega) (Ev.pos (by simp; omega) ?_)))
 refine Ev.bind (append_yes (textL k c r) (valid_text k (by omega) c r h).1) ?_
 (try dsimp only)
 rw [ofL_append, ofL_size]
 exact Ev.pos (by omega) (Ev.now _)
theorem impl_enc_no (k : Int) (c r : List UInt8) (hc : c.length ≤ 140737488351232) (hr : r.length ≤ 140737488351232) (h : ¬ ((0 ≤ k ∧ k ≤ 59) ∧ Valid c r)) : Ev (fun n => impl_EncodeRecord.f n k (ofL c) (ofL r)) (ofL [], false) := by
 obtain ⟨v, _, e2, hv⟩ := record_at c r hc hr
 unfold impl_EncodeRecord.f
 rw [within_at]
 refine Ev.have rfl ?_
 by_cases hk : 0 ≤ k ∧ k ≤ 59
 ·have : v = false := by
   cases v
   ·rfl
   ·exact absurd ⟨hk, hv.1 rfl⟩ h
  subst this
  refine Ev.pos (decide_eq_true hk) (Ev.bind e2 (Ev.succ ?_))
  simp only [impl_EncodeRecord.j0]
  exact Ev.pos (by simp) (Ev.now _)
 ·refine Ev.neg (by simpa using hk) (Ev.succ ?_)
  simp only [impl_EncodeRecord.j0]
  exact Ev.pos trivial (Ev.now _)

def ahead (c : UInt8) (l : List UInt8) : List UInt8 := l.takeWhile (· != c)
def behind (c : UInt8) (l : List UInt8) : List UInt8 := (l.dropWhile (· != c)).tail
theorem ahead_none {c : UInt8} {l : List UInt8} (h : c ∉ l) : ahead c l = l := by
 have := List.takeWhile_append_of_pos (p := (· != c)) (l₁ := l) (l₂ := []) (fun x hx => by simp only [bne_iff_ne]; intro e; exact h (e ▸ hx))
 rw [List.append_nil, List.takeWhile_nil, List.append_nil] at this
 exact this
theorem behind_none {c : UInt8} {l : List UInt8} (h : c ∉ l) : behind c l = [] := by
 unfold behind
 have := List.takeWhile_append_dropWhile (p := (· != c)) (l := l)
 have e : l.takeWhile (· != c) = l := ahead_none h
 rw [e] at this
 rw [List.append_right_eq_self.1 this]
 rfl
theorem ahead_at {c : UInt8} {a : List UInt8} (b : List UInt8) (h : c ∉ a) : ahead c (a ++ c :: b) = a := by
 unfold ahead
 rw [List.takeWhile_append_of_pos (fun x hx => by simp only [bne_iff_ne]; intro e; exact h (e ▸ hx))]
 simp
theorem behind_at {c : UInt8} {a : List UInt8} (b : List UInt8) (h : c ∉ a) : behind c (a ++ c :: b) = b := by
 unfold behind
 rw [List.dropWhile_append_of_pos (fun x hx => by simp only [bne_iff_ne]; intro e; exact h (e ▸ hx))]
 simp
theorem has_cut {c : UInt8} {l : List UInt8} (h : c ∈ l) : ∃ a b, l = a ++ c :: b ∧ c ∉ a := by
 obtain ⟨a, b, e, n⟩ := List.eq_append_cons_of_mem h
 exact ⟨a, b, e, n⟩
theorem ahead_len (c : UInt8) (l : List UInt8) : (ahead c l).length ≤ l.length := by
 by_cases h : c ∈ l
 ·obtain ⟨a, b, rfl, n⟩ := has_cut h
  rw [ahead_at b n]
  simp
 ·rw [ahead_none h]
  exact Nat.le_refl _
theorem behind_len (c : UInt8) (l : List UInt8) : (behind c l).length ≤ l.length := by
 by_cases h : c ∈ l
 ·obtain ⟨a, b, rfl, n⟩ := has_cut h
  rw [behind_at b n]
  simp
  omega
 ·rw [behind_none h]
  simp
theorem index_at {c : UInt8} : ∀ (a b : List UInt8), c ∉ a → Lib.indexByte (a ++ c :: b) c = a.length
 | [], b, _ => by simp [Lib.indexByte]
 | x :: a, b, h => by
  have ih := index_at a b (fun e => h (List.mem_cons_of_mem _ e))
  have hx : ¬ (x == c) = true := fun e => h (by simp at e; simp [e])
  rw [List.cons_append]
  unfold Lib.indexByte
  rw [if_neg hx, ih, if_neg (by simp <;> omega)]
  simp
theorem index_none {c : UInt8} {l : List UInt8} (h : c ∉ l) : Lib.indexByte l c = -1 := by
 have := Lib.indexByte_ge l c
 by_cases q : 0 ≤ Lib.indexByte l c
 ·exact absurd ((has_iff l c).2 q) h
 ·omega
theorem cut_at (l : List UInt8) (hl : l.length ≤ 140737488351232) (c : UInt8) : strings_Cut.f (ofL l) ⟨#[c]⟩ = some (ofL (ahead c l), ofL (behind c l), decide (c ∈ l)) := by
 have e1 : stringslite_Index.f (ofL l) ⟨#[c]⟩ = some (Lib.indexByte l c) := by
  unfold stringslite_Index.f
  rw [if_pos (show (⟨#[c]⟩ : ByteArray).size = 1 from rfl), data_ofL]
  rfl
 have e2 : (⟨#[c]⟩ : ByteArray).size = 1 := rfl
 unfold strings_Cut.f stringslite_Cut.f
 rw [e1, e2, Option.bind_some]
 by_cases h : c ∈ l
 ·rw [decide_eq_true h]
  obtain ⟨a, b, rfl, n⟩ := has_cut h
  have hsz : (a ++ c :: b).length = a.length + b.length + 1 := by simp; omega
  rw [index_at a b n, ahead_at b n, behind_at b n, wrap_id (x := (a.length : Int) + ((1 : Nat) : Int)) (by omega) (by omega), ofL_size, if_pos (by omega), if_pos (by omega), if_pos (by omega), if_pos (by omega), if_pos (by omega), Option.bind_some, ofL_extract, ofL_extract]
  have z1 : ((a ++ c :: b).take ((a.length : Int)).toNat).drop 0 = a := by simp
  have z2 : ((a ++ c :: b).take (a ++ c :: b).length).drop ((a.length : Int) + ((1 : Nat) : Int)).toNat = b := by
   rw [List.take_length, show ((a.length : Int) + ((1 : Nat) : Int)).toNat = a.length + 1 by omega]
   simp
  rw [z1, z2]
 ·rw [decide_eq_false h, index_none h, ahead_none h, behind_none h, if_neg (by omega), Option.bind_some]
  rfl
theorem split_rest (l : List UInt8) (hl : l.length ≤ 4398046511104) (c : Int) : ∀ d i : Nat, i + d = l.length → ∀ (x5 : List ByteArray) (fr : Nat), fr ≤ i → x5.length ≤ i → ∃ L, L ≠ [] ∧ Ev (fun k => spec_l1Split.l0 k (ofL l) c x5 (fr : Int) (i : Int)) (x5 ++ L) := by
 intro d
 induction d with
 | zero =>
  intro i hi x5 fr hf hx
  refine ⟨[(ofL l).extract ((fr : Nat) : Int).toNat l.length], by simp, Ev.succ ?_⟩
  simp only [spec_l1Split.l0, ofL_size]
  exact Ev.neg (by omega) (Ev.pos (by omega) (Ev.pos (by omega) (Ev.pos (by omega) (Ev.now _))))
 | succ d ih =>
  intro i hi x5 fr hf hx
  have hlt : i < l.length := by omega
  by_cases g : bt (ofL l) i = c
  ·obtain ⟨L, hL, go⟩ := ih (i + 1) (by omega) (x5 ++ [(ofL l).extract (fr : Int).toNat (i : Int).toNat]) (i + 1) (Nat.le_refl _) (by simp; omega)
   refine ⟨(ofL l).extract ((fr : Nat) : Int).toNat ((i : Nat) : Int).toNat :: L, by simp, Ev.succ ?_⟩
   simp only [spec_l1Split.l0, ofL_size]
   rw [wrap_one hlt (by omega)]
   rw [List.append_assoc] at go
   exact Ev.pos (by omega) (Ev.pos (by omega) (Ev.pos g (Ev.pos (by omega) (Ev.pos (by omega) (Ev.pos (by omega) (Ev.pos (by omega) go))))))
  ·obtain ⟨L, hL, go⟩ := ih (i + 1) (by omega) x5 fr (by omega) (by omega)
   refine ⟨L, hL, Ev.succ ?_⟩
   simp only [spec_l1Split.l0, ofL_size]
   rw [wrap_one hlt (by omega)]
   exact Ev.pos (by omega) (Ev.pos (by omega) (Ev.neg g go))
theorem split_ev (l : List UInt8) (hl : l.length ≤ 4398046511104) (c : UInt8) (ci : Int) (hc : ci = c.toNat) : ∃ L, Ev (fun k => spec_l1Split.f k (ofL l) ci) (ofL (ahead c l) :: L) ∧ (L ≠ [] ↔ c ∈ l) := by
 have main : ∀ (rest pre : List UInt8), l = pre ++ rest → c ∉ pre → ∃ L, Ev (fun k => spec_l1Split.l0 k (ofL l) ci [] 0 (pre.length : Int)) (ofL (ahead c l) :: L) ∧ (L ≠ [] ↔ c ∈ l) := by
  intro rest
  induction rest with
  | nil =>
   intro pre e hn
   rw [List.append_nil] at e
   subst e
   refine ⟨[], Ev.succ ?_, by simpa using hn⟩
   simp only [spec_l1Split.l0, ofL_size]
   refine Ev.neg (by omega) (Ev.pos (by omega) (Ev.pos (by omega) (Ev.pos (by simp) ?_)))
   rw [ofL_extract, ahead_none hn]
   simp only [Int.toNat_zero, List.drop_zero, List.take_length, List.nil_append]
   exact Ev.now _
  | cons b rest ih =>
   intro pre e hn
   obtain ⟨hlt, hb⟩ := drop_cons e
   have hg : bt (ofL l) (pre.length : Int) = ci ↔ b = c := by
    rw [bt_ofL l _ hlt, hb, hc]
    constructor
    ·intro q
     exact UInt8.toNat_inj.1 (by omega)
    ·intro q
     rw [q]
   by_cases g : b = c
   ·obtain ⟨L, hL, go⟩ := split_rest l hl ci rest.length (pre.length + 1) (by rw [e]; simp; omega) [(ofL l).extract (0 : Int).toNat ((pre.length : Nat) : Int).toNat] (pre.length + 1) (Nat.le_refl _) (by simp)
    have hm : c ∈ l := by rw [e, g]; simp
    refine ⟨L, Ev.succ ?_, fun _ => hm, fun _ => hL⟩
    simp only [spec_l1Split.l0, ofL_size]
    rw [wrap_one hlt (by omega)]
    refine Ev.pos (by omega) (Ev.pos (by omega) (Ev.pos (hg.2 g) (Ev.pos (by omega) (Ev.pos (by omega) (Ev.pos (by omega) (Ev.pos (by simp) ?_))))))
    refine Ev.same go ?_
    rw [ofL_extract]
    simp only [Int.toNat_zero, List.drop_zero, Int.toNat_natCast, List.singleton_append]
    refine congrArg (· :: L) (congrArg ofL ?_)
    rw [e, g, ahead_at rest hn]
    simp
   ·obtain ⟨L, go, hL⟩ := ih (pre ++ [b]) (by simp [e]) (by simp; exact ⟨hn, fun q => g q.symm⟩)
    refine ⟨L, Ev.succ ?_, hL⟩
    simp only [spec_l1Split.l0, ofL_size]
    rw [wrap_one hlt (by omega)]
    refine Ev.pos (by omega) (Ev.pos (by omega) (Ev.neg (fun q => g (hg.1 q)) ?_))
    rw [List.length_append, List.length_singleton] at go
    exact go
 exact main l [] rfl (by simp)
def Rec (k : Nat) (L c r : List UInt8) : Prop := Valid c r ∧ lineL k c r = L ++ [10]
theorem no_digit {k : Nat} {c : UInt8} (h : c.toNat < 48) : c ∉ D k := fun e => by have := D_digits k c e; omega
theorem rec_line {k : Nat} {L c r : List UInt8} (hk : k < 1000000) (h : Rec k L c r) : L = sealL (textL k c r) ∧ ahead 35 L = textL k c r := by
 have e : L = sealL (textL k c r) := (List.append_cancel_right h.2).symm
 refine ⟨e, ?_⟩
 rw [e]
 unfold sealL
 rw [List.append_assoc, List.singleton_append]
 exact ahead_at _ (valid_text k hk c r h.1).2
theorem text_cut (k : Nat) (c r : List UInt8) : textL k c r = D k ++ 32 :: (c ++ 64 :: r) := by
 unfold textL
 simp
theorem text_parts {k : Nat} {c r : List UInt8} (h : Valid c r) : behind 32 (textL k c r) = c ++ 64 :: r ∧ ahead 64 (c ++ 64 :: r) = c ∧ behind 64 (c ++ 64 :: r) = r := by
 have hn : (64 : UInt8) ∉ c := fun e => (h.2.1 _ e).2.2.2 rfl
 refine ⟨?_, ahead_at r hn, behind_at r hn⟩
 rw [text_cut]
 exact behind_at _ (no_digit (by decide))
theorem spec_decode_ev (L : List UInt8) (k : Nat) (hL : L.length ≤ 1048576) (hk : k < 60) : ∃ c r ok, Ev (fun n => spec_l12Decode.f n (ofL L) (k : Int)) (ofL c, ofL r, ok) ∧ (ok = true → Rec k L c r) ∧ (∀ c' r', Rec k L c' r' → ok = true ∧ c = c' ∧ r = r') := by
 have h6 := D_len 5 k (by omega)
 obtain ⟨L1, e1, _⟩ := split_ev L (by omega) 35 35 rfl
 have htl := ahead_len 35 L
 have hl1 : 0 < ((ofL (ahead 35 L) :: L1).length : Int) := by simp <;> omega
 have sz : (D k ++ [32]).length = (D k).length + 1 := by simp
 by_cases g1 : (ahead 35 L).length < (D k).length + 1
 ·refine ⟨[], [], false, ?_, fun e => absurd e (by simp), fun c' r' h => ?_⟩
  ·unfold spec_l12Decode.f
   refine Ev.bind (num_ev k (by omega)) ?_
   rw [show (⟨#[32]⟩ : ByteArray) = ofL [32] from rfl, ofL_append, ofL_size]
   refine Ev.pos (by omega) (Ev.bind e1 (Ev.pos hl1 ?_))
   simp only [rdOf, List.getD_cons_zero, Int.toNat_zero, ofL_size]
   refine Ev.pos (by omega) (Ev.succ ?_)
   simp only [spec_l12Decode.j0]
   exact Ev.pos trivial (Ev.now _)
  ·have := (rec_line (by omega) h).2
   rw [this, text_cut] at g1
   simp at g1 <;> omega
 by_cases g2 : (ahead 35 L).take ((D k).length + 1) = D k ++ [32]
 case neg =>
  refine ⟨[], [], false, ?_, fun e => absurd e (by simp), fun c' r' h => ?_⟩
  ·unfold spec_l12Decode.f
   refine Ev.bind (num_ev k (by omega)) ?_
   rw [show (⟨#[32]⟩ : ByteArray) = ofL [32] from rfl, ofL_append, ofL_size]
   refine Ev.pos (by omega) (Ev.bind e1 (Ev.pos hl1 ?_))
   simp only [rdOf, List.getD_cons_zero, Int.toNat_zero, ofL_size, sz, ofL_extract, toList_ofL, Int.toNat_natCast, List.drop_zero]
   rw [bne_iff_ne.2 g2]
   refine Ev.neg (by omega) (Ev.pos (by omega) (Ev.pos (by omega) (Ev.succ ?_)))
   simp only [spec_l12Decode.j0]
   exact Ev.pos trivial (Ev.now _)
  ·refine absurd ?_ g2
   rw [(rec_line (by omega) h).2, text_cut, ← sz]
   have : D k ++ 32 :: (c' ++ 64 :: r') = (D k ++ [32]) ++ (c' ++ 64 :: r') := by simp
   rw [this, List.take_left]
 have hT : ahead 35 L = (D k ++ [32]) ++ (ahead 35 L).drop ((D k).length + 1) := by
  have := List.take_append_drop ((D k).length + 1) (ahead 35 L)
  rw [g2] at this
  exact this.symm
 obtain ⟨R, hR⟩ : ∃ R, (ahead 35 L).drop ((D k).length + 1) = R := ⟨_, rfl⟩
 rw [hR] at hT
 have hRl : R.length ≤ L.length := by rw [← hR, List.length_drop]; omega
 obtain ⟨L2, e2, _⟩ := split_ev R (by omega) 64 64 rfl
 have hl2 : 0 < ((ofL (ahead 64 R) :: L2).length : Int) := by simp <;> omega
 have hal := ahead_len 64 R
 have hrec : ∀ c' r', Rec k L c' r' → R = c' ++ 64 :: r' := by
  intro c' r' h
  have e := (rec_line (by omega) h).2
  rw [hT, text_cut] at e
  have : D k ++ 32 :: (c' ++ 64 :: r') = (D k ++ [32]) ++ (c' ++ 64 :: r') := by simp
  rw [this] at e
  exact List.append_cancel_left e
 have start : ∀ {z : ByteArray × ByteArray × Bool}, Ev (fun n => if ((ahead 64 R).length : Int) = ((R.length : Nat) : Int) then some ((⟨#[]⟩ : ByteArray), (⟨#[]⟩ : ByteArray), false) else (if 0 ≤ (wrap64 (((ahead 64 R).length : Int) + 1)) then (if (wrap64 (((ahead 64 R).length : Int) + 1)) ≤ ((R.length : Nat) : Int) then ((spec_l12Record.f n (ofL (ahead 64 R)) ((ofL R).extract ((wrap64 (((ahead 64 R).length : Int) + 1)) : Int).toNat R.length)).bind fun t137 => (if t137 = true then ((spec_l12Line.f n (k : Int) (ofL (ahead 64 R)) ((ofL R).extract ((wrap64 (((ahead 64 R).length : Int) + 1)) : Int).toNat R.length)).bind fun t138 => (if L.length + 1 ≤ 9223372036854775807 then (some (ofL (ahead 64 R), (ofL R).extract ((wrap64 (((ahead 64 R).length : Int) + 1)) : Int).toNat R.length, (t138.toList == (ofL L ++ (⟨#[10]⟩ : ByteArray)).toList))) else (none))) else (some (ofL (ahead 64 R), (ofL R).extract ((wrap64 (((ahead 64 R).length : Int) + 1)) : Int).toNat R.length, false)))) else (none)) else (none))) z → Ev (fun n => spec_l12Decode.f n (ofL L) (k : Int)) z := by
  intro z hz
  unfold spec_l12Decode.f
  refine Ev.bind (num_ev k (by omega)) ?_
  rw [show (⟨#[32]⟩ : ByteArray) = ofL [32] from rfl, ofL_append, ofL_size]
  refine Ev.pos (by omega) (Ev.bind e1 (Ev.pos hl1 ?_))
  have hb : ((ahead 35 L).take ((D k).length + 1) != D k ++ [32]) = false := by rw [g2]; simp
  simp only [rdOf, List.getD_cons_zero, Int.toNat_zero, ofL_size, sz, ofL_extract, toList_ofL, Int.toNat_natCast, List.drop_zero]
  rw [hb]
  refine Ev.neg (by omega) (Ev.pos (by omega) (Ev.pos (by omega) (Ev.succ ?_)))
  simp only [spec_l12Decode.j0, ofL_size, sz, ofL_extract, Int.toNat_natCast, List.take_length, hR]
  refine Ev.neg (by simp) (Ev.pos (by omega) (Ev.pos (by omega) (Ev.bind e2 (Ev.pos hl2 ?_))))
  simp only [rdOf, List.getD_cons_zero, Int.toNat_zero, ofL_size]
  rw [ofL_extract, List.take_length] at hz
  exact hz
 by_cases g3 : (64 : UInt8) ∈ R
 case neg =>
  refine ⟨[], [], false, start ?_, fun e => absurd e (by simp), fun c' r' h => ?_⟩
  ·exact Ev.pos (by rw [ahead_none g3]) (Ev.now _)
  ·refine absurd ?_ g3
   rw [hrec c' r' h]
   simp
 obtain ⟨a, b, hab, hn⟩ := has_cut g3
 have ha : ahead 64 R = a := by rw [hab, ahead_at b hn]
 have hRn : R.length = a.length + b.length + 1 := by rw [hab]; simp; omega
 have hb : (ofL R).extract ((wrap64 (((ahead 64 R).length : Int) + 1)) : Int).toNat R.length = ofL b := by
  rw [ha, wrap_id (by omega) (by omega), ofL_extract, List.take_length, hab, show ((a.length : Int) + 1).toNat = a.length + 1 by omega]
  simp
 have hparse : ∀ c' r', Rec k L c' r' → a = c' ∧ b = r' := by
  intro c' r' h
  have e := hrec c' r' h
  have hp := text_parts (k := k) h.1
  have hb2 : behind 64 R = b := by rw [hab, behind_at b hn]
  exact ⟨by rw [← ha, e, hp.2.1], by rw [← hb2, e, hp.2.2]⟩
 obtain ⟨v, r1, _, hv⟩ := record_at a b (by omega) (by omega)
 rw [hb, ha] at start
 cases v with
 | false =>
  refine ⟨a, b, false, start ?_, fun e => absurd e (by simp), fun c' r' h => ?_⟩
  ·exact Ev.neg (by omega) (Ev.pos (by rw [wrap_id] <;> omega) (Ev.pos (by rw [wrap_id] <;> omega) (Ev.bind r1 (Ev.neg (by simp) (Ev.now _)))))
  ·obtain ⟨z1, z2⟩ := hparse c' r' h
   subst z1 z2
   exact absurd (hv.2 h.1) (by simp)
 | true =>
  have hva := hv.1 rfl
  refine ⟨a, b, lineL k a b == L ++ [10], start ?_, fun e => ⟨hva, by simpa using e⟩, fun c' r' h => ?_⟩
  ·refine Ev.neg (by omega) (Ev.pos (by rw [wrap_id] <;> omega) (Ev.pos (by rw [wrap_id] <;> omega) (Ev.bind r1 (Ev.pos rfl (Ev.bind (spec_line_ev k (by omega) a b (by omega) (by omega)) (Ev.pos (by omega) ?_))))))
   rw [show (⟨#[10]⟩ : ByteArray) = ofL [10] from rfl, ofL_append, toList_ofL, toList_ofL]
   exact Ev.now _
  ·obtain ⟨z1, z2⟩ := hparse c' r' h
   subst z1 z2
   exact ⟨by simpa using h.2, rfl, rfl⟩
theorem verify_ev (L : List UInt8) (hL : L.length ≤ 1048576) : ∃ v b, Ev (fun n => impl_VerifyChecksum.f n (ofL L)) (ofL v, b) ∧ v.length ≤ L.length ∧ ∀ k c' r', k < 1000000 → Rec k L c' r' → v = textL k c' r' := by
 have hl := ahead_len 35 L
 have cu := cut_at L (by omega) 35
 by_cases h : Sealable (ahead 35 L)
 ·by_cases e : sealL (ahead 35 L) = L
  ·refine ⟨ahead 35 L, true, ?_, hl, fun k c' r' hk h => (rec_line hk h).2⟩
   unfold impl_VerifyChecksum.f
   refine Ev.have cu (Ev.bind (append_yes _ h) (Ev.pos rfl (Ev.pos ?_ (Ev.now _))))
   rw [toList_ofL, toList_ofL]
   exact e
  ·refine ⟨[], false, ?_, by simp, fun k c' r' hk h => absurd ?_ e⟩
   ·unfold impl_VerifyChecksum.f
    refine Ev.have cu (Ev.bind (append_yes _ ‹_›) (Ev.pos rfl (Ev.neg ?_ (Ev.now _))))
    rw [toList_ofL, toList_ofL]
    exact e
   ·obtain ⟨z1, z2⟩ := rec_line hk h
    rw [z2]
    exact z1.symm
 ·refine ⟨[], false, ?_, by simp, fun k c' r' hk h' => absurd ?_ h⟩
  ·unfold impl_VerifyChecksum.f
   exact Ev.have cu (Ev.bind (append_no _ (by omega) h) (Ev.neg (by simp) (Ev.now _)))
  ·rw [(rec_line hk h').2]
   exact (valid_text k hk c' r' h'.1).1
def St (k : Nat) (x c r : List UInt8) (n : Nat) : Prop := k < 60 ∧ ∃ L b, x = L ++ 10 :: b ∧ (10 : UInt8) ∉ L ∧ Rec k L c r ∧ n = L.length + 1
theorem st_len {k : Nat} {x c r : List UInt8} {n : Nat} (h : St k x c r n) : 1 ≤ n ∧ n ≤ x.length := by
 obtain ⟨_, L, b, e, _, _, rfl⟩ := h
 rw [e]
 simp
theorem st_app {k : Nat} {x c r : List UInt8} {n : Nat} (h : St k x c r n) (y : List UInt8) : St k (x ++ y) c r n := by
 obtain ⟨hk, L, b, e, h1, h2, h3⟩ := h
 exact ⟨hk, L, b ++ y, by rw [e]; simp, h1, h2, h3⟩
theorem st_cut {k : Nat} {x y c r : List UInt8} {n : Nat} (h : St k (x ++ y) c r n) (hn : n ≤ x.length) : St k x c r n := by
 obtain ⟨hk, L, b, e, h1, h2, h3⟩ := h
 refine ⟨hk, L, x.drop n, ?_, h1, h2, h3⟩
 have e1 : (x ++ y).take n = x.take n := List.take_append_of_le_length hn
 have e2 : (L ++ 10 :: b).take n = L ++ [10] := by
  rw [show L ++ 10 :: b = (L ++ [10]) ++ b by simp, h3, show L.length + 1 = (L ++ [10]).length by simp, List.take_left]
 have e3 : x.take n = L ++ [10] := by rw [← e1, e, e2]
 have := (List.take_append_drop n x).symm
 rw [e3] at this
 simpa using this
theorem rec_det {k : Nat} {L c r c' r' : List UInt8} (hk : k < 60) (h : Rec k L c r) (h' : Rec k L c' r') : c = c' ∧ r = r' := by
 have e := (rec_line (by omega) h).2.symm.trans (rec_line (by omega) h').2
 have p := text_parts (k := k) h.1
 have p' := text_parts (k := k) h'.1
 have e2 : c ++ 64 :: r = c' ++ 64 :: r' := by rw [← p.1, ← p'.1, e]
 exact ⟨by rw [← p.2.1, e2, p'.2.1], by rw [← p.2.2, e2, p'.2.2]⟩
theorem st_det {k : Nat} {x c r c' r' : List UInt8} {n n' : Nat} (h : St k x c r n) (h' : St k x c' r' n') : c = c' ∧ r = r' ∧ n = n' := by
 obtain ⟨hk, L, b, e, h1, h2, h3⟩ := h
 obtain ⟨_, L', b', e', h1', h2', h3'⟩ := h'
 have : L = L' := by rw [← ahead_at b h1, ← e, e', ahead_at b' h1']
 subst this
 obtain ⟨z1, z2⟩ := rec_det hk h2 h2'
 exact ⟨z1, z2, by omega⟩
inductive Rd : Nat → List UInt8 → List (List UInt8 × List UInt8) → List Nat → Prop
 | stop (k : Nat) (x : List UInt8) (h : ∀ c r n, ¬ St k x c r n) : Rd k x [] []
 | more (k : Nat) (x c r : List UInt8) (n : Nat) (rs : List (List UInt8 × List UInt8)) (ns : List Nat) (h : St k x c r n) (t : Rd (k + 1) (x.drop n) rs ns) : Rd k x ((c, r) :: rs) (n :: ns)
def ps : Nat → List Nat → List Int
 | _, [] => []
 | a, n :: ns => ((a + n : Nat) : Int) :: ps (a + n) ns
def toS (p : List UInt8 × List UInt8) : S72 := ⟨ofL p.1, ofL p.2⟩
theorem both_read (s : List UInt8) (hs : s.length ≤ 1048576) : ∀ (d k a : Nat) (x4 : List S72) (x5 : List Int), k + d = 60 → x4.length = k → x5.length = k + 1 → a ≤ s.length → ∃ rs ns, Rd k (s.drop a) rs ns ∧ Ev (fun n => spec_l12Open.l0 n (ofL s) x4 (a : Int)) (x4 ++ rs.map toS, ((a + ns.sum : Nat) : Int)) ∧ Ev (fun n => impl_readRecords.l0 n (ofL s) x4 x5 (a : Int)) (x4 ++ rs.map toS, x5 ++ ps a ns) ∧ a + ns.sum ≤ s.length ∧ rs.length = ns.length ∧ k + rs.length ≤ 60 := by
 intro d
 induction d with
 | zero =>
  intro k a x4 x5 hk h4 h5 ha
  refine ⟨[], [], Rd.stop _ _ (fun c r n h => by have := h.1; omega), ?_, ?_, by simpa using ha, rfl, by simp; omega⟩
  ·refine Ev.succ ?_
   simp only [spec_l12Open.l0, List.map_nil, List.append_nil, List.sum_nil, Nat.add_zero]
   rw [decide_eq_false (show ¬ (x4.length : Int) < 60 by omega)]
   by_cases g : (a : Int) < ((ofL s).size : Int)
   ·refine Ev.pos g (Ev.succ ?_)
    simp only [spec_l12Open.j1]
    exact Ev.neg (by simp) (Ev.now _)
   ·refine Ev.neg g (Ev.succ ?_)
    simp only [spec_l12Open.j1]
    exact Ev.neg (by simp) (Ev.now _)
  ·refine Ev.succ ?_
   simp only [impl_readRecords.l0, List.map_nil, List.append_nil, ps]
   exact Ev.neg (by omega) (Ev.now _)
 | succ d ih =>
  intro k a x4 x5 hk h4 h5 ha
  have hx : ((s.take s.length).drop a) = s.drop a := by rw [List.take_length]
  have hxl : (s.drop a).length = s.length - a := List.length_drop
  have cu := cut_at (s.drop a) (by omega) 10
  have nostop : (∀ c r n, ¬ St k (s.drop a) c r n) → Ev (fun n => spec_l12Open.l0 n (ofL s) x4 (a : Int)) (x4, (a : Int)) → Ev (fun n => impl_readRecords.l0 n (ofL s) x4 x5 (a : Int)) (x4, x5) → ∃ rs ns, Rd k (s.drop a) rs ns ∧ Ev (fun n => spec_l12Open.l0 n (ofL s) x4 (a : Int)) (x4 ++ rs.map toS, ((a + ns.sum : Nat) : Int)) ∧ Ev (fun n => impl_readRecords.l0 n (ofL s) x4 x5 (a : Int)) (x4 ++ rs.map toS, x5 ++ ps a ns) ∧ a + ns.sum ≤ s.length ∧ rs.length = ns.length ∧ k + rs.length ≤ 60 := by
   intro h1 h2 h3
   refine ⟨[], [], Rd.stop _ _ h1, ?_, ?_, by simpa using ha, rfl, by simp; omega⟩
   ·simpa using h2
   ·simpa [ps] using h3
  by_cases hm : (10 : UInt8) ∈ s.drop a
  case neg =>
   refine nostop (fun c r n h => ?_) ?_ ?_
   ·obtain ⟨_, L, b, e, _⟩ := h
    exact hm (by rw [e]; simp)
   ·by_cases g : (a : Int) < ((ofL s).size : Int)
    ·obtain ⟨L1, e1, hL1⟩ := split_ev (s.drop a) (by omega) 10 10 rfl
     have hL1 : L1 = [] := Classical.byContradiction fun q => hm (hL1.1 q)
     subst hL1
     obtain ⟨c, r, ok, e2, _, _⟩ := spec_decode_ev (ahead 10 (s.drop a)) k (by have := ahead_len 10 (s.drop a); omega) (by omega)
     refine Ev.succ ?_
     simp only [spec_l12Open.l0]
     rw [decide_eq_true (show (x4.length : Int) < 60 by omega)]
     refine Ev.pos g (Ev.succ ?_)
     simp only [spec_l12Open.j1, ofL_size, ofL_extract, Int.toNat_natCast, hx]
     refine Ev.pos trivial (Ev.pos (by omega) (Ev.pos (by omega) (Ev.bind e1 (Ev.pos (by simp) ?_))))
     simp only [rdOf, List.getD_cons_zero, Int.toNat_zero, h4]
     exact Ev.bind e2 (Ev.pos (by simp) (Ev.now _))
    ·refine Ev.succ ?_
     simp only [spec_l12Open.l0]
     refine Ev.neg g (Ev.succ ?_)
     simp only [spec_l12Open.j1]
     exact Ev.neg (by simp) (Ev.now _)
   ·refine Ev.succ ?_
    simp only [impl_readRecords.l0, ofL_size, ofL_extract, Int.toNat_natCast, hx]
    refine Ev.pos (by omega) (Ev.pos (by omega) (Ev.pos (by omega) (Ev.have cu (Ev.neg (by simpa using hm) (Ev.now _)))))
  obtain ⟨L, b, hab, hn⟩ := has_cut hm
  have hLa : ahead 10 (s.drop a) = L := by rw [hab, ahead_at b hn]
  have hln : L.length + 1 + b.length = s.length - a := by rw [← hxl, hab]; simp; omega
  obtain ⟨L1, e1, hL1⟩ := split_ev (s.drop a) (by omega) 10 10 rfl
  rw [hLa] at e1
  have hL1 := hL1.2 hm
  have hlen2 : ¬ (((ofL L :: L1).length : Nat) : Int) < 2 := by
   cases L1 with
   | nil => exact absurd rfl hL1
   | cons _ _ => simp; omega
  obtain ⟨c, r, ok, e2, h1, h2⟩ := spec_decode_ev L k (by omega) (by omega)
  obtain ⟨v, vb, e3, hvl, hv⟩ := verify_ev L (by omega)
  have c1 := behind_len 32 v
  have c2 := ahead_len 64 (behind 32 v)
  have c3 := behind_len 64 (behind 32 v)
  have cu1 := cut_at v (by omega) 32
  have cu2 := cut_at (behind 32 v) (by omega) 64
  have spec_go : ∀ {z : List S72 × Int}, Ev (fun n => if ok = true then (if x4.length < 4398046511104 then (spec_l12Open.l0 n (ofL s) (x4 ++ [(⟨ofL c, ofL r⟩ : S72)]) (wrap64 ((wrap64 ((a : Int) + ((L.length : Nat) : Int))) + 1))) else (none)) else (some (x4, (a : Int)))) z → Ev (fun n => spec_l12Open.l0 n (ofL s) x4 (a : Int)) z := by
   intro z hz
   refine Ev.succ ?_
   simp only [spec_l12Open.l0]
   rw [decide_eq_true (show (x4.length : Int) < 60 by omega)]
   refine Ev.pos (by rw [ofL_size]; omega) (Ev.succ ?_)
   simp only [spec_l12Open.j1, ofL_size, ofL_extract, Int.toNat_natCast, hx]
   refine Ev.pos trivial (Ev.pos (by omega) (Ev.pos (by omega) (Ev.bind e1 (Ev.pos (by simp <;> omega) ?_))))
   simp only [rdOf, List.getD_cons_zero, Int.toNat_zero, h4, ofL_size]
   rw [h4] at hz
   exact Ev.bind e2 (Ev.neg hlen2 hz)
  have impl_go : ∀ {z : List S72 × List Int} (y : ByteArray × Bool), Ev (fun n => impl_EncodeRecord.f n (k : Int) (ofL (ahead 64 (behind 32 v))) (ofL (behind 64 (behind 32 v)))) y → Ev (fun n => if y.2 = true then (if L.length + 1 ≤ 9223372036854775807 then (if y.1.toList = L ++ [10] then (if x4.length < 4398046511104 then (if x5.length < 17592186044416 then (impl_readRecords.l0 n (ofL s) (x4 ++ [(⟨ofL (ahead 64 (behind 32 v)), ofL (behind 64 (behind 32 v))⟩ : S72)]) (x5 ++ [wrap64 ((a : Int) + (wrap64 (((L.length : Nat) : Int) + 1)))]) (wrap64 ((a : Int) + (wrap64 (((L.length : Nat) : Int) + 1))))) else (none)) else (none)) else (some (x4, x5))) else (none)) else (some (x4, x5))) z → Ev (fun n => impl_readRecords.l0 n (ofL s) x4 x5 (a : Int)) z := by
   intro z y hy hz
   refine Ev.succ ?_
   simp only [impl_readRecords.l0, ofL_size, ofL_extract, Int.toNat_natCast, hx]
   rw [hLa] at cu
   refine Ev.pos (by omega) (Ev.pos (by omega) (Ev.pos (by omega) (Ev.have cu (Ev.pos (decide_eq_true hm) (Ev.bind e3 (Ev.have cu1 (Ev.have cu2 ?_)))))))
   simp only [h4, ofL_size]
   refine Ev.bind hy ?_
   simp only [show (⟨#[10]⟩ : ByteArray) = ofL [10] from rfl, ofL_append, toList_ofL]
   rw [h4] at hz
   exact hz
  by_cases hR : ∃ c' r', Rec k L c' r'
  case neg =>
   refine nostop (fun c r n h => ?_) (spec_go ?_) ?_
   ·obtain ⟨_, L', b', e', n', h', _⟩ := h
    have : L = L' := by rw [← hLa, e', ahead_at b' n']
    subst this
    exact hR ⟨c, r, h'⟩
   ·exact Ev.neg (fun q => hR ⟨c, r, h1 q⟩) (Ev.now _)
   ·by_cases hV : Valid (ahead 64 (behind 32 v)) (behind 64 (behind 32 v))
    ·refine impl_go _ (impl_enc_yes k (by omega) _ _ hV) (Ev.pos rfl (Ev.pos (by omega) (Ev.neg ?_ (Ev.now _))))
     rw [toList_ofL]
     exact fun q => hR ⟨_, _, hV, q⟩
    ·exact impl_go _ (impl_enc_no k _ _ (by omega) (by omega) (fun q => hV q.2)) (Ev.neg (by simp) (Ev.now _))
  obtain ⟨c', r', hrec⟩ := hR
  obtain ⟨rfl, rfl, rfl⟩ := h2 c' r' hrec
  have hvt := hv k c r (by omega) hrec
  have pp := text_parts (k := k) hrec.1
  have p1 : ahead 64 (behind 32 v) = c := by rw [hvt, pp.1, pp.2.1]
  have p2 : behind 64 (behind 32 v) = r := by rw [hvt, pp.1, pp.2.2]
  rw [p1, p2] at impl_go
  have hdrop : s.drop (a + (L.length + 1)) = b := by
   rw [← List.drop_drop, hab]
   simp
  obtain ⟨rs, ns, hRd, s1, s2, s3, s4, s5⟩ := ih (k + 1) (a + (L.length + 1)) (x4 ++ [(⟨ofL c, ofL r⟩ : S72)]) (x5 ++ [((a + (L.length + 1) : Nat) : Int)]) (by omega) (by simp; omega) (by simp; omega) (by omega)
  refine ⟨(c, r) :: rs, (L.length + 1) :: ns, ?_, spec_go ?_, ?_, ?_, by simp; omega, by simp; omega⟩
  ·refine Rd.more k _ c r (L.length + 1) rs ns ⟨by omega, L, b, hab, hn, hrec, rfl⟩ ?_
   rw [List.drop_drop]
   exact hRd
  ·refine Ev.pos rfl (Ev.pos (by omega) ?_)
   rw [wrap_id (x := (a : Int) + ((L.length : Nat) : Int)) (by omega) (by omega), wrap_id (by omega) (by omega), show (a : Int) + ((L.length : Nat) : Int) + 1 = ((a + (L.length + 1) : Nat) : Int) by omega]
   refine Ev.same s1 ?_
   rw [List.map_cons, List.append_assoc, List.sum_cons, ← Nat.add_assoc, ← Nat.add_assoc]
   rfl
  ·refine impl_go _ (impl_enc_yes k (by omega) c r hrec.1) (Ev.pos rfl (Ev.pos (by omega) (Ev.pos (by rw [toList_ofL]; exact hrec.2) (Ev.pos (by omega) (Ev.pos (by omega) ?_)))))
   rw [wrap_id (x := ((L.length : Nat) : Int) + 1) (by omega) (by omega), wrap_id (by omega) (by omega), show (a : Int) + (((L.length : Nat) : Int) + 1) = ((a + (L.length + 1) : Nat) : Int) by omega]
   refine Ev.same s2 ?_
   rw [List.map_cons, List.append_assoc, ps, List.append_assoc]
   rfl
  ·rw [List.sum_cons]
   omega
theorem ps_len : ∀ (a : Nat) (ns : List Nat), (ps a ns).length = ns.length
 | _, [] => rfl
 | a, n :: ns => by rw [ps, List.length_cons, List.length_cons, ps_len]
theorem ps_last : ∀ (ns : List Nat) (a : Nat), ((a : Int) :: ps a ns).getD ns.length 0 = ((a + ns.sum : Nat) : Int)
 | [], a => by simp
 | n :: ns, a => by
  rw [ps, List.length_cons, List.getD_cons_succ, ps_last ns (a + n), List.sum_cons, Nat.add_assoc]
theorem read_all (s : List UInt8) (hs : s.length ≤ 1048576) : ∃ rs ns, Rd 0 s rs ns ∧ Ev (fun n => spec_l12Open.f n (ofL s)) (rs.map toS, ((ns.sum : Nat) : Int)) ∧ Ev (fun n => impl_readRecords.f n (ofL s)) (rs.map toS, 0 :: ps 0 ns) ∧ ns.sum ≤ s.length ∧ rs.length = ns.length ∧ rs.length ≤ 60 := by
 obtain ⟨rs, ns, h1, h2, h3, h4, h5, h6⟩ := both_read s hs 60 0 0 [] [0] rfl rfl rfl (Nat.zero_le _)
 rw [List.drop_zero] at h1
 rw [Nat.zero_add] at h4 h2 h6
 exact ⟨rs, ns, h1, h2, h3, h4, h5, h6⟩

theorem contains_ev (l : List Int) (hl : l.length ≤ 1000000) (x : Int) : ∃ b, Ev (fun k => slices_Contains_int_int.f k l x) b ∧ (b = true ↔ x ∈ l) := by
 have main : ∀ d i : Nat, i + d = l.length → (∀ j, (h : j < l.length) → j < i → l[j] ≠ x) → ∃ p : Int, Ev (fun k => slices_Index_int_int.l0 k l x (l.length : Int) (i : Int)) p ∧ (0 ≤ p ↔ x ∈ l) := by
  intro d
  induction d with
  | zero =>
   intro i hi hn
   refine ⟨-1, Ev.succ ?_, by omega, fun hm => ?_⟩
   ·simp only [slices_Index_int_int.l0]
    exact Ev.neg (by omega) (Ev.now _)
   ·obtain ⟨j, hj, e⟩ := List.getElem_of_mem hm
    exact absurd e (hn j hj (by omega))
  | succ d ih =>
   intro i hi hn
   have hlt : i < l.length := by omega
   by_cases g : x = l[i]
   ·refine ⟨(i : Int), Ev.succ ?_, fun _ => by rw [g]; exact List.getElem_mem _, fun _ => by omega⟩
    simp only [slices_Index_int_int.l0]
    rw [rd_get l i hlt]
    exact Ev.pos (by omega) (Ev.pos (by omega) (Ev.pos (by omega) (Ev.pos g (Ev.now _))))
   ·obtain ⟨p, go, hp⟩ := ih (i + 1) (by omega) (fun j hj hji => by
     by_cases c : j = i
     ·subst c
      exact fun q => g q.symm
     ·exact hn j hj (by omega))
    refine ⟨p, Ev.succ ?_, hp⟩
    simp only [slices_Index_int_int.l0]
    rw [rd_get l i hlt, wrap_one hlt (by omega)]
    exact Ev.pos (by omega) (Ev.pos (by omega) (Ev.pos (by omega) (Ev.neg g go)))
 obtain ⟨p, e, hp⟩ := main l.length 0 (by omega) (fun j hj h => by omega)
 refine ⟨decide (p ≥ 0), ?_, by rw [decide_eq_true_eq, ← hp]⟩
 unfold slices_Contains_int_int.f
 exact Ev.bind e (Ev.now _)
theorem mem_ps : ∀ (ns : List Nat) (a v : Nat), ((v : Int) ∈ (a : Int) :: ps a ns) ↔ ∃ j, a + (ns.take j).sum = v
 | [], a, v => by
  rw [ps, List.mem_singleton]
  constructor
  ·intro h
   exact ⟨0, by simp; omega⟩
  ·rintro ⟨j, h⟩
   simp at h
   omega
 | n :: ns, a, v => by
  rw [ps, List.mem_cons, mem_ps ns (a + n) v]
  constructor
  ·rintro (h | ⟨j, h⟩)
   ·exact ⟨0, by simp; omega⟩
   ·exact ⟨j + 1, by rw [List.take_succ_cons, List.sum_cons]; omega⟩
  ·rintro ⟨j, h⟩
   cases j with
   | zero => exact Or.inl (by simp at h; omega)
   | succ j =>
    rw [List.take_succ_cons, List.sum_cons] at h
    exact Or.inr ⟨j, by omega⟩
theorem rd_nil {k : Nat} {rs : List (List UInt8 × List UInt8)} {ns : List Nat} (h : Rd k [] rs ns) : ns.sum = 0 := by
 cases h with
 | stop _ _ _ => rfl
 | more _ _ c r n rs ns h _ =>
  have := st_len h
  simp at this
  omega
theorem rd_keep {k : Nat} {x : List UInt8} {rs : List (List UInt8 × List UInt8)} {ns : List Nat} (h : Rd k x rs ns) : ns.sum = x.length → ∀ (y : List UInt8) (rs' : List (List UInt8 × List UInt8)) (ns' : List Nat), Rd k (x ++ y) rs' ns' → ∃ j, (ns'.take j).sum = x.length := by
 induction h with
 | stop k x h =>
  intro e y rs' ns' _
  exact ⟨0, by simpa using e⟩
 | more k x c r n rs ns h t ih =>
  intro e y rs' ns' h'
  have hl := st_len h
  have ha := st_app h y
  cases h' with
  | stop _ _ hn => exact absurd ha (hn c r n)
  | more _ _ c' r' n' rs' ns' h' t' =>
   obtain ⟨_, _, rfl⟩ := st_det ha h'
   rw [List.drop_append_of_le_length hl.2] at t'
   rw [List.sum_cons] at e
   obtain ⟨j, hj⟩ := ih (by rw [List.length_drop]; omega) y _ _ t'
   refine ⟨j + 1, ?_⟩
   rw [List.take_succ_cons, List.sum_cons, hj, List.length_drop]
   omega
theorem rd_back : ∀ (j k : Nat) (x y : List UInt8) (rs' : List (List UInt8 × List UInt8)) (ns' : List Nat) (rs : List (List UInt8 × List UInt8)) (ns : List Nat), Rd k (x ++ y) rs' ns' → (ns'.take j).sum = x.length → Rd k x rs ns → ns.sum = x.length := by
 intro j
 induction j with
 | zero =>
  intro k x y rs' ns' rs ns _ e h
  have : x = [] := List.eq_nil_of_length_eq_zero (by simpa using e.symm)
  subst this
  exact rd_nil h
 | succ j ih =>
  intro k x y rs' ns' rs ns h' e h
  cases h' with
  | stop _ _ hn =>
   have : x = [] := List.eq_nil_of_length_eq_zero (by simpa using e.symm)
   subst this
   exact rd_nil h
  | more _ _ c' r' n' rs' ns' h' t' =>
   rw [List.take_succ_cons, List.sum_cons] at e
   have hn : n' ≤ x.length := by omega
   have hx := st_cut h' hn
   rw [List.drop_append_of_le_length hn] at t'
   cases h with
   | stop _ _ hs => exact absurd hx (hs c' r' n')
   | more _ _ c r n rs ns h t =>
    obtain ⟨_, _, rfl⟩ := st_det hx h
    have := ih (k + 1) _ y _ _ _ _ t' (by rw [List.length_drop]; omega) t
    rw [List.length_drop] at this
    rw [List.sum_cons]
    omega
theorem valid_both (a b : List UInt8) (cnt : Int) (h : a.length + b.length ≤ 1048576) : ∃ v, Ev (fun n => spec_l12Valid.f n (ofL a) (ofL b) cnt) v ∧ Ev (fun n => impl_IsValidLog.f n (ofL a) (ofL b) cnt) v ∧ (v = true → a.length + b.length ≤ 30000 ∧ ∃ (rs : List (List UInt8 × List UInt8)) (ns : List Nat), Ev (fun n => spec_l12Open.f n (ofL (a ++ b))) (rs.map toS, ((ns.sum : Nat) : Int)) ∧ Ev (fun n => impl_readRecords.f n (ofL (a ++ b))) (rs.map toS, 0 :: ps 0 ns) ∧ cnt = (rs.length : Int) ∧ rs.length ≤ 60) := by
 have hs : (a ++ b).length = a.length + b.length := List.length_append
 by_cases g : a.length + b.length ≤ 30000
 case neg =>
  refine ⟨false, ?_, ?_, fun e => absurd e (by simp)⟩
  ·unfold spec_l12Valid.f
   rw [ofL_size, ofL_size, wrap_id (by omega) (by omega)]
   exact Ev.pos (by omega) (Ev.now _)
  ·unfold impl_IsValidLog.f
   rw [ofL_size, ofL_size, wrap_id (by omega) (by omega)]
   exact Ev.pos (by omega) (Ev.now _)
 obtain ⟨rs, ns, r1, e1, e2, h1, h2, h3⟩ := read_all (a ++ b) (by omega)
 obtain ⟨rs', ns', r1', e1', _, h1', _, _⟩ := read_all a (by omega)
 obtain ⟨c, ce, hc⟩ := contains_ev (0 :: ps 0 ns) (by rw [List.length_cons, ps_len]; omega) (a.length : Int)
 have key : c = true ↔ ns'.sum = a.length := by
  rw [hc]
  have m := mem_ps ns 0 a.length
  rw [Int.natCast_zero] at m
  rw [m]
  constructor
  ·rintro ⟨j, hj⟩
   exact rd_back j 0 a b rs ns rs' ns' r1 (by omega) r1'
  ·intro e
   obtain ⟨j, hj⟩ := rd_keep r1' e b rs ns r1
   exact ⟨j, by omega⟩
 have el : rd (0 :: ps 0 ns) ((rs.map toS).length : Int) = ((ns.sum : Nat) : Int) := by
  rw [List.length_map, h2, rd_nat]
  have := ps_last ns 0
  rw [Nat.zero_add] at this
  exact this
 have spec_go : ∀ {z : Bool}, Ev (fun _ => if ((ns.sum : Nat) : Int) = ((a.length : Nat) : Int) + ((b.length : Nat) : Int) then (if ((ns'.sum : Nat) : Int) = ((a.length : Nat) : Int) then (some (((rs.map toS).length : Int) == cnt)) else (some false)) else (some false)) z → Ev (fun n => spec_l12Valid.f n (ofL a) (ofL b) cnt) z := by
  intro z hz
  unfold spec_l12Valid.f
  rw [ofL_size, ofL_size, wrap_id (by omega) (by omega), ofL_append]
  exact Ev.neg (by omega) (Ev.pos (by omega) (Ev.bind e1 (Ev.bind e1' hz)))
 have impl_go : ∀ {z : Bool}, Ev (fun n => if ((ns.sum : Nat) : Int) = ((a.length : Nat) : Int) + ((b.length : Nat) : Int) then (if cnt = ((rs.map toS).length : Int) then ((slices_Contains_int_int.f n (0 :: ps 0 ns) (a.length : Int)).bind fun t => (some t)) else (some false)) else (some false)) z → Ev (fun n => impl_IsValidLog.f n (ofL a) (ofL b) cnt) z := by
  intro z hz
  unfold impl_IsValidLog.f
  rw [ofL_size, ofL_size, wrap_id (by omega) (by omega), ofL_append]
  refine Ev.neg (by omega) (Ev.pos (by omega) (Ev.bind e2 (Ev.pos (by omega) (Ev.pos (by rw [List.length_cons, ps_len, List.length_map]; omega) ?_))))
  dsimp only
  rw [el]
  exact hz
 by_cases g1 : ns.sum = a.length + b.length
 case neg => exact ⟨false, spec_go (Ev.neg (by omega) (Ev.now _)), impl_go (Ev.neg (by omega) (Ev.now _)), fun e => absurd e (by simp)⟩
 by_cases g2 : cnt = (rs.length : Int)
 case neg =>
  refine ⟨false, spec_go (Ev.pos (by omega) ?_), impl_go (Ev.pos (by omega) (Ev.neg (by rw [List.length_map]; exact g2) (Ev.now _))), fun e => absurd e (by simp)⟩
  by_cases g3 : ns'.sum = a.length
  ·refine Ev.pos (by omega) ?_
   have : (((rs.map toS).length : Int) == cnt) = false := by
    rw [List.length_map, beq_eq_false_iff_ne]
    exact fun q => g2 q.symm
   rw [this]
   exact Ev.now _
  ·exact Ev.neg (by omega) (Ev.now _)
 refine ⟨c, spec_go (Ev.pos (by omega) ?_), impl_go (Ev.pos (by omega) (Ev.pos (by rw [List.length_map]; exact g2) (Ev.bind ce (Ev.now _)))), fun _ => ⟨g, rs, ns, e1, e2, g2, h3⟩⟩
 cases c with
 | true =>
  refine Ev.pos (by have := key.1 rfl; omega) ?_
  have : (((rs.map toS).length : Int) == cnt) = true := by
   rw [List.length_map, beq_iff_eq]
   exact g2.symm
  rw [this]
  exact Ev.now _
 | false => exact Ev.neg (fun q => absurd (key.2 (by omega)) (by simp)) (Ev.now _)

theorem szLogR (a b : ByteArray) (n R : Int) (h0 : 0 ≤ R) (hR : R ≤ 1048576) (ha : a.size ≤ 9223372036854775807) (hb : b.size ≤ 9223372036854775807) : laws_szLog.f a b n R = some (if (a.size : Int) + b.size ≤ R then R - (a.size : Int) - b.size else -1) := by
 unfold laws_szLog.f
 rw [wrap_id (x := R - (a.size : Int)) (by omega) (by omega)]
 by_cases g : (a.size : Int) ≤ R
 ·rw [if_neg (by omega), wrap_id (by omega) (by omega)]
  by_cases g2 : (a.size : Int) + b.size ≤ R
  ·rw [if_neg (by omega), if_pos g2]
  ·rw [if_pos (by omega), if_neg g2]
 ·rw [if_pos (by omega), if_neg (by omega)]
open Classical in
theorem FnExactIsValidConsole : ∀ (a0_0_0_0 : Int) (a0_0_0_1 : Bool) (a0_0_0_2 : List Int) (a0_0_1 : List Int) (a0_0_2 : Int) (a0_1_0 : ByteArray) (a0_1_1 : ByteArray) (a0_1_2 : Int), (Lit.int .i64 a0_0_0_0).wf = true → a0_0_0_2.length ≤ maxLen → (∀ x ∈ a0_0_0_2, (Lit.int .i64 x).wf = true) → a0_0_1.length ≤ maxLen → (∀ x ∈ a0_0_1, (Lit.int .i64 x).wf = true) → (Lit.int .i64 a0_0_2).wf = true → a0_1_0.size ≤ maxLen → a0_1_1.size ≤ maxLen → (Lit.int .i64 a0_1_2).wf = true → ∃ k, laws_FnExactIsValidConsole.f k a0_0_0_0 a0_0_0_1 a0_0_0_2 a0_0_1 a0_0_2 a0_1_0 a0_1_1 a0_1_2 = some true := by
 intro s ring t c n a b m _ ht _ hc _ _ ha hb _
 have ha : a.size ≤ 9223372036854775807 := Nat.le_trans ha (by decide)
 have hb : b.size ≤ 9223372036854775807 := Nat.le_trans hb (by decide)
 refine Ev.rounds ?_
 have hz := laws_szHouse_eq s ring t c n ht hc
 have eqLog : laws_eqLog.f a b m a b m = some true := by
  unfold laws_eqLog.f
  rw [if_pos rfl, if_pos rfl, if_pos rfl]
 unfold laws_FnExactIsValidConsole.f
 by_cases h2 : t.length + c.length ≤ 1048576
 case neg =>
  rw [if_neg h2] at hz
  have e : laws_szConsole.f s ring t c n a b m 1048576 = some (-1) := by
   unfold laws_szConsole.f
   rw [hz, Option.bind_some, if_pos (by omega)]
  exact Ev.have e (Ev.pos (by omega) (Ev.now _))
 rw [if_pos h2] at hz
 have hl := szLogR a b m ((1048576 - t.length - c.length : Nat) : Int) (by omega) (by omega) ha hb
 by_cases g : (a.size : Int) + b.size ≤ ((1048576 - t.length - c.length : Nat) : Int)
 case neg =>
  rw [if_neg g] at hl
  have e : laws_szConsole.f s ring t c n a b m 1048576 = some (-1) := by
   unfold laws_szConsole.f
   rw [hz, Option.bind_some, if_neg (by omega), hl, Option.bind_some, if_pos (by omega)]
  exact Ev.have e (Ev.pos (by omega) (Ev.now _))
 rw [if_pos g] at hl
 have e : laws_szConsole.f s ring t c n a b m 1048576 = some (((1048576 - t.length - c.length : Nat) : Int) - (a.size : Int) - b.size) := by
  unfold laws_szConsole.f
  rw [hz, Option.bind_some, if_neg (by omega), hl, Option.bind_some, if_neg (by omega)]
 have e0 : Ev (fun k => laws_toConsole.f k s ring t c n a b m) (s, ring, t, c, n, a, b, m) := by
  unfold laws_toConsole.f
  exact Ev.bind (laws_toHouse_ev s ring t c n (by omega) (by omega)) (Ev.have rfl (Ev.now _))
 have e4 : Ev (fun k => laws_eqConsole.f k s ring t c n a b m s ring t c n a b m) true := by
  unfold laws_eqConsole.f
  exact Ev.bind (laws_eqHouse_ev s ring t c n (by omega) (by omega)) (Ev.pos rfl (Ev.have eqLog (Ev.pos rfl (Ev.now _))))
 have eb : ∃ v, Ev (fun k => spec_IsValidConsole.f k s ring t c n a b m) v ∧ Ev (fun k => impl_IsValidConsole.f k s ring t c n a b m) v := by
  have e1 := spec_good_eq s ring t c n (by omega) (by omega)
  have e2 := impl_house_eq s ring t c n (by omega) (by omega)
  unfold spec_IsValidConsole.f impl_IsValidConsole.f
  by_cases ok : HouseOK s ring t c n
  ·rw [decide_eq_true ok] at e1 e2
   clear hl e e0 e4 eqLog
   obtain ⟨a, rfl⟩ := all_ofL a
   obtain ⟨b, rfl⟩ := all_ofL b
   rw [ofL_size, ofL_size] at g
   obtain ⟨v, v1, v2, _⟩ := valid_both a b m (by omega)
   exact ⟨v, Ev.bind e1 (Ev.pos rfl (Ev.bind v1 (Ev.now _))), Ev.bind e2 (Ev.pos rfl (Ev.bind v2 (Ev.now _)))⟩
  ·rw [decide_eq_false ok] at e1 e2
   exact ⟨false, Ev.bind e1 (Ev.neg Bool.false_ne_true (Ev.now _)), Ev.bind e2 (Ev.neg Bool.false_ne_true (Ev.now _))⟩
 obtain ⟨v, v1, v2⟩ := eb
 exact Ev.have e (Ev.neg (by omega) (Ev.bind e0 (Ev.bind v1 (Ev.bind e0 (Ev.bind v2 (Ev.neg (bne_self _) (Ev.bind e0 (Ev.bind e4 (Ev.pos rfl (Ev.now _))))))))))

end Go.Proofs.YtgmodeeebkngcaaGreatDoor.Pure
-- squeezed
