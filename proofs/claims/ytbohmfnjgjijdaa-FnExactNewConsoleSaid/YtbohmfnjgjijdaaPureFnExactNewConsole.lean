/- NewConsole of the program returns what the reference's returns, for every house. No conditions. -/
import Derived.Test.YtbohmfnjgjijdaaQFnExactNewConsolex
namespace Go.Proofs.Ytbohmfnjgjijdaa.Pure
open Go.RowKit Go.Proofs.Ytbohmfnjgjijdaa.QFnExactNewConsole Go.Proofs.YtbohmfnjgjijdaaW.PrintWords Go.Proofs.YtbohmfnjgjijdaaW.PrintLast Go.Proofs.YtbohmfnjgjijdaaW.PrintMore
set_option linter.unusedVariables false
set_option linter.unusedSimpArgs false

theorem wrap_id {x : Int} (h0 : -9223372036854775808 ≤ x) (h1 : x ≤ 9223372036854775807) : wrap64 x = x := by
 unfold wrap64
 omega
theorem wrap_one {i n : Nat} (h : i < n) (hn : n ≤ 4611686018427387904) : wrap64 ((i : Int) + 1) = ((i + 1 : Nat) : Int) := by
 unfold wrap64
 omega
theorem rd_nat (l : List Int) (i : Nat) : rd l (i : Int) = l.getD i 0 := by unfold rd; simp
theorem rd_get (l : List Int) (i : Nat) (h : i < l.length) : rd l (i : Int) = l[i] := by rw [rd_nat]; simp [List.getD, h]
theorem fuel {k d : Nat} (h : d < k) : ∃ m, k = m + 1 ∧ d ≤ m := ⟨k - 1, by omega, by omega⟩

theorem spec_l1In_eq (n a b : Int) : spec_l1In.f n a b = some (decide (a ≤ n ∧ n ≤ b)) := by
 unfold spec_l1In.f
 by_cases h : n ≥ a
 ·rw [if_pos h]
  simp [show a ≤ n from h]
 ·rw [if_neg h]
  simp [show ¬ a ≤ n from h]
theorem impl_within_eq (n a b : Int) : impl_within.f n a b = some (decide (a ≤ n ∧ n ≤ b)) := by
 unfold impl_within.f
 by_cases h : n ≥ a
 ·rw [if_pos h]
  simp [show a ≤ n from h]
 ·rw [if_neg h]
  simp [show ¬ a ≤ n from h]

theorem impl_allWithin_l0 (l : List Int) (a b : Int) (hl : l.length ≤ 1048576) (d : Nat) : ∀ (k i : Nat), i ≤ l.length → l.length - i = d → d < k → impl_allWithin.l0 k a b l (l.length : Int) i = some (decide (∀ x ∈ l.drop i, a ≤ x ∧ x ≤ b)) := by
 induction d with
 | zero =>
  intro k i hi hd hk
  obtain ⟨k, rfl, _⟩ := fuel hk
  simp only [impl_allWithin.l0]
  rw [if_neg (by omega), List.drop_eq_nil_of_le (by omega)]
  simp
 | succ d ih =>
  intro k i hi hd hk
  obtain ⟨k, rfl, _⟩ := fuel hk
  simp only [impl_allWithin.l0]
  rw [if_pos (by omega), if_pos (by omega), if_pos (by omega), wrap_one (n := l.length) (by omega) (by omega), rd_get l i (by omega), impl_within_eq, ih k (i + 1) (by omega) (by omega) (by omega)]
  rw [List.drop_eq_getElem_cons (l := l) (i := i) (by omega)]
  rw [Option.bind_some]
  by_cases h : a ≤ l[i]'(by omega) ∧ l[i]'(by omega) ≤ b
  ·rw [if_pos (by simp only [h]; simp)]
   refine congrArg some ?_
   rw [decide_eq_decide]
   simp only [List.mem_cons]
   exact ⟨fun e x hx => hx.elim (fun z => z ▸ h) (e x), fun e x hx => e x (.inr hx)⟩
  ·rw [if_neg (by rw [decide_eq_true_eq]; exact h)]
   refine congrArg some ?_
   symm
   rw [decide_eq_false_iff_not]
   exact fun e => h (e _ List.mem_cons_self)
theorem impl_allWithin_eq (l : List Int) (a b : Int) (hl : l.length ≤ 1048576) (k : Nat) (hk : l.length < k) : impl_allWithin.f k l a b = some (decide (∀ x ∈ l, a ≤ x ∧ x ≤ b)) :=
 impl_allWithin_l0 l a b hl l.length k 0 (by omega) (by omega) hk

def Rising (l : List Int) (a b : Int) : Prop := ∀ i, (h : i < l.length) → (a ≤ l[i] ∧ l[i] ≤ b) ∧ (0 < i → l.getD (i - 1) 0 < l[i])
def RowOK (s : Int) (ring : Bool) (t : List Int) : Prop := (2 ≤ s ∧ s ≤ 24) ∧ (ring = true → 3 ≤ s) ∧ Rising t 0 (s - 1)
open Classical in
theorem spec_l1Rising_l0 (l : List Int) (a b : Int) (hl : l.length ≤ 1048576) (d : Nat) : ∀ (k i : Nat), i ≤ l.length → l.length - i = d → d < k → (∀ j, (h : j < i) → (hj : j < l.length) → (a ≤ l[j] ∧ l[j] ≤ b) ∧ (0 < j → l.getD (j - 1) 0 < l[j])) →
  spec_l1Rising.l0 k l a b i = some (decide (Rising l a b)) := by
 induction d with
 | zero =>
  intro k i hi hd hk hp
  obtain ⟨k, rfl, _⟩ := fuel hk
  simp only [spec_l1Rising.l0]
  rw [if_neg (by omega)]
  refine congrArg some ?_
  symm
  rw [decide_eq_true_eq]
  exact fun j hj => hp j (by omega) hj
 | succ d ih =>
  intro k i hi hd hk hp
  obtain ⟨k, rfl, _⟩ := fuel hk
  have no : ¬ ((a ≤ l[i]'(by omega) ∧ l[i]'(by omega) ≤ b) ∧ (0 < i → l.getD (i - 1) 0 < l[i]'(by omega))) → ¬ Rising l a b := fun g e => g (e i (by omega))
  have go : ((a ≤ l[i]'(by omega) ∧ l[i]'(by omega) ≤ b) ∧ (0 < i → l.getD (i - 1) 0 < l[i]'(by omega))) → spec_l1Rising.l0 k l a b (wrap64 ((i : Int) + 1)) = some (decide (Rising l a b)) := by
   intro g
   rw [wrap_one (n := l.length) (by omega) (by omega)]
   refine ih k (i + 1) (by omega) (by omega) (by omega) fun j hj hj' => ?_
   by_cases e : j = i
   ·subst e; exact g
   ·exact hp j (by omega) hj'
  simp only [spec_l1Rising.l0]
  rw [if_pos (by omega), if_pos (by omega), rd_get l i (by omega), spec_l1In_eq, Option.bind_some]
  by_cases g : a ≤ l[i]'(by omega) ∧ l[i]'(by omega) ≤ b
  ·rw [if_pos (decide_eq_true g)]
   by_cases h0 : 0 < i
   ·rw [if_pos (by omega), wrap_id (by omega) (by omega), if_pos (by omega), if_pos (by omega), show (i : Int) - 1 = ((i - 1 : Nat) : Int) from by omega, rd_nat]
    by_cases g2 : l.getD (i - 1) 0 < l[i]'(by omega)
    ·rw [if_neg (by omega)]
     exact go ⟨g, fun _ => g2⟩
    ·rw [if_pos (by omega), decide_eq_false (no fun e => g2 (e.2 h0))]
   ·rw [if_neg (by omega)]
    exact go ⟨g, fun e => absurd e h0⟩
  ·rw [if_neg (by rw [decide_eq_true_eq]; exact g), decide_eq_false (no fun e => g e.1)]
open Classical in
theorem spec_l1Rising_eq (l : List Int) (a b : Int) (hl : l.length ≤ 1048576) (k : Nat) (hk : l.length < k) : spec_l1Rising.f k l a b = some (decide (Rising l a b)) :=
 spec_l1Rising_l0 l a b hl l.length k 0 (by omega) (by omega) hk (fun j h => by omega)
open Classical in
theorem spec_l2Row_eq (s : Int) (ring : Bool) (t : List Int) (ht : t.length ≤ 1048576) (k : Nat) (hk : t.length < k) : spec_l2Row.f k s ring t = some (decide (RowOK s ring t)) := by
 unfold spec_l2Row.f
 rw [spec_l1In_eq, Option.bind_some]
 by_cases h : 2 ≤ s ∧ s ≤ 24
 ·rw [if_pos (decide_eq_true h), wrap_id (by omega) (by omega), spec_l1Rising_eq t _ _ ht k hk, Option.bind_some]
  cases ring with
  | true =>
   rw [if_pos rfl]
   by_cases h3 : s > 2
   ·rw [if_pos h3]
    refine congrArg some ?_
    rw [decide_eq_decide]
    exact ⟨fun e => ⟨h, fun _ => by omega, e⟩, fun e => e.2.2⟩
   ·rw [if_neg h3]
    refine congrArg some ?_
    symm
    rw [decide_eq_false_iff_not]
    exact fun e => h3 (by have := e.2.1 rfl; omega)
  | false =>
   rw [if_neg (by simp)]
   refine congrArg some ?_
   rw [decide_eq_decide]
   exact ⟨fun e => ⟨h, (fun z => by cases z), e⟩, fun e => e.2.2⟩
 ·rw [if_neg (by rw [decide_eq_true_eq]; exact h)]
  refine congrArg some ?_
  symm
  rw [decide_eq_false_iff_not]
  exact fun e => h e.1
theorem impl_bench_has_one (s : Int) (ring : Bool) (p : Int) (k : Nat) (hk : 2 < k) : impl_bench_has.f k s ring [p] = some (decide (0 ≤ p ∧ p ≤ wrap64 (s - 1))) := by
 unfold impl_bench_has.f
 rw [impl_allWithin_eq [p] _ _ (by simp) k (by simp; omega), Option.bind_some]
 refine congrArg some ?_
 rw [decide_eq_decide]
 simp
theorem impl_bench_valid_eq (s : Int) (ring : Bool) : impl_bench_valid.f s ring = some (decide ((2 ≤ s ∧ s ≤ 24) ∧ (ring = true → 3 ≤ s))) := by
 unfold impl_bench_valid.f
 rw [impl_within_eq, Option.bind_some]
 by_cases h : 2 ≤ s ∧ s ≤ 24
 ·rw [if_pos (decide_eq_true h)]
  cases ring with
  | true =>
   rw [if_pos rfl]
   refine congrArg some ?_
   rw [decide_eq_decide]
   exact ⟨fun e => ⟨h, fun _ => e⟩, fun e => e.2 rfl⟩
  | false =>
   rw [if_neg (by simp)]
   refine congrArg some ?_
   symm
   rw [decide_eq_true_eq]
   exact ⟨h, (fun z => by cases z)⟩
 ·rw [if_neg (by rw [decide_eq_true_eq]; exact h)]
  refine congrArg some ?_
  symm
  rw [decide_eq_false_iff_not]
  exact fun e => h e.1
open Classical in
theorem impl_IsRow_l0 (s : Int) (ring : Bool) (l : List Int) (hl : l.length ≤ 1048576) (d : Nat) : ∀ (k i : Nat), i ≤ l.length → l.length - i = d → d + 3 < k → ((2 ≤ s ∧ s ≤ 24) → ∀ j, (h : j < i) → (hj : j < l.length) → (0 ≤ l[j] ∧ l[j] ≤ s - 1) ∧ (0 < j → l.getD (j - 1) 0 < l[j])) →
  impl_IsRow.l0 k l (l.length : Int) i s ring l = some (decide (RowOK s ring l)) := by
 induction d with
 | zero =>
  intro k i hi hd hk hp
  obtain ⟨k, rfl, _⟩ := fuel hk
  simp only [impl_IsRow.l0]
  rw [if_neg (by omega), impl_Row_bench.f, Option.bind_some]
  dsimp only
  rw [impl_bench_valid_eq, Option.bind_some]
  refine congrArg some ?_
  rw [decide_eq_decide]
  exact ⟨fun e => ⟨e.1, e.2, fun j hj => hp e.1 j (by omega) hj⟩, fun e => ⟨e.1, e.2.1⟩⟩
 | succ d ih =>
  intro k i hi hd hk hp
  obtain ⟨k, rfl, _⟩ := fuel hk
  have no : (2 ≤ s ∧ s ≤ 24 → ¬ ((0 ≤ l[i]'(by omega) ∧ l[i]'(by omega) ≤ s - 1) ∧ (0 < i → l.getD (i - 1) 0 < l[i]'(by omega)))) → ¬ RowOK s ring l := fun g e => g e.1 (e.2.2 i (by omega))
  have go : (2 ≤ s ∧ s ≤ 24 → ((0 ≤ l[i]'(by omega) ∧ l[i]'(by omega) ≤ s - 1) ∧ (0 < i → l.getD (i - 1) 0 < l[i]'(by omega)))) → impl_IsRow.l0 k l (l.length : Int) (wrap64 ((i : Int) + 1)) s ring l = some (decide (RowOK s ring l)) := by
   intro g
   rw [wrap_one (n := l.length) (by omega) (by omega)]
   refine ih k (i + 1) (by omega) (by omega) (by omega) fun hs j hj hj' => ?_
   by_cases e : j = i
   ·subst e; exact g hs
   ·exact hp hs j (by omega) hj'
  simp only [impl_IsRow.l0]
  rw [if_pos (by omega), if_pos (by omega), if_pos (by omega), impl_Row_bench.f, Option.bind_some]
  dsimp only
  rw [rd_get l i (by omega), impl_bench_has_one _ _ _ k (by omega), Option.bind_some]
  by_cases g : 0 ≤ l[i]'(by omega) ∧ l[i]'(by omega) ≤ wrap64 (s - 1)
  ·rw [if_pos (decide_eq_true g)]
   have g' : 2 ≤ s ∧ s ≤ 24 → 0 ≤ l[i]'(by omega) ∧ l[i]'(by omega) ≤ s - 1 := fun hs => by
    rw [wrap_id (by omega) (by omega)] at g
    exact g
   by_cases h0 : 0 < i
   ·rw [if_pos (by omega), wrap_id (by omega) (by omega), if_pos (by omega), if_pos (by omega), show (i : Int) - 1 = ((i - 1 : Nat) : Int) from by omega, rd_nat]
    by_cases g2 : l.getD (i - 1) 0 < l[i]'(by omega)
    ·rw [if_neg (by omega)]
     exact go fun hs => ⟨g' hs, fun _ => g2⟩
    ·rw [if_pos (by omega), decide_eq_false (no fun _ e => g2 (e.2 h0))]
   ·rw [if_neg (by omega)]
    exact go fun hs => ⟨g' hs, fun e => absurd e h0⟩
  ·rw [if_neg (by rw [decide_eq_true_eq]; exact g)]
   rw [decide_eq_false (no fun hs e => g ?_)]
   rw [wrap_id (by omega) (by omega)]
   exact e.1
open Classical in
theorem impl_IsRow_eq (s : Int) (ring : Bool) (l : List Int) (hl : l.length ≤ 1048576) (k : Nat) (hk : l.length + 3 < k) : impl_IsRow.f k s ring l = some (decide (RowOK s ring l)) :=
 impl_IsRow_l0 s ring l hl l.length k 0 (by omega) (by omega) hk (fun _ j h => by omega)
theorem rising_lt (l : List Int) (a b : Int) (h : Rising l a b) (i j : Nat) (hij : i < j) (hj : j < l.length) : l[i]'(by omega) < l[j] := by
 induction j with
 | zero => omega
 | succ j ih =>
  have h1 := (h (j + 1) hj).2 (by omega)
  rw [show j + 1 - 1 = j from by omega, show l.getD j 0 = l[j]'(by omega) from by simp [List.getD, show j < l.length by omega]] at h1
  by_cases e : i = j
  ·subst e; exact h1
  ·have := ih (by omega) (by omega)
   omega
theorem rising_nodup (l : List Int) (a b : Int) (h : Rising l a b) : l.Nodup := by
 refine List.pairwise_iff_getElem.2 fun i j hi hj hij e => ?_
 have := rising_lt l a b h i j hij hj
 omega
theorem bne_self {α : Type} [BEq α] [LawfulBEq α] (a : α) : ¬ (a != a) = true := by simp
theorem Ev.succ {α : Type} {g : Nat → Option α} {r : α} (h : Ev (fun k => g (k + 1)) r) : Ev g r := by
 obtain ⟨K, h⟩ := h
 refine ⟨K + 1, fun k hk => ?_⟩
 obtain ⟨k, rfl, hk'⟩ := fuel (show K < k by omega)
 exact h k hk'
theorem Ev.pos {α : Type} {g f : Nat → Option α} {r : α} {c : Prop} [Decidable c] (hc : c) (h : Ev g r) : Ev (fun k => if c then g k else f k) r := by
 obtain ⟨K, h⟩ := h
 exact ⟨K, fun k hk => by show (if c then g k else f k) = some r; rw [if_pos hc]; exact h k hk⟩
theorem Ev.neg {α : Type} {g f : Nat → Option α} {r : α} {c : Prop} [Decidable c] (hc : ¬ c) (h : Ev f r) : Ev (fun k => if c then g k else f k) r := by
 obtain ⟨K, h⟩ := h
 exact ⟨K, fun k hk => by show (if c then g k else f k) = some r; rw [if_neg hc]; exact h k hk⟩
theorem Ev.have {α β : Type} {x : Option α} {a : α} {f : Nat → α → Option β} {r : β} (e : x = some a) (h : Ev (fun k => f k a) r) : Ev (fun k => x.bind (f k)) r := by
 obtain ⟨K, h⟩ := h
 exact ⟨K, fun k hk => by show x.bind (f k) = some r; rw [e, Option.bind_some]; exact h k hk⟩
theorem Ev.bound {α : Type} {g : Nat → Option α} {r : α} (K : Nat) (h : ∀ k, K < k → g k = some r) : Ev g r := ⟨K + 1, fun k hk => h k (by omega)⟩
theorem spec_l1Has_l0 (l : List Int) (n : Int) (hl : l.length ≤ 1048576) (d : Nat) : ∀ (k i : Nat), i ≤ l.length → l.length - i = d → d < k → spec_l1Has.l0 k l n i = some (decide (n ∈ l.drop i)) := by
 induction d with
 | zero =>
  intro k i hi hd hk
  obtain ⟨k, rfl, _⟩ := fuel hk
  simp only [spec_l1Has.l0]
  rw [if_neg (by omega), List.drop_eq_nil_of_le (by omega)]
  simp
 | succ d ih =>
  intro k i hi hd hk
  obtain ⟨k, rfl, _⟩ := fuel hk
  simp only [spec_l1Has.l0]
  rw [if_pos (by omega), if_pos (by omega), wrap_one (n := l.length) (by omega) (by omega), rd_get l i (by omega), ih k (i + 1) (by omega) (by omega) (by omega)]
  rw [List.drop_eq_getElem_cons (l := l) (i := i) (by omega)]
  by_cases h : l[i]'(by omega) = n
  ·rw [if_pos h, h]
   simp
  ·rw [if_neg h]
   refine congrArg some ?_
   rw [decide_eq_decide, List.mem_cons]
   exact ⟨.inr, fun e => e.resolve_left fun e => h e.symm⟩
theorem spec_l1Has_eq (l : List Int) (n : Int) (hl : l.length ≤ 1048576) (k : Nat) (hk : l.length < k) : spec_l1Has.f k l n = some (decide (n ∈ l)) := by
 have := spec_l1Has_l0 l n hl l.length k 0 (by omega) (by omega) hk
 exact this

theorem cover_perm : ∀ (r l : List Int), r.Nodup → r ⊆ l → l.length ≤ r.length → l.Perm r
 | [], l, _, _, hl => by
  have : l = [] := List.eq_nil_of_length_eq_zero (by simpa using hl)
  subst this
  exact List.Perm.refl _
 | a :: t, l, hn, hs, hl => by
  have ha : a ∈ l := hs List.mem_cons_self
  have hc := List.nodup_cons.1 hn
  have hlen := List.length_erase_of_mem ha
  have hpos := List.length_pos_of_mem ha
  have ht : t ⊆ l.erase a := fun x hx => (List.mem_erase_of_ne (by rintro rfl; exact hc.1 hx)).2 (hs (List.mem_cons_of_mem _ hx))
  have hl' : l.length ≤ t.length + 1 := by simpa using hl
  exact (List.perm_cons_erase ha).trans ((cover_perm t (l.erase a) hc.2 ht (by omega)).cons a)
theorem sorted_unique : ∀ (a b : List Int), a.Pairwise (· ≤ ·) → b.Pairwise (· ≤ ·) → a.Perm b → a = b
 | [], b, _, _, h => (List.perm_nil.1 h.symm).symm
 | x :: a, [], _, _, h => absurd (List.perm_nil.1 h) (by simp)
 | x :: a, y :: b, ha, hb, h => by
  obtain ⟨h1, h2⟩ := List.pairwise_cons.1 ha
  obtain ⟨h3, h4⟩ := List.pairwise_cons.1 hb
  have e1 : x ≤ y := by
   rcases List.mem_cons.1 (h.mem_iff.2 List.mem_cons_self : y ∈ x :: a) with e | e
   ·omega
   ·exact h1 y e
  have e2 : y ≤ x := by
   rcases List.mem_cons.1 (h.mem_iff.1 List.mem_cons_self : x ∈ y :: b) with e | e
   ·omega
   ·exact h3 x e
  obtain rfl : x = y := by omega
  rw [sorted_unique a b h2 h4 (List.Perm.cons_inv h)]
def sortL (c : List Int) : List Int := c.mergeSort fun x y => decide (x ≤ y)
theorem sort_perm (c : List Int) : (sortL c).Perm c := List.mergeSort_perm c _
theorem sort_pairwise (c : List Int) : (sortL c).Pairwise (· ≤ ·) := by
 have := List.pairwise_mergeSort (le := fun x y : Int => decide (x ≤ y)) (fun a b c h1 h2 => by simp at *; omega) (fun a b => by simp; omega) c
 exact this.imp fun h => by simpa using h
theorem sort_taken {s : Int} {ring : Bool} {t c : List Int} (h : RowOK s ring t) : sortL c = t ↔ c.length = t.length ∧ ∀ x ∈ t, x ∈ c := by
 constructor
 ·intro e
  refine ⟨by rw [← e]; exact (sort_perm c).length_eq.symm, fun x hx => ?_⟩
  rw [← e] at hx
  exact (sort_perm c).mem_iff.1 hx
 ·rintro ⟨h1, h2⟩
  have p := cover_perm t c (rising_nodup t _ _ h.2.2) h2 (by omega)
  refine sorted_unique _ _ (sort_pairwise c) ?_ ((sort_perm c).trans p)
  exact List.pairwise_iff_getElem.2 fun i j hi hj hij => by have := rising_lt t _ _ h.2.2 i j hij hj; omega
def HouseOK (s : Int) (ring : Bool) (t c : List Int) (n : Int) : Prop := RowOK s ring t ∧ (c.length = t.length ∧ ∀ x ∈ t, x ∈ c) ∧ 0 ≤ n ∧ n ≤ 1000
theorem equal_eq (a b : List Int) (ha : a.length ≤ 1048576) (k : Nat) (hk : a.length < k) : slices_Equal_int_int.f k a b = some (decide (a = b)) := by
 unfold slices_Equal_int_int.f
 by_cases hl : a.length = b.length
 ·rw [if_pos (by omega)]
  have main : ∀ d k i, i + d = a.length → d < k → (∀ j, j < i → a[j]? = b[j]?) → slices_Equal_int_int.l0 k a b (a.length : Int) (i : Int) = some (decide (a = b)) := by
   intro d
   induction d with
   | zero =>
    intro k i hi hk hj
    obtain ⟨k, rfl, _⟩ := fuel hk
    simp only [slices_Equal_int_int.l0]
    rw [if_neg (by omega)]
    refine congrArg some (decide_eq_true ?_).symm
    refine List.ext_getElem hl fun j h1 h2 => ?_
    have := hj j (by omega)
    rw [List.getElem?_eq_getElem h1, List.getElem?_eq_getElem h2] at this
    exact Option.some.inj this
   | succ d ih =>
    intro k i hi hk hj
    obtain ⟨k, rfl, _⟩ := fuel hk
    simp only [slices_Equal_int_int.l0]
    rw [if_pos (by omega), if_pos (by omega), if_pos (by omega), if_pos (by omega), rd_get a i (by omega), rd_get b i (by omega), wrap_one (n := a.length) (by omega) (by omega)]
    by_cases e : a[i]'(by omega) = b[i]'(by omega)
    ·rw [if_pos e]
     refine ih k (i + 1) (by omega) (by omega) fun j hj' => ?_
     by_cases g : j = i
     ·subst g
      rw [List.getElem?_eq_getElem (by omega), List.getElem?_eq_getElem (by omega), e]
     ·exact hj j (by omega)
    ·rw [if_neg e]
     refine congrArg some (decide_eq_false fun h => e ?_).symm
     simp only [h]
  exact main a.length k 0 (by omega) hk (fun j hj => by omega)
 ·rw [if_neg (by omega)]
  exact congrArg some (decide_eq_false fun h => hl (by rw [h])).symm
open Classical in
theorem spec_good_eq (s : Int) (ring : Bool) (t c : List Int) (n : Int) (ht : t.length ≤ 1048576) (hc : c.length ≤ 1048576) : Ev (fun k => spec_l12Good.f k s ring t c n) (decide (HouseOK s ring t c n)) := by
 have jn : Ev (fun k => spec_l12Good.j0 k true s ring t c n) false := by
  refine Ev.succ ?_
  simp only [spec_l12Good.j0]
  exact Ev.pos (by first | rfl | exact True.intro) (Ev.now _)
 unfold spec_l12Good.f
 refine Ev.bind (Ev.bound t.length fun k hk => spec_l2Row_eq s ring t ht k hk) ?_
 by_cases h : RowOK s ring t
 ·rw [decide_eq_true h]
  refine Ev.pos rfl ?_
  by_cases hl : c.length = t.length
  ·refine Ev.pos (by omega) (Ev.have (spec_l1In_eq _ _ _) ?_)
   by_cases hn : 0 ≤ n ∧ n ≤ 1000
   ·rw [decide_eq_true hn]
    refine Ev.succ ?_
    simp only [spec_l12Good.j0]
    refine Ev.neg (by simp) ?_
    have main : ∀ d i : Nat, i + d = t.length → (∀ j, (hj : j < i) → (h2 : j < t.length) → t[j] ∈ c) → Ev (fun k => spec_l12Good.l0 k (i : Int) s ring t c n) (decide (HouseOK s ring t c n)) := by
     intro d
     induction d with
     | zero =>
      intro i hi hj
      refine Ev.succ ?_
      simp only [spec_l12Good.l0]
      rw [decide_eq_true (show HouseOK s ring t c n from ⟨h, ⟨hl, fun x hx => by
       obtain ⟨j, hj2, rfl⟩ := List.getElem_of_mem hx
       exact hj j (by omega) hj2⟩, hn⟩)]
      exact Ev.neg (by omega) (Ev.now _)
     | succ d ih =>
      intro i hi hj
      refine Ev.succ ?_
      simp only [spec_l12Good.l0]
      rw [rd_get t i (by omega), wrap_one (n := t.length) (by omega) (by omega)]
      refine Ev.pos (by omega) (Ev.pos (by omega) (Ev.bind (Ev.bound c.length fun k hk => spec_l1Has_eq c _ hc k hk) ?_))
      by_cases g : t[i]'(by omega) ∈ c
      ·refine Ev.pos (decide_eq_true g) (ih (i + 1) (by omega) fun j hj' h2 => ?_)
       by_cases e : j = i
       ·subst e; exact g
       ·exact hj j (by omega) h2
      ·rw [decide_eq_false (fun z : HouseOK s ring t c n => g (z.2.1.2 _ (List.getElem_mem _)))]
       exact Ev.neg (by rw [decide_eq_true_eq]; exact g) (Ev.now _)
    exact main t.length 0 (by omega) (fun j hj => by omega)
   ·rw [decide_eq_false hn, decide_eq_false (fun z : HouseOK s ring t c n => hn z.2.2)]
    exact jn
  ·rw [decide_eq_false (fun z : HouseOK s ring t c n => hl z.2.1.1)]
   exact Ev.neg (by omega) jn
 ·rw [decide_eq_false h, decide_eq_false (fun z : HouseOK s ring t c n => h z.1)]
  exact Ev.neg (by simp) jn
open Classical in
theorem impl_house_eq (s : Int) (ring : Bool) (t c : List Int) (n : Int) (ht : t.length ≤ 1048576) (hc : c.length ≤ 1048576) : Ev (fun k => impl_IsHouse.f k s ring t c n) (decide (HouseOK s ring t c n)) := by
 unfold impl_IsHouse.f
 refine Ev.bind (Ev.bound (t.length + 3) fun k hk => impl_IsRow_eq s ring t ht k hk) ?_
 by_cases h : RowOK s ring t
 ·rw [decide_eq_true h]
  have es : slices_Sorted_int.f c = some (sortL c) := by unfold slices_Sorted_int.f; rw [if_pos hc]; rfl
  refine Ev.pos rfl (Ev.have es (Ev.bind (Ev.bound (sortL c).length fun k hk => equal_eq (sortL c) t (by rw [(sort_perm c).length_eq]; exact hc) k hk) ?_))
  by_cases e : sortL c = t
  ·refine Ev.pos (decide_eq_true e) (Ev.have (impl_within_eq _ _ _) ?_)
   rw [show decide (HouseOK s ring t c n) = decide (0 ≤ n ∧ n ≤ 1000) from decide_eq_decide.2 ⟨fun z => z.2.2, fun z => ⟨h, (sort_taken h).1 e, z⟩⟩]
   exact Ev.now _
  ·rw [decide_eq_false (fun z : HouseOK s ring t c n => e ((sort_taken h).2 z.2.1))]
   exact Ev.neg (by rw [decide_eq_true_eq]; exact e) (Ev.now _)
 ·rw [decide_eq_false h, decide_eq_false (fun z : HouseOK s ring t c n => h z.1)]
  exact Ev.neg (by simp) (Ev.now _)

theorem laws_toIntS_l0 (l : List Int) (hl : l.length ≤ 1048576) (d : Nat) : ∀ (k i : Nat) (x : List Int), x.length = l.length → i ≤ l.length → l.length - i = d → d < k → (∀ j (h : j < i) (h' : j < x.length) (h'' : j < l.length), x[j] = l[j]) → laws_toIntS.l0 k l x i = some l := by
 induction d with
 | zero =>
  intro k i x hx hi hd hk hp
  obtain ⟨k, rfl, _⟩ := fuel hk
  simp only [laws_toIntS.l0]
  rw [if_neg (by omega)]
  refine congrArg some ?_
  apply List.ext_getElem hx
  intro j h1 h2
  exact hp j (by omega) h1 h2
 | succ d ih =>
  intro k i x hx hi hd hk hp
  obtain ⟨k, rfl, _⟩ := fuel hk
  simp only [laws_toIntS.l0]
  rw [if_pos (by omega), if_pos (by omega), if_pos (by omega), wrap_one (n := l.length) (by omega) (by omega)]
  rw [rd_get l i (by omega), Int.toNat_natCast, ih k (i + 1) _ (by simp [hx]) (by omega) (by omega) (by omega)]
  intro j h h' h''
  rw [List.getElem_set]
  split
  ·rename_i e
   subst e
   rfl
  ·rename_i e
   exact hp j (by omega) (by simpa using h') h''
theorem laws_toIntS_eq (l : List Int) (hl : l.length ≤ 1048576) (k : Nat) (hk : l.length < k) : laws_toIntS.f k l = some l := by
 unfold laws_toIntS.f
 rw [if_pos (by omega), if_pos (by omega)]
 exact laws_toIntS_l0 l hl l.length k 0 _ (by simp) (by omega) (by omega) hk (fun j h => by omega)

theorem laws_eqIntS_l0 (a b : List Int) (hl : a.length ≤ 1048576) (he : a.length = b.length) (d : Nat) : ∀ (k i : Nat), i ≤ a.length → a.length - i = d → d < k → laws_eqIntS.l0 k a b i = some (decide (a.drop i = b.drop i)) := by
 induction d with
 | zero =>
  intro k i hi hd hk
  obtain ⟨k, rfl, _⟩ := fuel hk
  simp only [laws_eqIntS.l0]
  rw [if_neg (by omega), List.drop_eq_nil_of_le (by omega), List.drop_eq_nil_of_le (by omega)]
  simp
 | succ d ih =>
  intro k i hi hd hk
  obtain ⟨k, rfl, _⟩ := fuel hk
  simp only [laws_eqIntS.l0]
  rw [if_pos (by omega), if_pos (by omega), if_pos (by omega), wrap_one (n := a.length) (by omega) (by omega), rd_get a i (by omega), rd_get b i (by omega), ih k (i + 1) (by omega) (by omega) (by omega)]
  rw [List.drop_eq_getElem_cons (l := a) (i := i) (by omega), List.drop_eq_getElem_cons (l := b) (i := i) (by omega)]
  by_cases h : a[i]'(by omega) = b[i]'(by omega)
  ·rw [if_pos h]
   refine congrArg some ?_
   rw [decide_eq_decide, List.cons.injEq]
   exact ⟨fun e => ⟨h, e⟩, fun e => e.2⟩
  ·rw [if_neg h]
   refine congrArg some ?_
   symm
   rw [decide_eq_false_iff_not, List.cons.injEq]
   exact fun e => h e.1
theorem laws_eqIntS_eq (a b : List Int) (hl : a.length ≤ 1048576) (k : Nat) (hk : a.length < k) : laws_eqIntS.f k a b = some (decide (a = b)) := by
 unfold laws_eqIntS.f
 by_cases h : a.length = b.length
 ·rw [if_pos (by omega)]
  have := laws_eqIntS_l0 a b hl h a.length k 0 (by omega) (by omega) hk
  simpa using this
 ·rw [if_neg (by omega)]
  refine congrArg some ?_
  symm
  rw [decide_eq_false_iff_not]
  intro e
  exact h (by rw [e])
theorem laws_eqIntS_self (a : List Int) (hl : a.length ≤ 1048576) (k : Nat) (hk : a.length < k) : laws_eqIntS.f k a a = some true := by
 rw [laws_eqIntS_eq a a hl k hk]
 simp

theorem laws_toIntS_ev (l : List Int) (hl : l.length ≤ 1048576) : Ev (fun k => laws_toIntS.f k l) l := Ev.bound l.length fun k hk => laws_toIntS_eq l hl k hk
theorem laws_eqIntS_ev (l : List Int) (hl : l.length ≤ 1048576) : Ev (fun k => laws_eqIntS.f k l l) true := Ev.bound l.length fun k hk => laws_eqIntS_self l hl k hk

theorem laws_szRow_eq (s : Int) (b : Bool) (t : List Int) (m : Nat) (hm : m ≤ 1048576) (ht : t.length ≤ maxLen) : laws_szRow.f s b t (m : Int) = some (if t.length ≤ m then ((m - t.length : Nat) : Int) else -1) := by
 have hmax : t.length ≤ 9223372036854775807 := ht
 unfold laws_szRow.f laws_szIntS.f
 rw [wrap_id (by omega) (by omega)]
 by_cases h : t.length ≤ m
 ·rw [if_neg (by omega), Option.bind_some, if_neg (by omega), if_pos h]
  refine congrArg some ?_
  omega
 ·rw [if_pos (by omega), Option.bind_some, if_pos (by omega), if_neg h]
theorem laws_toRow_ev (s : Int) (b : Bool) (t : List Int) (ht : t.length ≤ 1048576) : Ev (fun k => laws_toRow.f k s b t) (s, b, t) := by
 unfold laws_toRow.f
 exact Ev.bind (laws_toIntS_ev t ht) (Ev.now _)
theorem laws_eqRow_ev (s : Int) (b : Bool) (t : List Int) (ht : t.length ≤ 1048576) : Ev (fun k => laws_eqRow.f k s b t s b t) true := by
 unfold laws_eqRow.f
 refine Ev.pos rfl (Ev.neg (by simp) ?_)
 exact Ev.bind (laws_eqIntS_ev t ht) (Ev.pos rfl (Ev.now _))

theorem laws_szHouse_eq (s : Int) (b : Bool) (t c : List Int) (n : Int) (ht : t.length ≤ maxLen) (hc : c.length ≤ maxLen) : laws_szHouse.f s b t c n 1048576 = some (if t.length + c.length ≤ 1048576 then ((1048576 - t.length - c.length : Nat) : Int) else -1) := by
 have hc' : c.length ≤ 9223372036854775807 := hc
 unfold laws_szHouse.f
 have e := laws_szRow_eq s b t 1048576 (by omega) ht
 rw [show ((1048576 : Nat) : Int) = 1048576 from rfl] at e
 rw [e, Option.bind_some]
 by_cases h : t.length ≤ 1048576
 ·rw [if_pos h, if_neg (by omega)]
  unfold laws_szIntS.f
  rw [wrap_id (by omega) (by omega)]
  by_cases g : t.length + c.length ≤ 1048576
  ·rw [if_neg (by omega), Option.bind_some, if_neg (by omega), if_pos g]
   refine congrArg some ?_
   omega
  ·rw [if_pos (by omega), Option.bind_some, if_pos (by omega), if_neg g]
 ·rw [if_neg h, if_pos (by omega), if_neg (by omega)]
theorem laws_toHouse_ev (s : Int) (b : Bool) (t c : List Int) (n : Int) (ht : t.length ≤ 1048576) (hc : c.length ≤ 1048576) : Ev (fun k => laws_toHouse.f k s b t c n) (s, b, t, c, n) := by
 unfold laws_toHouse.f
 exact Ev.bind (laws_toRow_ev s b t ht) (Ev.bind (laws_toIntS_ev c hc) (Ev.now _))
theorem laws_eqHouse_ev (s : Int) (b : Bool) (t c : List Int) (n : Int) (ht : t.length ≤ 1048576) (hc : c.length ≤ 1048576) : Ev (fun k => laws_eqHouse.f k s b t c n s b t c n) true := by
 unfold laws_eqHouse.f
 exact Ev.bind (laws_eqRow_ev s b t ht) (Ev.pos rfl (Ev.bind (laws_eqIntS_ev c hc) (Ev.pos rfl (Ev.pos (by first | rfl | exact True.intro) (Ev.now _)))))

theorem laws_markIntS_l0 (d : Nat) : ∀ (k i : Nat) (x : List Int) (m : Nat), x.length ≤ 1048576 → m ≤ 1000000000 + i → i ≤ x.length → x.length - i = d → d < k →
  laws_markIntS.l0 k x m i = some (((m + (x.length - i) : Nat) : Int), x.take i ++ (List.range (x.length - i)).map fun j => ((m + j : Nat) : Int)) := by
 induction d with
 | zero =>
  intro k i x m hx hm hi hd hk
  obtain ⟨k, rfl, _⟩ := fuel hk
  simp only [laws_markIntS.l0]
  rw [if_neg (by omega), hd]
  simp [List.take_of_length_le (show x.length ≤ i by omega)]
 | succ d ih =>
  intro k i x m hx hm hi hd hk
  obtain ⟨k, rfl, _⟩ := fuel hk
  simp only [laws_markIntS.l0]
  rw [if_pos (by omega), if_pos (by omega), wrap_one (n := x.length) (i := i) (by omega) (by omega), wrap_one (n := m + 1) (i := m) (by omega) (by omega), Int.toNat_natCast]
  rw [ih k (i + 1) (x.set i m) (m + 1) (by simp; omega) (by omega) (by simp; omega) (by simp; omega) (by omega)]
  simp only [List.length_set, Option.some.injEq, Prod.mk.injEq]
  refine ⟨by omega, ?_⟩
  rw [hd, show x.length - (i + 1) = d from by omega, List.range_succ_eq_map, List.map_cons, List.map_map]
  rw [List.take_set, List.take_add_one, List.set_append_right _ _ (by simp; omega)]
  simp [List.length_take, show min i x.length = i from by omega, List.getElem?_eq_getElem (show i < x.length by omega)]
  intro a _
  omega
theorem laws_markIntS_eq (x : List Int) (m k : Nat) (hx : x.length ≤ 1048576) (hm : m ≤ 1000000000) (hk : x.length < k) :
  laws_markIntS.f k x m = some (((m + x.length : Nat) : Int), (List.range x.length).map fun j => ((m + j : Nat) : Int)) := by
 unfold laws_markIntS.f
 have := laws_markIntS_l0 x.length k 0 x m hx (by omega) (by omega) (by omega) hk
 simpa using this
theorem laws_heldIntS_l0 (n m : Nat) (hx : n ≤ 1048576) (hm : m ≤ 1000000000) (d : Nat) : ∀ (k i : Nat), i ≤ n → n - i = d → d < k →
  laws_heldIntS.l0 k ((List.range n).map fun j => ((m + j : Nat) : Int)) ((m + i : Nat) : Int) i = some (((m + n : Nat) : Int)) := by
 induction d with
 | zero =>
  intro k i hi hd hk
  obtain ⟨k, rfl, _⟩ := fuel hk
  simp only [laws_heldIntS.l0]
  rw [if_neg (by simp; omega), show i = n from by omega]
 | succ d ih =>
  intro k i hi hd hk
  obtain ⟨k, rfl, _⟩ := fuel hk
  simp only [laws_heldIntS.l0]
  rw [if_pos (by simp; omega), if_pos (by omega), rd_get _ i (by simp; omega)]
  simp only [List.getElem_map, List.getElem_range, if_true]
  rw [wrap_one (n := n) (i := i) (by omega) (by omega), wrap_one (n := m + i + 1) (i := m + i) (by omega) (by omega), show m + i + 1 = m + (i + 1) from by omega]
  exact ih k (i + 1) (by omega) (by omega) (by omega)
theorem laws_heldIntS_eq (n m k : Nat) (hx : n ≤ 1048576) (hm : m ≤ 1000000000) (hk : n < k) :
  laws_heldIntS.f k ((List.range n).map fun j => ((m + j : Nat) : Int)) m = some (((m + n : Nat) : Int)) :=
 laws_heldIntS_l0 n m hx hm n k 0 (by omega) (by omega) hk

def marksL (n : Nat) (m : Int) : List Int := (List.range n).map fun j => ((m.toNat + j : Nat) : Int)
theorem laws_markIntS_ev (l : List Int) (m : Int) (hl : l.length ≤ 1048576) (h0 : 0 ≤ m) (hm : m ≤ 1000000000) : Ev (fun k => laws_markIntS.f k l m) (m + l.length, marksL l.length m) :=
 Ev.bound l.length fun k hk => by
  obtain ⟨n, rfl⟩ : ∃ n : Nat, m = n := ⟨m.toNat, by omega⟩
  rw [laws_markIntS_eq l n k hl (by omega) hk]
  unfold marksL
  rw [Int.toNat_natCast]
  refine congrArg some (Prod.ext ?_ rfl)
  exact Int.natCast_add _ _
theorem laws_heldIntS_ev (n : Nat) (m : Int) (hl : n ≤ 1048576) (h0 : 0 ≤ m) (hm : m ≤ 1000000000) : Ev (fun k => laws_heldIntS.f k (marksL n m) m) (m + n) :=
 Ev.bound n fun k hk => by
  obtain ⟨j, rfl⟩ : ∃ j : Nat, m = j := ⟨m.toNat, by omega⟩
  unfold marksL
  rw [Int.toNat_natCast, laws_heldIntS_eq n j k hl (by omega) hk]
  exact congrArg some (Int.natCast_add _ _)

theorem laws_markRow_ev (s : Int) (b : Bool) (l : List Int) (m : Int) (hl : l.length ≤ 1048576) (h0 : 0 ≤ m) (hm : m ≤ 1000000000) : Ev (fun k => laws_markRow.f k s b l m) (m + l.length, marksL l.length m) := by
 unfold laws_markRow.f
 exact Ev.bind (laws_markIntS_ev l m hl h0 hm) (Ev.now _)

theorem laws_markHouse_ev (s : Int) (b : Bool) (t c : List Int) (n m : Int) (ht : t.length ≤ 1048576) (hc : c.length ≤ 1048576) (h0 : 0 ≤ m) (hm : m ≤ 100000000) : Ev (fun k => laws_markHouse.f k s b t c n m) (m + t.length + c.length, marksL t.length m, marksL c.length (m + t.length)) := by
 unfold laws_markHouse.f
 exact Ev.bind (laws_markRow_ev s b t m ht h0 (by omega)) (Ev.bind (laws_markIntS_ev c _ hc (by omega) (by omega)) (Ev.now _))

theorem laws_heldRow_ev (s : Int) (b : Bool) (n : Nat) (m : Int) (hl : n ≤ 1048576) (h0 : 0 ≤ m) (hm : m ≤ 1000000000) : Ev (fun k => laws_heldRow.f k s b (marksL n m) m) (m + n) := by
 unfold laws_heldRow.f
 exact Ev.bind (laws_heldIntS_ev n m hl h0 hm) (Ev.neg (by omega) (Ev.now _))

theorem spec_l1Own_eq (l : List Int) (h : l.length < 17592186044416) : spec_l1Own.f l = some l := by
 unfold spec_l1Own.f
 rw [Option.bind_some, if_pos (by simpa using h)]
 rfl

theorem laws_eqConsole_ev (s : Int) (b : Bool) (t c : List Int) (n : Int) (ht : t.length ≤ 1048576) (hc : c.length ≤ 1048576) (x y : ByteArray) (m : Int) : Ev (fun k => laws_eqConsole.f k s b t c n x y m s b t c n x y m) true := by
 unfold laws_eqConsole.f
 refine Ev.bind (laws_eqHouse_ev s b t c n ht hc) (Ev.pos rfl (Ev.have (a := true) ?_ (Ev.pos rfl (Ev.now _))))
 unfold laws_eqLog.f
 rw [if_pos rfl, if_pos rfl, if_pos rfl]
theorem laws_markConsole_ev (s : Int) (b : Bool) (t c : List Int) (n : Int) (x y : ByteArray) (z m : Int) (ht : t.length ≤ 1048576) (hc : c.length ≤ 1048576) (h0 : 0 ≤ m) (hm : m ≤ 100000000) : Ev (fun k => laws_markConsole.f k s b t c n x y z m) (m + t.length + c.length, marksL t.length m, marksL c.length (m + t.length)) := by
 unfold laws_markConsole.f
 exact Ev.bind (laws_markHouse_ev s b t c n m ht hc h0 hm) (Ev.now _)
theorem laws_heldConsole_ev (s : Int) (b : Bool) (i j : Nat) (n : Int) (x y : ByteArray) (z m : Int) (hi : i ≤ 1048576) (hj : j ≤ 1048576) (h0 : 0 ≤ m) (hm : m ≤ 100000000) : Ev (fun k => laws_heldConsole.f k s b (marksL i m) (marksL j (m + i)) n x y z m) (m + i + j) := by
 unfold laws_heldConsole.f laws_heldHouse.f
 refine Ev.bind (a := m + i + j) ?_ (Ev.neg (by omega) (Ev.now _))
 exact Ev.bind (laws_heldRow_ev s b i m hi h0 (by omega)) (Ev.neg (by omega) (Ev.bind (laws_heldIntS_ev j (m + i) hj (by omega) (by omega)) (Ev.neg (by omega) (Ev.now _))))
open Classical in
theorem console_both (s : Int) (ring : Bool) (t c : List Int) (n : Int) (ht : t.length ≤ 1048576) (hc : c.length ≤ 1048576) : ∃ (s' : Int) (r' : Bool) (t' c' : List Int) (n' : Int) (x y : ByteArray) (m : Int) (b : Bool), t'.length ≤ 1048576 ∧ c'.length ≤ 1048576 ∧
  Ev (fun k => spec_NewConsole.f k s ring t c n) (s', r', t', c', n', x, y, m, b) ∧ Ev (fun k => impl_NewConsole.f k s ring t c n) (s', r', t', c', n', x, y, m, b) := by
 have g1 := spec_good_eq s ring t c n ht hc
 have g2 := impl_house_eq s ring t c n ht hc
 by_cases h : HouseOK s ring t c n
 ·rw [decide_eq_true h] at g1 g2
  refine ⟨s, ring, t, c, n, ⟨#[]⟩, ⟨#[]⟩, 0, true, ht, hc, ?_, ?_⟩
  ·unfold spec_NewConsole.f
   refine Ev.bind g1 (Ev.pos rfl (Ev.have (a := (s, ring, t, c, n)) ?_ (Ev.now _)))
   unfold spec_l12Own.f
   rw [spec_l1Own_eq t (by omega), Option.bind_some, spec_l1Own_eq c (by omega), Option.bind_some]
  ·unfold impl_NewConsole.f
   refine Ev.bind g2 (Ev.pos rfl (Ev.have (a := (s, ring, t, c, n)) ?_ (Ev.now _)))
   unfold impl_House_own.f
   rw [Option.bind_some, if_pos (by simp; omega), Option.bind_some, if_pos (by simp; omega)]
   rfl
 ·rw [decide_eq_false h] at g1 g2
  refine ⟨0, false, [], [], 0, ⟨#[]⟩, ⟨#[]⟩, 0, false, by simp, by simp, ?_, ?_⟩
  ·unfold spec_NewConsole.f
   exact Ev.bind g1 (Ev.neg (by simp) (Ev.now _))
  ·unfold impl_NewConsole.f
   exact Ev.bind g2 (Ev.neg (by simp) (Ev.now _))
theorem FnExactNewConsole : ∀ (a0_0_0 : Int) (a0_0_1 : Bool) (a0_0_2 : List Int) (a0_1 : List Int) (a0_2 : Int), (Lit.int .i64 a0_0_0).wf = true → a0_0_2.length ≤ maxLen → (∀ x ∈ a0_0_2, (Lit.int .i64 x).wf = true) → a0_1.length ≤ maxLen → (∀ x ∈ a0_1, (Lit.int .i64 x).wf = true) → (Lit.int .i64 a0_2).wf = true → ∃ k, laws_FnExactNewConsole.f k a0_0_0 a0_0_1 a0_0_2 a0_1 a0_2 = some true := by
 intro s ring t c n _ ht _ hc _ _
 refine Ev.rounds ?_
 unfold laws_FnExactNewConsole.f
 by_cases h2 : t.length + c.length ≤ 1048576
 ·obtain ⟨s', r', t', c', n', x, y, m, b, ht', hc', e1, e2⟩ := console_both s ring t c n (by omega) (by omega)
  refine Ev.have (laws_szHouse_eq s ring t c n ht hc) ?_
  rw [if_pos h2]
  have e3 := laws_eqConsole_ev s' r' t' c' n' ht' hc' x y m
  have e4 := laws_markConsole_ev s' r' t' c' n' x y m 1 ht' hc' (by omega) (by omega)
  have e5 := laws_heldConsole_ev s' r' t'.length c'.length n' x y m 1 ht' hc' (by omega) (by omega)
  repeat' (first
   | exact Ev.now _
   | (refine Ev.bind e1 ?_; (try dsimp only))
   | (refine Ev.bind e2 ?_; (try dsimp only))
   | (refine Ev.bind e3 ?_; (try dsimp only))
   | (refine Ev.bind e4 ?_; (try dsimp only))
   | (refine Ev.bind e5 ?_; (try dsimp only))
   | (refine Ev.bind (laws_toIntS_ev _ (by omega)) ?_; (try dsimp only))
   | (refine Ev.bind (laws_eqIntS_ev _ (by omega)) ?_; (try dsimp only))
   | (refine Ev.bind (laws_markIntS_ev _ _ (by omega) (by omega) (by omega)) ?_; (try dsimp only))
   | (refine Ev.bind (laws_heldIntS_ev _ _ (by omega) (by omega) (by omega)) ?_; (try dsimp only))
   | (refine Ev.bind (laws_toRow_ev _ _ _ (by omega)) ?_; (try dsimp only))
   | (refine Ev.bind (laws_eqRow_ev _ _ _ (by omega)) ?_; (try dsimp only))
   | (refine Ev.bind (laws_markRow_ev _ _ _ _ (by omega) (by omega) (by omega)) ?_; (try dsimp only))
   | (refine Ev.bind (laws_toHouse_ev _ _ _ _ _ (by omega) (by omega)) ?_; (try dsimp only))
   | (refine Ev.bind (laws_eqHouse_ev _ _ _ _ _ (by omega) (by omega)) ?_; (try dsimp only))
   | (refine Ev.bind (laws_markHouse_ev _ _ _ _ _ _ (by omega) (by omega) (by omega) (by omega)) ?_; (try dsimp only))
   | (refine Ev.have (laws_szRow_eq _ _ _ 1048576 (by omega) (by assumption)) ?_; (try dsimp only))
   | (refine Ev.pos rfl ?_; (try dsimp only))
   | (refine Ev.neg (by omega) ?_; (try dsimp only))
   | (refine Ev.pos (by omega) ?_; (try dsimp only))
   | (refine Ev.neg (bne_self _) ?_; (try dsimp only))
   | (refine Ev.neg Bool.false_ne_true ?_; (try dsimp only))
   | (refine Ev.neg (fun h => h) ?_; (try dsimp only))
   | (refine Ev.pos True.intro ?_; (try dsimp only))
   | (refine Ev.succ ?_; simp only [laws_FnExactNewConsole.j0, laws_FnExactNewConsole.j1, laws_FnExactNewConsole.j2]))
 ·refine Ev.have (laws_szHouse_eq s ring t c n ht hc) ?_
  rw [if_neg h2]
  exact Ev.pos (by omega) (Ev.now _)

end Go.Proofs.Ytbohmfnjgjijdaa.Pure
-- squeezed
