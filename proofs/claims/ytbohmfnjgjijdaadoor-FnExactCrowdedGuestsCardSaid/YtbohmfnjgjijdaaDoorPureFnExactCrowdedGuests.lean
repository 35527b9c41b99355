/- CrowdedGuests of the program returns what the reference's returns, for every house. No conditions (the card ties the library's table). -/
import Derived.Test.YtbohmfnjgjijdaaDoorQFnExactCrowdedGuestsx
namespace Go.Proofs.YtbohmfnjgjijdaaDoor.Pure
open Go.RowKit Go.Proofs.YtbohmfnjgjijdaaDoor.QFnExactCrowdedGuests Go.Proofs.YtbohmfnjgjijdaaDoorW.PrintWords Go.Proofs.YtbohmfnjgjijdaaDoorW.PrintLast Go.Proofs.YtbohmfnjgjijdaaDoorW.PrintMore
set_option linter.unusedVariables false
set_option linter.unusedSimpArgs false

/-! ### base -/
theorem wrap_id {x : Int} (h0 : -9223372036854775808 ≤ x) (h1 : x ≤ 9223372036854775807) : wrap64 x = x := by
  unfold wrap64
  omega
theorem wrap_one {i n : Nat} (h : i < n) (hn : n ≤ 4611686018427387904) : wrap64 ((i : Int) + 1) = ((i + 1 : Nat) : Int) := by
  unfold wrap64
  omega
theorem rd_nat (l : List Int) (i : Nat) : rd l (i : Int) = l.getD i 0 := by unfold rd; simp
theorem rd_get (l : List Int) (i : Nat) (h : i < l.length) : rd l (i : Int) = l[i] := by rw [rd_nat]; simp [List.getD, h]
theorem fuel {k d : Nat} (h : d < k) : ∃ m, k = m + 1 ∧ d ≤ m := ⟨k - 1, by omega, by omega⟩

/-! ### within -/
theorem spec_l1In_eq (n a b : Int) : spec_l1In.f n a b = some (decide (a ≤ n ∧ n ≤ b)) := by
  unfold spec_l1In.f
  by_cases h : n ≥ a
  · rw [if_pos h]
    simp [show a ≤ n from h]
  · rw [if_neg h]
    simp [show ¬ a ≤ n from h]
theorem impl_within_eq (n a b : Int) : impl_within.f n a b = some (decide (a ≤ n ∧ n ≤ b)) := by
  unfold impl_within.f
  by_cases h : n ≥ a
  · rw [if_pos h]
    simp [show a ≤ n from h]
  · rw [if_neg h]
    simp [show ¬ a ≤ n from h]

/-! ### impl_allWithin -/
theorem impl_allWithin_l0 (l : List Int) (a b : Int) (hl : l.length ≤ 1048576) (d : Nat) : ∀ (k i : Nat), i ≤ l.length → l.length - i = d → d < k → impl_allWithin.l0 k a b l (l.length : Int) i = some (decide (∀ x ∈ l.drop i, a ≤ x ∧ x ≤ b)) := by
  induction d with
  | zero =>
    intro k i hi hd hk
    obtain ⟨k, rfl, _⟩ := fuel hk
    simp only [impl_allWithin.l0]
    rw [if_neg (by omega), List.drop_eq_nil_of_le (by omega)]
    simp
  | succ d ih =>
    intro k i hi hd hk
    obtain ⟨k, rfl, _⟩ := fuel hk
    simp only [impl_allWithin.l0]
    rw [if_pos (by omega), if_pos (by omega), if_pos (by omega), wrap_one (n := l.length) (by omega) (by omega), rd_get l i (by omega), impl_within_eq, ih k (i + 1) (by omega) (by omega) (by omega)]
    rw [List.drop_eq_getElem_cons (l := l) (i := i) (by omega)]
    rw [Option.bind_some]
    by_cases h : a ≤ l[i]'(by omega) ∧ l[i]'(by omega) ≤ b
    · rw [if_pos (by simp only [h]; simp)]
      refine congrArg some ?_
      rw [decide_eq_decide]
      simp only [List.mem_cons]
      exact ⟨fun e x hx => hx.elim (fun z => z ▸ h) (e x), fun e x hx => e x (.inr hx)⟩
    · rw [if_neg (by rw [decide_eq_true_eq]; exact h)]
      refine congrArg some ?_
      symm
      rw [decide_eq_false_iff_not]
      exact fun e => h (e _ List.mem_cons_self)
theorem impl_allWithin_eq (l : List Int) (a b : Int) (hl : l.length ≤ 1048576) (k : Nat) (hk : l.length < k) : impl_allWithin.f k l a b = some (decide (∀ x ∈ l, a ≤ x ∧ x ≤ b)) :=
  impl_allWithin_l0 l a b hl l.length k 0 (by omega) (by omega) hk

/-! ### isrow -/
/-- Rising numbers within bounds. -/
def Rising (l : List Int) (a b : Int) : Prop := ∀ i, (h : i < l.length) → (a ≤ l[i] ∧ l[i] ≤ b) ∧ (0 < i → l.getD (i - 1) 0 < l[i])
/-- A row: 2 to 24 seats, of which rising ones are taken, at least 3 on a ring. -/
def RowOK (s : Int) (ring : Bool) (t : List Int) : Prop := (2 ≤ s ∧ s ≤ 24) ∧ (ring = true → 3 ≤ s) ∧ Rising t 0 (s - 1)
open Classical in
theorem spec_l1Rising_l0 (l : List Int) (a b : Int) (hl : l.length ≤ 1048576) (d : Nat) : ∀ (k i : Nat), i ≤ l.length → l.length - i = d → d < k → (∀ j, (h : j < i) → (hj : j < l.length) → (a ≤ l[j] ∧ l[j] ≤ b) ∧ (0 < j → l.getD (j - 1) 0 < l[j])) →
    spec_l1Rising.l0 k l a b i = some (decide (Rising l a b)) := by
  induction d with
  | zero =>
    intro k i hi hd hk hp
    obtain ⟨k, rfl, _⟩ := fuel hk
    simp only [spec_l1Rising.l0]
    rw [if_neg (by omega)]
    refine congrArg some ?_
    symm
    rw [decide_eq_true_eq]
    exact fun j hj => hp j (by omega) hj
  | succ d ih =>
    intro k i hi hd hk hp
    obtain ⟨k, rfl, _⟩ := fuel hk
    have no : ¬ ((a ≤ l[i]'(by omega) ∧ l[i]'(by omega) ≤ b) ∧ (0 < i → l.getD (i - 1) 0 < l[i]'(by omega))) → ¬ Rising l a b := fun g e => g (e i (by omega))
    have go : ((a ≤ l[i]'(by omega) ∧ l[i]'(by omega) ≤ b) ∧ (0 < i → l.getD (i - 1) 0 < l[i]'(by omega))) → spec_l1Rising.l0 k l a b (wrap64 ((i : Int) + 1)) = some (decide (Rising l a b)) := by
      intro g
      rw [wrap_one (n := l.length) (by omega) (by omega)]
      refine ih k (i + 1) (by omega) (by omega) (by omega) fun j hj hj' => ?_
      by_cases e : j = i
      · subst e; exact g
      · exact hp j (by omega) hj'
    simp only [spec_l1Rising.l0]
    rw [if_pos (by omega), if_pos (by omega), rd_get l i (by omega), spec_l1In_eq, Option.bind_some]
    by_cases g : a ≤ l[i]'(by omega) ∧ l[i]'(by omega) ≤ b
    · rw [if_pos (decide_eq_true g)]
      by_cases h0 : 0 < i
      · rw [if_pos (by omega), wrap_id (by omega) (by omega), if_pos (by omega), if_pos (by omega), show (i : Int) - 1 = ((i - 1 : Nat) : Int) from by omega, rd_nat]
        by_cases g2 : l.getD (i - 1) 0 < l[i]'(by omega)
        · rw [if_neg (by omega)]
          exact go ⟨g, fun _ => g2⟩
        · rw [if_pos (by omega), decide_eq_false (no fun e => g2 (e.2 h0))]
      · rw [if_neg (by omega)]
        exact go ⟨g, fun e => absurd e h0⟩
    · rw [if_neg (by rw [decide_eq_true_eq]; exact g), decide_eq_false (no fun e => g e.1)]
open Classical in
theorem spec_l1Rising_eq (l : List Int) (a b : Int) (hl : l.length ≤ 1048576) (k : Nat) (hk : l.length < k) : spec_l1Rising.f k l a b = some (decide (Rising l a b)) :=
  spec_l1Rising_l0 l a b hl l.length k 0 (by omega) (by omega) hk (fun j h => by omega)
open Classical in
theorem spec_l2Row_eq (s : Int) (ring : Bool) (t : List Int) (ht : t.length ≤ 1048576) (k : Nat) (hk : t.length < k) : spec_l2Row.f k s ring t = some (decide (RowOK s ring t)) := by
  unfold spec_l2Row.f
  rw [spec_l1In_eq, Option.bind_some]
  by_cases h : 2 ≤ s ∧ s ≤ 24
  · rw [if_pos (decide_eq_true h), wrap_id (by omega) (by omega), spec_l1Rising_eq t _ _ ht k hk, Option.bind_some]
    cases ring with
    | true =>
      rw [if_pos rfl]
      by_cases h3 : s > 2
      · rw [if_pos h3]
        refine congrArg some ?_
        rw [decide_eq_decide]
        exact ⟨fun e => ⟨h, fun _ => by omega, e⟩, fun e => e.2.2⟩
      · rw [if_neg h3]
        refine congrArg some ?_
        symm
        rw [decide_eq_false_iff_not]
        exact fun e => h3 (by have := e.2.1 rfl; omega)
    | false =>
      rw [if_neg (by simp)]
      refine congrArg some ?_
      rw [decide_eq_decide]
      exact ⟨fun e => ⟨h, (fun z => by cases z), e⟩, fun e => e.2.2⟩
  · rw [if_neg (by rw [decide_eq_true_eq]; exact h)]
    refine congrArg some ?_
    symm
    rw [decide_eq_false_iff_not]
    exact fun e => h e.1
theorem impl_bench_has_one (s : Int) (ring : Bool) (p : Int) (k : Nat) (hk : 2 < k) : impl_bench_has.f k s ring [p] = some (decide (0 ≤ p ∧ p ≤ wrap64 (s - 1))) := by
  unfold impl_bench_has.f
  rw [impl_allWithin_eq [p] _ _ (by simp) k (by simp; omega), Option.bind_some]
  refine congrArg some ?_
  rw [decide_eq_decide]
  simp
theorem impl_bench_valid_eq (s : Int) (ring : Bool) : impl_bench_valid.f s ring = some (decide ((2 ≤ s ∧ s ≤ 24) ∧ (ring = true → 3 ≤ s))) := by
  unfold impl_bench_valid.f
  rw [impl_within_eq, Option.bind_some]
  by_cases h : 2 ≤ s ∧ s ≤ 24
  · rw [if_pos (decide_eq_true h)]
    cases ring with
    | true =>
      rw [if_pos rfl]
      refine congrArg some ?_
      rw [decide_eq_decide]
      exact ⟨fun e => ⟨h, fun _ => e⟩, fun e => e.2 rfl⟩
    | false =>
      rw [if_neg (by simp)]
      refine congrArg some ?_
      symm
      rw [decide_eq_true_eq]
      exact ⟨h, (fun z => by cases z)⟩
  · rw [if_neg (by rw [decide_eq_true_eq]; exact h)]
    refine congrArg some ?_
    symm
    rw [decide_eq_false_iff_not]
    exact fun e => h e.1
open Classical in
theorem impl_IsRow_l0 (s : Int) (ring : Bool) (l : List Int) (hl : l.length ≤ 1048576) (d : Nat) : ∀ (k i : Nat), i ≤ l.length → l.length - i = d → d + 3 < k → ((2 ≤ s ∧ s ≤ 24) → ∀ j, (h : j < i) → (hj : j < l.length) → (0 ≤ l[j] ∧ l[j] ≤ s - 1) ∧ (0 < j → l.getD (j - 1) 0 < l[j])) →
    impl_IsRow.l0 k l (l.length : Int) i s ring l = some (decide (RowOK s ring l)) := by
  induction d with
  | zero =>
    intro k i hi hd hk hp
    obtain ⟨k, rfl, _⟩ := fuel hk
    simp only [impl_IsRow.l0]
    rw [if_neg (by omega), impl_Row_bench.f, Option.bind_some]
    dsimp only
    rw [impl_bench_valid_eq, Option.bind_some]
    refine congrArg some ?_
    rw [decide_eq_decide]
    exact ⟨fun e => ⟨e.1, e.2, fun j hj => hp e.1 j (by omega) hj⟩, fun e => ⟨e.1, e.2.1⟩⟩
  | succ d ih =>
    intro k i hi hd hk hp
    obtain ⟨k, rfl, _⟩ := fuel hk
    have no : (2 ≤ s ∧ s ≤ 24 → ¬ ((0 ≤ l[i]'(by omega) ∧ l[i]'(by omega) ≤ s - 1) ∧ (0 < i → l.getD (i - 1) 0 < l[i]'(by omega)))) → ¬ RowOK s ring l := fun g e => g e.1 (e.2.2 i (by omega))
    have go : (2 ≤ s ∧ s ≤ 24 → ((0 ≤ l[i]'(by omega) ∧ l[i]'(by omega) ≤ s - 1) ∧ (0 < i → l.getD (i - 1) 0 < l[i]'(by omega)))) → impl_IsRow.l0 k l (l.length : Int) (wrap64 ((i : Int) + 1)) s ring l = some (decide (RowOK s ring l)) := by
      intro g
      rw [wrap_one (n := l.length) (by omega) (by omega)]
      refine ih k (i + 1) (by omega) (by omega) (by omega) fun hs j hj hj' => ?_
      by_cases e : j = i
      · subst e; exact g hs
      · exact hp hs j (by omega) hj'
    simp only [impl_IsRow.l0]
    rw [if_pos (by omega), if_pos (by omega), if_pos (by omega), impl_Row_bench.f, Option.bind_some]
    dsimp only
    rw [rd_get l i (by omega), impl_bench_has_one _ _ _ k (by omega), Option.bind_some]
    by_cases g : 0 ≤ l[i]'(by omega) ∧ l[i]'(by omega) ≤ wrap64 (s - 1)
    · rw [if_pos (decide_eq_true g)]
      have g' : 2 ≤ s ∧ s ≤ 24 → 0 ≤ l[i]'(by omega) ∧ l[i]'(by omega) ≤ s - 1 := fun hs => by
        rw [wrap_id (by omega) (by omega)] at g
        exact g
      by_cases h0 : 0 < i
      · rw [if_pos (by omega), wrap_id (by omega) (by omega), if_pos (by omega), if_pos (by omega), show (i : Int) - 1 = ((i - 1 : Nat) : Int) from by omega, rd_nat]
        by_cases g2 : l.getD (i - 1) 0 < l[i]'(by omega)
        · rw [if_neg (by omega)]
          exact go fun hs => ⟨g' hs, fun _ => g2⟩
        · rw [if_pos (by omega), decide_eq_false (no fun _ e => g2 (e.2 h0))]
      · rw [if_neg (by omega)]
        exact go fun hs => ⟨g' hs, fun e => absurd e h0⟩
    · rw [if_neg (by rw [decide_eq_true_eq]; exact g)]
      rw [decide_eq_false (no fun hs e => g ?_)]
      rw [wrap_id (by omega) (by omega)]
      exact e.1
open Classical in
theorem impl_IsRow_eq (s : Int) (ring : Bool) (l : List Int) (hl : l.length ≤ 1048576) (k : Nat) (hk : l.length + 3 < k) : impl_IsRow.f k s ring l = some (decide (RowOK s ring l)) :=
  impl_IsRow_l0 s ring l hl l.length k 0 (by omega) (by omega) hk (fun _ j h => by omega)
theorem rising_lt (l : List Int) (a b : Int) (h : Rising l a b) (i j : Nat) (hij : i < j) (hj : j < l.length) : l[i]'(by omega) < l[j] := by
  induction j with
  | zero => omega
  | succ j ih =>
    have h1 := (h (j + 1) hj).2 (by omega)
    rw [show j + 1 - 1 = j from by omega, show l.getD j 0 = l[j]'(by omega) from by simp [List.getD, show j < l.length by omega]] at h1
    by_cases e : i = j
    · subst e; exact h1
    · have := ih (by omega) (by omega)
      omega
theorem rising_mem (l : List Int) (a b : Int) (h : Rising l a b) : ∀ x ∈ l, a ≤ x ∧ x ≤ b := by
  intro x hx
  obtain ⟨i, hi, rfl⟩ := List.getElem_of_mem hx
  exact (h i hi).1
theorem rising_nodup (l : List Int) (a b : Int) (h : Rising l a b) : l.Nodup := by
  refine List.pairwise_iff_getElem.2 fun i j hi hj hij e => ?_
  have := rising_lt l a b h i j hij hj
  omega
theorem row_len (s : Int) (ring : Bool) (t : List Int) (h : RowOK s ring t) : t.length ≤ 24 := by
  have hn := rising_nodup t _ _ h.2.2
  have hs : t ⊆ (List.range 24).map fun i : Nat => (i : Int) := by
    intro x hx
    have := rising_mem t _ _ h.2.2 x hx
    have := h.1
    exact List.mem_map.2 ⟨x.toNat, List.mem_range.2 (by omega), by omega⟩
  have := List.Nodup.length_le_of_subset hn hs
  simpa using this

/-! ### ev -/
theorem bne_self {α : Type} [BEq α] [LawfulBEq α] (a : α) : ¬ (a != a) = true := by simp
theorem Ev.succ {α : Type} {g : Nat → Option α} {r : α} (h : Ev (fun k => g (k + 1)) r) : Ev g r := by
  obtain ⟨K, h⟩ := h
  refine ⟨K + 1, fun k hk => ?_⟩
  obtain ⟨k, rfl, hk'⟩ := fuel (show K < k by omega)
  exact h k hk'
theorem Ev.pos {α : Type} {g f : Nat → Option α} {r : α} {c : Prop} [Decidable c] (hc : c) (h : Ev g r) : Ev (fun k => if c then g k else f k) r := by
  obtain ⟨K, h⟩ := h
  exact ⟨K, fun k hk => by show (if c then g k else f k) = some r; rw [if_pos hc]; exact h k hk⟩
theorem Ev.neg {α : Type} {g f : Nat → Option α} {r : α} {c : Prop} [Decidable c] (hc : ¬ c) (h : Ev f r) : Ev (fun k => if c then g k else f k) r := by
  obtain ⟨K, h⟩ := h
  exact ⟨K, fun k hk => by show (if c then g k else f k) = some r; rw [if_neg hc]; exact h k hk⟩
theorem Ev.have {α β : Type} {x : Option α} {a : α} {f : Nat → α → Option β} {r : β} (e : x = some a) (h : Ev (fun k => f k a) r) : Ev (fun k => x.bind (f k)) r := by
  obtain ⟨K, h⟩ := h
  exact ⟨K, fun k hk => by show x.bind (f k) = some r; rw [e, Option.bind_some]; exact h k hk⟩
theorem Ev.bound {α : Type} {g : Nat → Option α} {r : α} (K : Nat) (h : ∀ k, K < k → g k = some r) : Ev g r := ⟨K + 1, fun k hk => h k (by omega)⟩
theorem Ev.same {α : Type} {g : Nat → Option α} {r r' : α} (h : Ev g r) (e : r = r') : Ev g r' := e ▸ h

/-! ### spec_l1Has -/
theorem spec_l1Has_l0 (l : List Int) (n : Int) (hl : l.length ≤ 1048576) (d : Nat) : ∀ (k i : Nat), i ≤ l.length → l.length - i = d → d < k → spec_l1Has.l0 k l n i = some (decide (n ∈ l.drop i)) := by
  induction d with
  | zero =>
    intro k i hi hd hk
    obtain ⟨k, rfl, _⟩ := fuel hk
    simp only [spec_l1Has.l0]
    rw [if_neg (by omega), List.drop_eq_nil_of_le (by omega)]
    simp
  | succ d ih =>
    intro k i hi hd hk
    obtain ⟨k, rfl, _⟩ := fuel hk
    simp only [spec_l1Has.l0]
    rw [if_pos (by omega), if_pos (by omega), wrap_one (n := l.length) (by omega) (by omega), rd_get l i (by omega), ih k (i + 1) (by omega) (by omega) (by omega)]
    rw [List.drop_eq_getElem_cons (l := l) (i := i) (by omega)]
    by_cases h : l[i]'(by omega) = n
    · rw [if_pos h, h]
      simp
    · rw [if_neg h]
      refine congrArg some ?_
      rw [decide_eq_decide, List.mem_cons]
      exact ⟨.inr, fun e => e.resolve_left fun e => h e.symm⟩
theorem spec_l1Has_eq (l : List Int) (n : Int) (hl : l.length ≤ 1048576) (k : Nat) (hk : l.length < k) : spec_l1Has.f k l n = some (decide (n ∈ l)) := by
  have := spec_l1Has_l0 l n hl l.length k 0 (by omega) (by omega) hk
  exact this

/-! ### house -/
theorem cover_perm : ∀ (r l : List Int), r.Nodup → r ⊆ l → l.length ≤ r.length → l.Perm r
  | [], l, _, _, hl => by
    have : l = [] := List.eq_nil_of_length_eq_zero (by simpa using hl)
    subst this
    exact List.Perm.refl _
  | a :: t, l, hn, hs, hl => by
    have ha : a ∈ l := hs List.mem_cons_self
    have hc := List.nodup_cons.1 hn
    have hlen := List.length_erase_of_mem ha
    have hpos := List.length_pos_of_mem ha
    have ht : t ⊆ l.erase a := fun x hx => (List.mem_erase_of_ne (by rintro rfl; exact hc.1 hx)).2 (hs (List.mem_cons_of_mem _ hx))
    have hl' : l.length ≤ t.length + 1 := by simpa using hl
    exact (List.perm_cons_erase ha).trans ((cover_perm t (l.erase a) hc.2 ht (by omega)).cons a)
theorem sorted_unique : ∀ (a b : List Int), a.Pairwise (· ≤ ·) → b.Pairwise (· ≤ ·) → a.Perm b → a = b
  | [], b, _, _, h => (List.perm_nil.1 h.symm).symm
  | x :: a, [], _, _, h => absurd (List.perm_nil.1 h) (by simp)
  | x :: a, y :: b, ha, hb, h => by
    obtain ⟨h1, h2⟩ := List.pairwise_cons.1 ha
    obtain ⟨h3, h4⟩ := List.pairwise_cons.1 hb
    have e1 : x ≤ y := by
      rcases List.mem_cons.1 (h.mem_iff.2 List.mem_cons_self : y ∈ x :: a) with e | e
      · omega
      · exact h1 y e
    have e2 : y ≤ x := by
      rcases List.mem_cons.1 (h.mem_iff.1 List.mem_cons_self : x ∈ y :: b) with e | e
      · omega
      · exact h3 x e
    obtain rfl : x = y := by omega
    rw [sorted_unique a b h2 h4 (List.Perm.cons_inv h)]
def sortL (c : List Int) : List Int := c.mergeSort fun x y => decide (x ≤ y)
theorem sort_perm (c : List Int) : (sortL c).Perm c := List.mergeSort_perm c _
theorem sort_pairwise (c : List Int) : (sortL c).Pairwise (· ≤ ·) := by
  have := List.pairwise_mergeSort (le := fun x y : Int => decide (x ≤ y)) (fun a b c h1 h2 => by simp at *; omega) (fun a b => by simp; omega) c
  exact this.imp fun h => by simpa using h
/-- Guests have the taken seats, each one once. -/
theorem sort_taken {s : Int} {ring : Bool} {t c : List Int} (h : RowOK s ring t) : sortL c = t ↔ c.length = t.length ∧ ∀ x ∈ t, x ∈ c := by
  constructor
  · intro e
    refine ⟨by rw [← e]; exact (sort_perm c).length_eq.symm, fun x hx => ?_⟩
    rw [← e] at hx
    exact (sort_perm c).mem_iff.1 hx
  · rintro ⟨h1, h2⟩
    have p := cover_perm t c (rising_nodup t _ _ h.2.2) h2 (by omega)
    refine sorted_unique _ _ (sort_pairwise c) ?_ ((sort_perm c).trans p)
    exact List.pairwise_iff_getElem.2 fun i j hi hj hij => by have := rising_lt t _ _ h.2.2 i j hij hj; omega
def HouseOK (s : Int) (ring : Bool) (t c : List Int) (n : Int) : Prop := RowOK s ring t ∧ (c.length = t.length ∧ ∀ x ∈ t, x ∈ c) ∧ 0 ≤ n ∧ n ≤ 1000
theorem equal_eq (a b : List Int) (ha : a.length ≤ 1048576) (k : Nat) (hk : a.length < k) : slices_Equal_int_int.f k a b = some (decide (a = b)) := by
  unfold slices_Equal_int_int.f
  by_cases hl : a.length = b.length
  · rw [if_pos (by omega)]
    have main : ∀ d k i, i + d = a.length → d < k → (∀ j, j < i → a[j]? = b[j]?) → slices_Equal_int_int.l0 k a b (a.length : Int) (i : Int) = some (decide (a = b)) := by
      intro d
      induction d with
      | zero =>
        intro k i hi hk hj
        obtain ⟨k, rfl, _⟩ := fuel hk
        simp only [slices_Equal_int_int.l0]
        rw [if_neg (by omega)]
        refine congrArg some (decide_eq_true ?_).symm
        refine List.ext_getElem hl fun j h1 h2 => ?_
        have := hj j (by omega)
        rw [List.getElem?_eq_getElem h1, List.getElem?_eq_getElem h2] at this
        exact Option.some.inj this
      | succ d ih =>
        intro k i hi hk hj
        obtain ⟨k, rfl, _⟩ := fuel hk
        simp only [slices_Equal_int_int.l0]
        rw [if_pos (by omega), if_pos (by omega), if_pos (by omega), if_pos (by omega), rd_get a i (by omega), rd_get b i (by omega), wrap_one (n := a.length) (by omega) (by omega)]
        by_cases e : a[i]'(by omega) = b[i]'(by omega)
        · rw [if_pos e]
          refine ih k (i + 1) (by omega) (by omega) fun j hj' => ?_
          by_cases g : j = i
          · subst g
            rw [List.getElem?_eq_getElem (by omega), List.getElem?_eq_getElem (by omega), e]
          · exact hj j (by omega)
        · rw [if_neg e]
          refine congrArg some (decide_eq_false fun h => e ?_).symm
          simp only [h]
    exact main a.length k 0 (by omega) hk (fun j hj => by omega)
  · rw [if_neg (by omega)]
    exact congrArg some (decide_eq_false fun h => hl (by rw [h])).symm
open Classical in
theorem spec_good_eq (s : Int) (ring : Bool) (t c : List Int) (n : Int) (ht : t.length ≤ 1048576) (hc : c.length ≤ 1048576) : Ev (fun k => spec_l12Good.f k s ring t c n) (decide (HouseOK s ring t c n)) := by
  have jn : Ev (fun k => spec_l12Good.j0 k true s ring t c n) false := by
    refine Ev.succ ?_
    simp only [spec_l12Good.j0]
    exact Ev.pos (by first | rfl | exact True.intro) (Ev.now _)
  unfold spec_l12Good.f
  refine Ev.bind (Ev.bound t.length fun k hk => spec_l2Row_eq s ring t ht k hk) ?_
  by_cases h : RowOK s ring t
  · rw [decide_eq_true h]
    refine Ev.pos rfl ?_
    by_cases hl : c.length = t.length
    · refine Ev.pos (by omega) (Ev.have (spec_l1In_eq _ _ _) ?_)
      by_cases hn : 0 ≤ n ∧ n ≤ 1000
      · rw [decide_eq_true hn]
        refine Ev.succ ?_
        simp only [spec_l12Good.j0]
        refine Ev.neg (by simp) ?_
        have main : ∀ d i : Nat, i + d = t.length → (∀ j, (hj : j < i) → (h2 : j < t.length) → t[j] ∈ c) → Ev (fun k => spec_l12Good.l0 k (i : Int) s ring t c n) (decide (HouseOK s ring t c n)) := by
          intro d
          induction d with
          | zero =>
            intro i hi hj
            refine Ev.succ ?_
            simp only [spec_l12Good.l0]
            rw [decide_eq_true (show HouseOK s ring t c n from ⟨h, ⟨hl, fun x hx => by
              obtain ⟨j, hj2, rfl⟩ := List.getElem_of_mem hx
              exact hj j (by omega) hj2⟩, hn⟩)]
            exact Ev.neg (by omega) (Ev.now _)
          | succ d ih =>
            intro i hi hj
            refine Ev.succ ?_
            simp only [spec_l12Good.l0]
            rw [rd_get t i (by omega), wrap_one (n := t.length) (by omega) (by omega)]
            refine Ev.pos (by omega) (Ev.pos (by omega) (Ev.bind (Ev.bound c.length fun k hk => spec_l1Has_eq c _ hc k hk) ?_))
            by_cases g : t[i]'(by omega) ∈ c
            · refine Ev.pos (decide_eq_true g) (ih (i + 1) (by omega) fun j hj' h2 => ?_)
              by_cases e : j = i
              · subst e; exact g
              · exact hj j (by omega) h2
            · rw [decide_eq_false (fun z : HouseOK s ring t c n => g (z.2.1.2 _ (List.getElem_mem _)))]
              exact Ev.neg (by rw [decide_eq_true_eq]; exact g) (Ev.now _)
        exact main t.length 0 (by omega) (fun j hj => by omega)
      · rw [decide_eq_false hn, decide_eq_false (fun z : HouseOK s ring t c n => hn z.2.2)]
        exact jn
    · rw [decide_eq_false (fun z : HouseOK s ring t c n => hl z.2.1.1)]
      exact Ev.neg (by omega) jn
  · rw [decide_eq_false h, decide_eq_false (fun z : HouseOK s ring t c n => h z.1)]
    exact Ev.neg (by simp) jn
open Classical in
theorem impl_house_eq (s : Int) (ring : Bool) (t c : List Int) (n : Int) (ht : t.length ≤ 1048576) (hc : c.length ≤ 1048576) : Ev (fun k => impl_IsHouse.f k s ring t c n) (decide (HouseOK s ring t c n)) := by
  unfold impl_IsHouse.f
  refine Ev.bind (Ev.bound (t.length + 3) fun k hk => impl_IsRow_eq s ring t ht k hk) ?_
  by_cases h : RowOK s ring t
  · rw [decide_eq_true h]
    have es : slices_Sorted_int.f c = some (sortL c) := by unfold slices_Sorted_int.f; rw [if_pos hc]; rfl
    refine Ev.pos rfl (Ev.have es (Ev.bind (Ev.bound (sortL c).length fun k hk => equal_eq (sortL c) t (by rw [(sort_perm c).length_eq]; exact hc) k hk) ?_))
    by_cases e : sortL c = t
    · refine Ev.pos (decide_eq_true e) (Ev.have (impl_within_eq _ _ _) ?_)
      rw [show decide (HouseOK s ring t c n) = decide (0 ≤ n ∧ n ≤ 1000) from decide_eq_decide.2 ⟨fun z => z.2.2, fun z => ⟨h, (sort_taken h).1 e, z⟩⟩]
      exact Ev.now _
    · rw [decide_eq_false (fun z : HouseOK s ring t c n => e ((sort_taken h).2 z.2.1))]
      exact Ev.neg (by rw [decide_eq_true_eq]; exact e) (Ev.now _)
  · rw [decide_eq_false h, decide_eq_false (fun z : HouseOK s ring t c n => h z.1)]
    exact Ev.neg (by simp) (Ev.now _)

/-! ### place -/
theorem first_at (x : Int) : ∀ c : List Int, x ∈ c → ∃ p, ∃ h : p < c.length, c[p] = x ∧ ∀ j, (hj : j < p) → c[j]'(by omega) ≠ x
  | a :: c, hx => by
    by_cases e : a = x
    · exact ⟨0, by simp, by simpa using e, fun j hj => by omega⟩
    · obtain ⟨p, h, h1, h2⟩ := first_at x c ((List.mem_cons.1 hx).resolve_left fun z => e z.symm)
      refine ⟨p + 1, by simp; omega, by simpa using h1, fun j hj => ?_⟩
      cases j with
      | zero => simpa using e
      | succ j => simpa using h2 j (by omega)
theorem spec_place_ev (c : List Int) (hc : c.length ≤ 1048576) (x : Int) (p : Nat) (hp : p < c.length) (h1 : c[p] = x) (h2 : ∀ j, (hj : j < p) → c[j]'(by omega) ≠ x) : Ev (fun k => spec_l12Place.f k c x) (p : Int) := by
  have main : ∀ d i : Nat, i + d = p → Ev (fun k => spec_l12Place.l0 k c x (i : Int)) (p : Int) := by
    intro d
    induction d with
    | zero =>
      intro i hi
      obtain rfl : i = p := by omega
      refine Ev.succ ?_
      simp only [spec_l12Place.l0]
      rw [rd_get c i hp]
      exact Ev.pos (by omega) (Ev.pos (by omega) (Ev.pos h1 (Ev.now _)))
    | succ d ih =>
      intro i hi
      have go := ih (i + 1) (by omega)
      refine Ev.succ ?_
      simp only [spec_l12Place.l0]
      rw [rd_get c i (by omega), wrap_one (n := c.length) (by omega) (by omega)]
      exact Ev.pos (by omega) (Ev.pos (by omega) (Ev.neg (h2 i (by omega)) go))
  exact main p 0 (by omega)

/-! ### sets -/
/-- A list of numbers as a set of bits. -/
def setN (l : List Int) : Nat := l.foldl (fun s p => s ||| 2 ^ p.toNat) 0
theorem testBit_foldl (l : List Int) : ∀ (s i : Nat), (l.foldl (fun s p => s ||| 2 ^ p.toNat) s).testBit i = (s.testBit i || decide (∃ p ∈ l, p.toNat = i)) := by
  induction l with
  | nil => intro s i; simp
  | cons a l ih =>
    intro s i
    rw [List.foldl_cons, ih, Nat.testBit_or, Nat.testBit_two_pow, Bool.or_assoc]
    congr 1
    rw [Bool.eq_iff_iff]
    simp
theorem testBit_setN (l : List Int) (i : Nat) : (setN l).testBit i = decide (∃ p ∈ l, p.toNat = i) := by
  unfold setN
  rw [testBit_foldl]
  simp
theorem foldl_lt (l : List Int) (n : Nat) (hl : ∀ p ∈ l, p < n) (hn : 0 < n) : ∀ s, s < 2 ^ n → l.foldl (fun s p => s ||| 2 ^ p.toNat) s < 2 ^ n := by
  induction l with
  | nil => intro s h; exact h
  | cons a l ih =>
    intro s h
    rw [List.foldl_cons]
    have := hl a (by simp)
    exact ih (fun p hp => hl p (by simp [hp])) _ (Nat.or_lt_two_pow h (Nat.pow_lt_pow_right (by omega) (by omega)))
theorem setN_lt (l : List Int) (n : Nat) (hl : ∀ p ∈ l, p < n) (hn : 0 < n) : setN l < 2 ^ n := foldl_lt l n hl hn 0 (Nat.two_pow_pos n)
theorem setN_u32 (l : List Int) (hl : ∀ p ∈ l, p < 32) : setN l < 4294967296 := setN_lt l 32 hl (by omega)
theorem or_cast (a b : Nat) (ha : a < 4294967296) (hb : b < 4294967296) : Go.bits .or .u32 (a : Int) (b : Int) = ((a ||| b : Nat) : Int) :=
  (bits_nat .u32 32 (by decide) (fun n h h' => by rw [IntKind.wrap_u32]; omega) a b ha hb).2
theorem and_cast (a b : Nat) (ha : a < 4294967296) (hb : b < 4294967296) : Go.bits .and .u32 (a : Int) (b : Int) = ((a &&& b : Nat) : Int) :=
  (bits_nat .u32 32 (by decide) (fun n h h' => by rw [IntKind.wrap_u32]; omega) a b ha hb).1
theorem shl_one (p : Int) (h0 : 0 ≤ p) (h1 : p < 32) : shl .u32 1 p = ((2 ^ p.toNat : Nat) : Int) := by
  unfold shl
  rw [Int.one_mul, IntKind.wrap_u32, show min p.toNat IntKind.u32.bits = p.toNat from Nat.min_eq_left (by show p.toNat ≤ 32; omega)]
  have : 2 ^ p.toNat < 2 ^ 32 := Nat.pow_lt_pow_right (by omega) (by omega)
  have e : ((2 ^ p.toNat : Nat) : Int) = (2 : Int) ^ p.toNat := by simp
  rw [← e]
  generalize 2 ^ p.toNat = y at *
  omega

/-! ### sets2 -/
/-- The bits of a that b has not. -/
def andN (a b : Nat) : Nat := a ^^^ (a &&& b)
theorem testBit_andN (a b i : Nat) : (andN a b).testBit i = (a.testBit i && !b.testBit i) := by
  unfold andN
  rw [Nat.testBit_xor, Nat.testBit_and]
  cases a.testBit i <;> cases b.testBit i <;> rfl
theorem lt_of_bits (x n : Nat) (h : ∀ i, n ≤ i → x.testBit i = false) : x < 2 ^ n := Nat.lt_pow_two_of_testBit x h
theorem andN_lt (a b n : Nat) (ha : a < 2 ^ n) : andN a b < 2 ^ n := by
  refine lt_of_bits _ n fun i hi => ?_
  rw [testBit_andN, Nat.testBit_lt_two_pow (Nat.lt_of_lt_of_le ha (Nat.pow_le_pow_right (by omega) hi))]
  rfl
theorem andNot_cast (a b : Nat) (ha : a < 4294967296) (hb : b < 4294967296) : Go.bits .andNot .u32 (a : Int) (b : Int) = ((andN a b : Nat) : Int) := by
  have e : (BitVec.ofInt 32 (a : Int) &&& ~~~ BitVec.ofInt 32 (b : Int)).toNat = andN a b := by
    refine Nat.eq_of_testBit_eq fun i => ?_
    rw [testBit_andN, BitVec.ofInt_natCast, BitVec.ofInt_natCast]
    show (BitVec.ofNat 32 a &&& ~~~ BitVec.ofNat 32 b).getLsbD i = _
    rw [BitVec.getLsbD_and, BitVec.getLsbD_not, BitVec.getLsbD_ofNat, BitVec.getLsbD_ofNat]
    by_cases h : i < 32
    · simp [h]
    · have e1 : a.testBit i = false := Nat.testBit_lt_two_pow (Nat.lt_of_lt_of_le (show a < 2 ^ 32 from ha) (Nat.pow_le_pow_right (by omega) (by omega)))
      simp [h, e1]
  have hl := andN_lt a b 32 ha
  show IntKind.u32.wrap (((BitVec.ofInt 32 (a : Int) &&& ~~~ BitVec.ofInt 32 (b : Int)).toNat : Nat) : Int) = _
  rw [e, IntKind.wrap_u32]
  omega
/-- The set of all seats of n. -/
theorem all_cast (s : Int) (h0 : 0 ≤ s) (h1 : s ≤ 31) : (shl .u32 1 s - 1) % 4294967296 = ((2 ^ s.toNat - 1 : Nat) : Int) := by
  rw [shl_one s h0 (by omega)]
  have : 0 < 2 ^ s.toNat := Nat.two_pow_pos _
  have h2 : 2 ^ s.toNat < 2 ^ 32 := Nat.pow_lt_pow_right (by omega) (by omega)
  generalize 2 ^ s.toNat = y at *
  omega
theorem testBit_all (n i : Nat) : (2 ^ n - 1).testBit i = decide (i < n) := Nat.testBit_two_pow_sub_one n i

/-! ### near -/
def gapI (n : Nat) (ring : Bool) (p q : Nat) : Int :=
  if ring = true then (if (if (p : Int) - q > (q : Int) - p then (p : Int) - q else (q : Int) - p) < (n : Int) - (if (p : Int) - q > (q : Int) - p then (p : Int) - q else (q : Int) - p) then (if (p : Int) - q > (q : Int) - p then (p : Int) - q else (q : Int) - p) else (n : Int) - (if (p : Int) - q > (q : Int) - p then (p : Int) - q else (q : Int) - p)) else (if (p : Int) - q > (q : Int) - p then (p : Int) - q else (q : Int) - p)
def nearB (n : Nat) (ring : Bool) (p q : Nat) : Bool := decide (gapI n ring p q = 1)
theorem spec_l2Gap_eq (n : Nat) (ring : Bool) (t : List Int) (p q : Nat) (hn : n ≤ 24) (hp : p < n) (hq : q < n) : spec_l2Gap.f (n : Int) ring t (p : Int) (q : Int) = some (gapI n ring p q) := by
  unfold spec_l2Gap.f gapI
  rw [wrap_id (x := (p : Int) - q) (by omega) (by omega), wrap_id (x := (q : Int) - p) (by omega) (by omega)]
  have e : spec_l1Most.f ((p : Int) - q) ((q : Int) - p) = some (if (p : Int) - q > (q : Int) - p then (p : Int) - q else (q : Int) - p) := by
    unfold spec_l1Most.f
    split <;> rfl
  rw [e, Option.bind_some]
  have hb : 0 ≤ (if (p : Int) - q > (q : Int) - p then (p : Int) - q else (q : Int) - p) ∧ (if (p : Int) - q > (q : Int) - p then (p : Int) - q else (q : Int) - p) ≤ 24 := by split <;> omega
  generalize (if (p : Int) - q > (q : Int) - p then (p : Int) - q else (q : Int) - p) = d at hb ⊢
  rw [wrap_id (by omega) (by omega)]
  cases ring with
  | true =>
    rw [if_pos rfl, if_pos rfl]
    unfold spec_l1Least.f
    split <;> rw [Option.bind_some]
  | false => rw [if_neg (by simp), if_neg (by simp)]
theorem impl_gap_eq (n : Nat) (ring : Bool) (p q : Nat) (hn : n ≤ 24) (hp : p < n) (hq : q < n) : impl_bench_gap.f (n : Int) ring (p : Int) (q : Int) = some (gapI n ring p q) := by
  unfold impl_bench_gap.f gapI
  rw [wrap_id (x := (p : Int) - q) (by omega) (by omega), wrap_id (x := (q : Int) - p) (by omega) (by omega)]
  have e : mx ((p : Int) - q) ((q : Int) - p) = (if (p : Int) - q > (q : Int) - p then (p : Int) - q else (q : Int) - p) := by
    unfold mx
    split <;> split <;> omega
  rw [e]
  have hb : 0 ≤ (if (p : Int) - q > (q : Int) - p then (p : Int) - q else (q : Int) - p) ∧ (if (p : Int) - q > (q : Int) - p then (p : Int) - q else (q : Int) - p) ≤ 24 := by split <;> omega
  generalize (if (p : Int) - q > (q : Int) - p then (p : Int) - q else (q : Int) - p) = d at hb ⊢
  rw [wrap_id (by omega) (by omega)]
  cases ring with
  | true =>
    rw [if_pos rfl, if_pos rfl]
    refine congrArg some ?_
    unfold mn
    split <;> split <;> omega
  | false => rw [if_neg (by simp), if_neg (by simp)]
/-- The numbers below n with a quality, as bits. -/
def bitsN (P : Nat → Bool) : Nat → Nat
  | 0 => 0
  | i + 1 => if P i = true then bitsN P i ||| 2 ^ i else bitsN P i
theorem testBit_bitsN (P : Nat → Bool) : ∀ i q, (bitsN P i).testBit q = (decide (q < i) && P q)
  | 0, q => by simp [bitsN]
  | i + 1, q => by
    rw [bitsN]
    by_cases h : P i = true
    · rw [if_pos h, Nat.testBit_or, testBit_bitsN P i q, Nat.testBit_two_pow]
      by_cases e : i = q
      · subst e; rw [h]; simp
      · rw [decide_eq_false e, Bool.or_false]
        by_cases g : q < i
        · rw [decide_eq_true g, decide_eq_true (show q < i + 1 by omega)]
        · rw [decide_eq_false g, decide_eq_false (show ¬ q < i + 1 by omega)]
    · rw [if_neg h, testBit_bitsN P i q]
      by_cases e : i = q
      · subst e; rw [Bool.eq_false_iff.2 h]; simp
      · by_cases g : q < i
        · rw [decide_eq_true g, decide_eq_true (show q < i + 1 by omega)]
        · rw [decide_eq_false g, decide_eq_false (show ¬ q < i + 1 by omega)]
theorem bitsN_lt (P : Nat → Bool) (i : Nat) (hi : i ≤ 32) : bitsN P i < 4294967296 := show bitsN P i < 2 ^ 32 from lt_of_bits _ 32 fun q hq => by
  rw [testBit_bitsN, decide_eq_false (by omega)]
  rfl
def castL (l : List Nat) : List Int := l.map fun i : Nat => (i : Int)
def listN (P : Nat → Bool) (i : Nat) : List Int := castL ((List.range i).filter P)
theorem listN_succ (P : Nat → Bool) (i : Nat) : listN P (i + 1) = if P i = true then listN P i ++ [(i : Int)] else listN P i := by
  unfold listN castL
  rw [List.range_succ, List.filter_append]
  by_cases h : P i = true
  · rw [if_pos h]; simp [h]
  · rw [if_neg h]; simp [h]
theorem listN_len (P : Nat → Bool) (i : Nat) : (listN P i).length ≤ i := by
  unfold listN castL
  rw [List.length_map]
  exact Nat.le_trans (List.length_filter_le _ _) (by simp)
theorem mem_listN (P : Nat → Bool) (i : Nat) (x : Int) : x ∈ listN P i ↔ ∃ q : Nat, q < i ∧ P q = true ∧ x = q := by
  unfold listN castL
  rw [List.mem_map]
  constructor
  · rintro ⟨q, hq, rfl⟩
    have := List.mem_filter.1 hq
    exact ⟨q, List.mem_range.1 this.1, this.2, rfl⟩
  · rintro ⟨q, h1, h2, rfl⟩
    exact ⟨q, List.mem_filter.2 ⟨List.mem_range.2 h1, h2⟩, rfl⟩
section
variable {n : Nat} {ring : Bool} (h24 : n ≤ 24)
include h24
theorem impl_near_ev (p : Nat) (hp : p < n) : Ev (fun k => impl_bench_near.f k n ring p) ((bitsN (nearB n ring p) n : Nat) : Int) := by
  have main : ∀ d i, i + d = n → Ev (fun k => impl_bench_near.l0 k p ((bitsN (nearB n ring p) i : Nat) : Int) n i n ring) ((bitsN (nearB n ring p) n : Nat) : Int) := by
    intro d
    induction d with
    | zero =>
      intro i hi
      have : i = n := by omega
      subst this
      refine Ev.succ ?_
      simp only [impl_bench_near.l0]
      exact Ev.neg (by omega) (Ev.now _)
    | succ d ih =>
      intro i hi
      have go := ih (i + 1) (by omega)
      rw [bitsN] at go
      refine Ev.succ ?_
      simp only [impl_bench_near.l0]
      refine Ev.pos (by omega) (Ev.have (impl_gap_eq n ring p i h24 hp (by omega)) ?_)
      rw [wrap_one (n := 100) (by omega) (by omega)]
      by_cases g : gapI n ring p i = 1
      · have hP : nearB n ring p i = true := decide_eq_true g
        rw [if_pos hP] at go
        have h2 : 2 ^ i < 2 ^ 32 := Nat.pow_lt_pow_right (by omega) (by omega)
        refine Ev.pos g (Ev.pos (by omega) ?_)
        rw [shl_one _ (by omega) (by omega), Int.toNat_natCast, or_cast _ _ (bitsN_lt _ _ (by omega)) (by omega)]
        exact go
      · have hP : ¬ nearB n ring p i = true := by unfold nearB; simpa using g
        rw [if_neg hP] at go
        exact Ev.neg g go
  exact main n 0 (by omega)
theorem spec_near_ev (t : List Int) (p : Nat) (hp : p < n) : Ev (fun k => spec_l2Near.f k n ring t p) (listN (nearB n ring p) n) := by
  have main : ∀ d i, i + d = n → Ev (fun k => spec_l2Near.l0 k p (listN (nearB n ring p) i) i n ring t) (listN (nearB n ring p) n) := by
    intro d
    induction d with
    | zero =>
      intro i hi
      have : i = n := by omega
      subst this
      refine Ev.succ ?_
      simp only [spec_l2Near.l0]
      exact Ev.neg (by omega) (Ev.now _)
    | succ d ih =>
      intro i hi
      have go := ih (i + 1) (by omega)
      have hl := listN_len (nearB n ring p) i
      rw [listN_succ] at go
      refine Ev.succ ?_
      simp only [spec_l2Near.l0]
      refine Ev.pos (by omega) (Ev.have (spec_l2Gap_eq n ring t p i h24 hp (by omega)) ?_)
      rw [wrap_one (n := 100) (by omega) (by omega)]
      by_cases g : gapI n ring p i = 1
      · have hP : nearB n ring p i = true := decide_eq_true g
        rw [if_pos hP] at go
        exact Ev.pos g (Ev.pos (by omega) go)
      · have hP : ¬ nearB n ring p i = true := by unfold nearB; simpa using g
        rw [if_neg hP] at go
        exact Ev.neg g go
  exact main n 0 (by omega)
end

/-! ### setlist -/
/-- The lowest member of a set of bits. -/
theorem ctz_lowest (s a : Nat) (ha : s.testBit a = true) (hl : ∀ j, j < a → s.testBit j = false) (h : s < 2 ^ 32) : Lib.ctz 32 s = a := by
  have h0 : s ≠ 0 := fun e => by rw [e] at ha; simp at ha
  unfold Lib.ctz
  rw [if_neg h0]
  obtain ⟨m, hm, hf⟩ := Lib.ctzFrom_spec 32 s (by omega) h
  generalize Lib.ctzFrom 32 s = c at hm hf
  rcases Nat.lt_trichotomy c a with g | g | g
  · have := hl c g
    rw [hm, Nat.testBit_two_pow_mul] at this
    simp at this
  · exact g
  · rw [hm, Nat.testBit_two_pow_mul] at ha
    simp at ha
    omega
/-- A set without its lowest member. -/
theorem and_pred (q a : Nat) : (2 ^ (a + 1) * q + 2 ^ a) &&& (2 ^ (a + 1) * q + 2 ^ a - 1) = 2 ^ (a + 1) * q := by
  have p : 0 < 2 ^ a := Nat.two_pow_pos a
  have l1 : 2 ^ a < 2 ^ (a + 1) := Nat.pow_lt_pow_right (by omega) (by omega)
  refine Nat.eq_of_testBit_eq fun j => ?_
  rw [show 2 ^ (a + 1) * q + 2 ^ a - 1 = 2 ^ (a + 1) * q + (2 ^ a - 1) from by omega, Nat.testBit_and, Nat.testBit_two_pow_mul_add q l1 j, Nat.testBit_two_pow_mul_add q (show 2 ^ a - 1 < 2 ^ (a + 1) by omega) j, Nat.testBit_two_pow_mul]
  by_cases g : j < a + 1
  · rw [if_pos g, if_pos g, decide_eq_false (by omega : ¬ a + 1 ≤ j), Bool.false_and, Nat.testBit_two_pow, Nat.testBit_two_pow_sub_one]
    by_cases e : a = j
    · subst e; simp
    · simp [e]
  · rw [if_neg g, if_neg g, decide_eq_true (by omega : a + 1 ≤ j), Bool.true_and, Bool.and_self]
theorem setN_cons (a : Int) (L : List Int) : setN (a :: L) = 2 ^ a.toNat ||| setN L := by
  refine Nat.eq_of_testBit_eq fun j => ?_
  rw [testBit_setN, Nat.testBit_or, Nat.testBit_two_pow, testBit_setN, Bool.eq_iff_iff]
  simp
theorem setN_split (a : Nat) (L : List Int) (hL : ∀ x ∈ L, (a : Int) < x) : ∃ q, setN L = 2 ^ (a + 1) * q ∧ setN ((a : Int) :: L) = 2 ^ (a + 1) * q + 2 ^ a := by
  have e : setN L = 2 ^ (a + 1) * (setN L / 2 ^ (a + 1)) := by
    have hz : setN L % 2 ^ (a + 1) = 0 := by
      refine Nat.eq_of_testBit_eq fun j => ?_
      rw [Nat.testBit_mod_two_pow, testBit_setN]
      by_cases g : j < a + 1
      · have : ¬ ∃ p ∈ L, p.toNat = j := fun ⟨p, hp, e⟩ => by have := hL p hp; omega
        rw [decide_eq_false this]
        simp
      · rw [decide_eq_false g]
        simp
    have := Nat.mod_add_div (setN L) (2 ^ (a + 1))
    omega
  refine ⟨setN L / 2 ^ (a + 1), e, ?_⟩
  have l1 : 2 ^ a < 2 ^ (a + 1) := Nat.pow_lt_pow_right (by omega) (by omega)
  rw [setN_cons, Int.toNat_natCast]
  generalize setN L / 2 ^ (a + 1) = q at e
  rw [e, Nat.or_comm, Nat.two_pow_add_eq_or_of_lt l1]
theorem set_list_l0 (L : List Int) : ∀ (out : List Int) (k : Nat), L.Pairwise (· < ·) → (∀ x ∈ L, 0 ≤ x ∧ x < 32) → out.length + L.length ≤ 1000 → L.length < k → impl_set_list.l0 k ((setN L : Nat) : Int) out = some (out ++ L) := by
  induction L with
  | nil =>
    intro out k _ _ _ hk
    obtain ⟨k, rfl, _⟩ := fuel hk
    simp only [impl_set_list.l0]
    rw [if_pos (show ((setN [] : Nat) : Int) = 0 from rfl), List.append_nil]
  | cons b L ih =>
    intro out k hp hb ho hk
    obtain ⟨k, rfl, hk'⟩ := fuel hk
    rw [List.length_cons] at ho hk'
    obtain ⟨h1, h2⟩ := List.pairwise_cons.1 hp
    have hb0 := hb b List.mem_cons_self
    obtain ⟨a, rfl⟩ : ∃ a : Nat, b = a := ⟨b.toNat, by omega⟩
    obtain ⟨q, e1, e2⟩ := setN_split a L h1
    have hlt : setN ((a : Int) :: L) < 4294967296 := setN_u32 _ fun p hp => (hb p hp).2
    have hlt2 : setN L < 4294967296 := setN_u32 _ fun p hp => (hb p (List.mem_cons_of_mem _ hp)).2
    have pa : 0 < 2 ^ a := Nat.two_pow_pos a
    have hctz : Lib.ctz 32 (setN ((a : Int) :: L)) = a := by
      refine ctz_lowest _ a ?_ (fun j hj => ?_) hlt
      · rw [testBit_setN]
        exact decide_eq_true ⟨a, List.mem_cons_self, Int.toNat_natCast a⟩
      · rw [testBit_setN]
        refine decide_eq_false fun ⟨p, hp, e⟩ => ?_
        rcases List.mem_cons.1 hp with g | g
        · omega
        · have := h1 p g; omega
    simp only [impl_set_list.l0]
    rw [if_neg (by omega)]
    have ef : bits_TrailingZeros32.f ((setN ((a : Int) :: L) : Nat) : Int) = some (a : Int) := by
      unfold bits_TrailingZeros32.f
      rw [if_pos (by omega), Int.toNat_natCast, hctz]
    rw [ef, Option.bind_some, if_pos (by omega)]
    have em : (((setN ((a : Int) :: L) : Nat) : Int) - 1) % 4294967296 = ((setN ((a : Int) :: L) - 1 : Nat) : Int) := by omega
    rw [em, and_cast _ _ hlt (by omega), e2, and_pred, ← e1, ih (out ++ [(a : Int)]) k h2 (fun x hx => hb x (List.mem_cons_of_mem _ hx)) (by simp; omega) (by omega), List.append_assoc]
    rfl
theorem set_list_ev (L : List Int) (hp : L.Pairwise (· < ·)) (hb : ∀ x ∈ L, 0 ≤ x ∧ x < 32) (hl : L.length ≤ 100) : Ev (fun k => impl_set_list.f k ((setN L : Nat) : Int)) L := by
  refine Ev.bound L.length fun k hk => ?_
  unfold impl_set_list.f
  have := set_list_l0 L [] k hp hb (by simp; omega) hk
  rwa [List.nil_append] at this

/-! ### isin -/
theorem spec_l2Is_ev (s : Int) (ring : Bool) (t : List Int) (p : Int) (ht : t.length ≤ 1048576) : Ev (fun k => spec_l2Is.f k s ring t p) (decide (p ∈ t)) :=
  Ev.bound t.length fun k hk => by
    unfold spec_l2Is.f
    rw [spec_l1Has_eq t p ht k hk, Option.bind_some]

/-! ### impl_setOf -/
theorem impl_setOf_l0 (l : List Int) (hl : l.length ≤ 1048576) (hb : ∀ x ∈ l, 0 ≤ x ∧ x < 32) (d : Nat) : ∀ (k i s : Nat), s < 4294967296 → i ≤ l.length → l.length - i = d → d < k →
    impl_setOf.l0 k (s : Int) l (l.length : Int) i = some (((l.drop i).foldl (fun s p => s ||| 2 ^ p.toNat) s : Nat) : Int) := by
  induction d with
  | zero =>
    intro k i s hs hi hd hk
    obtain ⟨k, rfl, _⟩ := fuel hk
    simp only [impl_setOf.l0]
    rw [if_neg (by omega), List.drop_eq_nil_of_le (by omega)]
    rfl
  | succ d ih =>
    intro k i s hs hi hd hk
    obtain ⟨k, rfl, _⟩ := fuel hk
    obtain ⟨b0, b1⟩ := hb (l[i]'(by omega)) (List.getElem_mem _)
    have hp : 2 ^ (l[i]'(by omega)).toNat < 2 ^ 32 := Nat.pow_lt_pow_right (by omega) (by omega)
    simp only [impl_setOf.l0]
    rw [if_pos (by omega), if_pos (by omega), if_pos (by omega), wrap_one (n := l.length) (by omega) (by omega), rd_get l i (by omega), if_pos b0, shl_one _ b0 b1, or_cast _ _ hs hp]
    rw [ih k (i + 1) _ (Nat.or_lt_two_pow (n := 32) hs hp) (by omega) (by omega) (by omega), List.drop_eq_getElem_cons (l := l) (i := i) (by omega)]
    rfl
theorem impl_setOf_eq (l : List Int) (hl : l.length ≤ 1048576) (hb : ∀ x ∈ l, 0 ≤ x ∧ x < 32) (k : Nat) (hk : l.length < k) : impl_setOf.f k l = some ((setN l : Nat) : Int) :=
  impl_setOf_l0 l hl hb l.length k 0 0 (by omega) (by omega) (by omega) hk

/-! ### crowded -/
theorem near_self (n : Nat) (ring : Bool) (p : Nat) (hn : 0 < n) : nearB n ring p p = false := by
  unfold nearB gapI
  simp
  try omega
open Classical in
/-- A guest whose neighbor came later. -/
noncomputable def crB (n : Nat) (ring : Bool) (c : List Int) (p : Int) : Bool := decide (∃ a b : Nat, ∃ (h : b < c.length) (g : a < b), c[a]'(by omega) = p ∧ nearB n ring p.toNat (c[b]).toNat = true)
open Classical in
theorem crB_iff (n : Nat) (ring : Bool) (c : List Int) (p : Int) : crB n ring c p = true ↔ ∃ a b : Nat, ∃ (h : b < c.length) (g : a < b), c[a]'(by omega) = p ∧ nearB n ring p.toNat (c[b]).toNat = true := by
  unfold crB
  exact decide_eq_true_iff
section
variable {n : Nat} {ring : Bool} {t c : List Int} (h2 : 2 ≤ n) (h24 : n ≤ 24) (hR : RowOK n ring t) (hp : c.Perm t) (m : Int)
include h2 h24 hR hp
omit h2 h24 in
theorem came_nodup : c.Nodup := hp.nodup_iff.2 (rising_nodup t _ _ hR.2.2)
omit h2 h24 in
theorem came_range : ∀ x ∈ c, 0 ≤ x ∧ x < n := fun x hx => by
  have := rising_mem t _ _ hR.2.2 x (hp.mem_iff.1 hx)
  omega
omit h2 h24 in
theorem came_at (i j : Nat) (hi : i < c.length) (hj : j < c.length) (e : c[i] = c[j]) : i = j := by
  have hn := List.pairwise_iff_getElem.1 (came_nodup hR hp)
  rcases Nat.lt_trichotomy i j with g | g | g
  · exact absurd e (hn i j hi hj g)
  · exact g
  · exact absurd e.symm (hn j i hj hi g)
omit h2 h24 in
theorem came_place (a : Nat) (ha : a < c.length) (hc : c.length ≤ 1048576) : Ev (fun k => spec_l12Place.f k c (c[a])) (a : Int) :=
  spec_place_ev c hc _ a ha rfl fun j hj e => by have := came_at hR hp j a (by omega) ha e; omega
omit h2 h24 in
theorem crowd_near (hc : c.length ≤ 1000) (out : List Int) (i : Nat) (a : Nat) (ha : a < c.length) (r : List Int) (F : Bool) (ho : out.length ≤ 1000) (hi : i ≤ 1000)
    (hcont : Ev (fun k => spec_l12Crowded.l0 k (if F = true then out ++ [c[a]] else out) ((i + 1 : Nat) : Int) n ring t c m) r) (near : List Int) (hl : near.length ≤ 100) (d : Nat) : ∀ (j : Nat) (b : Bool), j + d = near.length →
    (b = true ∨ ∃ e : Nat, ∃ (h : e < c.length), a < e ∧ c[e] ∈ near.drop j) = (F = true) → Ev (fun k => spec_l12Crowded.l1 k out (i : Int) (c[a]) near b (j : Int) n ring t c m) r := by
  have hlen := hp.length_eq
  have ht := row_len _ ring t hR
  induction d with
  | zero =>
    intro j b hj hF
    rw [List.drop_eq_nil_of_le (by omega)] at hF
    have hF : (b = true) = (F = true) := by rw [← hF]; simp
    refine Ev.succ ?_
    simp only [spec_l12Crowded.l1]
    refine Ev.neg (by omega) ?_
    rw [wrap_one (n := 2000) (by omega) (by omega)]
    by_cases hb : b = true
    · rw [if_pos (hF ▸ hb)] at hcont
      exact Ev.pos hb (Ev.pos (by omega) hcont)
    · rw [if_neg (hF ▸ hb)] at hcont
      exact Ev.neg hb hcont
  | succ d ih =>
    intro j b hj hF
    rw [List.drop_eq_getElem_cons (show j < near.length by omega)] at hF
    refine Ev.succ ?_
    simp only [spec_l12Crowded.l1]
    rw [rd_get near j (by omega), wrap_one (n := 2000) (by omega) (by omega)]
    refine Ev.pos (by omega) (Ev.pos (by omega) (Ev.bind (spec_l2Is_ev _ ring t _ (by omega)) ?_))
    have step : ∀ b' : Bool, (b' = true ↔ (b = true ∨ ∃ e : Nat, ∃ (h : e < c.length), a < e ∧ c[e] = near[j]'(by omega))) → Ev (fun k => spec_l12Crowded.l1 k out (i : Int) (c[a]) near b' ((j + 1 : Nat) : Int) n ring t c m) r := fun b' hb' => by
      refine ih (j + 1) b' (by omega) ?_
      rw [← hF]
      refine propext ⟨fun z => ?_, fun z => ?_⟩
      · rcases z with z | ⟨e, h, g, z⟩
        · rcases hb'.1 z with z | ⟨e, h, g, z⟩
          · exact .inl z
          · exact .inr ⟨e, h, g, z ▸ List.mem_cons_self⟩
        · exact .inr ⟨e, h, g, List.mem_cons_of_mem _ z⟩
      · rcases z with z | ⟨e, h, g, z⟩
        · exact .inl (hb'.2 (.inl z))
        · rcases List.mem_cons.1 z with y | y
          · exact .inl (hb'.2 (.inr ⟨e, h, g, y⟩))
          · exact .inr ⟨e, h, g, y⟩
    by_cases hin : near[j]'(by omega) ∈ t
    · obtain ⟨e, he, e1⟩ := List.getElem_of_mem (hp.mem_iff.2 hin)
      have p1 := came_place hR hp e he (by omega)
      rw [e1] at p1
      refine Ev.pos (decide_eq_true hin) (Ev.bind p1 (Ev.bind (came_place hR hp a ha (by omega)) ?_))
      by_cases g : a < e
      · exact Ev.pos (by omega) (step true ⟨fun _ => .inr ⟨e, he, g, e1⟩, fun _ => rfl⟩)
      · refine Ev.neg (by omega) (step b ⟨.inl, fun z => ?_⟩)
        rcases z with z | ⟨e', he', g', z⟩
        · exact z
        · have := came_at hR hp e e' he he' (e1.trans z.symm)
          omega
    · refine Ev.neg (by rw [decide_eq_true_eq]; exact hin) (step b ⟨.inl, fun z => ?_⟩)
      rcases z with z | ⟨e', he', g', z⟩
      · exact z
      · exact absurd (hp.mem_iff.1 (z ▸ List.getElem_mem he')) hin
theorem spec_crowded_ev : Ev (fun k => spec_l12Crowded.f k n ring t c m) (t.filter (crB n ring c)) := by
  have hlen := hp.length_eq
  have ht := row_len _ ring t hR
  have main : ∀ d i : Nat, i + d = t.length → ∀ out : List Int, out = (t.take i).filter (crB n ring c) → Ev (fun k => spec_l12Crowded.l0 k out (i : Int) n ring t c m) (t.filter (crB n ring c)) := by
    intro d
    induction d with
    | zero =>
      intro i hi out ho
      refine Ev.succ ?_
      simp only [spec_l12Crowded.l0]
      rw [ho, List.take_of_length_le (by omega)]
      exact Ev.neg (by omega) (Ev.now _)
    | succ d ih =>
      intro i hi out ho
      have hti := rising_mem t _ _ hR.2.2 (t[i]'(by omega)) (List.getElem_mem _)
      obtain ⟨a, ha, ea⟩ := List.getElem_of_mem (hp.mem_iff.2 (List.getElem_mem (show i < t.length by omega)))
      obtain ⟨p, hpn⟩ : ∃ p : Nat, t[i]'(by omega) = p := ⟨(t[i]'(by omega)).toNat, by omega⟩
      have hpl : p < n := by omega
      have hol : out.length ≤ 1000 := by rw [ho]; exact Nat.le_trans (List.length_filter_le _ _) (by simp; omega)
      refine Ev.succ ?_
      simp only [spec_l12Crowded.l0]
      rw [rd_get t i (by omega), hpn]
      refine Ev.pos (by omega) (Ev.pos (by omega) (Ev.bind (spec_near_ev h24 t p hpl) ?_))
      have hnl := listN_len (nearB n ring p) n
      rw [← hpn, ← ea]
      refine crowd_near hR hp m (by omega) out i a ha _ (crB n ring c (c[a])) hol (by omega) ?_ _ (by omega) (listN (nearB n ring p) n).length 0 false (by omega) ?_
      · refine ih (i + 1) (by omega) _ ?_
        rw [List.take_add_one, List.getElem?_eq_getElem (by omega), Option.toList_some, List.filter_append, ← ho, ea]
        by_cases z : crB n ring c (t[i]'(by omega)) = true
        · rw [if_pos z, List.filter_cons_of_pos z, List.filter_nil]
        · rw [if_neg z, List.filter_cons_of_neg z, List.filter_nil, List.append_nil]
      · rw [List.drop_zero]
        rw [crB_iff]
        refine propext ⟨fun z => ?_, fun ⟨a', b, hb, g, z1, z2⟩ => ?_⟩
        · rcases z with z | ⟨e, he, g, z⟩
          · cases z
          · obtain ⟨q, hq, hq2, hq3⟩ := (mem_listN _ _ _).1 z
            refine ⟨a, e, he, g, rfl, ?_⟩
            rw [hq3, ea, hpn, Int.toNat_natCast, Int.toNat_natCast]
            exact hq2
        · have e1 := came_at hR hp a' a (by omega) ha z1
          subst e1
          have hr := came_range hR hp _ (List.getElem_mem hb)
          refine .inr ⟨b, hb, g, (mem_listN _ _ _).2 ⟨(c[b]).toNat, by omega, ?_, by omega⟩⟩
          rw [ea, hpn, Int.toNat_natCast] at z2
          exact z2
  exact main t.length 0 (by omega) [] (by simp)
theorem impl_crowded_ev : Ev (fun k => impl_CrowdedGuests.l0 k 0 c (c.length : Int) 0 n ring t c m) (t.filter (crB n ring c), true) := by
  have hlen := hp.length_eq
  have ht := row_len _ ring t hR
  have hcr := came_range hR hp
  have htr : ∀ x ∈ t, 0 ≤ x ∧ x < 32 := fun x hx => by have := hcr x (hp.mem_iff.2 hx); omega
  have hfl : ∀ x ∈ t.filter (crB n ring c), 0 ≤ x ∧ x < 32 := fun x hx => htr x (List.mem_filter.1 hx).1
  have main : ∀ d i : Nat, i + d = c.length → ∀ S : Nat, S < 4294967296 → (∀ q, S.testBit q = decide (∃ j : Nat, ∃ h : j < c.length, j < i ∧ (c[j]).toNat = q ∧ crB n ring c (c[j]) = true)) → Ev (fun k => impl_CrowdedGuests.l0 k (S : Int) c (c.length : Int) (i : Int) n ring t c m) (t.filter (crB n ring c), true) := by
    intro d
    induction d with
    | zero =>
      intro i hi S hS hb
      refine Ev.succ ?_
      simp only [impl_CrowdedGuests.l0]
      have e : S = setN (t.filter (crB n ring c)) := by
        refine Nat.eq_of_testBit_eq fun q => ?_
        rw [hb, testBit_setN]
        refine decide_eq_decide.2 ?_
        constructor
        · rintro ⟨j, h, _, e1, e2⟩
          exact ⟨c[j], List.mem_filter.2 ⟨hp.mem_iff.1 (List.getElem_mem h), e2⟩, e1⟩
        · rintro ⟨x, hx, e1⟩
          obtain ⟨hx1, hx2⟩ := List.mem_filter.1 hx
          obtain ⟨j, hj, e2⟩ := List.getElem_of_mem (hp.mem_iff.2 hx1)
          exact ⟨j, hj, by omega, by rw [e2]; exact e1, by rw [e2]; exact hx2⟩
      rw [e]
      refine Ev.neg (by omega) (Ev.bind (set_list_ev _ ?_ hfl ?_) (Ev.now _))
      · exact List.Pairwise.filter _ (List.pairwise_iff_getElem.2 fun i j hi hj hij => rising_lt t _ _ hR.2.2 i j hij hj)
      · exact Nat.le_trans (List.length_filter_le _ _) (by omega)
    | succ d ih =>
      intro i hi S hS hb
      have hci := hcr _ (List.getElem_mem (show i < c.length by omega))
      obtain ⟨p, hpn⟩ : ∃ p : Nat, c[i]'(by omega) = p := ⟨(c[i]'(by omega)).toNat, by omega⟩
      have hpl : p < n := by omega
      have hnb := bitsN_lt (nearB n ring p) n (by omega)
      have hdr : ∀ x ∈ c.drop i, 0 ≤ x ∧ x < 32 := fun x hx => by have := hcr x (List.mem_of_mem_drop hx); omega
      have hsl := setN_u32 (c.drop i) fun x hx => (hdr x hx).2
      have so : Ev (fun k => impl_setOf.f k (c.drop i)) ((setN (c.drop i) : Nat) : Int) := Ev.bound (c.drop i).length fun k hk => impl_setOf_eq _ (by simp; omega) hdr k hk
      have key : crB n ring c (c[i]'(by omega)) = true ↔ bitsN (nearB n ring p) n &&& setN (c.drop i) ≠ 0 := by
        have hz : (bitsN (nearB n ring p) n &&& setN (c.drop i) = 0) ↔ ∀ q, ¬ ((bitsN (nearB n ring p) n).testBit q = true ∧ (setN (c.drop i)).testBit q = true) := by
          constructor
          · intro z q ⟨h1, h2⟩
            have := congrArg (fun x => x.testBit q) z
            simp [Nat.testBit_and, h1, h2] at this
          · intro z
            refine Nat.eq_of_testBit_eq fun q => ?_
            rw [Nat.testBit_and, Nat.zero_testBit]
            have := z q
            cases h1 : (bitsN (nearB n ring p) n).testBit q <;> cases h2 : (setN (c.drop i)).testBit q <;> simp_all
        rw [crB_iff, ne_eq, hz]
        constructor
        · rintro ⟨a, b, hbl, g, z1, z2⟩ hno
          have := came_at hR hp a i (by omega) (by omega) z1
          subst this
          have hr := hcr _ (List.getElem_mem hbl)
          refine hno (c[b]).toNat ⟨?_, ?_⟩
          · rw [testBit_bitsN, decide_eq_true (by omega), Bool.true_and]
            rw [hpn, Int.toNat_natCast] at z2
            exact z2
          · rw [testBit_setN]
            refine decide_eq_true ⟨c[b], ?_, rfl⟩
            have := List.getElem_mem (l := c.drop a) (n := b - a) (by simp; omega)
            rw [List.getElem_drop] at this
            simpa only [show a + (b - a) = b from by omega] using this
        · intro hno
          refine Classical.byContradiction fun hcon => hno fun q ⟨h1, h3⟩ => hcon ?_
          rw [testBit_bitsN] at h1
          rw [testBit_setN, decide_eq_true_eq] at h3
          obtain ⟨x, hx, e1⟩ := h3
          obtain ⟨k, hk, e2⟩ := List.getElem_of_mem hx
          rw [List.getElem_drop] at e2
          simp only [List.length_drop] at hk
          have hnb : nearB n ring p q = true := (Bool.and_eq_true_iff.1 h1).2
          have hk0 : k ≠ 0 := fun e0 => by
            subst e0
            have : c[i]'(by omega) = x := by simpa using e2
            rw [hpn] at this
            rw [← e1, ← this, Int.toNat_natCast, near_self n ring p (by omega)] at hnb
            cases hnb
          refine ⟨i, i + k, by omega, by omega, rfl, ?_⟩
          rw [e2, e1, hpn, Int.toNat_natCast]
          exact hnb
      refine Ev.succ ?_
      simp only [impl_CrowdedGuests.l0]
      rw [rd_get c i (by omega), hpn, wrap_one (n := 2000) (by omega) (by omega), Int.toNat_natCast]
      refine Ev.pos (by omega) (Ev.pos (by omega) (Ev.pos (by omega) (Ev.have rfl (Ev.bind (impl_near_ev h24 p hpl) (Ev.pos (by omega) (Ev.bind so ?_))))))
      rw [and_cast _ _ hnb hsl]
      have next : ∀ (S' : Nat), S' < 4294967296 → (∀ q, S'.testBit q = (S.testBit q || (decide (p = q) && crB n ring c (c[i]'(by omega))))) → Ev (fun k => impl_CrowdedGuests.l0 k (S' : Int) c (c.length : Int) ((i + 1 : Nat) : Int) n ring t c m) (t.filter (crB n ring c), true) := fun S' hS' hb' => by
        refine ih (i + 1) (by omega) S' hS' fun q => ?_
        rw [hb', hb, Bool.eq_iff_iff]
        simp only [Bool.or_eq_true, Bool.and_eq_true, decide_eq_true_eq]
        constructor
        · rintro (⟨j, h, g, e1, e2⟩ | ⟨e1, e2⟩)
          · exact ⟨j, h, by omega, e1, e2⟩
          · exact ⟨i, by omega, by omega, by rw [hpn, Int.toNat_natCast]; exact e1, e2⟩
        · rintro ⟨j, h, g, e1, e2⟩
          by_cases z : j = i
          · subst z
            rw [hpn, Int.toNat_natCast] at e1
            exact .inr ⟨e1, e2⟩
          · exact .inl ⟨j, h, by omega, e1, e2⟩
      by_cases z : crB n ring c (c[i]'(by omega)) = true
      · have hz := key.1 z
        have p2 : 2 ^ p < 2 ^ 32 := Nat.pow_lt_pow_right (by omega) (by omega)
        rw [shl_one _ (by omega) (by omega), Int.toNat_natCast, or_cast _ _ hS (by omega)]
        refine Ev.neg (by omega) (Ev.pos (by omega) (next _ (Nat.or_lt_two_pow hS p2) fun q => ?_))
        rw [Nat.testBit_or, Nat.testBit_two_pow, z, Bool.and_true]
      · have hz : bitsN (nearB n ring p) n &&& setN (c.drop i) = 0 := Classical.byContradiction fun e => z (key.2 e)
        refine Ev.pos (by omega) (next S hS fun q => ?_)
        rw [Bool.eq_false_iff.2 z, Bool.and_false, Bool.or_false]
  exact main c.length 0 (by omega) 0 (by omega) (fun q => by simp)
end

/-! ### laws_toIntS -/
theorem laws_toIntS_l0 (l : List Int) (hl : l.length ≤ 1048576) (d : Nat) : ∀ (k i : Nat) (x : List Int), x.length = l.length → i ≤ l.length → l.length - i = d → d < k → (∀ j (h : j < i) (h' : j < x.length) (h'' : j < l.length), x[j] = l[j]) → laws_toIntS.l0 k l x i = some l := by
  induction d with
  | zero =>
    intro k i x hx hi hd hk hp
    obtain ⟨k, rfl, _⟩ := fuel hk
    simp only [laws_toIntS.l0]
    rw [if_neg (by omega)]
    refine congrArg some ?_
    apply List.ext_getElem hx
    intro j h1 h2
    exact hp j (by omega) h1 h2
  | succ d ih =>
    intro k i x hx hi hd hk hp
    obtain ⟨k, rfl, _⟩ := fuel hk
    simp only [laws_toIntS.l0]
    rw [if_pos (by omega), if_pos (by omega), if_pos (by omega), wrap_one (n := l.length) (by omega) (by omega)]
    rw [rd_get l i (by omega), Int.toNat_natCast, ih k (i + 1) _ (by simp [hx]) (by omega) (by omega) (by omega)]
    intro j h h' h''
    rw [List.getElem_set]
    split
    · rename_i e
      subst e
      rfl
    · rename_i e
      exact hp j (by omega) (by simpa using h') h''
theorem laws_toIntS_eq (l : List Int) (hl : l.length ≤ 1048576) (k : Nat) (hk : l.length < k) : laws_toIntS.f k l = some l := by
  unfold laws_toIntS.f
  rw [if_pos (by omega), if_pos (by omega)]
  exact laws_toIntS_l0 l hl l.length k 0 _ (by simp) (by omega) (by omega) hk (fun j h => by omega)

/-! ### laws_eqIntS -/
theorem laws_eqIntS_l0 (a b : List Int) (hl : a.length ≤ 1048576) (he : a.length = b.length) (d : Nat) : ∀ (k i : Nat), i ≤ a.length → a.length - i = d → d < k → laws_eqIntS.l0 k a b i = some (decide (a.drop i = b.drop i)) := by
  induction d with
  | zero =>
    intro k i hi hd hk
    obtain ⟨k, rfl, _⟩ := fuel hk
    simp only [laws_eqIntS.l0]
    rw [if_neg (by omega), List.drop_eq_nil_of_le (by omega), List.drop_eq_nil_of_le (by omega)]
    simp
  | succ d ih =>
    intro k i hi hd hk
    obtain ⟨k, rfl, _⟩ := fuel hk
    simp only [laws_eqIntS.l0]
    rw [if_pos (by omega), if_pos (by omega), if_pos (by omega), wrap_one (n := a.length) (by omega) (by omega), rd_get a i (by omega), rd_get b i (by omega), ih k (i + 1) (by omega) (by omega) (by omega)]
    rw [List.drop_eq_getElem_cons (l := a) (i := i) (by omega), List.drop_eq_getElem_cons (l := b) (i := i) (by omega)]
    by_cases h : a[i]'(by omega) = b[i]'(by omega)
    · rw [if_pos h]
      refine congrArg some ?_
      rw [decide_eq_decide, List.cons.injEq]
      exact ⟨fun e => ⟨h, e⟩, fun e => e.2⟩
    · rw [if_neg h]
      refine congrArg some ?_
      symm
      rw [decide_eq_false_iff_not, List.cons.injEq]
      exact fun e => h e.1
theorem laws_eqIntS_eq (a b : List Int) (hl : a.length ≤ 1048576) (k : Nat) (hk : a.length < k) : laws_eqIntS.f k a b = some (decide (a = b)) := by
  unfold laws_eqIntS.f
  by_cases h : a.length = b.length
  · rw [if_pos (by omega)]
    have := laws_eqIntS_l0 a b hl h a.length k 0 (by omega) (by omega) hk
    simpa using this
  · rw [if_neg (by omega)]
    refine congrArg some ?_
    symm
    rw [decide_eq_false_iff_not]
    intro e
    exact h (by rw [e])
theorem laws_eqIntS_self (a : List Int) (hl : a.length ≤ 1048576) (k : Nat) (hk : a.length < k) : laws_eqIntS.f k a a = some true := by
  rw [laws_eqIntS_eq a a hl k hk]
  simp

/-! ### ev_laws -/
theorem laws_toIntS_ev (l : List Int) (hl : l.length ≤ 1048576) : Ev (fun k => laws_toIntS.f k l) l := Ev.bound l.length fun k hk => laws_toIntS_eq l hl k hk
theorem laws_eqIntS_ev (l : List Int) (hl : l.length ≤ 1048576) : Ev (fun k => laws_eqIntS.f k l l) true := Ev.bound l.length fun k hk => laws_eqIntS_self l hl k hk

/-! ### ev_row -/
theorem laws_szRow_eq (s : Int) (b : Bool) (t : List Int) (m : Nat) (hm : m ≤ 1048576) (ht : t.length ≤ maxLen) : laws_szRow.f s b t (m : Int) = some (if t.length ≤ m then ((m - t.length : Nat) : Int) else -1) := by
  have hmax : t.length ≤ 9223372036854775807 := ht
  unfold laws_szRow.f laws_szIntS.f
  rw [wrap_id (by omega) (by omega)]
  by_cases h : t.length ≤ m
  · rw [if_neg (by omega), Option.bind_some, if_neg (by omega), if_pos h]
    refine congrArg some ?_
    omega
  · rw [if_pos (by omega), Option.bind_some, if_pos (by omega), if_neg h]
theorem laws_toRow_ev (s : Int) (b : Bool) (t : List Int) (ht : t.length ≤ 1048576) : Ev (fun k => laws_toRow.f k s b t) (s, b, t) := by
  unfold laws_toRow.f
  exact Ev.bind (laws_toIntS_ev t ht) (Ev.now _)
theorem laws_eqRow_ev (s : Int) (b : Bool) (t : List Int) (ht : t.length ≤ 1048576) : Ev (fun k => laws_eqRow.f k s b t s b t) true := by
  unfold laws_eqRow.f
  refine Ev.pos rfl (Ev.neg (by simp) ?_)
  exact Ev.bind (laws_eqIntS_ev t ht) (Ev.pos rfl (Ev.now _))

/-! ### ev_house -/
theorem laws_szHouse_eq (s : Int) (b : Bool) (t c : List Int) (n : Int) (ht : t.length ≤ maxLen) (hc : c.length ≤ maxLen) : laws_szHouse.f s b t c n 1048576 = some (if t.length + c.length ≤ 1048576 then ((1048576 - t.length - c.length : Nat) : Int) else -1) := by
  have hc' : c.length ≤ 9223372036854775807 := hc
  unfold laws_szHouse.f
  have e := laws_szRow_eq s b t 1048576 (by omega) ht
  rw [show ((1048576 : Nat) : Int) = 1048576 from rfl] at e
  rw [e, Option.bind_some]
  by_cases h : t.length ≤ 1048576
  · rw [if_pos h, if_neg (by omega)]
    unfold laws_szIntS.f
    rw [wrap_id (by omega) (by omega)]
    by_cases g : t.length + c.length ≤ 1048576
    · rw [if_neg (by omega), Option.bind_some, if_neg (by omega), if_pos g]
      refine congrArg some ?_
      omega
    · rw [if_pos (by omega), Option.bind_some, if_pos (by omega), if_neg g]
  · rw [if_neg h, if_pos (by omega), if_neg (by omega)]
theorem laws_toHouse_ev (s : Int) (b : Bool) (t c : List Int) (n : Int) (ht : t.length ≤ 1048576) (hc : c.length ≤ 1048576) : Ev (fun k => laws_toHouse.f k s b t c n) (s, b, t, c, n) := by
  unfold laws_toHouse.f
  exact Ev.bind (laws_toRow_ev s b t ht) (Ev.bind (laws_toIntS_ev c hc) (Ev.now _))
theorem laws_eqHouse_ev (s : Int) (b : Bool) (t c : List Int) (n : Int) (ht : t.length ≤ 1048576) (hc : c.length ≤ 1048576) : Ev (fun k => laws_eqHouse.f k s b t c n s b t c n) true := by
  unfold laws_eqHouse.f
  exact Ev.bind (laws_eqRow_ev s b t ht) (Ev.pos rfl (Ev.bind (laws_eqIntS_ev c hc) (Ev.pos rfl (Ev.pos (by first | rfl | exact True.intro) (Ev.now _)))))

/-! ### laws_marks -/
theorem laws_markIntS_l0 (d : Nat) : ∀ (k i : Nat) (x : List Int) (m : Nat), x.length ≤ 1048576 → m ≤ 1000000000 + i → i ≤ x.length → x.length - i = d → d < k →
    laws_markIntS.l0 k x m i = some (((m + (x.length - i) : Nat) : Int), x.take i ++ (List.range (x.length - i)).map fun j => ((m + j : Nat) : Int)) := by
  induction d with
  | zero =>
    intro k i x m hx hm hi hd hk
    obtain ⟨k, rfl, _⟩ := fuel hk
    simp only [laws_markIntS.l0]
    rw [if_neg (by omega), hd]
    simp [List.take_of_length_le (show x.length ≤ i by omega)]
  | succ d ih =>
    intro k i x m hx hm hi hd hk
    obtain ⟨k, rfl, _⟩ := fuel hk
    simp only [laws_markIntS.l0]
    rw [if_pos (by omega), if_pos (by omega), wrap_one (n := x.length) (i := i) (by omega) (by omega), wrap_one (n := m + 1) (i := m) (by omega) (by omega), Int.toNat_natCast]
    rw [ih k (i + 1) (x.set i m) (m + 1) (by simp; omega) (by omega) (by simp; omega) (by simp; omega) (by omega)]
    simp only [List.length_set, Option.some.injEq, Prod.mk.injEq]
    refine ⟨by omega, ?_⟩
    rw [hd, show x.length - (i + 1) = d from by omega, List.range_succ_eq_map, List.map_cons, List.map_map]
    rw [List.take_set, List.take_add_one, List.set_append_right _ _ (by simp; omega)]
    simp [List.length_take, show min i x.length = i from by omega, List.getElem?_eq_getElem (show i < x.length by omega)]
    intro a _
    omega
theorem laws_markIntS_eq (x : List Int) (m k : Nat) (hx : x.length ≤ 1048576) (hm : m ≤ 1000000000) (hk : x.length < k) :
    laws_markIntS.f k x m = some (((m + x.length : Nat) : Int), (List.range x.length).map fun j => ((m + j : Nat) : Int)) := by
  unfold laws_markIntS.f
  have := laws_markIntS_l0 x.length k 0 x m hx (by omega) (by omega) (by omega) hk
  simpa using this
theorem laws_heldIntS_l0 (n m : Nat) (hx : n ≤ 1048576) (hm : m ≤ 1000000000) (d : Nat) : ∀ (k i : Nat), i ≤ n → n - i = d → d < k →
    laws_heldIntS.l0 k ((List.range n).map fun j => ((m + j : Nat) : Int)) ((m + i : Nat) : Int) i = some (((m + n : Nat) : Int)) := by
  induction d with
  | zero =>
    intro k i hi hd hk
    obtain ⟨k, rfl, _⟩ := fuel hk
    simp only [laws_heldIntS.l0]
    rw [if_neg (by simp; omega), show i = n from by omega]
  | succ d ih =>
    intro k i hi hd hk
    obtain ⟨k, rfl, _⟩ := fuel hk
    simp only [laws_heldIntS.l0]
    rw [if_pos (by simp; omega), if_pos (by omega), rd_get _ i (by simp; omega)]
    simp only [List.getElem_map, List.getElem_range, if_true]
    rw [wrap_one (n := n) (i := i) (by omega) (by omega), wrap_one (n := m + i + 1) (i := m + i) (by omega) (by omega), show m + i + 1 = m + (i + 1) from by omega]
    exact ih k (i + 1) (by omega) (by omega) (by omega)
theorem laws_heldIntS_eq (n m k : Nat) (hx : n ≤ 1048576) (hm : m ≤ 1000000000) (hk : n < k) :
    laws_heldIntS.f k ((List.range n).map fun j => ((m + j : Nat) : Int)) m = some (((m + n : Nat) : Int)) :=
  laws_heldIntS_l0 n m hx hm n k 0 (by omega) (by omega) hk

/-! ### ev_marks -/
/-- The numbers from m on. -/
def marksL (n : Nat) (m : Int) : List Int := (List.range n).map fun j => ((m.toNat + j : Nat) : Int)
theorem marksL_length (n : Nat) (m : Int) : (marksL n m).length = n := by simp [marksL]
theorem laws_markIntS_ev (l : List Int) (m : Int) (hl : l.length ≤ 1048576) (h0 : 0 ≤ m) (hm : m ≤ 1000000000) : Ev (fun k => laws_markIntS.f k l m) (m + l.length, marksL l.length m) :=
  Ev.bound l.length fun k hk => by
    obtain ⟨n, rfl⟩ : ∃ n : Nat, m = n := ⟨m.toNat, by omega⟩
    rw [laws_markIntS_eq l n k hl (by omega) hk]
    unfold marksL
    rw [Int.toNat_natCast]
    refine congrArg some (Prod.ext ?_ rfl)
    exact Int.natCast_add _ _
theorem laws_heldIntS_ev (n : Nat) (m : Int) (hl : n ≤ 1048576) (h0 : 0 ≤ m) (hm : m ≤ 1000000000) : Ev (fun k => laws_heldIntS.f k (marksL n m) m) (m + n) :=
  Ev.bound n fun k hk => by
    obtain ⟨j, rfl⟩ : ∃ j : Nat, m = j := ⟨m.toNat, by omega⟩
    unfold marksL
    rw [Int.toNat_natCast, laws_heldIntS_eq n j k hl (by omega) hk]
    exact congrArg some (Int.natCast_add _ _)

/-! ### ev_markrow -/
theorem laws_markRow_ev (s : Int) (b : Bool) (l : List Int) (m : Int) (hl : l.length ≤ 1048576) (h0 : 0 ≤ m) (hm : m ≤ 1000000000) : Ev (fun k => laws_markRow.f k s b l m) (m + l.length, marksL l.length m) := by
  unfold laws_markRow.f
  exact Ev.bind (laws_markIntS_ev l m hl h0 hm) (Ev.now _)

/-! ### ev_markhouse -/
theorem laws_markHouse_ev (s : Int) (b : Bool) (t c : List Int) (n m : Int) (ht : t.length ≤ 1048576) (hc : c.length ≤ 1048576) (h0 : 0 ≤ m) (hm : m ≤ 100000000) : Ev (fun k => laws_markHouse.f k s b t c n m) (m + t.length + c.length, marksL t.length m, marksL c.length (m + t.length)) := by
  unfold laws_markHouse.f
  exact Ev.bind (laws_markRow_ev s b t m ht h0 (by omega)) (Ev.bind (laws_markIntS_ev c _ hc (by omega) (by omega)) (Ev.now _))

/-! ### law_FnExactCrowdedGuests -/
open Classical in
theorem crowded_both (s : Int) (ring : Bool) (t c : List Int) (n : Int) (ht : t.length ≤ 1048576) (hc : c.length ≤ 1048576) : ∃ (l : List Int) (b : Bool), l.length ≤ 1048576 ∧ Ev (fun k => spec_CrowdedGuests.f k s ring t c n) (l, b) ∧ Ev (fun k => impl_CrowdedGuests.f k s ring t c n) (l, b) := by
  have g1 := spec_good_eq s ring t c n ht hc
  have g2 := impl_house_eq s ring t c n ht hc
  by_cases h : HouseOK s ring t c n
  · rw [decide_eq_true h] at g1 g2
    have hs := h.1.1
    obtain ⟨k, rfl⟩ : ∃ k : Nat, s = k := ⟨s.toNat, by omega⟩
    have hp := cover_perm t c (rising_nodup t _ _ h.1.2.2) h.2.1.2 (by have := h.2.1.1; omega)
    refine ⟨t.filter (crB k ring c), true, Nat.le_trans (List.length_filter_le _ _) ht, ?_, ?_⟩
    · unfold spec_CrowdedGuests.f
      exact Ev.bind g1 (Ev.pos rfl (Ev.bind (spec_crowded_ev (by omega) (by omega) h.1 hp n) (Ev.now _)))
    · unfold impl_CrowdedGuests.f
      exact Ev.bind g2 (Ev.pos rfl (impl_crowded_ev (by omega) (by omega) h.1 hp n))
  · rw [decide_eq_false h] at g1 g2
    refine ⟨[], false, by simp, ?_, ?_⟩
    · unfold spec_CrowdedGuests.f
      exact Ev.bind g1 (Ev.neg (by simp) (Ev.now _))
    · unfold impl_CrowdedGuests.f
      exact Ev.bind g2 (Ev.neg (by simp) (Ev.now _))
theorem FnExactCrowdedGuests : ∀ (a0_0_0 : Int) (a0_0_1 : Bool) (a0_0_2 : List Int) (a0_1 : List Int) (a0_2 : Int), (Lit.int .i64 a0_0_0).wf = true → a0_0_2.length ≤ maxLen → (∀ x ∈ a0_0_2, (Lit.int .i64 x).wf = true) → a0_1.length ≤ maxLen → (∀ x ∈ a0_1, (Lit.int .i64 x).wf = true) → (Lit.int .i64 a0_2).wf = true → ∃ k, laws_FnExactCrowdedGuests.f k a0_0_0 a0_0_1 a0_0_2 a0_1 a0_2 = some true := by
  intro s ring t c n _ ht _ hc _ _
  refine Ev.rounds ?_
  unfold laws_FnExactCrowdedGuests.f
  by_cases h2 : t.length + c.length ≤ 1048576
  · obtain ⟨r, b, hr, e1, e2⟩ := crowded_both s ring t c n (by omega) (by omega)
    refine Ev.have (laws_szHouse_eq s ring t c n ht hc) ?_
    rw [if_pos h2]
    repeat' (first
      | exact Ev.now _
      | (refine Ev.bind e1 ?_; (try dsimp only))
      | (refine Ev.bind e2 ?_; (try dsimp only))
      | (refine Ev.bind (laws_toIntS_ev _ (by omega)) ?_; (try dsimp only))
      | (refine Ev.bind (laws_eqIntS_ev _ (by omega)) ?_; (try dsimp only))
      | (refine Ev.bind (laws_markIntS_ev _ _ (by omega) (by omega) (by omega)) ?_; (try dsimp only))
      | (refine Ev.bind (laws_heldIntS_ev _ _ (by omega) (by omega) (by omega)) ?_; (try dsimp only))
      | (refine Ev.bind (laws_toRow_ev _ _ _ (by omega)) ?_; (try dsimp only))
      | (refine Ev.bind (laws_eqRow_ev _ _ _ (by omega)) ?_; (try dsimp only))
      | (refine Ev.bind (laws_markRow_ev _ _ _ _ (by omega) (by omega) (by omega)) ?_; (try dsimp only))
      | (refine Ev.bind (laws_toHouse_ev _ _ _ _ _ (by omega) (by omega)) ?_; (try dsimp only))
      | (refine Ev.bind (laws_eqHouse_ev _ _ _ _ _ (by omega) (by omega)) ?_; (try dsimp only))
      | (refine Ev.bind (laws_markHouse_ev _ _ _ _ _ _ (by omega) (by omega) (by omega) (by omega)) ?_; (try dsimp only))
      | (refine Ev.have (laws_szRow_eq _ _ _ 1048576 (by omega) (by assumption)) ?_; (try dsimp only))
      | (refine Ev.pos rfl ?_; (try dsimp only))
      | (refine Ev.neg (by omega) ?_; (try dsimp only))
      | (refine Ev.pos (by omega) ?_; (try dsimp only))
      | (refine Ev.neg (bne_self _) ?_; (try dsimp only))
      | (refine Ev.neg Bool.false_ne_true ?_; (try dsimp only))
      | (refine Ev.neg (fun h => h) ?_; (try dsimp only))
      | (refine Ev.pos True.intro ?_; (try dsimp only))
      | (refine Ev.succ ?_; simp only [laws_FnExactCrowdedGuests.j0, laws_FnExactCrowdedGuests.j1, laws_FnExactCrowdedGuests.j2]))
  · refine Ev.have (laws_szHouse_eq s ring t c n ht hc) ?_
    rw [if_neg h2]
    exact Ev.pos (by omega) (Ev.now _)

end Go.Proofs.YtbohmfnjgjijdaaDoor.Pure
