/- With both ends fewer stand up each time, the best arrival has the least sum, and leaving backwards disturbs as many; and what the program tells is what the reference tells. No conditions. -/
import Derived.Test.YtohmonfaabofaaaDoorQFnTheatrex
namespace Go.Proofs.YtohmonfaabofaaaDoor.Pure
open Go.RowKit Go.Proofs.YtohmonfaabofaaaDoor.QFnTheatre Go.Proofs.YtohmonfaabofaaaDoorW.PrintWords Go.Proofs.YtohmonfaabofaaaDoorW.PrintLast Go.Proofs.YtohmonfaabofaaaDoorW.PrintMore
set_option linter.unusedVariables false
set_option linter.unusedSimpArgs false

theorem wrap_id {x : Int} (h0 : -9223372036854775808 ≤ x) (h1 : x ≤ 9223372036854775807) : wrap64 x = x := by
 unfold wrap64
 omega
theorem wrap_one {i n : Nat} (h : i < n) (hn : n ≤ 4611686018427387904) : wrap64 ((i : Int) + 1) = ((i + 1 : Nat) : Int) := by
 unfold wrap64
 omega
theorem rd_nat (l : List Int) (i : Nat) : rd l (i : Int) = l.getD i 0 := by unfold rd; simp
theorem rd_get (l : List Int) (i : Nat) (h : i < l.length) : rd l (i : Int) = l[i] := by rw [rd_nat]; simp [List.getD, h]
theorem fuel {k d : Nat} (h : d < k) : ∃ m, k = m + 1 ∧ d ≤ m := ⟨k - 1, by omega, by omega⟩

theorem bne_self {α : Type} [BEq α] [LawfulBEq α] (a : α) : ¬ (a != a) = true := by simp
theorem Ev.succ {α : Type} {g : Nat → Option α} {r : α} (h : Ev (fun k => g (k + 1)) r) : Ev g r := by
 obtain ⟨K, h⟩ := h
 refine ⟨K + 1, fun k hk => ?_⟩
 obtain ⟨k, rfl, hk'⟩ := fuel (show K < k by omega)
 exact h k hk'
theorem Ev.pos {α : Type} {g f : Nat → Option α} {r : α} {c : Prop} [Decidable c] (hc : c) (h : Ev g r) : Ev (fun k => if c then g k else f k) r := by
 obtain ⟨K, h⟩ := h
 exact ⟨K, fun k hk => by show (if c then g k else f k) = some r; rw [if_pos hc]; exact h k hk⟩
theorem Ev.neg {α : Type} {g f : Nat → Option α} {r : α} {c : Prop} [Decidable c] (hc : ¬ c) (h : Ev f r) : Ev (fun k => if c then g k else f k) r := by
 obtain ⟨K, h⟩ := h
 exact ⟨K, fun k hk => by show (if c then g k else f k) = some r; rw [if_neg hc]; exact h k hk⟩
theorem Ev.have {α β : Type} {x : Option α} {a : α} {f : Nat → α → Option β} {r : β} (e : x = some a) (h : Ev (fun k => f k a) r) : Ev (fun k => x.bind (f k)) r := by
 obtain ⟨K, h⟩ := h
 exact ⟨K, fun k hk => by show x.bind (f k) = some r; rw [e, Option.bind_some]; exact h k hk⟩
theorem Ev.bound {α : Type} {g : Nat → Option α} {r : α} (K : Nat) (h : ∀ k, K < k → g k = some r) : Ev g r := ⟨K + 1, fun k hk => h k (by omega)⟩
theorem Ev.same {α : Type} {g : Nat → Option α} {r r' : α} (h : Ev g r) (e : r = r') : Ev g r' := e ▸ h
theorem spec_l1In_eq (n a b : Int) : spec_l1In.f n a b = some (decide (a ≤ n ∧ n ≤ b)) := by
 unfold spec_l1In.f
 by_cases h : n ≥ a
 ·rw [if_pos h]
  simp [show a ≤ n from h]
 ·rw [if_neg h]
  simp [show ¬ a ≤ n from h]
theorem impl_within_eq (n a b : Int) : impl_within.f n a b = some (decide (a ≤ n ∧ n ≤ b)) := by
 unfold impl_within.f
 by_cases h : n ≥ a
 ·rw [if_pos h]
  simp [show a ≤ n from h]
 ·rw [if_neg h]
  simp [show ¬ a ≤ n from h]

theorem impl_allWithin_l0 (l : List Int) (a b : Int) (hl : l.length ≤ 1048576) (d : Nat) : ∀ (k i : Nat), i ≤ l.length → l.length - i = d → d < k → impl_allWithin.l0 k a b l (l.length : Int) i = some (decide (∀ x ∈ l.drop i, a ≤ x ∧ x ≤ b)) := by
 induction d with
 | zero =>
  intro k i hi hd hk
  obtain ⟨k, rfl, _⟩ := fuel hk
  simp only [impl_allWithin.l0]
  rw [if_neg (by omega), List.drop_eq_nil_of_le (by omega)]
  simp
 | succ d ih =>
  intro k i hi hd hk
  obtain ⟨k, rfl, _⟩ := fuel hk
  simp only [impl_allWithin.l0]
  rw [if_pos (by omega), if_pos (by omega), if_pos (by omega), wrap_one (n := l.length) (by omega) (by omega), rd_get l i (by omega), impl_within_eq, ih k (i + 1) (by omega) (by omega) (by omega)]
  rw [List.drop_eq_getElem_cons (l := l) (i := i) (by omega)]
  rw [Option.bind_some]
  by_cases h : a ≤ l[i]'(by omega) ∧ l[i]'(by omega) ≤ b
  ·rw [if_pos (by simp only [h]; simp)]
   refine congrArg some ?_
   rw [decide_eq_decide]
   simp only [List.mem_cons]
   exact ⟨fun e x hx => hx.elim (fun z => z ▸ h) (e x), fun e x hx => e x (.inr hx)⟩
  ·rw [if_neg (by rw [decide_eq_true_eq]; exact h)]
   refine congrArg some ?_
   symm
   rw [decide_eq_false_iff_not]
   exact fun e => h (e _ List.mem_cons_self)
theorem impl_allWithin_eq (l : List Int) (a b : Int) (hl : l.length ≤ 1048576) (k : Nat) (hk : l.length < k) : impl_allWithin.f k l a b = some (decide (∀ x ∈ l, a ≤ x ∧ x ≤ b)) :=
 impl_allWithin_l0 l a b hl l.length k 0 (by omega) (by omega) hk

def Rising (l : List Int) (a b : Int) : Prop := ∀ i, (h : i < l.length) → (a ≤ l[i] ∧ l[i] ≤ b) ∧ (0 < i → l.getD (i - 1) 0 < l[i])
def RowOK (s : Int) (ring : Bool) (t : List Int) : Prop := (2 ≤ s ∧ s ≤ 24) ∧ (ring = true → 3 ≤ s) ∧ Rising t 0 (s - 1)
open Classical in
theorem spec_l1Rising_l0 (l : List Int) (a b : Int) (hl : l.length ≤ 1048576) (d : Nat) : ∀ (k i : Nat), i ≤ l.length → l.length - i = d → d < k → (∀ j, (h : j < i) → (hj : j < l.length) → (a ≤ l[j] ∧ l[j] ≤ b) ∧ (0 < j → l.getD (j - 1) 0 < l[j])) →
  spec_l1Rising.l0 k l a b i = some (decide (Rising l a b)) := by
 induction d with
 | zero =>
  intro k i hi hd hk hp
  obtain ⟨k, rfl, _⟩ := fuel hk
  simp only [spec_l1Rising.l0]
  rw [if_neg (by omega)]
  refine congrArg some ?_
  symm
  rw [decide_eq_true_eq]
  exact fun j hj => hp j (by omega) hj
 | succ d ih =>
  intro k i hi hd hk hp
  obtain ⟨k, rfl, _⟩ := fuel hk
  have no : ¬ ((a ≤ l[i]'(by omega) ∧ l[i]'(by omega) ≤ b) ∧ (0 < i → l.getD (i - 1) 0 < l[i]'(by omega))) → ¬ Rising l a b := fun g e => g (e i (by omega))
  have go : ((a ≤ l[i]'(by omega) ∧ l[i]'(by omega) ≤ b) ∧ (0 < i → l.getD (i - 1) 0 < l[i]'(by omega))) → spec_l1Rising.l0 k l a b (wrap64 ((i : Int) + 1)) = some (decide (Rising l a b)) := by
   intro g
   rw [wrap_one (n := l.length) (by omega) (by omega)]
   refine ih k (i + 1) (by omega) (by omega) (by omega) fun j hj hj' => ?_
   by_cases e : j = i
   ·subst e; exact g
   ·exact hp j (by omega) hj'
  simp only [spec_l1Rising.l0]
  rw [if_pos (by omega), if_pos (by omega), rd_get l i (by omega), spec_l1In_eq, Option.bind_some]
  by_cases g : a ≤ l[i]'(by omega) ∧ l[i]'(by omega) ≤ b
  ·rw [if_pos (decide_eq_true g)]
   by_cases h0 : 0 < i
   ·rw [if_pos (by omega), wrap_id (by omega) (by omega), if_pos (by omega), if_pos (by omega), show (i : Int) - 1 = ((i - 1 : Nat) : Int) from by omega, rd_nat]
    by_cases g2 : l.getD (i - 1) 0 < l[i]'(by omega)
    ·rw [if_neg (by omega)]
     exact go ⟨g, fun _ => g2⟩
    ·rw [if_pos (by omega), decide_eq_false (no fun e => g2 (e.2 h0))]
   ·rw [if_neg (by omega)]
    exact go ⟨g, fun e => absurd e h0⟩
  ·rw [if_neg (by rw [decide_eq_true_eq]; exact g), decide_eq_false (no fun e => g e.1)]
open Classical in
theorem spec_l1Rising_eq (l : List Int) (a b : Int) (hl : l.length ≤ 1048576) (k : Nat) (hk : l.length < k) : spec_l1Rising.f k l a b = some (decide (Rising l a b)) :=
 spec_l1Rising_l0 l a b hl l.length k 0 (by omega) (by omega) hk (fun j h => by omega)
open Classical in
theorem spec_l2Row_eq (s : Int) (ring : Bool) (t : List Int) (ht : t.length ≤ 1048576) (k : Nat) (hk : t.length < k) : spec_l2Row.f k s ring t = some (decide (RowOK s ring t)) := by
 unfold spec_l2Row.f
 rw [spec_l1In_eq, Option.bind_some]
 by_cases h : 2 ≤ s ∧ s ≤ 24
 ·rw [if_pos (decide_eq_true h), wrap_id (by omega) (by omega), spec_l1Rising_eq t _ _ ht k hk, Option.bind_some]
  cases ring with
  | true =>
   rw [if_pos rfl]
   by_cases h3 : s > 2
   ·rw [if_pos h3]
    refine congrArg some ?_
    rw [decide_eq_decide]
    exact ⟨fun e => ⟨h, fun _ => by omega, e⟩, fun e => e.2.2⟩
   ·rw [if_neg h3]
    refine congrArg some ?_
    symm
    rw [decide_eq_false_iff_not]
    exact fun e => h3 (by have := e.2.1 rfl; omega)
  | false =>
   rw [if_neg (by simp)]
   refine congrArg some ?_
   rw [decide_eq_decide]
   exact ⟨fun e => ⟨h, (fun z => by cases z), e⟩, fun e => e.2.2⟩
 ·rw [if_neg (by rw [decide_eq_true_eq]; exact h)]
  refine congrArg some ?_
  symm
  rw [decide_eq_false_iff_not]
  exact fun e => h e.1
theorem impl_bench_has_one (s : Int) (ring : Bool) (p : Int) (k : Nat) (hk : 2 < k) : impl_bench_has.f k s ring [p] = some (decide (0 ≤ p ∧ p ≤ wrap64 (s - 1))) := by
 unfold impl_bench_has.f
 rw [impl_allWithin_eq [p] _ _ (by simp) k (by simp; omega), Option.bind_some]
 refine congrArg some ?_
 rw [decide_eq_decide]
 simp
theorem impl_bench_valid_eq (s : Int) (ring : Bool) : impl_bench_valid.f s ring = some (decide ((2 ≤ s ∧ s ≤ 24) ∧ (ring = true → 3 ≤ s))) := by
 unfold impl_bench_valid.f
 rw [impl_within_eq, Option.bind_some]
 by_cases h : 2 ≤ s ∧ s ≤ 24
 ·rw [if_pos (decide_eq_true h)]
  cases ring with
  | true =>
   rw [if_pos rfl]
   refine congrArg some ?_
   rw [decide_eq_decide]
   exact ⟨fun e => ⟨h, fun _ => e⟩, fun e => e.2 rfl⟩
  | false =>
   rw [if_neg (by simp)]
   refine congrArg some ?_
   symm
   rw [decide_eq_true_eq]
   exact ⟨h, (fun z => by cases z)⟩
 ·rw [if_neg (by rw [decide_eq_true_eq]; exact h)]
  refine congrArg some ?_
  symm
  rw [decide_eq_false_iff_not]
  exact fun e => h e.1
open Classical in
theorem impl_IsRow_l0 (s : Int) (ring : Bool) (l : List Int) (hl : l.length ≤ 1048576) (d : Nat) : ∀ (k i : Nat), i ≤ l.length → l.length - i = d → d + 3 < k → ((2 ≤ s ∧ s ≤ 24) → ∀ j, (h : j < i) → (hj : j < l.length) → (0 ≤ l[j] ∧ l[j] ≤ s - 1) ∧ (0 < j → l.getD (j - 1) 0 < l[j])) →
  impl_IsRow.l0 k l (l.length : Int) i s ring l = some (decide (RowOK s ring l)) := by
 induction d with
 | zero =>
  intro k i hi hd hk hp
  obtain ⟨k, rfl, _⟩ := fuel hk
  simp only [impl_IsRow.l0]
  rw [if_neg (by omega), impl_Row_bench.f, Option.bind_some]
  dsimp only
  rw [impl_bench_valid_eq, Option.bind_some]
  refine congrArg some ?_
  rw [decide_eq_decide]
  exact ⟨fun e => ⟨e.1, e.2, fun j hj => hp e.1 j (by omega) hj⟩, fun e => ⟨e.1, e.2.1⟩⟩
 | succ d ih =>
  intro k i hi hd hk hp
  obtain ⟨k, rfl, _⟩ := fuel hk
  have no : (2 ≤ s ∧ s ≤ 24 → ¬ ((0 ≤ l[i]'(by omega) ∧ l[i]'(by omega) ≤ s - 1) ∧ (0 < i → l.getD (i - 1) 0 < l[i]'(by omega)))) → ¬ RowOK s ring l := fun g e => g e.1 (e.2.2 i (by omega))
  have go : (2 ≤ s ∧ s ≤ 24 → ((0 ≤ l[i]'(by omega) ∧ l[i]'(by omega) ≤ s - 1) ∧ (0 < i → l.getD (i - 1) 0 < l[i]'(by omega)))) → impl_IsRow.l0 k l (l.length : Int) (wrap64 ((i : Int) + 1)) s ring l = some (decide (RowOK s ring l)) := by
   intro g
   rw [wrap_one (n := l.length) (by omega) (by omega)]
   refine ih k (i + 1) (by omega) (by omega) (by omega) fun hs j hj hj' => ?_
   by_cases e : j = i
   ·subst e; exact g hs
   ·exact hp hs j (by omega) hj'
  simp only [impl_IsRow.l0]
  rw [if_pos (by omega), if_pos (by omega), if_pos (by omega), impl_Row_bench.f, Option.bind_some]
  dsimp only
  rw [rd_get l i (by omega), impl_bench_has_one _ _ _ k (by omega), Option.bind_some]
  by_cases g : 0 ≤ l[i]'(by omega) ∧ l[i]'(by omega) ≤ wrap64 (s - 1)
  ·rw [if_pos (decide_eq_true g)]
   have g' : 2 ≤ s ∧ s ≤ 24 → 0 ≤ l[i]'(by omega) ∧ l[i]'(by omega) ≤ s - 1 := fun hs => by
    rw [wrap_id (by omega) (by omega)] at g
    exact g
   by_cases h0 : 0 < i
   ·rw [if_pos (by omega), wrap_id (by omega) (by omega), if_pos (by omega), if_pos (by omega), show (i : Int) - 1 = ((i - 1 : Nat) : Int) from by omega, rd_nat]
    by_cases g2 : l.getD (i - 1) 0 < l[i]'(by omega)
    ·rw [if_neg (by omega)]
     exact go fun hs => ⟨g' hs, fun _ => g2⟩
    ·rw [if_pos (by omega), decide_eq_false (no fun _ e => g2 (e.2 h0))]
   ·rw [if_neg (by omega)]
    exact go fun hs => ⟨g' hs, fun e => absurd e h0⟩
  ·rw [if_neg (by rw [decide_eq_true_eq]; exact g)]
   rw [decide_eq_false (no fun hs e => g ?_)]
   rw [wrap_id (by omega) (by omega)]
   exact e.1
open Classical in
theorem impl_IsRow_eq (s : Int) (ring : Bool) (l : List Int) (hl : l.length ≤ 1048576) (k : Nat) (hk : l.length + 3 < k) : impl_IsRow.f k s ring l = some (decide (RowOK s ring l)) :=
 impl_IsRow_l0 s ring l hl l.length k 0 (by omega) (by omega) hk (fun _ j h => by omega)
theorem rising_lt (l : List Int) (a b : Int) (h : Rising l a b) (i j : Nat) (hij : i < j) (hj : j < l.length) : l[i]'(by omega) < l[j] := by
 induction j with
 | zero => omega
 | succ j ih =>
  have h1 := (h (j + 1) hj).2 (by omega)
  rw [show j + 1 - 1 = j from by omega, show l.getD j 0 = l[j]'(by omega) from by simp [List.getD, show j < l.length by omega]] at h1
  by_cases e : i = j
  ·subst e; exact h1
  ·have := ih (by omega) (by omega)
   omega
theorem rising_mem (l : List Int) (a b : Int) (h : Rising l a b) : ∀ x ∈ l, a ≤ x ∧ x ≤ b := by
 intro x hx
 obtain ⟨i, hi, rfl⟩ := List.getElem_of_mem hx
 exact (h i hi).1
theorem rising_nodup (l : List Int) (a b : Int) (h : Rising l a b) : l.Nodup := by
 refine List.pairwise_iff_getElem.2 fun i j hi hj hij e => ?_
 have := rising_lt l a b h i j hij hj
 omega
theorem row_len (s : Int) (ring : Bool) (t : List Int) (h : RowOK s ring t) : t.length ≤ 24 := by
 have hn := rising_nodup t _ _ h.2.2
 have hs : t ⊆ (List.range 24).map fun i : Nat => (i : Int) := by
  intro x hx
  have := rising_mem t _ _ h.2.2 x hx
  have := h.1
  exact List.mem_map.2 ⟨x.toNat, List.mem_range.2 (by omega), by omega⟩
 have := List.Nodup.length_le_of_subset hn hs
 simpa using this

open Classical in
theorem spec_l10Line_eq (s : Int) (ring : Bool) (t : List Int) (ht : t.length ≤ 1048576) (k : Nat) (hk : t.length < k) : spec_l10Line.f k s ring t = some (decide (RowOK s ring t ∧ ring = false)) := by
 unfold spec_l10Line.f
 rw [spec_l2Row_eq s ring t ht k hk, Option.bind_some]
 by_cases h : RowOK s ring t
 ·rw [if_pos (decide_eq_true h)]
  refine congrArg some ?_
  cases ring <;> simp [h]
 ·rw [if_neg (by rw [decide_eq_true_eq]; exact h)]
  simp [h]
open Classical in
theorem impl_isLine_eq (s : Int) (ring : Bool) (t : List Int) (ht : t.length ≤ 1048576) (k : Nat) (hk : t.length + 3 < k) : impl_isLine.f k s ring t = some (decide (RowOK s ring t ∧ ring = false)) := by
 unfold impl_isLine.f
 rw [impl_IsRow_eq s ring t ht k hk, Option.bind_some]
 by_cases h : RowOK s ring t
 ·rw [if_pos (decide_eq_true h)]
  refine congrArg some ?_
  cases ring <;> simp [h]
 ·rw [if_neg (by rw [decide_eq_true_eq]; exact h)]
  simp [h]

theorem spec_l1Has_l0 (l : List Int) (n : Int) (hl : l.length ≤ 1048576) (d : Nat) : ∀ (k i : Nat), i ≤ l.length → l.length - i = d → d < k → spec_l1Has.l0 k l n i = some (decide (n ∈ l.drop i)) := by
 induction d with
 | zero =>
  intro k i hi hd hk
  obtain ⟨k, rfl, _⟩ := fuel hk
  simp only [spec_l1Has.l0]
  rw [if_neg (by omega), List.drop_eq_nil_of_le (by omega)]
  simp
 | succ d ih =>
  intro k i hi hd hk
  obtain ⟨k, rfl, _⟩ := fuel hk
  simp only [spec_l1Has.l0]
  rw [if_pos (by omega), if_pos (by omega), wrap_one (n := l.length) (by omega) (by omega), rd_get l i (by omega), ih k (i + 1) (by omega) (by omega) (by omega)]
  rw [List.drop_eq_getElem_cons (l := l) (i := i) (by omega)]
  by_cases h : l[i]'(by omega) = n
  ·rw [if_pos h, h]
   simp
  ·rw [if_neg h]
   refine congrArg some ?_
   rw [decide_eq_decide, List.mem_cons]
   exact ⟨.inr, fun e => e.resolve_left fun e => h e.symm⟩
theorem spec_l1Has_eq (l : List Int) (n : Int) (hl : l.length ≤ 1048576) (k : Nat) (hk : l.length < k) : spec_l1Has.f k l n = some (decide (n ∈ l)) := by
 have := spec_l1Has_l0 l n hl l.length k 0 (by omega) (by omega) hk
 exact this

def setN (l : List Int) : Nat := l.foldl (fun s p => s ||| 2 ^ p.toNat) 0
theorem testBit_foldl (l : List Int) : ∀ (s i : Nat), (l.foldl (fun s p => s ||| 2 ^ p.toNat) s).testBit i = (s.testBit i || decide (∃ p ∈ l, p.toNat = i)) := by
 induction l with
 | nil => intro s i; simp
 | cons a l ih =>
  intro s i
  rw [List.foldl_cons, ih, Nat.testBit_or, Nat.testBit_two_pow, Bool.or_assoc]
  congr 1
  rw [Bool.eq_iff_iff]
  simp
theorem testBit_setN (l : List Int) (i : Nat) : (setN l).testBit i = decide (∃ p ∈ l, p.toNat = i) := by
 unfold setN
 rw [testBit_foldl]
 simp
theorem foldl_lt (l : List Int) (n : Nat) (hl : ∀ p ∈ l, p < n) (hn : 0 < n) : ∀ s, s < 2 ^ n → l.foldl (fun s p => s ||| 2 ^ p.toNat) s < 2 ^ n := by
 induction l with
 | nil => intro s h; exact h
 | cons a l ih =>
  intro s h
  rw [List.foldl_cons]
  have := hl a (by simp)
  exact ih (fun p hp => hl p (by simp [hp])) _ (Nat.or_lt_two_pow h (Nat.pow_lt_pow_right (by omega) (by omega)))
theorem setN_lt (l : List Int) (n : Nat) (hl : ∀ p ∈ l, p < n) (hn : 0 < n) : setN l < 2 ^ n := foldl_lt l n hl hn 0 (Nat.two_pow_pos n)
theorem setN_u32 (l : List Int) (hl : ∀ p ∈ l, p < 32) : setN l < 4294967296 := setN_lt l 32 hl (by omega)
theorem or_cast (a b : Nat) (ha : a < 4294967296) (hb : b < 4294967296) : Go.bits .or .u32 (a : Int) (b : Int) = ((a ||| b : Nat) : Int) :=
 (bits_nat .u32 32 (by decide) (fun n h h' => by rw [IntKind.wrap_u32]; omega) a b ha hb).2
theorem and_cast (a b : Nat) (ha : a < 4294967296) (hb : b < 4294967296) : Go.bits .and .u32 (a : Int) (b : Int) = ((a &&& b : Nat) : Int) :=
 (bits_nat .u32 32 (by decide) (fun n h h' => by rw [IntKind.wrap_u32]; omega) a b ha hb).1
theorem shl_one (p : Int) (h0 : 0 ≤ p) (h1 : p < 32) : shl .u32 1 p = ((2 ^ p.toNat : Nat) : Int) := by
 unfold shl
 rw [Int.one_mul, IntKind.wrap_u32, show min p.toNat IntKind.u32.bits = p.toNat from Nat.min_eq_left (by show p.toNat ≤ 32; omega)]
 have : 2 ^ p.toNat < 2 ^ 32 := Nat.pow_lt_pow_right (by omega) (by omega)
 have e : ((2 ^ p.toNat : Nat) : Int) = (2 : Int) ^ p.toNat := by simp
 rw [← e]
 generalize 2 ^ p.toNat = y at *
 omega

def andN (a b : Nat) : Nat := a ^^^ (a &&& b)
theorem testBit_andN (a b i : Nat) : (andN a b).testBit i = (a.testBit i && !b.testBit i) := by
 unfold andN
 rw [Nat.testBit_xor, Nat.testBit_and]
 cases a.testBit i <;> cases b.testBit i <;> rfl
theorem lt_of_bits (x n : Nat) (h : ∀ i, n ≤ i → x.testBit i = false) : x < 2 ^ n := Nat.lt_pow_two_of_testBit x h
theorem andN_lt (a b n : Nat) (ha : a < 2 ^ n) : andN a b < 2 ^ n := by
 refine lt_of_bits _ n fun i hi => ?_
 rw [testBit_andN, Nat.testBit_lt_two_pow (Nat.lt_of_lt_of_le ha (Nat.pow_le_pow_right (by omega) hi))]
 rfl
theorem andNot_cast (a b : Nat) (ha : a < 4294967296) (hb : b < 4294967296) : Go.bits .andNot .u32 (a : Int) (b : Int) = ((andN a b : Nat) : Int) := by
 have e : (BitVec.ofInt 32 (a : Int) &&& ~~~ BitVec.ofInt 32 (b : Int)).toNat = andN a b := by
  refine Nat.eq_of_testBit_eq fun i => ?_
  rw [testBit_andN, BitVec.ofInt_natCast, BitVec.ofInt_natCast]
  show (BitVec.ofNat 32 a &&& ~~~ BitVec.ofNat 32 b).getLsbD i = _
  rw [BitVec.getLsbD_and, BitVec.getLsbD_not, BitVec.getLsbD_ofNat, BitVec.getLsbD_ofNat]
  by_cases h : i < 32
  ·simp [h]
  ·have e1 : a.testBit i = false := Nat.testBit_lt_two_pow (Nat.lt_of_lt_of_le (show a < 2 ^ 32 from ha) (Nat.pow_le_pow_right (by omega) (by omega)))
   simp [h, e1]
 have hl := andN_lt a b 32 ha
 show IntKind.u32.wrap (((BitVec.ofInt 32 (a : Int) &&& ~~~ BitVec.ofInt 32 (b : Int)).toNat : Nat) : Int) = _
 rw [e, IntKind.wrap_u32]
 omega
theorem all_cast (s : Int) (h0 : 0 ≤ s) (h1 : s ≤ 31) : (shl .u32 1 s - 1) % 4294967296 = ((2 ^ s.toNat - 1 : Nat) : Int) := by
 rw [shl_one s h0 (by omega)]
 have : 0 < 2 ^ s.toNat := Nat.two_pow_pos _
 have h2 : 2 ^ s.toNat < 2 ^ 32 := Nat.pow_lt_pow_right (by omega) (by omega)
 generalize 2 ^ s.toNat = y at *
 omega
theorem testBit_all (n i : Nat) : (2 ^ n - 1).testBit i = decide (i < n) := Nat.testBit_two_pow_sub_one n i

theorem popAux_filter : ∀ (n x : Nat), Lib.popAux n x = ((List.range n).filter fun i => x.testBit i).length
 | 0, x => by simp [Lib.popAux]
 | n + 1, x => by
  rw [Lib.popAux, popAux_filter n, List.range_succ_eq_map, List.filter_cons, List.filter_map, Nat.testBit_zero]
  have e : ((fun i => x.testBit i) ∘ Nat.succ) = fun i => (x / 2).testBit i := by
   funext i
   simp [Nat.testBit_succ]
  rw [e]
  by_cases h : x % 2 = 1
  ·simp [h]
   omega
  ·simp [h]
   omega
theorem onesCount_filter (x : Nat) : Lib.onesCount x = ((List.range 64).filter fun i => x.testBit i).length := popAux_filter 64 x
theorem onesCount_below (x n : Nat) (hx : x < 2 ^ n) (hn : n ≤ 64) : Lib.onesCount x = ((List.range n).filter fun i => x.testBit i).length := by
 rw [onesCount_filter, show 64 = n + (64 - n) from by omega, List.range_add, List.filter_append, List.length_append]
 have z : List.filter (fun i => x.testBit i) (List.map (fun x => n + x) (List.range (64 - n))) = [] := by
  rw [List.filter_eq_nil_iff]
  intro i hi
  obtain ⟨j, _, rfl⟩ := List.mem_map.1 hi
  rw [Nat.testBit_lt_two_pow (Nat.lt_of_lt_of_le hx (Nat.pow_le_pow_right (by omega) (by omega)))]
  simp
 rw [z, List.length_nil, Nat.add_zero]

theorem nodup_cover : ∀ (r l : List Int), r.Nodup → r ⊆ l → l.length ≤ r.length → l.Nodup
 | [], l, _, _, hl => by
  have : l = [] := List.eq_nil_of_length_eq_zero (by simpa using hl)
  subst this
  exact List.nodup_nil
 | a :: t, l, hn, hs, hl => by
  have ha : a ∈ l := hs List.mem_cons_self
  have hc := List.nodup_cons.1 hn
  have hlen := List.length_erase_of_mem ha
  have hpos := List.length_pos_of_mem ha
  have ht : t ⊆ l.erase a := fun x hx => (List.mem_erase_of_ne (by rintro rfl; exact hc.1 hx)).2 (hs (List.mem_cons_of_mem _ hx))
  have hl' : l.length ≤ t.length + 1 := by simpa using hl
  have ih := nodup_cover t (l.erase a) hc.2 ht (by omega)
  refine (List.perm_cons_erase ha).nodup_iff.2 (List.nodup_cons.2 ⟨fun hin => ?_, ih⟩)
  have hs' : (a :: t) ⊆ l.erase a := by
   intro x hx
   rcases List.mem_cons.1 hx with e | e
   ·exact e ▸ hin
   ·exact ht e
  have := List.Nodup.length_le_of_subset hn hs'
  simp at this
  omega

theorem count_setN (l : List Int) (hb : ∀ x ∈ l, 0 ≤ x ∧ x < 32) (n : Nat) (hn : n = l.length) : Lib.onesCount (setN l) = n ↔ l.Nodup := by
 rw [onesCount_below (setN l) 32 (setN_lt l 32 (fun p hp => (hb p hp).2) (by omega)) (by omega)]
 let F := ((List.range 32).filter fun i => (setN l).testBit i).map fun i : Nat => (i : Int)
 have hF : F.Nodup := by
  refine List.Pairwise.map _ ?_ (List.Pairwise.filter _ List.nodup_range)
  intro a b hab he
  exact hab (by omega)
 have hFl : F ⊆ l := by
  intro x hx
  obtain ⟨i, hi, rfl⟩ := List.mem_map.1 hx
  have := (List.mem_filter.1 hi).2
  rw [testBit_setN, decide_eq_true_eq] at this
  obtain ⟨p, hp, e⟩ := this
  have := hb p hp
  rw [show (i : Int) = p from by omega]
  exact hp
 have hlF : l ⊆ F := by
  intro x hx
  have := hb x hx
  refine List.mem_map.2 ⟨x.toNat, List.mem_filter.2 ⟨List.mem_range.2 (by omega), ?_⟩, by omega⟩
  rw [testBit_setN, decide_eq_true_eq]
  exact ⟨x, hx, rfl⟩
 have hlen : F.length = ((List.range 32).filter fun i => (setN l).testBit i).length := by simp [F]
 rw [← hlen]
 constructor
 ·intro e
  exact nodup_cover F l hF hFl (by omega)
 ·intro e
  have h1 := List.Nodup.length_le_of_subset hF hFl
  have h2 := List.Nodup.length_le_of_subset e hlF
  omega

theorem impl_setOf_l0 (l : List Int) (hl : l.length ≤ 1048576) (hb : ∀ x ∈ l, 0 ≤ x ∧ x < 32) (d : Nat) : ∀ (k i s : Nat), s < 4294967296 → i ≤ l.length → l.length - i = d → d < k →
  impl_setOf.l0 k (s : Int) l (l.length : Int) i = some (((l.drop i).foldl (fun s p => s ||| 2 ^ p.toNat) s : Nat) : Int) := by
 induction d with
 | zero =>
  intro k i s hs hi hd hk
  obtain ⟨k, rfl, _⟩ := fuel hk
  simp only [impl_setOf.l0]
  rw [if_neg (by omega), List.drop_eq_nil_of_le (by omega)]
  rfl
 | succ d ih =>
  intro k i s hs hi hd hk
  obtain ⟨k, rfl, _⟩ := fuel hk
  obtain ⟨b0, b1⟩ := hb (l[i]'(by omega)) (List.getElem_mem _)
  have hp : 2 ^ (l[i]'(by omega)).toNat < 2 ^ 32 := Nat.pow_lt_pow_right (by omega) (by omega)
  simp only [impl_setOf.l0]
  rw [if_pos (by omega), if_pos (by omega), if_pos (by omega), wrap_one (n := l.length) (by omega) (by omega), rd_get l i (by omega), if_pos b0, shl_one _ b0 b1, or_cast _ _ hs hp]
  rw [ih k (i + 1) _ (Nat.or_lt_two_pow (n := 32) hs hp) (by omega) (by omega) (by omega), List.drop_eq_getElem_cons (l := l) (i := i) (by omega)]
  rfl
theorem impl_setOf_eq (l : List Int) (hl : l.length ≤ 1048576) (hb : ∀ x ∈ l, 0 ≤ x ∧ x < 32) (k : Nat) (hk : l.length < k) : impl_setOf.f k l = some ((setN l : Nat) : Int) :=
 impl_setOf_l0 l hl hb l.length k 0 0 (by omega) (by omega) (by omega) hk

theorem impl_set_count_eq (s : Nat) (hs : s < 4294967296) : impl_set_count.f (s : Int) = some ((Lib.onesCount s : Nat) : Int) := by
 unfold impl_set_count.f bits_OnesCount32.f
 rw [if_pos (by omega)]
 rfl



theorem taken_lt (s : Int) (ring : Bool) (t : List Int) (hr : RowOK s ring t) : (∀ x ∈ t, 0 ≤ x ∧ x < 32) ∧ setN t < 4294967296 := by
 have hm := rising_mem t _ _ hr.2.2
 have h24 := hr.1
 exact ⟨fun x hx => by have := hm x hx; omega, setN_u32 t fun x hx => by have := hm x hx; omega⟩
theorem impl_taken_eq (s : Int) (ring : Bool) (t : List Int) (hr : RowOK s ring t) (k : Nat) (hk : t.length < k) : impl_Row_taken.f k s ring t = some ((setN t : Nat) : Int) := by
 unfold impl_Row_taken.f
 have := row_len s ring t hr
 rw [impl_setOf_eq t (by omega) (taken_lt s ring t hr).1 k hk, Option.bind_some]

def Seat1 (s : Int) (t seats : List Int) (b : Bool) (j : Nat) : Prop := (0 ≤ seats.getD j 0 ∧ seats.getD j 0 ≤ s - 1) ∧ (seats.getD j 0 ∈ t ↔ b = true) ∧ seats.getD j 0 ∉ seats.take j
def Diff (s : Int) (ring : Bool) (t seats : List Int) (b : Bool) : Prop := (RowOK s ring t ∧ ring = false) ∧ seats.length ≤ 10 ∧ ∀ j, j < seats.length → Seat1 s t seats b j
open Classical in
theorem spec_l2Seat_eq (s : Int) (ring : Bool) (t : List Int) (p : Int) (ht : t.length ≤ 1048576) (k : Nat) (hk : t.length < k) : spec_l2Seat.f k s ring t p = some (decide (RowOK s ring t ∧ 0 ≤ p ∧ p ≤ s - 1)) := by
 unfold spec_l2Seat.f
 rw [spec_l2Row_eq s ring t ht k hk, Option.bind_some]
 by_cases h : RowOK s ring t
 ·have := h.1
  rw [if_pos (decide_eq_true h), spec_l1In_eq, Option.bind_some, wrap_id (by omega) (by omega)]
  refine congrArg some ?_
  rw [decide_eq_decide]
  exact ⟨fun e => ⟨h, e⟩, fun e => e.2⟩
 ·rw [if_neg (by rw [decide_eq_true_eq]; exact h)]
  simp [h]
open Classical in
theorem spec_l10Different_l0 (s : Int) (ring : Bool) (t seats : List Int) (b : Bool) (ht : t.length ≤ 1048576) (hs : seats.length ≤ 1048576) (d : Nat) : ∀ (k i : Nat), i ≤ seats.length → i ≤ 11 → 11 - i = d → 2 * d + t.length + seats.length + 10 < k → (∀ j, j < i → Seat1 s t seats b j) →
  spec_l10Different.l0 k seats b (i : Int) s ring t = some (decide (Diff s ring t seats b)) := by
 have stop : ∀ (k i : Nat), i ≤ seats.length → (i = seats.length ∨ 11 ≤ i) → (∀ j, j < i → Seat1 s t seats b j) → t.length < k → ((spec_l10Line.f k s ring t).bind fun t127 => (if t127 = true then (some (decide ((seats.length : Int) ≤ 10))) else (some false))) = some (decide (Diff s ring t seats b)) := by
  intro k i hi he hp hk
  rw [spec_l10Line_eq s ring t ht k hk, Option.bind_some]
  by_cases h : RowOK s ring t ∧ ring = false
  ·rw [if_pos (decide_eq_true h)]
   refine congrArg some ?_
   rw [decide_eq_decide]
   refine ⟨fun e => ⟨h, by omega, fun j hj => hp j (by omega)⟩, fun e => ?_⟩
   have := e.2.1
   omega
  ·rw [if_neg (by rw [decide_eq_true_eq]; exact h)]
   refine congrArg some ?_
   symm
   rw [decide_eq_false_iff_not]
   exact fun e => h e.1
 have false_ : ∀ i, i < seats.length → ¬ (RowOK s ring t ∧ Seat1 s t seats b i) → decide (Diff s ring t seats b) = false := by
  intro i hi g
  rw [decide_eq_false_iff_not]
  exact fun e => g ⟨e.1.1, e.2.2 i hi⟩
 induction d with
 | zero =>
  intro k i hi h11 hd hk hp
  obtain ⟨k, rfl, _⟩ := fuel (show 0 < k by omega)
  obtain ⟨k, rfl, _⟩ := fuel (show 0 < k by omega)
  simp only [spec_l10Different.l0]
  by_cases h : (i : Int) < seats.length
  ·rw [if_pos h, decide_eq_false (by omega)]
   simp only [spec_l10Different.j1]
   rw [if_neg (by simp)]
   exact stop k i hi (by omega) hp (by omega)
  ·rw [if_neg h]
   simp only [spec_l10Different.j1]
   rw [if_neg (by simp)]
   exact stop k i hi (by omega) hp (by omega)
 | succ d ih =>
  intro k i hi h11 hd hk hp
  obtain ⟨k, rfl, _⟩ := fuel (show 0 < k by omega)
  obtain ⟨k, rfl, _⟩ := fuel (show 0 < k by omega)
  simp only [spec_l10Different.l0]
  by_cases h : (i : Int) < seats.length
  ·rw [if_pos h, decide_eq_true (by omega)]
   simp only [spec_l10Different.j1]
   rw [if_pos trivial, if_pos (by omega), if_pos (by omega), spec_l2Seat_eq s ring t _ ht k (by omega), Option.bind_some, rd_nat]
   by_cases g1 : RowOK s ring t ∧ 0 ≤ seats.getD i 0 ∧ seats.getD i 0 ≤ s - 1
   ·rw [if_pos (decide_eq_true g1)]
    unfold spec_l2Is.f
    rw [spec_l1Has_eq t _ ht k (by omega), Option.bind_some, Option.bind_some]
    by_cases g2 : seats.getD i 0 ∈ t ↔ b = true
    ·rw [if_neg (by cases b <;> simp_all), if_pos (by omega), spec_l1Has_eq _ _ (by simp; omega) k (by simp; omega), Option.bind_some, Int.toNat_natCast]
     by_cases g3 : seats.getD i 0 ∈ seats.take i
     ·rw [if_pos (decide_eq_true g3), false_ i (by omega) (fun e => e.2.2.2 g3)]
     ·rw [if_neg (by rw [decide_eq_true_eq]; exact g3), wrap_one (n := seats.length) (by omega) (by omega)]
      refine ih k (i + 1) (by omega) (by omega) (by omega) (by omega) fun j hj => ?_
      by_cases e : j = i
      ·subst e; exact ⟨g1.2, g2, g3⟩
      ·exact hp j (by omega)
    ·rw [if_pos (by cases b <;> simp_all), false_ i (by omega) (fun e => g2 e.2.2.1)]
   ·rw [if_neg (by rw [decide_eq_true_eq]; exact g1), false_ i (by omega) (fun e => g1 ⟨e.1, e.2.1⟩)]
  ·rw [if_neg h]
   simp only [spec_l10Different.j1]
   rw [if_neg (by simp)]
   exact stop k i hi (by omega) hp (by omega)
open Classical in
theorem spec_l10Different_eq (s : Int) (ring : Bool) (t seats : List Int) (b : Bool) (ht : t.length ≤ 1048576) (hs : seats.length ≤ 1048576) (k : Nat) (hk : t.length + seats.length + 40 < k) : spec_l10Different.f k s ring t seats b = some (decide (Diff s ring t seats b)) :=
 spec_l10Different_l0 s ring t seats b ht hs 11 k 0 (by omega) (by omega) (by omega) (by omega) (fun j h => by omega)
theorem impl_areOf_eq (seats : List Int) (S : Nat) (hs : seats.length ≤ 1048576) (hS : S < 4294967296) (k : Nat) (hk : seats.length + 5 < k) :
  ∃ a : Bool, impl_areOf.f k seats (S : Int) = some a ∧ (a = true ↔ seats.length ≤ 10 ∧ (∀ p ∈ seats, (0 ≤ p ∧ p ≤ 23) ∧ S.testBit p.toNat = true) ∧ seats.Nodup) := by
 unfold impl_areOf.f
 obtain ⟨k, rfl, _⟩ := fuel (show 0 < k by omega)
 by_cases h : seats.length ≤ 10
 ·rw [if_neg (by omega), impl_allWithin_eq seats _ _ hs _ (by omega), Option.bind_some]
  simp only [impl_areOf.j0]
  by_cases h2 : ∀ p ∈ seats, 0 ≤ p ∧ p ≤ 23
  ·have hb : ∀ p ∈ seats, 0 ≤ p ∧ p < 32 := fun p hp => by have := h2 p hp; omega
   have hl : setN seats < 4294967296 := setN_u32 seats fun p hp => (hb p hp).2
   rw [decide_eq_true h2, if_neg (by simp), impl_setOf_eq seats hs hb _ (by omega), Option.bind_some, andNot_cast _ _ hl hS]
   by_cases h3 : ∀ p ∈ seats, S.testBit p.toNat = true
   ·have e0 : andN (setN seats) S = 0 := by
     refine Nat.eq_of_testBit_eq fun i => ?_
     rw [testBit_andN, testBit_setN, Nat.zero_testBit]
     by_cases g : ∃ p ∈ seats, p.toNat = i
     ·obtain ⟨p, hp, rfl⟩ := g
      rw [h3 p hp]
      simp
     ·rw [decide_eq_false g]
      rfl
    rw [if_pos (by rw [e0]; rfl), Option.bind_some, impl_set_count_eq _ hl, Option.bind_some]
    refine ⟨_, rfl, ?_⟩
    rw [beq_iff_eq]
    have := count_setN seats hb seats.length rfl
    constructor
    ·intro e
     exact ⟨h, fun p hp => ⟨h2 p hp, h3 p hp⟩, this.1 (by omega)⟩
    ·intro e
     have := this.2 e.2.2
     omega
   ·rw [if_neg]
    ·exact ⟨false, rfl, by simp; intro _ e; exact absurd (fun p hp => (e p hp).2) h3⟩
    ·intro e
     refine h3 fun p hp => ?_
     have e0 : andN (setN seats) S = 0 := by omega
     have e1 : (andN (setN seats) S).testBit p.toNat = false := by rw [e0, Nat.zero_testBit]
     rw [testBit_andN, testBit_setN, decide_eq_true ⟨p, hp, rfl⟩] at e1
     simpa using e1
  ·rw [decide_eq_false h2]
   exact ⟨false, rfl, by simp; intro _ e; exact absurd (fun p hp => (e p hp).1) h2⟩
 ·rw [if_pos (by omega)]
  simp only [impl_areOf.j0]
  exact ⟨false, rfl, by simp; omega⟩
theorem nodup_take (l : List Int) : l.Nodup ↔ ∀ j, j < l.length → l.getD j 0 ∉ l.take j := by
 constructor
 ·intro h j hj hm
  obtain ⟨i, hi, e⟩ := List.getElem_of_mem hm
  rw [List.length_take] at hi
  rw [List.getElem_take, show l.getD j 0 = l[j] from by simp [List.getD, hj]] at e
  exact List.pairwise_iff_getElem.1 h i j (by omega) hj (by omega) e
 ·intro h
  refine List.pairwise_iff_getElem.2 fun i j hi hj hij e => ?_
  refine h j hj ?_
  rw [show l.getD j 0 = l[j] from by simp [List.getD, hj], ← e]
  exact List.mem_take_iff_getElem.2 ⟨i, by omega, rfl⟩
theorem diff_iff (s : Int) (ring : Bool) (t seats : List Int) (b : Bool) (hr : RowOK s ring t) (hline : ring = false) (S : Nat) (hS : ∀ p : Int, 0 ≤ p → (S.testBit p.toNat = true ↔ (p ≤ s - 1 ∧ (p ∈ t ↔ b = true)))) :
  Diff s ring t seats b ↔ seats.length ≤ 10 ∧ (∀ p ∈ seats, (0 ≤ p ∧ p ≤ 23) ∧ S.testBit p.toNat = true) ∧ seats.Nodup := by
 rw [nodup_take]
 have h24 := hr.1
 constructor
 ·intro h
  refine ⟨h.2.1, fun p hp => ?_, fun j hj => (h.2.2 j hj).2.2⟩
  obtain ⟨j, hj, rfl⟩ := List.getElem_of_mem hp
  have := h.2.2 j hj
  unfold Seat1 at this
  rw [show seats.getD j 0 = seats[j] from by simp [List.getD, hj]] at this
  exact ⟨by omega, (hS _ this.1.1).2 ⟨this.1.2, this.2.1⟩⟩
 ·intro h
  refine ⟨⟨hr, hline⟩, h.1, fun j hj => ?_⟩
  have h1 := h.2.1 _ (List.getElem_mem hj)
  have h2 := (hS _ h1.1.1).1 h1.2
  have h3 := h.2.2 j hj
  unfold Seat1
  rw [show seats.getD j 0 = seats[j] from by simp [List.getD, hj]] at h3 ⊢
  exact ⟨⟨h1.1.1, h2.1⟩, h2.2, h3⟩
theorem free_bits (s : Int) (ring : Bool) (t : List Int) (hr : RowOK s ring t) (p : Int) (hp : 0 ≤ p) : (andN (2 ^ s.toNat - 1) (setN t)).testBit p.toNat = true ↔ (p ≤ s - 1 ∧ (p ∈ t ↔ false = true)) := by
 have h24 := hr.1
 have hm := rising_mem t _ _ hr.2.2
 rw [testBit_andN, testBit_all, testBit_setN, Bool.and_eq_true, decide_eq_true_eq, Bool.not_eq_true', decide_eq_false_iff_not]
 constructor
 ·rintro ⟨h1, h2⟩
  refine ⟨by omega, ?_⟩
  simp only [Bool.false_eq_true, iff_false]
  exact fun e => h2 ⟨p, e, rfl⟩
 ·rintro ⟨h1, h2⟩
  refine ⟨by omega, ?_⟩
  rintro ⟨q, hq, e⟩
  have := hm q hq
  simp only [Bool.false_eq_true, iff_false] at h2
  exact h2 (by rw [show p = q from by omega]; exact hq)
theorem taken_bits (s : Int) (ring : Bool) (t : List Int) (hr : RowOK s ring t) (p : Int) (hp : 0 ≤ p) : (setN t).testBit p.toNat = true ↔ (p ≤ s - 1 ∧ (p ∈ t ↔ true = true)) := by
 have hm := rising_mem t _ _ hr.2.2
 rw [testBit_setN, decide_eq_true_eq]
 constructor
 ·rintro ⟨q, hq, e⟩
  have := hm q hq
  have e2 : p = q := by omega
  subst e2
  exact ⟨this.2, by simp [hq]⟩
 ·rintro ⟨_, h2⟩
  exact ⟨p, h2.2 rfl, rfl⟩

theorem impl_free_eq (s : Int) (ring : Bool) (t : List Int) (hr : RowOK s ring t) (k : Nat) (hk : t.length < k) : impl_Row_free.f k s ring t = some ((andN (2 ^ s.toNat - 1) (setN t) : Nat) : Int) := by
 unfold impl_Row_free.f
 have h24 := hr.1
 have hp : 2 ^ s.toNat < 2 ^ 32 := Nat.pow_lt_pow_right (by omega) (by omega)
 rw [impl_Row_bench.f, Option.bind_some]
 dsimp only
 unfold impl_bench_all.f
 rw [if_pos (by omega), Option.bind_some, impl_taken_eq s ring t hr k hk, Option.bind_some, all_cast s (by omega) (by omega), andNot_cast _ _ (by omega) (taken_lt s ring t hr).2]
theorem free_lt (s : Int) (ring : Bool) (t : List Int) (hr : RowOK s ring t) : andN (2 ^ s.toNat - 1) (setN t) < 4294967296 := by
 have h24 := hr.1
 have hp : 2 ^ s.toNat < 2 ^ 32 := Nat.pow_lt_pow_right (by omega) (by omega)
 exact andN_lt _ _ 32 (by omega)

theorem filter_snoc (l : List Int) (q : Int → Bool) (i : Nat) (hi : i < l.length) : (l.take (i + 1)).filter q = (l.take i).filter q ++ (if q l[i] then [l[i]] else []) := by
 rw [List.take_add_one, List.getElem?_eq_getElem hi, Option.toList_some, List.filter_append]
 by_cases h : q l[i] = true
 ·simp [h]
 ·simp [h]
theorem spec_between_l0 (s : Int) (ring : Bool) (t : List Int) (p : Int) (ht : t.length ≤ 1048576) (d : Nat) : ∀ (k i : Nat), i ≤ t.length → t.length - i = d → d < k →
  spec_l10Between.l0 k p (((t.take i).filter fun x => decide (x < p)).length : Int) (((t.take i).filter fun x => decide (p < x)).length : Int) i s ring t = some (((t.filter fun x => decide (x < p)).length : Int), ((t.filter fun x => decide (p < x)).length : Int)) := by
 induction d with
 | zero =>
  intro k i hi hd hk
  obtain ⟨k, rfl, _⟩ := fuel hk
  simp only [spec_l10Between.l0]
  rw [if_neg (by omega), List.take_of_length_le (by omega)]
 | succ d ih =>
  intro k i hi hd hk
  obtain ⟨k, rfl, _⟩ := fuel hk
  have h := ih k (i + 1) (by omega) (by omega) (by omega)
  rw [filter_snoc t _ i (by omega), filter_snoc t _ i (by omega), List.length_append, List.length_append] at h
  have l1 : ((t.take i).filter fun x => decide (x < p)).length ≤ i := Nat.le_trans (List.length_filter_le _ _) (by simp; omega)
  have l2 : ((t.take i).filter fun x => decide (p < x)).length ≤ i := Nat.le_trans (List.length_filter_le _ _) (by simp; omega)
  simp only [spec_l10Between.l0]
  rw [if_pos (by omega), if_pos (by omega), rd_get t i (by omega), wrap_one (n := t.length) (i := i) (by omega) (by omega)]
  by_cases g : t[i]'(by omega) < p
  ·rw [if_pos g, if_neg (by omega), wrap_one (n := t.length) (by omega) (by omega)]
   rw [if_pos (decide_eq_true g), if_neg (by simp; omega)] at h
   exact h
  ·rw [if_neg g]
   by_cases g2 : t[i]'(by omega) > p
   ·rw [if_pos g2, wrap_one (n := t.length) (by omega) (by omega)]
    rw [if_neg (by simpa using g), if_pos (decide_eq_true g2)] at h
    exact h
   ·rw [if_neg g2]
    rw [if_neg (by simpa using g), if_neg (by simpa using g2)] at h
    exact h
theorem spec_between_eq (s : Int) (ring : Bool) (t : List Int) (p : Int) (ht : t.length ≤ 1048576) (k : Nat) (hk : t.length < k) :
  spec_l10Between.f k s ring t p = some (((t.filter fun x => decide (x < p)).length : Int), ((t.filter fun x => decide (p < x)).length : Int)) :=
 spec_between_l0 s ring t p ht t.length k 0 (by omega) (by omega) hk

structure Seats (t : List Int) : Prop where
 low : ∀ x ∈ t, 0 ≤ x ∧ x < 32
 nodup : t.Nodup
theorem seats_filter {t : List Int} (h : Seats t) (q : Int → Bool) : Seats (t.filter q) := ⟨fun x hx => h.low x (List.mem_filter.1 hx).1, List.Pairwise.filter _ h.nodup⟩
theorem seats_lt {t : List Int} (h : Seats t) : setN t < 4294967296 := setN_u32 t fun x hx => (h.low x hx).2
theorem seats_len {t : List Int} (h : Seats t) : t.length ≤ 32 := by
 have hs : t ⊆ (List.range 32).map fun i : Nat => (i : Int) := by
  intro x hx
  have := h.low x hx
  exact List.mem_map.2 ⟨x.toNat, List.mem_range.2 (by omega), by omega⟩
 have := List.Nodup.length_le_of_subset h.nodup hs
 simpa using this
theorem row_seats {s : Int} {ring : Bool} {t : List Int} (h : RowOK s ring t) : Seats t := ⟨fun x hx => by
 have := rising_mem t _ _ h.2.2 x hx
 have := h.1
 omega, rising_nodup t _ _ h.2.2⟩
theorem setN_ext (S : Nat) (l : List Int) (h : ∀ i, S.testBit i = true ↔ ∃ p ∈ l, p.toNat = i) : S = setN l := by
 refine Nat.eq_of_testBit_eq fun i => ?_
 rw [testBit_setN, Bool.eq_iff_iff, h, decide_eq_true_eq]

theorem left_set {t : List Int} (h : Seats t) (p : Int) (h0 : 0 ≤ p) : setN t &&& (2 ^ p.toNat - 1) = setN (t.filter fun x => decide (x < p)) := by
 refine setN_ext _ _ fun i => ?_
 rw [Nat.testBit_and, testBit_setN, testBit_all, Bool.and_eq_true, decide_eq_true_eq, decide_eq_true_eq]
 constructor
 ·rintro ⟨⟨x, hx, e⟩, hi⟩
  have := h.low x hx
  exact ⟨x, List.mem_filter.2 ⟨hx, decide_eq_true (by omega)⟩, e⟩
 ·rintro ⟨x, hx, e⟩
  have h1 := List.mem_filter.1 hx
  have := h.low x h1.1
  have := of_decide_eq_true h1.2
  exact ⟨⟨x, h1.1, e⟩, by omega⟩
theorem right_set {t : List Int} (h : Seats t) (p : Int) (h0 : 0 ≤ p) : setN t / 2 ^ p.toNat = setN ((t.filter fun x => decide (p ≤ x)).map fun x => x - p) := by
 refine setN_ext _ _ fun i => ?_
 rw [Nat.testBit_div_two_pow, testBit_setN, decide_eq_true_eq]
 constructor
 ·rintro ⟨x, hx, e⟩
  have := h.low x hx
  exact ⟨x - p, List.mem_map.2 ⟨x, List.mem_filter.2 ⟨hx, decide_eq_true (by omega)⟩, rfl⟩, by omega⟩
 ·rintro ⟨y, hy, e⟩
  obtain ⟨x, hx, rfl⟩ := List.mem_map.1 hy
  have h1 := List.mem_filter.1 hx
  have := h.low x h1.1
  have := of_decide_eq_true h1.2
  exact ⟨x, h1.1, by omega⟩
theorem count_seats {t : List Int} (h : Seats t) : Lib.onesCount (setN t) = t.length := (count_setN t h.low t.length rfl).2 h.nodup
theorem right_seats {t : List Int} (h : Seats t) (p : Int) (h0 : 0 ≤ p) : Seats ((t.filter fun x => decide (p ≤ x)).map fun x => x - p) := by
 refine ⟨fun y hy => ?_, ?_⟩
 ·obtain ⟨x, hx, rfl⟩ := List.mem_map.1 hy
  have h1 := List.mem_filter.1 hx
  have := h.low x h1.1
  have := of_decide_eq_true h1.2
  omega
 ·refine List.Pairwise.map _ ?_ (List.Pairwise.filter _ h.nodup)
  intro a b hab he
  exact hab (by omega)
theorem impl_stands_eq {t : List Int} (h : Seats t) (p : Int) (h0 : 0 ≤ p) (h1 : p ≤ 23) (both : Bool) :
  impl_stands.f ((setN t : Nat) : Int) p both = some (if both = true ∧ (t.filter fun x => decide (p ≤ x)).length < (t.filter fun x => decide (x < p)).length then (((t.filter fun x => decide (p ≤ x)).length : Int), 1) else (((t.filter fun x => decide (x < p)).length : Int), 0)) := by
 have hS := seats_lt h
 have hp : 2 ^ p.toNat < 2 ^ 32 := Nat.pow_lt_pow_right (by omega) (by omega)
 have hd : setN t / 2 ^ p.toNat ≤ setN t := Nat.div_le_self _ _
 have e1 : shr .u32 ((setN t : Nat) : Int) p = ((setN t / 2 ^ p.toNat : Nat) : Int) := by
  unfold shr
  rw [show min p.toNat IntKind.u32.bits = p.toNat from Nat.min_eq_left (by show p.toNat ≤ 32; omega)]
  simp
 unfold impl_stands.f
 rw [if_pos h0, all_cast p h0 (by omega), and_cast _ _ hS (by omega), left_set h p h0, impl_set_count_eq _ (seats_lt (seats_filter h _)), Option.bind_some, e1, impl_set_count_eq _ (by omega), Option.bind_some, count_seats (seats_filter h _), right_set h p h0, count_seats (right_seats h p h0), List.length_map]
 cases both with
 | true =>
  rw [if_pos rfl]
  by_cases g : (t.filter fun x => decide (p ≤ x)).length < (t.filter fun x => decide (x < p)).length
  ·rw [if_pos (by omega), if_pos ⟨rfl, g⟩]
  ·rw [if_neg (by omega), if_neg (fun e => g e.2)]
 | false =>
  rw [if_neg (by simp), if_neg (by simp)]
theorem impl_stands_left {t : List Int} (h : Seats t) (p : Int) (h0 : 0 ≤ p) (h1 : p ≤ 23) : impl_stands.f ((setN t : Nat) : Int) p false = some (((t.filter fun x => decide (x < p)).length : Int), 0) := by
 rw [impl_stands_eq h p h0 h1, if_neg (by simp)]

theorem spec_l1Own_eq (l : List Int) (h : l.length < 17592186044416) : spec_l1Own.f l = some l := by
 unfold spec_l1Own.f
 rw [Option.bind_some, if_pos (by simpa using h)]
 rfl

def putL (t : List Int) (p : Int) : List Int := (t.filter fun x => decide (x < p)) ++ p :: t.filter fun x => decide (p < x)
theorem rising_split (t : List Int) (p : Int) (hr : ∀ i j, (h : i < j) → (hj : j < t.length) → t[i]'(by omega) < t[j]) (i : Nat) (hi : i ≤ t.length) (h1 : ∀ j, (h : j < i) → t[j]'(by omega) < p) (h2 : ∀ j, i ≤ j → (hj : j < t.length) → p < t[j]) :
  t.take i = (t.filter fun x => decide (x < p)) ∧ t.drop i = (t.filter fun x => decide (p < x)) := by
 have e := (List.take_append_drop i t).symm
 have a1 : ∀ x ∈ t.take i, x < p := fun x hx => by
  obtain ⟨j, hj, rfl⟩ := List.getElem_of_mem hx
  rw [List.length_take] at hj
  rw [List.getElem_take]
  exact h1 j (by omega)
 have a2 : ∀ x ∈ t.drop i, p < x := fun x hx => by
  obtain ⟨j, hj, rfl⟩ := List.getElem_of_mem hx
  rw [List.length_drop] at hj
  rw [List.getElem_drop]
  exact h2 _ (by omega) (by omega)
 constructor
 ·conv => rhs; rw [e]
  rw [List.filter_append, List.filter_eq_self.2 (fun x hx => decide_eq_true (a1 x hx)), List.filter_eq_nil_iff.2 (fun x hx => by have := a2 x hx; simp; omega), List.append_nil]
 ·conv => rhs; rw [e]
  rw [List.filter_append, List.filter_eq_nil_iff.2 (fun x hx => by have := a1 x hx; simp; omega), List.filter_eq_self.2 (fun x hx => decide_eq_true (a2 x hx)), List.nil_append]
theorem spec_l1Put_l0 (t : List Int) (p : Int) (ht : t.length ≤ 1048576) (hr : ∀ i j, (h : i < j) → (hj : j < t.length) → t[i]'(by omega) < t[j]) (hp : p ∉ t) (d : Nat) : ∀ (k i : Nat), i ≤ t.length → t.length - i = d → d < k → (∀ j, (h : j < i) → (hj : j < t.length) → t[j] < p) →
  spec_l1Put.l0 k t p (i : Int) = some (putL t p) := by
 have done : ∀ i, i ≤ t.length → (∀ j, (h : j < i) → (hj : j < t.length) → t[j] < p) → (∀ j, i ≤ j → (hj : j < t.length) → p < t[j]) → [] ++ t.take i ++ [p] ++ t.drop i = putL t p := by
  intro i hi h1 h2
  obtain ⟨e1, e2⟩ := rising_split t p hr i hi (fun j hj => h1 j hj (by omega)) h2
  rw [e1, e2]
  simp [putL]
 induction d with
 | zero =>
  intro k i hi hd hk h1
  obtain ⟨k, rfl, _⟩ := fuel hk
  simp only [spec_l1Put.l0]
  rw [if_neg (by omega), Option.bind_some, if_pos (by omega), if_pos (by omega), if_pos (by simp; omega), Option.bind_some, Option.bind_some, if_pos (by simp; omega), Option.bind_some, if_pos (by simp; omega), Int.toNat_natCast, done i hi h1 (fun j hj hj' => by omega)]
 | succ d ih =>
  intro k i hi hd hk h1
  obtain ⟨k, rfl, _⟩ := fuel hk
  simp only [spec_l1Put.l0]
  rw [if_pos (by omega), if_pos (by omega), rd_get t i (by omega)]
  by_cases g : t[i]'(by omega) < p
  ·rw [if_pos g, wrap_one (n := t.length) (by omega) (by omega)]
   refine ih k (i + 1) (by omega) (by omega) (by omega) fun j hj hj' => ?_
   by_cases e : j = i
   ·subst e; exact g
   ·exact h1 j (by omega) hj'
  ·have hne : t[i]'(by omega) ≠ p := fun e => hp (e ▸ List.getElem_mem _)
   rw [if_neg g, if_neg hne, Option.bind_some, if_pos (by omega), if_pos (by simp; omega), Option.bind_some, Option.bind_some, if_pos (by simp; omega), Option.bind_some, if_pos (by simp; omega), Int.toNat_natCast, done i hi h1]
   intro j hj hj'
   by_cases e : j = i
   ·subst e; omega
   ·have := hr i j (by omega) hj'
    omega
theorem spec_l1Put_eq (t : List Int) (p : Int) (ht : t.length ≤ 1048576) (hr : ∀ i j, (h : i < j) → (hj : j < t.length) → t[i]'(by omega) < t[j]) (hp : p ∉ t) (k : Nat) (hk : t.length < k) : spec_l1Put.f k t p = some (putL t p) :=
 spec_l1Put_l0 t p ht hr hp t.length k 0 (by omega) (by omega) hk (fun j h => by omega)
theorem spec_l2With_eq (s : Int) (ring : Bool) (t : List Int) (p : Int) (ht : t.length ≤ 1048576) (hr : ∀ i j, (h : i < j) → (hj : j < t.length) → t[i]'(by omega) < t[j]) (hp : p ∉ t) (k : Nat) (hk : t.length < k) : spec_l2With.f k s ring t p = some (s, ring, putL t p) := by
 unfold spec_l2With.f
 rw [spec_l1Own_eq t (by omega), Option.bind_some, spec_l1Put_eq t p ht hr hp k hk, Option.bind_some, spec_l2Made.f, Option.bind_some]
theorem mem_put (t : List Int) (p x : Int) (hp : p ∉ t) : x ∈ putL t p ↔ x = p ∨ x ∈ t := by
 unfold putL
 rw [List.mem_append, List.mem_cons, List.mem_filter, List.mem_filter, decide_eq_true_eq, decide_eq_true_eq]
 constructor
 ·rintro (e | e | e)
  ·exact .inr e.1
  ·exact .inl e
  ·exact .inr e.1
 ·rintro (e | e)
  ·exact .inr (.inl e)
  ·rcases Int.lt_trichotomy x p with g | g | g
   ·exact .inl ⟨e, g⟩
   ·exact .inr (.inl g)
   ·exact .inr (.inr ⟨e, g⟩)
theorem rising_of (t : List Int) (h : t.Pairwise (· < ·)) : ∀ i j, (h : i < j) → (hj : j < t.length) → t[i]'(by omega) < t[j] := fun i j hij hj => List.pairwise_iff_getElem.1 h i j (by omega) hj hij
theorem put_pairwise (t : List Int) (p : Int) (h : t.Pairwise (· < ·)) : (putL t p).Pairwise (· < ·) := by
 unfold putL
 rw [List.pairwise_append]
 refine ⟨List.Pairwise.filter _ h, List.pairwise_cons.2 ⟨fun x hx => ?_, List.Pairwise.filter _ h⟩, fun a ha b hb => ?_⟩
 ·exact of_decide_eq_true (List.mem_filter.1 hx).2
 ·have h1 := of_decide_eq_true (List.mem_filter.1 ha).2
  rcases List.mem_cons.1 hb with e | e
  ·omega
  ·have h2 := of_decide_eq_true (List.mem_filter.1 e).2
   omega
theorem row_pairwise {s : Int} {ring : Bool} {t : List Int} (h : RowOK s ring t) : t.Pairwise (· < ·) := List.pairwise_iff_getElem.2 fun i j hi hj hij => rising_lt t _ _ h.2.2 i j hij hj
theorem put_seats {t : List Int} (h : Seats t) (hw : t.Pairwise (· < ·)) (p : Int) (h0 : 0 ≤ p) (h1 : p < 32) (hp : p ∉ t) : Seats (putL t p) := by
 refine ⟨fun x hx => ?_, ?_⟩
 ·rcases (mem_put t p x hp).1 hx with e | e
  ·omega
  ·exact h.low x e
 ·refine List.Pairwise.imp ?_ (put_pairwise t p hw)
  intro a b hab e
  omega
theorem put_set (t : List Int) (p : Int) (hp : p ∉ t) : setN t ||| 2 ^ p.toNat = setN (putL t p) := by
 refine setN_ext _ _ fun i => ?_
 rw [Nat.testBit_or, testBit_setN, Nat.testBit_two_pow, Bool.or_eq_true, decide_eq_true_eq, decide_eq_true_eq]
 constructor
 ·rintro (⟨x, hx, e⟩ | e)
  ·exact ⟨x, (mem_put t p x hp).2 (.inr hx), e⟩
  ·exact ⟨p, (mem_put t p p hp).2 (.inl rfl), e⟩
 ·rintro ⟨x, hx, e⟩
  rcases (mem_put t p x hp).1 hx with g | g
  ·subst g; exact .inr e
  ·exact .inl ⟨x, g, e⟩
theorem filter_ge (t : List Int) (p : Int) (hp : p ∉ t) : (t.filter fun x => decide (p ≤ x)) = t.filter fun x => decide (p < x) := by
 refine List.filter_congr fun x hx => ?_
 rw [decide_eq_decide]
 constructor
 ·intro e
  have : x ≠ p := fun z => hp (z ▸ hx)
  omega
 ·intro e; omega

theorem spec_without_l0 (s : Int) (ring : Bool) (t : List Int) (p : Int) (ht : t.length ≤ 1048576) (d : Nat) : ∀ (k i : Nat), i ≤ t.length → t.length - i = d → d < k →
  spec_l2Without.l0 k p ((t.take i).filter fun x => !decide (x = p)) i s ring t = some (s, ring, t.filter fun x => !decide (x = p)) := by
 induction d with
 | zero =>
  intro k i hi hd hk
  obtain ⟨k, rfl, _⟩ := fuel hk
  simp only [spec_l2Without.l0]
  rw [if_neg (by omega), List.take_of_length_le (by omega), spec_l2Made.f, Option.bind_some]
 | succ d ih =>
  intro k i hi hd hk
  obtain ⟨k, rfl, _⟩ := fuel hk
  have h := ih k (i + 1) (by omega) (by omega) (by omega)
  rw [filter_snoc t _ i (by omega)] at h
  have l1 : ((t.take i).filter fun x => !decide (x = p)).length ≤ i := Nat.le_trans (List.length_filter_le _ _) (by simp; omega)
  simp only [spec_l2Without.l0]
  rw [if_pos (by omega), if_pos (by omega), rd_get t i (by omega), wrap_one (n := t.length) (i := i) (by omega) (by omega)]
  by_cases g : t[i]'(by omega) = p
  ·rw [if_pos g]
   rw [if_neg (by simp [g]), List.append_nil] at h
   exact h
  ·rw [if_neg g, if_pos (by omega)]
   rw [if_pos (by simp [g])] at h
   exact h
theorem spec_without_eq (s : Int) (ring : Bool) (t : List Int) (p : Int) (ht : t.length ≤ 1048576) (k : Nat) (hk : t.length < k) : spec_l2Without.f k s ring t p = some (s, ring, t.filter fun x => !decide (x = p)) :=
 spec_without_l0 s ring t p ht t.length k 0 (by omega) (by omega) hk

def leftN (t : List Int) (p : Int) : Nat := (t.filter fun x => decide (x < p)).length
def rightN (t : List Int) (p : Int) : Nat := (t.filter fun x => decide (p < x)).length
def ownN (t : List Int) (both : Bool) (p : Int) : Int := if both = true ∧ rightN t p < leftN t p then (rightN t p : Int) else (leftN t p : Int)
theorem own_le {t : List Int} (h : Seats t) (both : Bool) (p : Int) : 0 ≤ ownN t both p ∧ ownN t both p ≤ 32 := by
 have hl := seats_len h
 have h1 : leftN t p ≤ t.length := List.length_filter_le _ _
 have h2 : rightN t p ≤ t.length := List.length_filter_le _ _
 unfold ownN
 split <;> omega
theorem spec_own_eq (s : Int) (ring : Bool) (t : List Int) (p : Int) (both : Bool) (ht : t.length ≤ 1048576) (k : Nat) (hk : t.length < k) : spec_l10Stands.f k s ring t p both = some (ownN t both p) := by
 unfold spec_l10Stands.f
 rw [spec_between_eq s ring t p ht k hk, Option.bind_some]
 dsimp only
 cases both with
 | true =>
  rw [if_pos rfl]
  unfold spec_l1Least.f ownN leftN rightN
  by_cases g : (t.filter fun x => decide (p < x)).length < (t.filter fun x => decide (x < p)).length
  ·rw [if_neg (by omega), Option.bind_some, if_pos ⟨rfl, g⟩]
  ·by_cases g2 : (t.filter fun x => decide (x < p)).length < (t.filter fun x => decide (p < x)).length
   ·rw [if_pos (by omega), Option.bind_some, if_neg (fun e => g e.2)]
   ·rw [if_neg (by omega), Option.bind_some, if_neg (fun e => g e.2)]
    refine congrArg some ?_
    omega
 | false =>
  rw [if_neg (by simp)]
  unfold ownN leftN
  rw [if_neg (by simp)]
theorem impl_own_eq {t : List Int} (h : Seats t) (p : Int) (h0 : 0 ≤ p) (h1 : p ≤ 23) (hp : p ∉ t) (both : Bool) : ∃ z, impl_stands.f ((setN t : Nat) : Int) p both = some (ownN t both p, z) := by
 rw [impl_stands_eq h p h0 h1, filter_ge t p hp]
 unfold ownN leftN rightN
 by_cases g : both = true ∧ (t.filter fun x => decide (p < x)).length < (t.filter fun x => decide (x < p)).length
 ·rw [if_pos g, if_pos g]; exact ⟨_, rfl⟩
 ·rw [if_neg g, if_neg g]; exact ⟨_, rfl⟩

def standL (both : Bool) : List Int → List Int → List Int
 | _, [] => []
 | t, p :: ps => ownN t both p :: standL both (putL t p) ps
theorem standL_length (both : Bool) : ∀ (ps t : List Int), (standL both t ps).length = ps.length
 | [], _ => rfl
 | _ :: ps, _ => by simp [standL, standL_length both ps]
theorem spec_stands_l0 (s : Int) (ring both : Bool) (seats : List Int) (hs : seats.length ≤ 10) (hb : ∀ p ∈ seats, 0 ≤ p ∧ p ≤ 23) (hn : seats.Nodup) (d : Nat) : ∀ (k i : Nat) (t out : List Int) (acc : Int), Seats t → t.Pairwise (· < ·) → (∀ j, i ≤ j → (hj : j < seats.length) → seats[j] ∉ t) → i ≤ seats.length → seats.length - i = d → d + 40 < k → out.length ≤ i → 0 ≤ acc → acc ≤ 40 * i →
  spec_StandsOf.l0 k seats both out acc (i : Int) s ring t = some (out ++ standL both t (seats.drop i), acc + (standL both t (seats.drop i)).sum, true) := by
 induction d with
 | zero =>
  intro k i t out acc h hw hf hi hd hk ho h0 h1
  obtain ⟨k, rfl, _⟩ := fuel (show 0 < k by omega)
  simp only [spec_StandsOf.l0]
  rw [if_neg (by omega), List.drop_eq_nil_of_le (by omega)]
  simp [standL]
 | succ d ih =>
  intro k i t out acc h hw hf hi hd hk ho h0 h1
  obtain ⟨k, rfl, _⟩ := fuel (show 0 < k by omega)
  have hl := seats_len h
  have hp := hb (seats[i]'(by omega)) (List.getElem_mem _)
  have hnot := hf i (Nat.le_refl _) (by omega)
  have hf' : ∀ j, i + 1 ≤ j → (hj : j < seats.length) → seats[j] ∉ putL t (seats[i]'(by omega)) := fun j hij hj e => by
   rcases (mem_put t _ _ hnot).1 e with g | g
   ·exact (List.pairwise_iff_getElem.1 hn i j (by omega) hj (by omega)) g.symm
   ·exact hf j (by omega) hj g
  have ho2 := own_le h both (seats[i]'(by omega))
  simp only [spec_StandsOf.l0]
  rw [if_pos (by omega), if_pos (by omega), rd_get seats i (by omega), spec_own_eq s ring t _ both (by omega) k (by omega), Option.bind_some, if_pos (by omega), spec_l2With_eq s ring t _ (by omega) (rising_of t hw) hnot k (by omega), Option.bind_some]
  dsimp only
  rw [wrap_one (n := seats.length) (by omega) (by omega), wrap_id (by omega) (by omega), ih k (i + 1) _ _ _ (put_seats h hw _ hp.1 (by omega) hnot) (put_pairwise t _ hw) hf' (by omega) (by omega) (by omega) (by simp; omega) (by omega) (by omega)]
  rw [List.drop_eq_getElem_cons (l := seats) (i := i) (by omega), standL, List.sum_cons, List.append_assoc]
  refine congrArg some (Prod.ext rfl (Prod.ext ?_ rfl))
  dsimp only
  omega
theorem impl_stands_l0 (both : Bool) (seats : List Int) (hs : seats.length ≤ 10) (hb : ∀ p ∈ seats, 0 ≤ p ∧ p ≤ 23) (hn : seats.Nodup) (d : Nat) : ∀ (k i : Nat) (t out : List Int) (acc : Int), Seats t → t.Pairwise (· < ·) → (∀ j, i ≤ j → (hj : j < seats.length) → seats[j] ∉ t) → i ≤ seats.length → seats.length - i = d → d + 40 < k → out.length ≤ i → 0 ≤ acc → acc ≤ 40 * i →
  impl_StandsOf.l0 k both out acc ((setN t : Nat) : Int) seats (seats.length : Int) (i : Int) = some (out ++ standL both t (seats.drop i), acc + (standL both t (seats.drop i)).sum, true) := by
 induction d with
 | zero =>
  intro k i t out acc h hw hf hi hd hk ho h0 h1
  obtain ⟨k, rfl, _⟩ := fuel (show 0 < k by omega)
  simp only [impl_StandsOf.l0]
  rw [if_neg (by omega), List.drop_eq_nil_of_le (by omega)]
  simp [standL]
 | succ d ih =>
  intro k i t out acc h hw hf hi hd hk ho h0 h1
  obtain ⟨k, rfl, _⟩ := fuel (show 0 < k by omega)
  have hp := hb (seats[i]'(by omega)) (List.getElem_mem _)
  have hnot := hf i (Nat.le_refl _) (by omega)
  have hf' : ∀ j, i + 1 ≤ j → (hj : j < seats.length) → seats[j] ∉ putL t (seats[i]'(by omega)) := fun j hij hj e => by
   rcases (mem_put t _ _ hnot).1 e with g | g
   ·exact (List.pairwise_iff_getElem.1 hn i j (by omega) hj (by omega)) g.symm
   ·exact hf j (by omega) hj g
  have h2 : 2 ^ (seats[i]'(by omega)).toNat < 2 ^ 32 := Nat.pow_lt_pow_right (by omega) (by omega)
  have hset := put_set t _ hnot
  have ho2 := own_le h both (seats[i]'(by omega))
  obtain ⟨z, hz⟩ := impl_own_eq h _ hp.1 hp.2 hnot both
  simp only [impl_StandsOf.l0]
  rw [if_pos (by omega), if_pos (by omega), if_pos (by omega), rd_get seats i (by omega), hz, Option.bind_some, if_pos (by omega), if_pos (by omega), shl_one _ hp.1 (by omega), or_cast _ _ (seats_lt h) (by omega), hset]
  dsimp only
  rw [wrap_one (n := seats.length) (by omega) (by omega), wrap_id (by omega) (by omega), ih k (i + 1) _ _ _ (put_seats h hw _ hp.1 (by omega) hnot) (put_pairwise t _ hw) hf' (by omega) (by omega) (by omega) (by simp; omega) (by omega) (by omega)]
  rw [List.drop_eq_getElem_cons (l := seats) (i := i) (by omega), standL, List.sum_cons, List.append_assoc]
  refine congrArg some (Prod.ext rfl (Prod.ext ?_ rfl))
  dsimp only
  omega
open Classical in
theorem stands_vals (s : Int) (ring : Bool) (t seats : List Int) (both : Bool) (ht : t.length ≤ 1048576) (hs : seats.length ≤ 1048576) : (Diff s ring t seats false → Ev (fun k => spec_StandsOf.f k s ring t seats both) (standL both t seats, (standL both t seats).sum, true) ∧ Ev (fun k => impl_StandsOf.f k s ring t seats both) (standL both t seats, (standL both t seats).sum, true)) ∧ (¬ Diff s ring t seats false → Ev (fun k => spec_StandsOf.f k s ring t seats both) ([], 0, false) ∧ Ev (fun k => impl_StandsOf.f k s ring t seats both) ([], 0, false)) := by
 by_cases h : Diff s ring t seats false
 ·have hd := (diff_iff s ring t seats false h.1.1 h.1.2 _ (fun p hp => free_bits s ring t h.1.1 p hp)).1 h
  have hnot : ∀ j, 0 ≤ j → (hj : j < seats.length) → seats[j] ∉ t := fun j _ hj e => by
   have := (h.2.2 j hj).2.1
   rw [show seats.getD j 0 = seats[j] from by simp [List.getD, hj]] at this
   exact absurd (this.1 e) (by simp)
  refine ⟨fun _ => ⟨Ev.bound (t.length + seats.length + 200) fun k hk => ?_, Ev.bound (t.length + seats.length + 200) fun k hk => ?_⟩, fun g => absurd h g⟩
  ·unfold spec_StandsOf.f
   rw [Option.bind_some, spec_l10Different_eq s ring t seats false ht hs k (by omega), Option.bind_some, if_pos (decide_eq_true h)]
   have := spec_stands_l0 s ring both seats hd.1 (fun p hp => (hd.2.1 p hp).1) hd.2.2 seats.length k 0 t [] 0 (row_seats h.1.1) (row_pairwise h.1.1) hnot (by omega) (by omega) (by omega) (by simp) (by omega) (by omega)
   rw [List.drop_zero, List.nil_append, Int.zero_add] at this
   exact this
  ·obtain ⟨k, rfl, _⟩ := fuel (show 0 < k by omega)
   unfold impl_StandsOf.f
   rw [impl_isLine_eq s ring t ht _ (by omega), Option.bind_some, if_pos (decide_eq_true h.1), impl_free_eq s ring t h.1.1 _ (by omega), Option.bind_some]
   obtain ⟨a, e, ha⟩ := impl_areOf_eq seats (andN (2 ^ s.toNat - 1) (setN t)) hs (free_lt s ring t h.1.1) (k + 1) (by omega)
   rw [e, Option.bind_some, ha.2 hd]
   simp only [impl_StandsOf.j0]
   rw [if_neg (by simp), impl_taken_eq s ring t h.1.1 _ (by omega), Option.bind_some]
   have := impl_stands_l0 both seats hd.1 (fun p hp => (hd.2.1 p hp).1) hd.2.2 seats.length k 0 t [] 0 (row_seats h.1.1) (row_pairwise h.1.1) hnot (by omega) (by omega) (by omega) (by simp) (by omega) (by omega)
   rw [List.drop_zero, List.nil_append, Int.zero_add] at this
   exact this
 ·refine ⟨fun g => absurd g h, fun _ => ⟨Ev.bound (t.length + seats.length + 200) fun k hk => ?_, Ev.bound (t.length + seats.length + 200) fun k hk => ?_⟩⟩
  ·unfold spec_StandsOf.f
   rw [Option.bind_some, spec_l10Different_eq s ring t seats false ht hs k (by omega), Option.bind_some, if_neg (by rw [decide_eq_true_eq]; exact h)]
  ·obtain ⟨k, rfl, _⟩ := fuel (show 0 < k by omega)
   unfold impl_StandsOf.f
   rw [impl_isLine_eq s ring t ht _ (by omega), Option.bind_some]
   by_cases g : RowOK s ring t ∧ ring = false
   ·rw [if_pos (decide_eq_true g), impl_free_eq s ring t g.1 _ (by omega), Option.bind_some]
    obtain ⟨a, e, ha⟩ := impl_areOf_eq seats (andN (2 ^ s.toNat - 1) (setN t)) hs (free_lt s ring t g.1) (k + 1) (by omega)
    have hf : a = false := by
     rw [Bool.eq_false_iff]
     intro z
     exact h ((diff_iff s ring t seats false g.1 g.2 _ (fun p hp => free_bits s ring t g.1 p hp)).2 (ha.1 z))
    rw [e, Option.bind_some, hf]
    simp only [impl_StandsOf.j0]
    simp
   ·rw [if_neg (by rw [decide_eq_true_eq]; exact g)]
    simp only [impl_StandsOf.j0]
    simp
def sidesL : List Int → List Int → List Int
 | _, [] => []
 | t, p :: ps => (if rightN t p < leftN t p then 1 else 0) :: sidesL (putL t p) ps
theorem sidesL_length : ∀ (ps t : List Int), (sidesL t ps).length = ps.length
 | [], _ => rfl
 | _ :: ps, _ => by simp [sidesL, sidesL_length ps]
theorem spec_sides_l0 (s : Int) (ring : Bool) (seats : List Int) (hs : seats.length ≤ 10) (hb : ∀ p ∈ seats, 0 ≤ p ∧ p ≤ 23) (hn : seats.Nodup) (d : Nat) : ∀ (k i : Nat) (t out : List Int), Seats t → t.Pairwise (· < ·) → (∀ j, i ≤ j → (hj : j < seats.length) → seats[j] ∉ t) → i ≤ seats.length → seats.length - i = d → d + 40 < k → out.length ≤ i →
  spec_SidesOf.l0 k seats out (i : Int) s ring t = some (out ++ sidesL t (seats.drop i), true) := by
 induction d with
 | zero =>
  intro k i t out h hw hf hi hd hk ho
  obtain ⟨k, rfl, _⟩ := fuel (show 0 < k by omega)
  simp only [spec_SidesOf.l0]
  rw [if_neg (by omega), List.drop_eq_nil_of_le (by omega)]
  simp [sidesL]
 | succ d ih =>
  intro k i t out h hw hf hi hd hk ho
  obtain ⟨k, rfl, _⟩ := fuel (show 0 < k by omega)
  have hl := seats_len h
  have hp := hb (seats[i]'(by omega)) (List.getElem_mem _)
  have hnot := hf i (Nat.le_refl _) (by omega)
  have hf' : ∀ j, i + 1 ≤ j → (hj : j < seats.length) → seats[j] ∉ putL t (seats[i]'(by omega)) := fun j hij hj e => by
   rcases (mem_put t _ _ hnot).1 e with g | g
   ·exact (List.pairwise_iff_getElem.1 hn i j (by omega) hj (by omega)) g.symm
   ·exact hf j (by omega) hj g
  have go : ∀ c : Int, spec_SidesOf.l0 k seats (out ++ [c]) (wrap64 ((i : Int) + 1)) s ring (putL t (seats[i]'(by omega))) = some ((out ++ [c]) ++ sidesL (putL t (seats[i]'(by omega))) (seats.drop (i + 1)), true) := fun c => by
   rw [wrap_one (n := seats.length) (by omega) (by omega)]
   exact ih k (i + 1) _ _ (put_seats h hw _ hp.1 (by omega) hnot) (put_pairwise t _ hw) hf' (by omega) (by omega) (by omega) (by simp; omega)
  simp only [spec_SidesOf.l0]
  rw [if_pos (by omega), if_pos (by omega), rd_get seats i (by omega), spec_between_eq s ring t _ (by omega) k (by omega), Option.bind_some, spec_l2With_eq s ring t _ (by omega) (rising_of t hw) hnot k (by omega)]
  dsimp only
  rw [List.drop_eq_getElem_cons (l := seats) (i := i) (by omega), sidesL]
  by_cases g : rightN t (seats[i]'(by omega)) < leftN t (seats[i]'(by omega))
  ·unfold rightN leftN at g
   rw [if_pos (by omega), if_pos (by omega), Option.bind_some, go 1, if_pos (by unfold rightN leftN; exact g), List.append_assoc]
   rfl
  ·unfold rightN leftN at g
   rw [if_neg (by omega), if_pos (by omega), Option.bind_some, go 0, if_neg (by unfold rightN leftN; exact g), List.append_assoc]
   rfl
theorem impl_sides_l0 (seats : List Int) (hs : seats.length ≤ 10) (hb : ∀ p ∈ seats, 0 ≤ p ∧ p ≤ 23) (hn : seats.Nodup) (d : Nat) : ∀ (k i : Nat) (t out : List Int), Seats t → t.Pairwise (· < ·) → (∀ j, i ≤ j → (hj : j < seats.length) → seats[j] ∉ t) → i ≤ seats.length → seats.length - i = d → d + 40 < k → out.length ≤ i →
  impl_SidesOf.l0 k out ((setN t : Nat) : Int) seats (seats.length : Int) (i : Int) = some (out ++ sidesL t (seats.drop i), true) := by
 induction d with
 | zero =>
  intro k i t out h hw hf hi hd hk ho
  obtain ⟨k, rfl, _⟩ := fuel (show 0 < k by omega)
  simp only [impl_SidesOf.l0]
  rw [if_neg (by omega), List.drop_eq_nil_of_le (by omega)]
  simp [sidesL]
 | succ d ih =>
  intro k i t out h hw hf hi hd hk ho
  obtain ⟨k, rfl, _⟩ := fuel (show 0 < k by omega)
  have hp := hb (seats[i]'(by omega)) (List.getElem_mem _)
  have hnot := hf i (Nat.le_refl _) (by omega)
  have hf' : ∀ j, i + 1 ≤ j → (hj : j < seats.length) → seats[j] ∉ putL t (seats[i]'(by omega)) := fun j hij hj e => by
   rcases (mem_put t _ _ hnot).1 e with g | g
   ·exact (List.pairwise_iff_getElem.1 hn i j (by omega) hj (by omega)) g.symm
   ·exact hf j (by omega) hj g
  have h2 : 2 ^ (seats[i]'(by omega)).toNat < 2 ^ 32 := Nat.pow_lt_pow_right (by omega) (by omega)
  have hset := put_set t _ hnot
  simp only [impl_SidesOf.l0]
  rw [if_pos (by omega), if_pos (by omega), if_pos (by omega), rd_get seats i (by omega), impl_stands_eq h _ hp.1 hp.2, Option.bind_some, filter_ge t _ hnot, shl_one _ hp.1 (by omega), or_cast _ _ (seats_lt h) (by omega), hset]
  rw [List.drop_eq_getElem_cons (l := seats) (i := i) (by omega), sidesL]
  have e2 : (if true = true ∧ (t.filter fun x => decide (seats[i]'(by omega) < x)).length < (t.filter fun x => decide (x < seats[i]'(by omega))).length then (((t.filter fun x => decide (seats[i]'(by omega) < x)).length : Int), (1 : Int)) else (((t.filter fun x => decide (x < seats[i]'(by omega))).length : Int), 0)).2 = if rightN t (seats[i]'(by omega)) < leftN t (seats[i]'(by omega)) then 1 else 0 := by
   unfold rightN leftN
   by_cases g : (t.filter fun x => decide (seats[i]'(by omega) < x)).length < (t.filter fun x => decide (x < seats[i]'(by omega))).length
   ·rw [if_pos ⟨rfl, g⟩, if_pos g]
   ·rw [if_neg (fun e => g e.2), if_neg g]
  rw [e2, if_pos (by omega), if_pos (by omega), wrap_one (n := seats.length) (by omega) (by omega), ih k (i + 1) _ _ (put_seats h hw _ hp.1 (by omega) hnot) (put_pairwise t _ hw) hf' (by omega) (by omega) (by omega) (by simp; omega), List.append_assoc]
  rfl
open Classical in
theorem sides_vals (s : Int) (ring : Bool) (t seats : List Int) (ht : t.length ≤ 1048576) (hs : seats.length ≤ 1048576) : (Diff s ring t seats false → Ev (fun k => spec_SidesOf.f k s ring t seats) (sidesL t seats, true) ∧ Ev (fun k => impl_SidesOf.f k s ring t seats) (sidesL t seats, true)) ∧ (¬ Diff s ring t seats false → Ev (fun k => spec_SidesOf.f k s ring t seats) ([], false) ∧ Ev (fun k => impl_SidesOf.f k s ring t seats) ([], false)) := by
 by_cases h : Diff s ring t seats false
 ·have hd := (diff_iff s ring t seats false h.1.1 h.1.2 _ (fun p hp => free_bits s ring t h.1.1 p hp)).1 h
  have hnot : ∀ j, 0 ≤ j → (hj : j < seats.length) → seats[j] ∉ t := fun j _ hj e => by
   have := (h.2.2 j hj).2.1
   rw [show seats.getD j 0 = seats[j] from by simp [List.getD, hj]] at this
   exact absurd (this.1 e) (by simp)
  refine ⟨fun _ => ⟨Ev.bound (t.length + seats.length + 200) fun k hk => ?_, Ev.bound (t.length + seats.length + 200) fun k hk => ?_⟩, fun g => absurd h g⟩
  ·unfold spec_SidesOf.f
   rw [Option.bind_some, spec_l10Different_eq s ring t seats false ht hs k (by omega), Option.bind_some, if_pos (decide_eq_true h)]
   exact spec_sides_l0 s ring seats hd.1 (fun p hp => (hd.2.1 p hp).1) hd.2.2 seats.length k 0 t [] (row_seats h.1.1) (row_pairwise h.1.1) hnot (by omega) (by omega) (by omega) (by simp)
  ·obtain ⟨k, rfl, _⟩ := fuel (show 0 < k by omega)
   unfold impl_SidesOf.f
   rw [impl_isLine_eq s ring t ht _ (by omega), Option.bind_some, if_pos (decide_eq_true h.1), impl_free_eq s ring t h.1.1 _ (by omega), Option.bind_some]
   obtain ⟨a, e, ha⟩ := impl_areOf_eq seats (andN (2 ^ s.toNat - 1) (setN t)) hs (free_lt s ring t h.1.1) (k + 1) (by omega)
   rw [e, Option.bind_some, ha.2 hd]
   simp only [impl_SidesOf.j0]
   rw [if_neg (by simp), impl_taken_eq s ring t h.1.1 _ (by omega), Option.bind_some]
   exact impl_sides_l0 seats hd.1 (fun p hp => (hd.2.1 p hp).1) hd.2.2 seats.length k 0 t [] (row_seats h.1.1) (row_pairwise h.1.1) hnot (by omega) (by omega) (by omega) (by simp)
 ·refine ⟨fun g => absurd g h, fun _ => ⟨Ev.bound (t.length + seats.length + 200) fun k hk => ?_, Ev.bound (t.length + seats.length + 200) fun k hk => ?_⟩⟩
  ·unfold spec_SidesOf.f
   rw [Option.bind_some, spec_l10Different_eq s ring t seats false ht hs k (by omega), Option.bind_some, if_neg (by rw [decide_eq_true_eq]; exact h)]
  ·obtain ⟨k, rfl, _⟩ := fuel (show 0 < k by omega)
   unfold impl_SidesOf.f
   rw [impl_isLine_eq s ring t ht _ (by omega), Option.bind_some]
   by_cases g : RowOK s ring t ∧ ring = false
   ·rw [if_pos (decide_eq_true g), impl_free_eq s ring t g.1 _ (by omega), Option.bind_some]
    obtain ⟨a, e, ha⟩ := impl_areOf_eq seats (andN (2 ^ s.toNat - 1) (setN t)) hs (free_lt s ring t g.1) (k + 1) (by omega)
    have hf : a = false := by
     rw [Bool.eq_false_iff]
     intro z
     exact h ((diff_iff s ring t seats false g.1 g.2 _ (fun p hp => free_bits s ring t g.1 p hp)).2 (ha.1 z))
    rw [e, Option.bind_some, hf]
    simp only [impl_SidesOf.j0]
    simp
   ·rw [if_neg (by rw [decide_eq_true_eq]; exact g)]
    simp only [impl_SidesOf.j0]
    simp
def leaveL : List Int → List Int → List Int
 | _, [] => []
 | t, p :: ps => ((t.filter fun x => decide (x < p)).length : Int) :: leaveL (t.filter fun x => !decide (x = p)) ps
theorem leaveL_length : ∀ (ps t : List Int), (leaveL t ps).length = ps.length
 | [], _ => rfl
 | _ :: ps, _ => by simp [leaveL, leaveL_length ps]
theorem spec_leave_l0 (s : Int) (ring : Bool) (seats : List Int) (hs : seats.length ≤ 10) (d : Nat) : ∀ (k i : Nat) (t out : List Int) (acc : Int), Seats t → i ≤ seats.length → seats.length - i = d → d + 40 < k → out.length ≤ i → 0 ≤ acc → acc ≤ 40 * i →
  spec_LeaveStands.l0 k seats out acc (i : Int) s ring t = some (out ++ leaveL t (seats.drop i), acc + (leaveL t (seats.drop i)).sum, true) := by
 induction d with
 | zero =>
  intro k i t out acc h hi hd hk ho h0 h1
  obtain ⟨k, rfl, _⟩ := fuel (show 0 < k by omega)
  simp only [spec_LeaveStands.l0]
  rw [if_neg (by omega), List.drop_eq_nil_of_le (by omega)]
  simp [leaveL]
 | succ d ih =>
  intro k i t out acc h hi hd hk ho h0 h1
  obtain ⟨k, rfl, _⟩ := fuel (show 0 < k by omega)
  have hl := seats_len h
  have hf := List.length_filter_le (fun x => decide (x < seats[i]'(by omega))) t
  simp only [spec_LeaveStands.l0]
  rw [if_pos (by omega), if_pos (by omega), rd_get seats i (by omega), spec_between_eq s ring t _ (by omega) k (by omega), Option.bind_some, if_pos (by omega), spec_without_eq s ring t _ (by omega) k (by omega), Option.bind_some]
  dsimp only
  rw [wrap_one (n := seats.length) (by omega) (by omega), wrap_id (by omega) (by omega), ih k (i + 1) _ _ _ (seats_filter h _) (by omega) (by omega) (by omega) (by simp; omega) (by omega) (by omega)]
  rw [List.drop_eq_getElem_cons (l := seats) (i := i) (by omega), leaveL, List.sum_cons, List.append_assoc]
  refine congrArg some (Prod.ext rfl (Prod.ext ?_ rfl))
  dsimp only
  omega
theorem impl_leave_l0 (seats : List Int) (hs : seats.length ≤ 10) (hb : ∀ p ∈ seats, 0 ≤ p ∧ p ≤ 23) (d : Nat) : ∀ (k i : Nat) (t out : List Int) (acc : Int), Seats t → i ≤ seats.length → seats.length - i = d → d + 40 < k → out.length ≤ i → 0 ≤ acc → acc ≤ 40 * i →
  impl_LeaveStands.l0 k out acc ((setN t : Nat) : Int) seats (seats.length : Int) (i : Int) = some (out ++ leaveL t (seats.drop i), acc + (leaveL t (seats.drop i)).sum, true) := by
 induction d with
 | zero =>
  intro k i t out acc h hi hd hk ho h0 h1
  obtain ⟨k, rfl, _⟩ := fuel (show 0 < k by omega)
  simp only [impl_LeaveStands.l0]
  rw [if_neg (by omega), List.drop_eq_nil_of_le (by omega)]
  simp [leaveL]
 | succ d ih =>
  intro k i t out acc h hi hd hk ho h0 h1
  obtain ⟨k, rfl, _⟩ := fuel (show 0 < k by omega)
  have hl := seats_len h
  have hp := hb (seats[i]'(by omega)) (List.getElem_mem _)
  have hf := List.length_filter_le (fun x => decide (x < seats[i]'(by omega))) t
  have h2 : 2 ^ (seats[i]'(by omega)).toNat < 2 ^ 32 := Nat.pow_lt_pow_right (by omega) (by omega)
  have hset : andN (setN t) (2 ^ (seats[i]'(by omega)).toNat) = setN (t.filter fun x => !decide (x = seats[i]'(by omega))) := by
   refine setN_ext _ _ fun j => ?_
   rw [testBit_andN, testBit_setN, Nat.testBit_two_pow, Bool.and_eq_true, decide_eq_true_eq, Bool.not_eq_true', decide_eq_false_iff_not]
   constructor
   ·rintro ⟨⟨x, hx, e⟩, hj⟩
    exact ⟨x, List.mem_filter.2 ⟨hx, by simp; rintro rfl; exact hj e⟩, e⟩
   ·rintro ⟨x, hx, e⟩
    have h1 := List.mem_filter.1 hx
    have := h.low x h1.1
    refine ⟨⟨x, h1.1, e⟩, fun e2 => ?_⟩
    have h3 : x ≠ seats[i]'(by omega) := by simpa using h1.2
    exact h3 (by omega)
  simp only [impl_LeaveStands.l0]
  rw [if_pos (by omega), if_pos (by omega), if_pos (by omega), rd_get seats i (by omega), impl_stands_left h _ hp.1 hp.2, Option.bind_some, if_pos (by omega), if_pos (by omega), shl_one _ hp.1 (by omega), andNot_cast _ _ (seats_lt h) (by omega), hset]
  dsimp only
  rw [wrap_one (n := seats.length) (by omega) (by omega), wrap_id (by omega) (by omega), ih k (i + 1) _ _ _ (seats_filter h _) (by omega) (by omega) (by omega) (by simp; omega) (by omega) (by omega)]
  rw [List.drop_eq_getElem_cons (l := seats) (i := i) (by omega), leaveL, List.sum_cons, List.append_assoc]
  refine congrArg some (Prod.ext rfl (Prod.ext ?_ rfl))
  dsimp only
  omega
open Classical in
theorem leave_vals (s : Int) (ring : Bool) (t seats : List Int) (ht : t.length ≤ 1048576) (hs : seats.length ≤ 1048576) : (Diff s ring t seats true → Ev (fun k => spec_LeaveStands.f k s ring t seats) (leaveL t seats, (leaveL t seats).sum, true) ∧ Ev (fun k => impl_LeaveStands.f k s ring t seats) (leaveL t seats, (leaveL t seats).sum, true)) ∧ (¬ Diff s ring t seats true → Ev (fun k => spec_LeaveStands.f k s ring t seats) ([], 0, false) ∧ Ev (fun k => impl_LeaveStands.f k s ring t seats) ([], 0, false)) := by
 by_cases h : Diff s ring t seats true
 ·have hd := (diff_iff s ring t seats true h.1.1 h.1.2 _ (fun p hp => taken_bits s ring t h.1.1 p hp)).1 h
  refine ⟨fun _ => ⟨Ev.bound (t.length + seats.length + 200) fun k hk => ?_, Ev.bound (t.length + seats.length + 200) fun k hk => ?_⟩, fun g => absurd h g⟩
  ·unfold spec_LeaveStands.f
   rw [Option.bind_some, spec_l10Different_eq s ring t seats true ht hs k (by omega), Option.bind_some, if_pos (decide_eq_true h)]
   have := spec_leave_l0 s ring seats hd.1 seats.length k 0 t [] 0 (row_seats h.1.1) (by omega) (by omega) (by omega) (by simp) (by omega) (by omega)
   rw [List.drop_zero, List.nil_append, Int.zero_add] at this
   exact this
  ·obtain ⟨k, rfl, _⟩ := fuel (show 0 < k by omega)
   unfold impl_LeaveStands.f
   rw [impl_isLine_eq s ring t ht _ (by omega), Option.bind_some, if_pos (decide_eq_true h.1), impl_taken_eq s ring t h.1.1 _ (by omega), Option.bind_some]
   obtain ⟨a, e, ha⟩ := impl_areOf_eq seats (setN t) hs (taken_lt s ring t h.1.1).2 (k + 1) (by omega)
   rw [e, Option.bind_some, ha.2 hd]
   simp only [impl_LeaveStands.j0]
   rw [if_neg (by simp), impl_taken_eq s ring t h.1.1 _ (by omega), Option.bind_some]
   have := impl_leave_l0 seats hd.1 (fun p hp => (hd.2.1 p hp).1) seats.length k 0 t [] 0 (row_seats h.1.1) (by omega) (by omega) (by omega) (by simp) (by omega) (by omega)
   rw [List.drop_zero, List.nil_append, Int.zero_add] at this
   exact this
 ·refine ⟨fun g => absurd g h, fun _ => ⟨Ev.bound (t.length + seats.length + 200) fun k hk => ?_, Ev.bound (t.length + seats.length + 200) fun k hk => ?_⟩⟩
  ·unfold spec_LeaveStands.f
   rw [Option.bind_some, spec_l10Different_eq s ring t seats true ht hs k (by omega), Option.bind_some, if_neg (by rw [decide_eq_true_eq]; exact h)]
  ·obtain ⟨k, rfl, _⟩ := fuel (show 0 < k by omega)
   unfold impl_LeaveStands.f
   rw [impl_isLine_eq s ring t ht _ (by omega), Option.bind_some]
   by_cases g : RowOK s ring t ∧ ring = false
   ·rw [if_pos (decide_eq_true g), impl_taken_eq s ring t g.1 _ (by omega), Option.bind_some]
    obtain ⟨a, e, ha⟩ := impl_areOf_eq seats (setN t) hs (taken_lt s ring t g.1).2 (k + 1) (by omega)
    have hf : a = false := by
     rw [Bool.eq_false_iff]
     intro z
     exact h ((diff_iff s ring t seats true g.1 g.2 _ (fun p hp => taken_bits s ring t g.1 p hp)).2 (ha.1 z))
    rw [e, Option.bind_some, hf]
    simp only [impl_LeaveStands.j0]
    simp
   ·rw [if_neg (by rw [decide_eq_true_eq]; exact g)]
    simp only [impl_LeaveStands.j0]
    simp
open Classical in
theorem arrival_vals (s : Int) (ring : Bool) (t seats : List Int) (ht : t.length ≤ 1048576) (hs : seats.length ≤ 1048576) : Ev (fun k => spec_IsArrival.f k s ring t seats) (decide (Diff s ring t seats false), decide (RowOK s ring t ∧ ring = false)) ∧ Ev (fun k => impl_IsArrival.f k s ring t seats) (decide (Diff s ring t seats false), decide (RowOK s ring t ∧ ring = false)) := by
 by_cases h : RowOK s ring t ∧ ring = false
 ·rw [decide_eq_true h]
  refine ⟨Ev.bound (t.length + seats.length + 100) fun k hk => ?_, Ev.bound (t.length + seats.length + 100) fun k hk => ?_⟩
  ·unfold spec_IsArrival.f
   rw [spec_l10Line_eq s ring t ht k (by omega), Option.bind_some, if_pos (decide_eq_true h), spec_l10Different_eq s ring t seats false ht hs k (by omega), Option.bind_some]
  ·unfold impl_IsArrival.f
   rw [impl_isLine_eq s ring t ht k (by omega), Option.bind_some, if_pos (decide_eq_true h), impl_free_eq s ring t h.1 k (by omega), Option.bind_some]
   obtain ⟨a, e, ha⟩ := impl_areOf_eq seats (andN (2 ^ s.toNat - 1) (setN t)) hs (free_lt s ring t h.1) k (by omega)
   rw [e, Option.bind_some]
   refine congrArg some (Prod.ext ?_ rfl)
   dsimp only
   rw [Bool.eq_iff_iff, ha, decide_eq_true_eq]
   exact (diff_iff s ring t seats false h.1 h.2 _ (fun p hp => free_bits s ring t h.1 p hp)).symm
 ·rw [decide_eq_false h, decide_eq_false (fun g => h g.1)]
  refine ⟨Ev.bound (t.length + seats.length + 100) fun k hk => ?_, Ev.bound (t.length + seats.length + 100) fun k hk => ?_⟩
  ·unfold spec_IsArrival.f
   rw [spec_l10Line_eq s ring t ht k (by omega), Option.bind_some, if_neg (by rw [decide_eq_true_eq]; exact h)]
  ·unfold impl_IsArrival.f
   rw [impl_isLine_eq s ring t ht k (by omega), Option.bind_some, if_neg (by rw [decide_eq_true_eq]; exact h)]

theorem ctz_lowest (s a : Nat) (ha : s.testBit a = true) (hl : ∀ j, j < a → s.testBit j = false) (h : s < 2 ^ 32) : Lib.ctz 32 s = a := by
 have h0 : s ≠ 0 := fun e => by rw [e] at ha; simp at ha
 unfold Lib.ctz
 rw [if_neg h0]
 obtain ⟨m, hm, hf⟩ := Lib.ctzFrom_spec 32 s (by omega) h
 generalize Lib.ctzFrom 32 s = c at hm hf
 rcases Nat.lt_trichotomy c a with g | g | g
 ·have := hl c g
  rw [hm, Nat.testBit_two_pow_mul] at this
  simp at this
 ·exact g
 ·rw [hm, Nat.testBit_two_pow_mul] at ha
  simp at ha
  omega
theorem and_pred (q a : Nat) : (2 ^ (a + 1) * q + 2 ^ a) &&& (2 ^ (a + 1) * q + 2 ^ a - 1) = 2 ^ (a + 1) * q := by
 have p : 0 < 2 ^ a := Nat.two_pow_pos a
 have l1 : 2 ^ a < 2 ^ (a + 1) := Nat.pow_lt_pow_right (by omega) (by omega)
 refine Nat.eq_of_testBit_eq fun j => ?_
 rw [show 2 ^ (a + 1) * q + 2 ^ a - 1 = 2 ^ (a + 1) * q + (2 ^ a - 1) from by omega, Nat.testBit_and, Nat.testBit_two_pow_mul_add q l1 j, Nat.testBit_two_pow_mul_add q (show 2 ^ a - 1 < 2 ^ (a + 1) by omega) j, Nat.testBit_two_pow_mul]
 by_cases g : j < a + 1
 ·rw [if_pos g, if_pos g, decide_eq_false (by omega : ¬ a + 1 ≤ j), Bool.false_and, Nat.testBit_two_pow, Nat.testBit_two_pow_sub_one]
  by_cases e : a = j
  ·subst e; simp
  ·simp [e]
 ·rw [if_neg g, if_neg g, decide_eq_true (by omega : a + 1 ≤ j), Bool.true_and, Bool.and_self]
theorem setN_cons (a : Int) (L : List Int) : setN (a :: L) = 2 ^ a.toNat ||| setN L := by
 refine Nat.eq_of_testBit_eq fun j => ?_
 rw [testBit_setN, Nat.testBit_or, Nat.testBit_two_pow, testBit_setN, Bool.eq_iff_iff]
 simp
theorem setN_split (a : Nat) (L : List Int) (hL : ∀ x ∈ L, (a : Int) < x) : ∃ q, setN L = 2 ^ (a + 1) * q ∧ setN ((a : Int) :: L) = 2 ^ (a + 1) * q + 2 ^ a := by
 have e : setN L = 2 ^ (a + 1) * (setN L / 2 ^ (a + 1)) := by
  have hz : setN L % 2 ^ (a + 1) = 0 := by
   refine Nat.eq_of_testBit_eq fun j => ?_
   rw [Nat.testBit_mod_two_pow, testBit_setN]
   by_cases g : j < a + 1
   ·have : ¬ ∃ p ∈ L, p.toNat = j := fun ⟨p, hp, e⟩ => by have := hL p hp; omega
    rw [decide_eq_false this]
    simp
   ·rw [decide_eq_false g]
    simp
  have := Nat.mod_add_div (setN L) (2 ^ (a + 1))
  omega
 refine ⟨setN L / 2 ^ (a + 1), e, ?_⟩
 have l1 : 2 ^ a < 2 ^ (a + 1) := Nat.pow_lt_pow_right (by omega) (by omega)
 rw [setN_cons, Int.toNat_natCast]
 generalize setN L / 2 ^ (a + 1) = q at e
 rw [e, Nat.or_comm, Nat.two_pow_add_eq_or_of_lt l1]
theorem set_list_l0 (L : List Int) : ∀ (out : List Int) (k : Nat), L.Pairwise (· < ·) → (∀ x ∈ L, 0 ≤ x ∧ x < 32) → out.length + L.length ≤ 1000 → L.length < k → impl_set_list.l0 k ((setN L : Nat) : Int) out = some (out ++ L) := by
 induction L with
 | nil =>
  intro out k _ _ _ hk
  obtain ⟨k, rfl, _⟩ := fuel hk
  simp only [impl_set_list.l0]
  rw [if_pos (show ((setN [] : Nat) : Int) = 0 from rfl), List.append_nil]
 | cons b L ih =>
  intro out k hp hb ho hk
  obtain ⟨k, rfl, hk'⟩ := fuel hk
  rw [List.length_cons] at ho hk'
  obtain ⟨h1, h2⟩ := List.pairwise_cons.1 hp
  have hb0 := hb b List.mem_cons_self
  obtain ⟨a, rfl⟩ : ∃ a : Nat, b = a := ⟨b.toNat, by omega⟩
  obtain ⟨q, e1, e2⟩ := setN_split a L h1
  have hlt : setN ((a : Int) :: L) < 4294967296 := setN_u32 _ fun p hp => (hb p hp).2
  have hlt2 : setN L < 4294967296 := setN_u32 _ fun p hp => (hb p (List.mem_cons_of_mem _ hp)).2
  have pa : 0 < 2 ^ a := Nat.two_pow_pos a
  have hctz : Lib.ctz 32 (setN ((a : Int) :: L)) = a := by
   refine ctz_lowest _ a ?_ (fun j hj => ?_) hlt
   ·rw [testBit_setN]
    exact decide_eq_true ⟨a, List.mem_cons_self, Int.toNat_natCast a⟩
   ·rw [testBit_setN]
    refine decide_eq_false fun ⟨p, hp, e⟩ => ?_
    rcases List.mem_cons.1 hp with g | g
    ·omega
    ·have := h1 p g; omega
  simp only [impl_set_list.l0]
  rw [if_neg (by omega)]
  have ef : bits_TrailingZeros32.f ((setN ((a : Int) :: L) : Nat) : Int) = some (a : Int) := by
   unfold bits_TrailingZeros32.f
   rw [if_pos (by omega), Int.toNat_natCast, hctz]
  rw [ef, Option.bind_some, if_pos (by omega)]
  have em : (((setN ((a : Int) :: L) : Nat) : Int) - 1) % 4294967296 = ((setN ((a : Int) :: L) - 1 : Nat) : Int) := by omega
  rw [em, and_cast _ _ hlt (by omega), e2, and_pred, ← e1, ih (out ++ [(a : Int)]) k h2 (fun x hx => hb x (List.mem_cons_of_mem _ hx)) (by simp; omega) (by omega), List.append_assoc]
  rfl
theorem spec_l2Is_ev (s : Int) (ring : Bool) (t : List Int) (p : Int) (ht : t.length ≤ 1048576) : Ev (fun k => spec_l2Is.f k s ring t p) (decide (p ∈ t)) :=
 Ev.bound t.length fun k hk => by
  unfold spec_l2Is.f
  rw [spec_l1Has_eq t p ht k hk, Option.bind_some]

theorem sorted_ext : ∀ {a b : List Int}, a.Pairwise (· < ·) → b.Pairwise (· < ·) → (∀ x, x ∈ a ↔ x ∈ b) → a = b
 | [], [], _, _, _ => rfl
 | [], y :: b, _, _, h => absurd ((h y).2 List.mem_cons_self) (by simp)
 | x :: a, [], _, _, h => absurd ((h x).1 List.mem_cons_self) (by simp)
 | x :: a, y :: b, ha, hb, h => by
  have ha' := List.pairwise_cons.1 ha
  have hb' := List.pairwise_cons.1 hb
  have hxy : x = y := by
   rcases List.mem_cons.1 ((h x).1 List.mem_cons_self) with e | e
   ·exact e
   ·rcases List.mem_cons.1 ((h y).2 List.mem_cons_self) with e2 | e2
    ·exact e2.symm
    ·have := hb'.1 x e
     have := ha'.1 y e2
     omega
  subst hxy
  refine congrArg (x :: ·) (sorted_ext ha'.2 hb'.2 fun z => ⟨fun hz => ?_, fun hz => ?_⟩)
  ·rcases List.mem_cons.1 ((h z).1 (List.mem_cons_of_mem _ hz)) with e | e
   ·have := ha'.1 z hz
    omega
   ·exact e
  ·rcases List.mem_cons.1 ((h z).2 (List.mem_cons_of_mem _ hz)) with e | e
   ·have := hb'.1 z hz
    omega
   ·exact e
def freeL (s : Int) (t : List Int) : List Int := ((List.range s.toNat).map fun i : Nat => (i : Int)).filter fun x => decide (x ∉ t)
theorem mem_freeL {s : Int} {t : List Int} {x : Int} : x ∈ freeL s t ↔ (0 ≤ x ∧ x < s) ∧ x ∉ t := by
 unfold freeL
 rw [List.mem_filter, List.mem_map, decide_eq_true_eq]
 constructor
 ·rintro ⟨⟨i, hi, rfl⟩, h⟩
  have := List.mem_range.1 hi
  exact ⟨⟨by omega, by omega⟩, h⟩
 ·rintro ⟨⟨h0, h1⟩, h⟩
  exact ⟨⟨x.toNat, List.mem_range.2 (by omega), by omega⟩, h⟩
theorem freeL_pairwise (s : Int) (t : List Int) : (freeL s t).Pairwise (· < ·) := by
 unfold freeL
 refine List.Pairwise.filter _ (List.Pairwise.map _ ?_ List.pairwise_lt_range)
 intro a b h
 show (a : Int) < (b : Int)
 omega
theorem nodup_of_up {t : List Int} (h : t.Pairwise (· < ·)) : t.Nodup := h.imp fun {a b} hab => by
 show a ≠ b
 have : a < b := hab
 omega
structure Tk (s : Int) (t : List Int) : Prop where
 up : t.Pairwise (· < ·)
 inn : ∀ x ∈ t, 0 ≤ x ∧ x < s
theorem Tk.seats {s : Int} {t : List Int} (h : Tk s t) (hs : s ≤ 24) : Seats t := ⟨fun x hx => by
 have := h.inn x hx
 omega, nodup_of_up h.up⟩
theorem Tk.put {s : Int} {t : List Int} (h : Tk s t) {p : Int} (hp : p ∈ freeL s t) : Tk s (putL t p) := ⟨put_pairwise t p h.up, fun x hx => by
 rcases (mem_put t p x (mem_freeL.1 hp).2).1 hx with rfl | g
 ·exact (mem_freeL.1 hp).1
 ·exact h.inn x g⟩
theorem row_tk {s : Int} {ring : Bool} {t : List Int} (h : RowOK s ring t) : Tk s t := ⟨row_pairwise h, fun x hx => by
 have := rising_mem t _ _ h.2.2 x hx
 omega⟩
theorem freeL_put {s : Int} {t : List Int} {p : Int} (hp : p ∈ freeL s t) : freeL s (putL t p) = (freeL s t).filter fun x => decide (x ≠ p) := by
 refine sorted_ext (freeL_pairwise _ _) (List.Pairwise.filter _ (freeL_pairwise _ _)) fun x => ?_
 rw [mem_freeL, List.mem_filter, mem_freeL, mem_put t p x (mem_freeL.1 hp).2, decide_eq_true_eq]
 constructor
 ·rintro ⟨h1, h2⟩
  exact ⟨⟨h1, fun h => h2 (.inr h)⟩, fun h => h2 (.inl h)⟩
 ·rintro ⟨⟨h1, h2⟩, h3⟩
  exact ⟨h1, fun h => h.elim h3 h2⟩
theorem filter_ne_len {p : Int} : ∀ (l : List Int), l.Nodup → p ∈ l → (l.filter fun x => decide (x ≠ p)).length + 1 = l.length
 | [], _, h => absurd h (by simp)
 | x :: l, hn, h => by
  have hn' := List.nodup_cons.1 hn
  by_cases e : x = p
  ·subst e
   rw [List.filter_cons_of_neg (by simp)]
   have : l.filter (fun y => decide (y ≠ x)) = l := List.filter_eq_self.2 fun y hy => by
    rw [decide_eq_true_eq]
    rintro rfl
    exact hn'.1 hy
   rw [this]
   rfl
  ·rw [List.filter_cons_of_pos (by simpa using e)]
   have := filter_ne_len l hn'.2 ((List.mem_cons.1 h).resolve_left fun h => e h.symm)
   simp only [List.length_cons]
   omega
theorem freeL_put_len {s : Int} {t : List Int} {p : Int} (hp : p ∈ freeL s t) : (freeL s (putL t p)).length + 1 = (freeL s t).length := by
 rw [freeL_put hp]
 exact filter_ne_len _ (nodup_of_up (freeL_pairwise s t)) hp
theorem freeL_set {s : Int} {t : List Int} (h : Tk s t) : andN (2 ^ s.toNat - 1) (setN t) = setN (freeL s t) := by
 refine setN_ext _ _ fun i => ?_
 rw [testBit_andN, testBit_all, testBit_setN, Bool.and_eq_true, decide_eq_true_eq, Bool.not_eq_true', decide_eq_false_iff_not]
 constructor
 ·rintro ⟨h1, h2⟩
  exact ⟨(i : Int), mem_freeL.2 ⟨by omega, fun h3 => h2 ⟨(i : Int), h3, by omega⟩⟩, by omega⟩
 ·rintro ⟨p, hp, rfl⟩
  have hp' := mem_freeL.1 hp
  refine ⟨by omega, ?_⟩
  rintro ⟨q, hq, e⟩
  have := h.inn q hq
  have : q = p := by omega
  subst this
  exact hp'.2 hq
theorem freeL_len {s : Int} {t : List Int} (h : Tk s t) (hs : 0 ≤ s) : (freeL s t).length + t.length = s.toNat := by
 have e : t = ((List.range s.toNat).map fun i : Nat => (i : Int)).filter fun x => decide (x ∈ t) := by
  refine sorted_ext h.up (List.Pairwise.filter _ (List.Pairwise.map _ ?_ List.pairwise_lt_range)) fun x => ?_
  ·intro a b h
   show (a : Int) < (b : Int)
   omega
  ·rw [List.mem_filter, List.mem_map, decide_eq_true_eq]
   constructor
   ·intro hx
    have := h.inn x hx
    exact ⟨⟨x.toNat, List.mem_range.2 (by omega), by omega⟩, hx⟩
   ·exact fun hx => hx.2
 have h2 : ∀ l : List Int, (l.filter fun x => decide (x ∉ t)).length + (l.filter fun x => decide (x ∈ t)).length = l.length := by
  intro l
  induction l with
  | nil => rfl
  | cons x l ih =>
   by_cases g : x ∈ t
   ·rw [List.filter_cons_of_neg (by simpa using g), List.filter_cons_of_pos (by simpa using g)]
    simp only [List.length_cons]
    omega
   ·rw [List.filter_cons_of_pos (by simpa using g), List.filter_cons_of_neg (by simpa using g)]
    simp only [List.length_cons]
    omega
 have h3 := h2 ((List.range s.toNat).map fun i : Nat => (i : Int))
 rw [← e] at h3
 simpa [freeL] using h3
def loV (own X : Int → Int) : List Int → Int → Int
 | [], b => b
 | p :: ps, b => loV own X ps (if b < 0 then own p + X p else if own p + X p < b then own p + X p else b)
def Vn (s : Int) (both : Bool) : Nat → List Int → Int
 | 0, _ => 0
 | n + 1, t => loV (ownN t both) (fun p => Vn s both n (putL t p)) (freeL s t) (-1)
theorem loV_bound {own X : Int → Int} {M : Int} : ∀ (ps : List Int) (b : Int), (∀ p ∈ ps, 0 ≤ own p + X p ∧ own p + X p ≤ M) → -1 ≤ b → b ≤ M → -1 ≤ loV own X ps b ∧ loV own X ps b ≤ M ∧ (ps ≠ [] ∨ 0 ≤ b → 0 ≤ loV own X ps b)
 | [], b, _, h0, h1 => ⟨h0, h1, fun h => h.elim (fun h => absurd rfl h) id⟩
 | p :: ps, b, hp, h0, h1 => by
  have hq := hp p List.mem_cons_self
  unfold loV
  have key : 0 ≤ (if b < 0 then own p + X p else if own p + X p < b then own p + X p else b) ∧ (if b < 0 then own p + X p else if own p + X p < b then own p + X p else b) ≤ M := by
   split
   ·exact hq
   ·split
    ·exact hq
    ·omega
  have ih := loV_bound ps _ (fun q hq => hp q (List.mem_cons_of_mem _ hq)) (by omega : -1 ≤ (if b < 0 then own p + X p else if own p + X p < b then own p + X p else b)) key.2
  exact ⟨ih.1, ih.2.1, fun _ => ih.2.2 (.inr key.1)⟩
theorem Vn_bound {s : Int} (hs : s ≤ 24) (both : Bool) : ∀ (n : Nat) (t : List Int), Tk s t → (freeL s t).length = n → 0 ≤ Vn s both n t ∧ Vn s both n t ≤ 32 * (n : Int)
 | 0, _, _, _ => by simp [Vn]
 | n + 1, t, h, hl => by
  have hne : freeL s t ≠ [] := fun e => by rw [e] at hl; simp at hl
  have := loV_bound (own := ownN t both) (X := fun p => Vn s both n (putL t p)) (M := 32 * ((n + 1 : Nat) : Int)) (freeL s t) (-1) (fun p hp => by
   have h1 := own_le (h.seats hs) both p
   have h2 := Vn_bound hs both n (putL t p) (h.put hp) (by have := freeL_put_len hp; omega)
   show 0 ≤ ownN t both p + Vn s both n (putL t p) ∧ _
   omega) (by omega) (by omega)
  exact ⟨this.2.2 (.inl hne), this.2.1⟩
theorem impl_lo_eq {S : Int → Option Int} {t : List Int} {both : Bool} {X : Int → Int} {M : Int} (hM : M ≤ 100000) (ht : Seats t) : ∀ (ps : List Int) (b : Int), (∀ p ∈ ps, (0 ≤ p ∧ p ≤ 23) ∧ p ∉ t ∧ S ((setN (putL t p) : Nat) : Int) = some (X p) ∧ 0 ≤ ownN t both p + X p ∧ ownN t both p + X p ≤ M) → impl_LeastStands.lo S ((setN t : Nat) : Int) both ps b = some (loV (ownN t both) X ps b)
 | [], b, _ => rfl
 | p :: ps, b, hp => by
  obtain ⟨h0, h1, h2, h3, h4⟩ := hp p List.mem_cons_self
  obtain ⟨z, hz⟩ := impl_own_eq ht p h0.1 h0.2 h1 both
  have h5 : 2 ^ p.toNat < 2 ^ 32 := Nat.pow_lt_pow_right (by omega) (by omega)
  simp only [impl_LeastStands.lo]
  rw [if_pos h0.1, hz, Option.bind_some, shl_one p h0.1 (by omega), or_cast _ _ (seats_lt ht) (by omega), put_set t p h1, h2, Option.bind_some]
  dsimp only
  rw [wrap_id (by omega) (by omega)]
  exact impl_lo_eq hM ht ps _ fun q hq => hp q (List.mem_cons_of_mem _ hq)
theorem set_list_eq (L : List Int) (hp : L.Pairwise (· < ·)) (hb : ∀ x ∈ L, 0 ≤ x ∧ x < 32) (hl : L.length ≤ 100) (k : Nat) (hk : L.length < k) : impl_set_list.f k ((setN L : Nat) : Int) = some L := by
 unfold impl_set_list.f
 have := set_list_l0 L [] k hp hb (by simp; omega) hk
 rwa [List.nil_append] at this
theorem impl_le_eq {s : Int} (h0 : 0 ≤ s) (hs : s ≤ 24) (both : Bool) (k : Nat) (hk : 24 < k) : ∀ (n : Nat) (t : List Int) (d : Nat), Tk s t → (freeL s t).length = n → n < d → impl_LeastStands.le k ((2 ^ s.toNat - 1 : Nat) : Int) both d ((setN t : Nat) : Int) = some (Vn s both n t)
 | n, t, 0, _, _, hd => absurd hd (by omega)
 | 0, t, d + 1, h, hl, _ => by
  have he : freeL s t = [] := List.length_eq_zero_iff.1 hl
  have hall : setN t = 2 ^ s.toNat - 1 := by
   refine Nat.eq_of_testBit_eq fun i => ?_
   rw [testBit_setN, testBit_all, Bool.eq_iff_iff, decide_eq_true_eq, decide_eq_true_eq]
   constructor
   ·rintro ⟨p, hp, rfl⟩
    have := h.inn p hp
    omega
   ·intro hi
    by_cases g : (i : Int) ∈ t
    ·exact ⟨_, g, by omega⟩
    ·have : (i : Int) ∈ freeL s t := mem_freeL.2 ⟨by omega, g⟩
     rw [he] at this
     simp at this
  simp only [impl_LeastStands.le]
  rw [if_pos (by rw [hall])]
  rfl
 | n + 1, t, d + 1, h, hl, hd => by
  have hsE := h.seats hs
  have hp2 : 2 ^ s.toNat < 2 ^ 32 := Nat.pow_lt_pow_right (by omega) (by omega)
  have hne : ¬ ((setN t : Nat) : Int) = ((2 ^ s.toNat - 1 : Nat) : Int) := by
   intro e
   obtain ⟨p, hp⟩ := List.exists_mem_of_ne_nil (freeL s t) (fun e => by rw [e] at hl; simp at hl)
   have hp' := mem_freeL.1 hp
   have hb : (setN t).testBit p.toNat = true := by
    rw [show setN t = 2 ^ s.toNat - 1 from by omega, testBit_all, decide_eq_true_eq]
    omega
   rw [testBit_setN, decide_eq_true_eq] at hb
   obtain ⟨q, hq, e⟩ := hb
   have := h.inn q hq
   have : q = p := by omega
   subst this
   exact hp'.2 hq
  have hlen : (freeL s t).length ≤ 24 := by
   have := freeL_len h h0
   omega
  simp only [impl_LeastStands.le]
  rw [if_neg hne, andNot_cast _ _ (by omega) (seats_lt hsE), freeL_set h, set_list_eq _ (freeL_pairwise s t) (fun x hx => by have := mem_freeL.1 hx; omega) (by omega) k (by omega), Option.bind_some, if_pos (by omega)]
  refine impl_lo_eq (M := 32 * ((n + 1 : Nat) : Int)) (by omega) hsE (freeL s t) (-1) fun p hp => ?_
  have hp' := mem_freeL.1 hp
  have hpl : (freeL s (putL t p)).length = n := by have := freeL_put_len hp; omega
  have h1 := own_le hsE both p
  have h2 := Vn_bound hs both n (putL t p) (h.put hp) hpl
  exact ⟨by omega, hp'.2, impl_le_eq h0 hs both k hk n (putL t p) d (h.put hp) hpl (by omega), by omega, by omega⟩

theorem bit_of (c j : Nat) (hc : c < 9223372036854775808) (hj : j < 64) : (Go.bits .and .i64 (shr .i64 (c : Int) (j : Int)) 1 = 1) ↔ c.testBit j = true := by
 have hd : c / 2 ^ j ≤ c := Nat.div_le_self _ _
 have e1 : shr .i64 (c : Int) (j : Int) = ((c / 2 ^ j : Nat) : Int) := by
  unfold shr
  rw [Int.toNat_natCast, show min j IntKind.i64.bits = j from Nat.min_eq_left (by show j ≤ 64; omega)]
  simp
 have e2 : Go.bits .and .i64 ((c / 2 ^ j : Nat) : Int) 1 = ((c / 2 ^ j &&& 1 : Nat) : Int) :=
  (bits_nat .i64 63 (by decide) (fun n h h' => by rw [IntKind.wrap_i64]; omega) (c / 2 ^ j) 1 (by omega) (by decide)).1
 rw [e1, e2, Nat.and_one_is_mod, Nat.testBit_eq_decide_div_mod_eq, decide_eq_true_eq]
 omega
theorem shl_one64 (m : Nat) (hm : m ≤ 62) : shl .i64 1 (m : Int) = ((2 ^ m : Nat) : Int) := by
 unfold shl
 rw [Int.one_mul, Int.toNat_natCast, show min m IntKind.i64.bits = m from Nat.min_eq_left (by show m ≤ 64; omega)]
 have : 2 ^ m ≤ 2 ^ 62 := Nat.pow_le_pow_right (by omega) hm
 have e : ((2 ^ m : Nat) : Int) = (2 : Int) ^ m := by simp
 rw [← e, IntKind.wrap_i64]
 generalize 2 ^ m = y at *
 omega

theorem testBit_add_pow (c i j : Nat) (h : c.testBit i = false) : (c + 2 ^ i).testBit j = (c.testBit j || decide (j = i)) := by
 have he : c / 2 ^ i % 2 = 0 := by
  rw [Nat.testBit_eq_decide_div_mod_eq, decide_eq_false_iff_not] at h
  omega
 rw [Nat.add_comm]
 rcases Nat.lt_trichotomy j i with g | g | g
 ·rw [Nat.testBit_two_pow_add_gt g, decide_eq_false (by omega), Bool.or_false]
 ·subst g
  rw [Nat.testBit_two_pow_add_eq, h]
  simp
 ·have hp : 0 < 2 ^ i := Nat.two_pow_pos i
  have e : (2 ^ i + c) / 2 ^ (i + 1) = c / 2 ^ (i + 1) := by
   rw [Nat.pow_succ, ← Nat.div_div_eq_div_mul, ← Nat.div_div_eq_div_mul, Nat.add_div_left _ hp]
   omega
  obtain ⟨d, rfl⟩ : ∃ d, j = d + (i + 1) := ⟨j - (i + 1), by omega⟩
  rw [← Nat.testBit_div_two_pow, e, Nat.testBit_div_two_pow, decide_eq_false (by omega), Bool.or_false]
def rowC (F t0 : List Int) (c : Nat) : Nat → List Int
 | 0 => t0
 | j + 1 => if c.testBit j = true then putL (rowC F t0 c j) (F.getD j 0) else rowC F t0 c j
theorem rowC_spec {s : Int} {t0 : List Int} (h0 : Tk s t0) (c : Nat) : ∀ j, j ≤ (freeL s t0).length → Tk s (rowC (freeL s t0) t0 c j) ∧ ∀ x, x ∈ rowC (freeL s t0) t0 c j ↔ x ∈ t0 ∨ ∃ i, i < j ∧ c.testBit i = true ∧ (freeL s t0).getD i 0 = x
 | 0, _ => ⟨h0, fun x => by simp [rowC]⟩
 | j + 1, hj => by
  obtain ⟨h1, h2⟩ := rowC_spec h0 c j (by omega)
  by_cases g : c.testBit j = true
  ·have hget : (freeL s t0).getD j 0 = (freeL s t0)[j] := by simp [List.getD, show j < (freeL s t0).length from by omega]
   have hm : (freeL s t0).getD j 0 ∈ freeL s t0 := by rw [hget]; exact List.getElem_mem _
   have hm' := mem_freeL.1 hm
   have hnot : (freeL s t0).getD j 0 ∉ rowC (freeL s t0) t0 c j := by
    intro hx
    rcases (h2 _).1 hx with e | ⟨i, hi, _, e⟩
    ·exact hm'.2 e
    ·have hgi : (freeL s t0).getD i 0 = (freeL s t0)[i]'(by omega) := by simp [List.getD, show i < (freeL s t0).length from by omega]
     have := List.pairwise_iff_getElem.1 (freeL_pairwise s t0) i j (by omega) (by omega) hi
     rw [hgi, hget] at e
     omega
   have e : rowC (freeL s t0) t0 c (j + 1) = putL (rowC (freeL s t0) t0 c j) ((freeL s t0).getD j 0) := by rw [rowC, if_pos g]
   rw [e]
   refine ⟨h1.put (mem_freeL.2 ⟨hm'.1, hnot⟩), fun x => ?_⟩
   rw [mem_put _ _ x hnot, h2]
   constructor
   ·rintro (rfl | h | ⟨i, hi, hb, e⟩)
    ·exact .inr ⟨j, by omega, g, rfl⟩
    ·exact .inl h
    ·exact .inr ⟨i, by omega, hb, e⟩
   ·rintro (h | ⟨i, hi, hb, e'⟩)
    ·exact .inr (.inl h)
    ·by_cases hij : i = j
     ·subst hij
      exact .inl e'.symm
     ·exact .inr (.inr ⟨i, by omega, hb, e'⟩)
  ·have e : rowC (freeL s t0) t0 c (j + 1) = rowC (freeL s t0) t0 c j := by rw [rowC, if_neg g]
   rw [e]
   refine ⟨h1, fun x => ?_⟩
   rw [h2]
   constructor
   ·rintro (h | ⟨i, hi, hb, e⟩)
    ·exact .inl h
    ·exact .inr ⟨i, by omega, hb, e⟩
   ·rintro (h | ⟨i, hi, hb, e⟩)
    ·exact .inl h
    ·by_cases hij : i = j
     ·subst hij
      exact absurd hb g
     ·exact .inr ⟨i, by omega, hb, e⟩
theorem rowC_bit {s : Int} {t0 : List Int} (h0 : Tk s t0) (c i : Nat) (hi : i < (freeL s t0).length) (hb : c.testBit i = false) :
  (freeL s t0).getD i 0 ∉ rowC (freeL s t0) t0 c (freeL s t0).length ∧ rowC (freeL s t0) t0 (c + 2 ^ i) (freeL s t0).length = putL (rowC (freeL s t0) t0 c (freeL s t0).length) ((freeL s t0).getD i 0) := by
 obtain ⟨h1, h2⟩ := rowC_spec h0 c _ (Nat.le_refl _)
 obtain ⟨h3, h4⟩ := rowC_spec h0 (c + 2 ^ i) _ (Nat.le_refl _)
 have hget : ∀ q (hq : q < (freeL s t0).length), (freeL s t0).getD q 0 = (freeL s t0)[q] := fun q hq => by simp [List.getD, hq]
 have hm : (freeL s t0).getD i 0 ∈ freeL s t0 := by rw [hget i hi]; exact List.getElem_mem _
 have hinj : ∀ q, q < (freeL s t0).length → (freeL s t0).getD q 0 = (freeL s t0).getD i 0 → q = i := fun q hq e => by
  rw [hget q hq, hget i hi] at e
  rcases Nat.lt_trichotomy q i with g | g | g
  ·have := List.pairwise_iff_getElem.1 (freeL_pairwise s t0) q i hq hi g
   omega
  ·exact g
  ·have := List.pairwise_iff_getElem.1 (freeL_pairwise s t0) i q hi hq g
   omega
 have hnot : (freeL s t0).getD i 0 ∉ rowC (freeL s t0) t0 c (freeL s t0).length := by
  intro hx
  rcases (h2 _).1 hx with e | ⟨q, hq, hqb, e⟩
  ·exact (mem_freeL.1 hm).2 e
  ·have := hinj q hq e
   subst this
   rw [hb] at hqb
   exact absurd hqb (by simp)
 refine ⟨hnot, sorted_ext h3.up (put_pairwise _ _ h1.up) fun x => ?_⟩
 rw [h4, mem_put _ _ x hnot, h2]
 constructor
 ·rintro (h | ⟨q, hq, hqb, e⟩)
  ·exact .inr (.inl h)
  ·rw [testBit_add_pow c i q hb, Bool.or_eq_true, decide_eq_true_eq] at hqb
   rcases hqb with g | rfl
   ·exact .inr (.inr ⟨q, hq, g, e⟩)
   ·exact .inl e.symm
 ·rintro (rfl | h | ⟨q, hq, hqb, e⟩)
  ·exact .inr ⟨i, hi, by rw [testBit_add_pow c i i hb]; simp, rfl⟩
  ·exact .inl h
  ·exact .inr ⟨q, hq, by rw [testBit_add_pow c i q hb, hqb, Bool.true_or], e⟩
def un (c : Nat) : Nat → List Int → List Int
 | _, [] => []
 | i, p :: ps => if c.testBit i = true then un c (i + 1) ps else p :: un c (i + 1) ps
theorem mem_un (c : Nat) : ∀ (L : List Int) (i : Nat) (x : Int), x ∈ un c i L ↔ ∃ q, q < L.length ∧ c.testBit (i + q) = false ∧ L.getD q 0 = x
 | [], i, x => by simp [un]
 | p :: ps, i, x => by
  have ih := mem_un c ps (i + 1) x
  have hsh : (∃ q, q < (p :: ps).length ∧ c.testBit (i + q) = false ∧ (p :: ps).getD q 0 = x) ↔ (c.testBit i = false ∧ p = x) ∨ ∃ q, q < ps.length ∧ c.testBit (i + 1 + q) = false ∧ ps.getD q 0 = x := by
   constructor
   ·rintro ⟨q, hq, hb, e⟩
    cases q with
    | zero => exact .inl ⟨by simpa using hb, by simpa using e⟩
    | succ q => exact .inr ⟨q, by simpa using hq, by rw [show i + 1 + q = i + (q + 1) from by omega]; exact hb, by simpa using e⟩
   ·rintro (⟨hb, e⟩ | ⟨q, hq, hb, e⟩)
    ·exact ⟨0, by simp, by simpa using hb, by simpa using e⟩
    ·exact ⟨q + 1, by simpa using hq, by rw [show i + (q + 1) = i + 1 + q from by omega]; exact hb, by simpa using e⟩
  rw [hsh, ← ih, un]
  by_cases g : c.testBit i = true
  ·rw [if_pos g]
   simp [g]
  ·rw [if_neg g, List.mem_cons]
   have g' : c.testBit i = false := by simpa using g
   constructor
   ·rintro (rfl | h)
    ·exact .inl ⟨g', rfl⟩
    ·exact .inr h
   ·rintro (⟨_, rfl⟩ | h)
    ·exact .inl rfl
    ·exact .inr h
theorem un_sub (c : Nat) : ∀ (L : List Int) (i : Nat), (un c i L).Sublist L
 | [], _ => List.Sublist.slnil
 | p :: ps, i => by
  unfold un
  split
  ·exact (un_sub c ps (i + 1)).cons p
  ·exact (un_sub c ps (i + 1)).cons_cons p
theorem free_rowC {s : Int} {t0 : List Int} (h0 : Tk s t0) (c : Nat) : freeL s (rowC (freeL s t0) t0 c (freeL s t0).length) = un c 0 (freeL s t0) := by
 obtain ⟨h1, h2⟩ := rowC_spec h0 c _ (Nat.le_refl _)
 refine sorted_ext (freeL_pairwise _ _) ((freeL_pairwise s t0).sublist (un_sub c _ 0)) fun x => ?_
 rw [mem_freeL, mem_un, h2]
 constructor
 ·rintro ⟨hr, hn⟩
  have hx : x ∈ freeL s t0 := mem_freeL.2 ⟨hr, fun h => hn (.inl h)⟩
  obtain ⟨q, hq, e⟩ := List.getElem_of_mem hx
  have eg : (freeL s t0).getD q 0 = x := by simp [List.getD, hq, e]
  refine ⟨q, hq, ?_, eg⟩
  rw [Nat.zero_add]
  cases g : c.testBit q with
  | false => rfl
  | true => exact absurd (.inr ⟨q, hq, g, eg⟩) hn
 ·rintro ⟨q, hq, hb, e⟩
  rw [Nat.zero_add] at hb
  have hget : (freeL s t0).getD q 0 = (freeL s t0)[q] := by simp [List.getD, hq]
  have hm : x ∈ freeL s t0 := by rw [← e, hget]; exact List.getElem_mem _
  refine ⟨(mem_freeL.1 hm).1, ?_⟩
  have := (rowC_bit h0 c q hq hb).1
  rw [e, h2] at this
  exact this

theorem getD_get (l : List Int) (i : Nat) (h : i < l.length) : l.getD i 0 = l[i] := by simp [List.getD, h]
theorem tab_l2_ev (s : Int) (ring both : Bool) (F t0 tab row : List Int) (c : Nat) (X : Int → Int) (hF : F.length ≤ 10) (hc : c < tab.length) (hl : tab.length ≤ 1024) (hrow : row.length ≤ 1048576)
  (hT : ∀ i, i < F.length → c.testBit i = false → c + 2 ^ i < tab.length ∧ rd tab ((c + 2 ^ i : Nat) : Int) = X (F.getD i 0) ∧ 0 ≤ ownN row both (F.getD i 0) + X (F.getD i 0) ∧ ownN row both (F.getD i 0) + X (F.getD i 0) ≤ 100000) {r : List Int} :
  ∀ d i b, i + d = F.length → Ev (fun k => spec_l10Table.l0 k both F (tab.set c (loV (ownN row both) X (un c i (F.drop i)) b)) ((c : Int) - 1) s ring t0) r → Ev (fun k => spec_l10Table.l2 k both F tab (c : Int) b (i : Int) s ring t0 s ring row) r
 | 0, i, b, hi, h => by
  refine Ev.succ ?_
  simp only [spec_l10Table.l2]
  refine Ev.neg (by omega) (Ev.pos (by omega) (Ev.pos (by omega) ?_))
  rw [List.drop_eq_nil_of_le (by omega), un, loV] at h
  rw [Int.toNat_natCast, wrap_id (by omega) (by omega)]
  exact h
 | d + 1, i, b, hi, h => by
  have ih := tab_l2_ev s ring both F t0 tab row c X hF hc hl hrow hT (r := r) d (i + 1)
  refine Ev.succ ?_
  simp only [spec_l10Table.l2]
  refine Ev.pos (by omega) (Ev.pos (by omega) ?_)
  rw [wrap_one (n := F.length) (by omega) (by omega)]
  rw [List.drop_eq_getElem_cons (show i < F.length from by omega), un] at h
  by_cases g : c.testBit i = true
  ·rw [if_pos g] at h
   exact Ev.pos ((bit_of c i (by omega) (by omega)).2 g) (ih b (by omega) h)
  ·rw [if_neg g, loV] at h
   obtain ⟨h1, h2, h3, h4⟩ := hT i (by omega) (by simpa using g)
   refine Ev.neg (fun e => g ((bit_of c i (by omega) (by omega)).1 e)) ?_
   refine Ev.bind (Ev.bound row.length fun k hk => spec_own_eq s ring row _ both hrow k hk) ?_
   (try dsimp only)
   have e1 : wrap64 ((c : Int) + shl .i64 1 (i : Int)) = ((c + 2 ^ i : Nat) : Int) := by
    rw [shl_one64 i (by omega)]
    generalize 2 ^ i = y at h1
    rw [wrap_id (by omega) (by omega)]
    omega
   have hp2 : 0 < 2 ^ i := Nat.two_pow_pos i
   rw [e1, h2, rd_get F i (by omega)]
   rw [getD_get F i (by omega)] at h3 h4 ⊢
   rw [wrap_id (by omega) (by omega)]
   refine Ev.pos (by omega) (Ev.pos (by omega) ?_)
   by_cases b0 : b < 0
   ·rw [if_pos b0] at h
    exact Ev.pos b0 (ih _ (by omega) h)
   ·rw [if_neg b0] at h
    refine Ev.neg b0 ?_
    by_cases b1 : ownN row both F[i] + X F[i] < b
    ·rw [if_pos b1] at h
     exact Ev.pos b1 (ih _ (by omega) h)
    ·rw [if_neg b1] at h
     exact Ev.neg b1 (ih _ (by omega) h)
theorem tab_l1_ev {s : Int} {ring both : Bool} {t0 tab : List Int} {c : Nat} (h0 : Tk s t0) (hs : s ≤ 24) (hF : (freeL s t0).length ≤ 10) (hc : c < 1024) {r : List Int}
  (h : Ev (fun k => spec_l10Table.l2 k both (freeL s t0) tab (c : Int) (-1) 0 s ring t0 s ring (rowC (freeL s t0) t0 c (freeL s t0).length)) r) :
  ∀ d j, j + d = (freeL s t0).length → Ev (fun k => spec_l10Table.l1 k both (freeL s t0) tab (c : Int) (-1) (j : Int) s ring t0 s ring (rowC (freeL s t0) t0 c j)) r
 | 0, j, hj => by
  refine Ev.succ ?_
  simp only [spec_l10Table.l1]
  have e : j = (freeL s t0).length := by omega
  subst e
  exact Ev.neg (by omega) h
 | d + 1, j, hj => by
  have ih := tab_l1_ev (ring := ring) (both := both) (tab := tab) h0 hs hF hc h d (j + 1) (by omega)
  refine Ev.succ ?_
  simp only [spec_l10Table.l1]
  refine Ev.pos (by omega) (Ev.pos (by omega) ?_)
  rw [wrap_one (n := (freeL s t0).length) (by omega) (by omega)]
  by_cases g : c.testBit j = true
  ·refine Ev.pos ((bit_of c j (by omega) (by omega)).2 g) ?_
   obtain ⟨h1, h2⟩ := rowC_spec h0 c j (by omega)
   have hlen := seats_len (h1.seats hs)
   have hnot : (freeL s t0)[j]'(by omega) ∉ rowC (freeL s t0) t0 c j := by
    intro hx
    rcases (h2 _).1 hx with e | ⟨i, hi, _, e⟩
    ·exact (mem_freeL.1 (List.getElem_mem (show j < (freeL s t0).length from by omega))).2 e
    ·rw [getD_get _ i (by omega)] at e
     have := List.pairwise_iff_getElem.1 (freeL_pairwise s t0) i j (by omega) (by omega) hi
     omega
   refine Ev.bind (a := (s, ring, putL (rowC (freeL s t0) t0 c j) ((freeL s t0)[j]'(by omega)))) (Ev.bound (rowC (freeL s t0) t0 c j).length fun k hk => ?_) ?_
   ·rw [rd_get _ j (by omega)]
    exact spec_l2With_eq s ring _ _ (by omega) (rising_of _ h1.up) hnot k hk
   ·rw [rowC, if_pos g, getD_get _ j (by omega)] at ih
    exact ih
  ·refine Ev.neg (fun e => g ((bit_of c j (by omega) (by omega)).1 e)) ?_
   rw [rowC, if_neg g] at ih
   exact ih
def Wv (s : Int) (both : Bool) (t : List Int) : Int := Vn s both (freeL s t).length t
theorem bits_full {c m : Nat} (hc : c < 2 ^ m) (h : ∀ i, i < m → c.testBit i = true) : c = 2 ^ m - 1 := by
 refine Nat.eq_of_testBit_eq fun i => ?_
 rw [testBit_all]
 by_cases g : i < m
 ·rw [h i g, decide_eq_true g]
 ·rw [decide_eq_false g]
  exact Nat.testBit_lt_two_pow (Nat.lt_of_lt_of_le hc (Nat.pow_le_pow_right (by omega) (by omega)))
theorem add_lt {c i m : Nat} (hc : c < 2 ^ m) (hi : i < m) (hb : c.testBit i = false) : c + 2 ^ i < 2 ^ m := by
 refine Nat.lt_pow_two_of_testBit _ fun j hj => ?_
 rw [testBit_add_pow c i j hb, Nat.testBit_lt_two_pow (Nat.lt_of_lt_of_le hc (Nat.pow_le_pow_right (by omega) hj)), decide_eq_false (by omega)]
 rfl
theorem tab_l0_ev {s : Int} {ring both : Bool} {t0 : List Int} (h0 : Tk s t0) (hs : s ≤ 24) (hF : (freeL s t0).length ≤ 10) : ∀ (n : Nat) (tab : List Int), n ≤ 2 ^ (freeL s t0).length - 1 → tab.length = 2 ^ (freeL s t0).length →
  (∀ c', n ≤ c' → c' < 2 ^ (freeL s t0).length → tab.getD c' 0 = Wv s both (rowC (freeL s t0) t0 c' (freeL s t0).length)) →
  ∃ tab', Ev (fun k => spec_l10Table.l0 k both (freeL s t0) tab ((n : Int) - 1) s ring t0) tab' ∧ tab'.length = 2 ^ (freeL s t0).length ∧ ∀ c', c' < 2 ^ (freeL s t0).length → tab'.getD c' 0 = Wv s both (rowC (freeL s t0) t0 c' (freeL s t0).length)
 | 0, tab, _, hl, hg => ⟨tab, by
   refine Ev.succ ?_
   simp only [spec_l10Table.l0]
   exact Ev.neg (by omega) (Ev.now _), hl, fun c' hc' => hg c' (Nat.zero_le _) hc'⟩
 | n + 1, tab, hn, hl, hg => by
  have hp : 2 ^ (freeL s t0).length ≤ 2 ^ 10 := Nat.pow_le_pow_right (by omega) hF
  obtain ⟨h1, h2⟩ := rowC_spec h0 n _ (Nat.le_refl (freeL s t0).length)
  have hfr := free_rowC h0 n
  have hlen := seats_len (h1.seats hs)
  obtain ⟨i0, hi0, hb0⟩ : ∃ i, i < (freeL s t0).length ∧ n.testBit i = false := by
   by_cases g : ∀ i, i < (freeL s t0).length → n.testBit i = true
   ·have := bits_full (show n < 2 ^ (freeL s t0).length from by omega) g
    omega
   ·simp only [Classical.not_forall] at g
    obtain ⟨i, hi, hb⟩ := g
    exact ⟨i, hi, by simpa using hb⟩
  have hne : freeL s (rowC (freeL s t0) t0 n (freeL s t0).length) ≠ [] := by
   rw [hfr]
   intro e
   have : (freeL s t0).getD i0 0 ∈ un n 0 (freeL s t0) := (mem_un n _ 0 _).2 ⟨i0, hi0, by rw [Nat.zero_add]; exact hb0, rfl⟩
   rw [e] at this
   simp at this
  obtain ⟨q, hq⟩ : ∃ q, (freeL s (rowC (freeL s t0) t0 n (freeL s t0).length)).length = q + 1 := ⟨_, (Nat.succ_pred_eq_of_pos (List.length_pos_iff.2 hne)).symm⟩
  have hWv : Wv s both (rowC (freeL s t0) t0 n (freeL s t0).length) = loV (ownN (rowC (freeL s t0) t0 n (freeL s t0).length) both) (fun p => Vn s both q (putL (rowC (freeL s t0) t0 n (freeL s t0).length) p)) (un n 0 (freeL s t0)) (-1) := by
   unfold Wv
   rw [hq, Vn, hfr]
  obtain ⟨tab', e, hl', hg'⟩ := tab_l0_ev (ring := ring) (both := both) h0 hs hF n (tab.set n (Wv s both (rowC (freeL s t0) t0 n (freeL s t0).length))) (by omega) (by rw [List.length_set, hl]) (fun c' hc' hc2 => by
   by_cases g : c' = n
   ·subst g
    simp [List.getD, List.getElem?_set, show c' < tab.length from by omega]
   ·have := hg c' (by omega) hc2
    simp only [List.getD, List.getElem?_set, if_neg (show ¬ n = c' from fun h => g h.symm)] at this ⊢
    exact this)
  refine ⟨tab', ?_, hl', hg'⟩
  rw [show ((n + 1 : Nat) : Int) - 1 = (n : Int) from by omega]
  refine Ev.succ ?_
  simp only [spec_l10Table.l0]
  refine Ev.pos (by omega) ?_
  refine tab_l1_ev h0 hs hF (by omega) ?_ _ 0 (Nat.zero_add _)
  refine tab_l2_ev s ring both (freeL s t0) t0 tab _ n (fun p => Vn s both q (putL (rowC (freeL s t0) t0 n (freeL s t0).length) p)) hF (by omega) (by omega) (by omega) ?_ _ 0 (-1) (Nat.zero_add _) ?_
  ·intro i hi hb
   obtain ⟨hnot, hput⟩ := rowC_bit h0 n i hi hb
   have hlt := add_lt (show n < 2 ^ (freeL s t0).length from by omega) hi hb
   have hm : (freeL s t0).getD i 0 ∈ freeL s (rowC (freeL s t0) t0 n (freeL s t0).length) := by
    rw [hfr]
    exact (mem_un n _ 0 _).2 ⟨i, hi, by rw [Nat.zero_add]; exact hb, rfl⟩
   have hpl := freeL_put_len hm
   have hk : (freeL s (putL (rowC (freeL s t0) t0 n (freeL s t0).length) ((freeL s t0).getD i 0))).length = q := by omega
   have ho := own_le (h1.seats hs) both ((freeL s t0).getD i 0)
   have hv := Vn_bound hs both q _ (h1.put hm) hk
   have hq10 : q ≤ 24 := by
    have hfl : (freeL s (rowC (freeL s t0) t0 n (freeL s t0).length)).length ≤ (freeL s t0).length := by
     rw [hfr]
     exact (un_sub n _ 0).length_le
    omega
   refine ⟨by omega, ?_, by omega, by omega⟩
   have hp2 : 0 < 2 ^ i := Nat.two_pow_pos i
   rw [rd_nat, hg _ (by omega) hlt, hput]
   unfold Wv
   rw [hk]
  ·rw [List.drop_zero, ← hWv]
   exact e
theorem l2Free_ev (s : Int) (ring : Bool) (t : List Int) (h1 : s ≤ 24) (ht : t.length ≤ 1048576) : ∀ (d j : Nat) (acc : List Int), j + d = s.toNat → acc.length ≤ j → Ev (fun k => spec_l2Free.l0 k acc (j : Int) s ring t) (acc ++ ((List.range' j d).map fun i : Nat => (i : Int)).filter fun x => decide (x ∉ t))
 | 0, j, acc, hj, _ => by
  refine Ev.succ ?_
  simp only [spec_l2Free.l0]
  refine Ev.neg (by omega) ?_
  simp only [List.range'_zero, List.map_nil, List.filter_nil, List.append_nil]
  exact Ev.now _
 | d + 1, j, acc, hj, ha => by
  refine Ev.succ ?_
  simp only [spec_l2Free.l0]
  refine Ev.pos (by omega) (Ev.bind (spec_l2Is_ev s ring t (j : Int) ht) ?_)
  rw [wrap_one (n := 24) (by omega) (by omega), List.range'_succ, List.map_cons]
  by_cases g : (j : Int) ∈ t
  ·rw [List.filter_cons_of_neg (by simpa using g)]
   exact Ev.pos (decide_eq_true g) (l2Free_ev s ring t h1 ht d (j + 1) acc (by omega) (by omega))
  ·rw [List.filter_cons_of_pos (by simpa using g)]
   refine Ev.neg (by simpa using g) (Ev.pos (by omega) ?_)
   have := l2Free_ev s ring t h1 ht d (j + 1) (acc ++ [(j : Int)]) (by omega) (by simp; omega)
   rw [List.append_assoc] at this
   exact this
theorem free_ev (s : Int) (ring : Bool) (t : List Int) (h1 : s ≤ 24) (ht : t.length ≤ 1048576) : Ev (fun k => spec_l2Free.f k s ring t) (freeL s t) := by
 unfold spec_l2Free.f freeL
 rw [List.range_eq_range']
 exact l2Free_ev s ring t h1 ht s.toNat 0 [] (by omega) (Nat.le_refl _)
theorem table_ev {s : Int} {ring both : Bool} {t : List Int} (h : Tk s t) (hs : s ≤ 24) (hF : (freeL s t).length ≤ 10) : ∃ tab, Ev (fun k => spec_l10Table.f k s ring t both) tab ∧ tab.length = 2 ^ (freeL s t).length ∧ ∀ c', c' < 2 ^ (freeL s t).length → tab.getD c' 0 = Wv s both (rowC (freeL s t) t c' (freeL s t).length) := by
 have hp : 2 ^ (freeL s t).length ≤ 2 ^ 10 := Nat.pow_le_pow_right (by omega) hF
 have hp0 : 0 < 2 ^ (freeL s t).length := Nat.two_pow_pos _
 have hlen := seats_len (h.seats hs)
 obtain ⟨tab, e, h1, h2⟩ := tab_l0_ev (ring := ring) (both := both) h hs hF (2 ^ (freeL s t).length - 1) (List.replicate (2 ^ (freeL s t).length) 0) (Nat.le_refl _) (by simp) (fun c' hc hc2 => by
  have hc3 : c' = 2 ^ (freeL s t).length - 1 := by omega
  have hempty : freeL s (rowC (freeL s t) t c' (freeL s t).length) = [] := by
   rw [free_rowC h c']
   refine List.eq_nil_iff_forall_not_mem.2 fun x hx => ?_
   obtain ⟨q, hq, hb, _⟩ := (mem_un c' _ 0 x).1 hx
   rw [hc3, Nat.zero_add, testBit_all, decide_eq_false_iff_not] at hb
   exact hb hq
  unfold Wv
  rw [hempty]
  rw [getD_get _ c' (by simpa using hc2)]
  simp [Vn])
 refine ⟨tab, ?_, h1, h2⟩
 unfold spec_l10Table.f
 refine Ev.bind (free_ev s ring t hs (by omega)) ?_
 rw [shl_one64 _ (by omega), Int.toNat_natCast]
 refine Ev.pos (by omega) (Ev.pos (by omega) ?_)
 refine Ev.have rfl ?_
 rw [List.length_replicate, wrap_id (by omega) (by omega), show ((2 ^ (freeL s t).length : Nat) : Int) - 2 = ((2 ^ (freeL s t).length - 1 : Nat) : Int) - 1 from by omega]
 exact e
theorem rowC_zero (F t0 : List Int) : ∀ j, rowC F t0 0 j = t0
 | 0 => rfl
 | j + 1 => by rw [rowC, if_neg (by simp), rowC_zero F t0 j]
open Classical in
theorem full_eq (s : Int) (ring : Bool) (t : List Int) (ht : t.length ≤ 1048576) : Ev (fun k => spec_l10Full.f k s ring t) (decide ((RowOK s ring t ∧ ring = false) ∧ (freeL s t).length ≤ 10)) := by
 refine Ev.bound t.length fun k hk => ?_
 unfold spec_l10Full.f
 rw [spec_l10Line_eq s ring t ht k hk, Option.bind_some]
 by_cases h : RowOK s ring t ∧ ring = false
 ·have hl := freeL_len (row_tk h.1) (by have := h.1.1; omega)
  have := h.1.1
  rw [if_pos (decide_eq_true h), wrap_id (by omega) (by omega)]
  refine congrArg some ?_
  by_cases g : (freeL s t).length ≤ 10
  ·rw [decide_eq_true (by omega), decide_eq_true ⟨h, g⟩]
  ·rw [decide_eq_false (by omega), decide_eq_false (fun e => g e.2)]
 ·rw [if_neg (by rw [decide_eq_true_eq]; exact h), decide_eq_false (fun e => h e.1)]
open Classical in
theorem public_eq (s : Int) (ring : Bool) (t : List Int) (ht : t.length ≤ 1048576) (k : Nat) (hk : t.length + 3 < k) : impl_isPublic.f k s ring t = some (decide ((RowOK s ring t ∧ ring = false) ∧ (freeL s t).length ≤ 10)) := by
 unfold impl_isPublic.f
 rw [impl_isLine_eq s ring t ht k hk, Option.bind_some]
 by_cases h : RowOK s ring t ∧ ring = false
 ·have hT := row_tk h.1
  have hs := h.1.1
  have hS : Seats (freeL s t) := ⟨fun x hx => by have := mem_freeL.1 hx; omega, nodup_of_up (freeL_pairwise s t)⟩
  rw [if_pos (decide_eq_true h), impl_free_eq s ring t h.1 k (by omega), Option.bind_some, freeL_set hT, impl_set_count_eq _ (seats_lt hS), Option.bind_some, count_seats hS]
  refine congrArg some ?_
  by_cases g : (freeL s t).length ≤ 10
  ·rw [decide_eq_true (by omega), decide_eq_true ⟨h, g⟩]
  ·rw [decide_eq_false (by omega), decide_eq_false (fun e => g e.2)]
 ·rw [if_neg (by rw [decide_eq_true_eq]; exact h), decide_eq_false (fun e => h e.1)]

theorem lo_same (S : Int → Option Int) (t : Int) (both : Bool) : ∀ (ps : List Int) (b : Int), impl_BestArrival.lo S t both ps b = impl_LeastStands.lo S t both ps b
 | [], _ => rfl
 | p :: ps, b => by
  unfold impl_BestArrival.lo impl_LeastStands.lo
  split
  ·refine congrArg _ (funext fun s => congrArg _ (funext fun m => lo_same S t both ps _))
  ·rfl
theorem le_same (k : Nat) (A : Int) (both : Bool) : ∀ (d : Nat), impl_BestArrival.le k A both d = impl_LeastStands.le k A both d
 | 0 => funext fun _ => rfl
 | d + 1 => funext fun t => by
  unfold impl_BestArrival.le impl_LeastStands.le
  rw [le_same k A both d]
  split
  ·rfl
  ·refine congrArg _ (funext fun ps => ?_)
   split
   ·exact lo_same _ t both ps _
   ·rfl
theorem impl_leB_eq {s : Int} (h0 : 0 ≤ s) (hs : s ≤ 24) (both : Bool) (k : Nat) (hk : 24 < k) : ∀ (n : Nat) (t : List Int) (d : Nat), Tk s t → (freeL s t).length = n → n < d → impl_BestArrival.le k ((2 ^ s.toNat - 1 : Nat) : Int) both d ((setN t : Nat) : Int) = some (Vn s both n t) := fun n t d h hl hd => by
 rw [le_same]
 exact impl_le_eq h0 hs both k hk n t d h hl hd
theorem loV_mem {own X : Int → Int} : ∀ (ps : List Int) (b : Int), (∀ p ∈ ps, 0 ≤ own p + X p) → (∃ p ∈ ps, own p + X p = loV own X ps b) ∨ loV own X ps b = b
 | [], b, _ => .inr rfl
 | p :: ps, b, h => by
  have hp := h p List.mem_cons_self
  have ih := loV_mem ps (if b < 0 then own p + X p else if own p + X p < b then own p + X p else b) (fun q hq => h q (List.mem_cons_of_mem _ hq))
  unfold loV
  rcases ih with ⟨q, hq, e⟩ | e
  ·exact .inl ⟨q, List.mem_cons_of_mem _ hq, e⟩
  ·rw [e]
   split
   ·exact .inl ⟨p, List.mem_cons_self, rfl⟩
   ·split
    ·exact .inl ⟨p, List.mem_cons_self, rfl⟩
    ·exact .inr rfl
def pathL (s : Int) (both : Bool) : Nat → List Int → List Int
 | 0, _ => []
 | n + 1, t => match (freeL s t).find? (fun p => decide (ownN t both p + Vn s both n (putL t p) = Vn s both (n + 1) t)) with
  | some p => p :: pathL s both n (putL t p)
  | none => []
theorem path_find {s : Int} (hs : s ≤ 24) (both : Bool) (n : Nat) (t : List Int) (h : Tk s t) (hl : (freeL s t).length = n + 1) :
  ∃ p, (freeL s t).find? (fun p => decide (ownN t both p + Vn s both n (putL t p) = Vn s both (n + 1) t)) = some p ∧ p ∈ freeL s t ∧ pathL s both (n + 1) t = p :: pathL s both n (putL t p) := by
 have hne : freeL s t ≠ [] := fun e => by rw [e] at hl; simp at hl
 have hb : ∀ p ∈ freeL s t, 0 ≤ ownN t both p + Vn s both n (putL t p) := fun p hp => by
  have h1 := own_le (h.seats hs) both p
  have h2 := Vn_bound hs both n (putL t p) (h.put hp) (by have := freeL_put_len hp; omega)
  omega
 have hv := Vn_bound hs both (n + 1) t h hl
 have hf : ∃ p ∈ freeL s t, ownN t both p + Vn s both n (putL t p) = Vn s both (n + 1) t := by
  rcases loV_mem (own := ownN t both) (X := fun p => Vn s both n (putL t p)) (freeL s t) (-1) hb with h1 | h1
  ·exact h1
  ·have : Vn s both (n + 1) t = -1 := h1
   omega
 cases e : (freeL s t).find? (fun p => decide (ownN t both p + Vn s both n (putL t p) = Vn s both (n + 1) t)) with
 | none =>
  obtain ⟨p, hp, e2⟩ := hf
  have := List.find?_eq_none.1 e p hp
  exact absurd (decide_eq_true e2) this
 | some p =>
  refine ⟨p, rfl, List.mem_of_find?_eq_some e, ?_⟩
  rw [pathL, e]
theorem impl_bi_eq {S : Int → Option Int} {t : List Int} {both : Bool} {X : Int → Int} {v : Int} (ht : Seats t) (hv : S ((setN t : Nat) : Int) = some v) : ∀ (ps : List Int), (∀ p ∈ ps, (0 ≤ p ∧ p ≤ 23) ∧ p ∉ t ∧ S ((setN (putL t p) : Nat) : Int) = some (X p) ∧ 0 ≤ ownN t both p + X p ∧ ownN t both p + X p ≤ 100000) → impl_BestArrival.bi S ((setN t : Nat) : Int) both ps = ps.find? (fun p => decide (ownN t both p + X p = v))
 | [], _ => rfl
 | p :: ps, hp => by
  obtain ⟨h0, h1, h2, h3, h4⟩ := hp p List.mem_cons_self
  obtain ⟨z, hz⟩ := impl_own_eq ht p h0.1 h0.2 h1 both
  have h5 : 2 ^ p.toNat < 2 ^ 32 := Nat.pow_lt_pow_right (by omega) (by omega)
  simp only [impl_BestArrival.bi]
  rw [if_pos h0.1, hz, Option.bind_some, shl_one p h0.1 (by omega), or_cast _ _ (seats_lt ht) (by omega), put_set t p h1, h2, Option.bind_some, hv, Option.bind_some]
  dsimp only
  rw [wrap_id (by omega) (by omega)]
  by_cases g : ownN t both p + X p = v
  ·rw [if_pos g, List.find?_cons_of_pos (by simpa using g)]
  ·rw [if_neg g, List.find?_cons_of_neg (by simpa using g)]
   exact impl_bi_eq ht hv ps fun q hq => hp q (List.mem_cons_of_mem _ hq)
theorem full_set {s : Int} {t : List Int} (h : Tk s t) (he : freeL s t = []) : setN t = 2 ^ s.toNat - 1 := by
 refine Nat.eq_of_testBit_eq fun i => ?_
 rw [testBit_setN, testBit_all, Bool.eq_iff_iff, decide_eq_true_eq, decide_eq_true_eq]
 constructor
 ·rintro ⟨p, hp, rfl⟩
  have := h.inn p hp
  omega
 ·intro hi
  by_cases g : (i : Int) ∈ t
  ·exact ⟨_, g, by omega⟩
  ·have : (i : Int) ∈ freeL s t := mem_freeL.2 ⟨by omega, g⟩
   rw [he] at this
   simp at this
theorem not_full {s : Int} {t : List Int} (h : Tk s t) (hs : s ≤ 24) (hl : freeL s t ≠ []) : ¬ ((setN t : Nat) : Int) = ((2 ^ s.toNat - 1 : Nat) : Int) := by
 intro e
 obtain ⟨p, hp⟩ := List.exists_mem_of_ne_nil (freeL s t) hl
 have hp' := mem_freeL.1 hp
 have hb : (setN t).testBit p.toNat = true := by
  rw [show setN t = 2 ^ s.toNat - 1 from by omega, testBit_all, decide_eq_true_eq]
  omega
 rw [testBit_setN, decide_eq_true_eq] at hb
 obtain ⟨q, hq, e⟩ := hb
 have := h.inn q hq
 have : q = p := by omega
 subst this
 exact hp'.2 hq
theorem impl_ba_eq {s : Int} (h0 : 0 ≤ s) (hs : s ≤ 24) (both : Bool) (k : Nat) (hk : 24 < k) : ∀ (n : Nat) (t out : List Int) (q : Nat), Tk s t → (freeL s t).length = n → n ≤ 10 → n < q → out.length + n ≤ 10 → impl_BestArrival.ba k ((2 ^ s.toNat - 1 : Nat) : Int) both q out ((setN t : Nat) : Int) = some (out ++ pathL s both n t)
 | n, t, out, 0, _, _, _, hq, _ => absurd hq (by omega)
 | 0, t, out, q + 1, h, hl, _, _, _ => by
  simp only [impl_BestArrival.ba]
  rw [if_pos (by rw [full_set h (List.length_eq_zero_iff.1 hl)]), pathL, List.append_nil]
 | n + 1, t, out, q + 1, h, hl, hn, hq, ho => by
  have hsE := h.seats hs
  have hp2 : 2 ^ s.toNat < 2 ^ 32 := Nat.pow_lt_pow_right (by omega) (by omega)
  have hlen : (freeL s t).length ≤ 24 := by omega
  obtain ⟨p, hf, hm, hpath⟩ := path_find hs both n t h hl
  have hp' := mem_freeL.1 hm
  have h5 : 2 ^ p.toNat < 2 ^ 32 := Nat.pow_lt_pow_right (by omega) (by omega)
  have hlt := seats_lt hsE
  simp only [impl_BestArrival.ba]
  rw [if_neg (not_full h hs (fun e => by rw [e] at hl; simp at hl)), if_pos ⟨by omega, by omega⟩, andNot_cast _ _ (by omega) hlt, freeL_set h, set_list_eq _ (freeL_pairwise s t) (fun x hx => by have := mem_freeL.1 hx; omega) (by omega) k (by omega), Option.bind_some, if_pos ⟨by omega, by omega⟩]
  rw [impl_bi_eq (X := fun p => Vn s both n (putL t p)) hsE (impl_leB_eq h0 hs both k hk (n + 1) t 11 h hl (by omega)) (freeL s t) (fun x hx => by
   have hx' := mem_freeL.1 hx
   have hxl : (freeL s (putL t x)).length = n := by have := freeL_put_len hx; omega
   have h1 := own_le hsE both x
   have h2 := Vn_bound hs both n (putL t x) (h.put hx) hxl
   exact ⟨by omega, hx'.2, impl_leB_eq h0 hs both k hk n (putL t x) 11 (h.put hx) hxl (by omega), by omega, by omega⟩), hf, Option.bind_some, shl_one p hp'.1.1 (by omega), or_cast _ _ hlt (by omega), put_set t p hp'.2,
   impl_ba_eq h0 hs both k hk n (putL t p) (out ++ [p]) q (h.put hm) (by have := freeL_put_len hm; omega) (by omega) (by omega) (by simp; omega), hpath, List.append_assoc]
  rfl
theorem ba_l1_ev (s : Int) (ring both : Bool) (F tab row out : List Int) (c : Nat) (X : Int → Int) (v : Int) (hF : F.length ≤ 10) (hc : c < tab.length) (hl : tab.length ≤ 1024) (hrow : row.length ≤ 32) (hup : row.Pairwise (· < ·)) (hout : out.length ≤ 10)
  (hv : rd tab (c : Int) = v)
  (hT : ∀ i, i < F.length → c.testBit i = false → F.getD i 0 ∉ row ∧ c + 2 ^ i < tab.length ∧ rd tab ((c + 2 ^ i : Nat) : Int) = X (F.getD i 0) ∧ 0 ≤ ownN row both (F.getD i 0) + X (F.getD i 0) ∧ ownN row both (F.getD i 0) + X (F.getD i 0) ≤ 100000) {r : List Int × Bool} {p : Int}
  (h : ∀ i0, i0 < F.length → c.testBit i0 = false → F.getD i0 0 = p → Ev (fun k => spec_BestArrival.l0 k both (out ++ [p]) tab F ((c + 2 ^ i0 : Nat) : Int) s ring (putL row p)) r) :
  ∀ d i, i + d = F.length → (un c i (F.drop i)).find? (fun p => decide (ownN row both p + X p = v)) = some p → Ev (fun k => spec_BestArrival.l1 k both out tab F (c : Int) (i : Int) s ring row) r
 | 0, i, hi, hf => by
  rw [List.drop_eq_nil_of_le (by omega), un] at hf
  exact absurd hf (by simp)
 | d + 1, i, hi, hf => by
  have ih := ba_l1_ev s ring both F tab row out c X v hF hc hl hrow hup hout hv hT h d (i + 1)
  rw [List.drop_eq_getElem_cons (show i < F.length from by omega), un] at hf
  refine Ev.succ ?_
  simp only [spec_BestArrival.l1]
  refine Ev.pos (by omega) ?_
  rw [wrap_one (n := F.length) (by omega) (by omega)]
  by_cases g : c.testBit i = true
  ·rw [if_pos g] at hf
   exact Ev.pos ((bit_of c i (by omega) (by omega)).2 g) (ih (by omega) hf)
  ·rw [if_neg g] at hf
   obtain ⟨h0, h1, h2, h3, h4⟩ := hT i (by omega) (by simpa using g)
   have hk := h i (by omega) (by simpa using g)
   refine Ev.neg (fun e => g ((bit_of c i (by omega) (by omega)).1 e)) (Ev.pos (by omega) ?_)
   refine Ev.bind (Ev.bound row.length fun k hk => spec_own_eq s ring row _ both (by omega) k hk) ?_
   (try dsimp only)
   have e1 : wrap64 ((c : Int) + shl .i64 1 (i : Int)) = ((c + 2 ^ i : Nat) : Int) := by
    rw [shl_one64 i (by omega)]
    generalize 2 ^ i = y at h1
    rw [wrap_id (by omega) (by omega)]
    omega
   have hp2 : 0 < 2 ^ i := Nat.two_pow_pos i
   rw [e1, h2, rd_get F i (by omega), hv]
   rw [getD_get F i (by omega)] at h0 h3 h4 hk ⊢
   rw [wrap_id (by omega) (by omega)]
   refine Ev.pos (by omega) (Ev.pos (by omega) (Ev.pos (by omega) (Ev.pos (by omega) ?_)))
   by_cases gq : ownN row both F[i] + X F[i] = v
   ·rw [List.find?_cons_of_pos (by simpa using gq)] at hf
    obtain rfl := Option.some.inj hf
    refine Ev.pos gq (Ev.pos (by omega) ?_)
    refine Ev.bind (a := (s, ring, putL row F[i])) (Ev.bound row.length fun k hk => spec_l2With_eq s ring row _ (by omega) (rising_of _ hup) h0 k hk) ?_
    exact hk rfl
   ·rw [List.find?_cons_of_neg (by simpa using gq)] at hf
    exact Ev.neg gq (ih (by omega) hf)
theorem ba_l0_ev {s : Int} {ring both : Bool} {t0 tab : List Int} (h0 : Tk s t0) (hs : s ≤ 24) (hF : (freeL s t0).length ≤ 10) (hl : tab.length = 2 ^ (freeL s t0).length)
  (hg : ∀ c', c' < 2 ^ (freeL s t0).length → tab.getD c' 0 = Wv s both (rowC (freeL s t0) t0 c' (freeL s t0).length)) : ∀ (q c : Nat) (out : List Int), c < 2 ^ (freeL s t0).length → (freeL s (rowC (freeL s t0) t0 c (freeL s t0).length)).length = q → out.length + q = (freeL s t0).length →
  Ev (fun k => spec_BestArrival.l0 k both out tab (freeL s t0) (c : Int) s ring (rowC (freeL s t0) t0 c (freeL s t0).length)) (out ++ pathL s both q (rowC (freeL s t0) t0 c (freeL s t0).length), true)
 | 0, c, out, hc, hq, ho => by
  refine Ev.succ ?_
  simp only [spec_BestArrival.l0]
  refine Ev.neg (by omega) ?_
  rw [pathL, List.append_nil]
  exact Ev.now _
 | q + 1, c, out, hc, hq, ho => by
  have hp : 2 ^ (freeL s t0).length ≤ 2 ^ 10 := Nat.pow_le_pow_right (by omega) hF
  obtain ⟨h1, h2⟩ := rowC_spec h0 c _ (Nat.le_refl (freeL s t0).length)
  have hfr := free_rowC h0 c
  have hlen := seats_len (h1.seats hs)
  obtain ⟨p, hf, hm, hpath⟩ := path_find hs both q _ h1 hq
  refine Ev.succ ?_
  simp only [spec_BestArrival.l0]
  refine Ev.pos (by omega) ?_
  refine ba_l1_ev s ring both (freeL s t0) tab _ out c (fun p => Vn s both q (putL (rowC (freeL s t0) t0 c (freeL s t0).length) p)) (Vn s both (q + 1) (rowC (freeL s t0) t0 c (freeL s t0).length)) hF (by omega) (by omega) hlen h1.up (by omega) ?_ ?_ (p := p) ?_ _ 0 (Nat.zero_add _) ?_
  ·rw [rd_nat, hg c hc]
   unfold Wv
   rw [hq]
  ·intro i hi hb
   obtain ⟨hnot, hput⟩ := rowC_bit h0 c i hi hb
   have hlt := add_lt hc hi hb
   have hmi : (freeL s t0).getD i 0 ∈ freeL s (rowC (freeL s t0) t0 c (freeL s t0).length) := by
    rw [hfr]
    exact (mem_un c _ 0 _).2 ⟨i, hi, by rw [Nat.zero_add]; exact hb, rfl⟩
   have hpl := freeL_put_len hmi
   have hk : (freeL s (putL (rowC (freeL s t0) t0 c (freeL s t0).length) ((freeL s t0).getD i 0))).length = q := by omega
   have hown := own_le (h1.seats hs) both ((freeL s t0).getD i 0)
   have hv := Vn_bound hs both q _ (h1.put hmi) hk
   refine ⟨hnot, by omega, ?_, by omega, by omega⟩
   rw [rd_nat, hg _ hlt, hput]
   unfold Wv
   rw [hk]
  ·intro i0 hi0 hb0 e0
   obtain ⟨hnot, hput⟩ := rowC_bit h0 c i0 hi0 hb0
   rw [e0] at hput
   have hpl := freeL_put_len hm
   have ih := ba_l0_ev (ring := ring) (both := both) h0 hs hF hl hg q (c + 2 ^ i0) (out ++ [p]) (add_lt hc hi0 hb0) (by rw [hput]; omega) (by simp; omega)
   rw [hput, List.append_assoc] at ih
   rw [hpath]
   exact ih
  ·rw [List.drop_zero, ← hfr]
   exact hf

theorem u8_bounds {x : Int} (h : (Lit.int .u8 x).wf = true) : 0 ≤ x ∧ x ≤ 255 := by
 have h := h
 simp [Lit.wf, IntKind.min, IntKind.max, IntKind.signed, IntKind.bits] at h
 omega
theorem rd_bounds (l : List Int) (hb : ∀ x ∈ l, 0 ≤ x ∧ x ≤ 255) (i : Int) : 0 ≤ rd l i ∧ rd l i ≤ 255 := by
 unfold rd
 cases h : l[i.toNat]? with
 | none => simp [List.getD, h]
 | some x =>
  simp only [List.getD, h, Option.getD_some]
  exact hb x (List.mem_of_getElem? h)
theorem and255 (x : Int) : 0 ≤ Go.bits .and .u64 (IntKind.u64.wrap x / 1099511627776) 255 ∧ Go.bits .and .u64 (IntKind.u64.wrap x / 1099511627776) 255 ≤ 255 := by
 have h : 0 ≤ IntKind.u64.wrap x ∧ IntKind.u64.wrap x < 18446744073709551616 := by
  rw [IntKind.wrap_u64]
  omega
 generalize IntKind.u64.wrap x = y at h
 have e : y / 1099511627776 = ((y / 1099511627776).toNat : Int) := by omega
 rw [e, show (255 : Int) = ((255 : Nat) : Int) from rfl, (bits_nat .u64 64 (by decide) (fun n h h' => by rw [IntKind.wrap_u64]; omega) _ 255 (by omega) (by omega)).1]
 have := Nat.and_le_right (n := (y / 1099511627776).toNat) (m := 255)
 omega
theorem next_ok (code : List Int) (hb : ∀ x ∈ code, 0 ≤ x ∧ x ≤ 255) (a : Nat) (ha : a ≤ 1000) (seed : Int) : ∃ (b s : Int), spec_l1Cur_next.f code a seed = some (b, ((a + 1 : Nat) : Int), s) ∧ 0 ≤ b ∧ b ≤ 255 := by
 have h1 := rd_bounds code hb a
 unfold spec_l1Cur_next.f
 rw [wrap_id (x := rd code a) (by omega) (by omega), wrap_one (n := 2000) (by omega) (by omega)]
 have small : ∀ y : Int, 0 ≤ wrap64 (Go.bits .and .u64 (IntKind.u64.wrap y / 1099511627776) 255) ∧ wrap64 (Go.bits .and .u64 (IntKind.u64.wrap y / 1099511627776) 255) ≤ 255 := fun y => by
  have := and255 y
  rw [wrap_id (by omega) (by omega)]
  exact this
 split
 ·rw [if_pos (by omega)]
  split
  ·exact ⟨_, _, rfl, h1.1, h1.2⟩
  ·exact ⟨_, _, rfl, (small _).1, (small _).2⟩
 ·split
  ·exact ⟨_, _, rfl, by omega, by omega⟩
  ·exact ⟨_, _, rfl, (small _).1, (small _).2⟩
theorem pick_ok (code : List Int) (hb : ∀ x ∈ code, 0 ≤ x ∧ x ≤ 255) (a : Nat) (ha : a ≤ 900) (seed n : Int) (h1 : 1 < n) (h2 : n ≤ 200) : ∃ (r s : Int), spec_l1Cur_pick.f code a seed n = some (r, ((a + 1 : Nat) : Int), s) ∧ 0 ≤ r ∧ r < n := by
 obtain ⟨b, s, e, b0, b1⟩ := next_ok code hb a (by omega) seed
 unfold spec_l1Cur_pick.f
 rw [if_neg (by omega), e, Option.bind_some, if_neg (by omega), if_neg (by omega)]
 exact ⟨_, _, rfl, Int.tmod_nonneg _ b0, Int.tmod_lt_of_pos _ (by omega)⟩
theorem one_ok (code : List Int) (hb : ∀ x ∈ code, 0 ≤ x ∧ x ≤ 255) (a : Nat) (ha : a ≤ 900) (seed n : Int) (h1 : 1 < n) (h2 : n ≤ 200) : ∃ (r : Bool) (s : Int), spec_l1Cur_one.f code a seed n = some (r, ((a + 1 : Nat) : Int), s) := by
 obtain ⟨b, s, e, _⟩ := pick_ok code hb a ha seed n h1 h2
 unfold spec_l1Cur_one.f
 rw [e]
 exact ⟨_, _, rfl⟩

theorem among_ok (code : List Int) (hb : ∀ x ∈ code, 0 ≤ x ∧ x ≤ 255) (a : Nat) (ha : a ≤ 900) (seed : Int) (l : List Int) (h1 : 1 < l.length) (h2 : l.length ≤ 200) : ∃ (r s : Int), spec_l1Cur_among.f code a seed l = some (r, ((a + 1 : Nat) : Int), s) := by
 obtain ⟨b, s, e, b0, b1⟩ := pick_ok code hb a ha seed (l.length : Int) (by omega) (by omega)
 unfold spec_l1Cur_among.f
 rw [e, Option.bind_some, if_pos b0, if_pos b1]
 exact ⟨_, _, rfl⟩

theorem pick_any (code : List Int) (hb : ∀ x ∈ code, 0 ≤ x ∧ x ≤ 255) (a : Nat) (ha : a ≤ 900) (seed n : Int) (h2 : n ≤ 200) : ∃ (r s : Int) (a' : Nat), spec_l1Cur_pick.f code a seed n = some (r, (a' : Int), s) ∧ a' ≤ a + 1 ∧ 0 ≤ r ∧ (1 ≤ n → r < n) := by
 by_cases h : 1 < n
 ·obtain ⟨r, s, e, h0, h1⟩ := pick_ok code hb a ha seed n h h2
  exact ⟨r, s, a + 1, e, by omega, h0, fun _ => h1⟩
 ·unfold spec_l1Cur_pick.f
  rw [if_pos (by omega)]
  exact ⟨0, seed, a, rfl, by omega, by omega, fun h => by omega⟩
theorem among_mem (code : List Int) (hb : ∀ x ∈ code, 0 ≤ x ∧ x ≤ 255) (a : Nat) (ha : a ≤ 900) (seed : Int) (l : List Int) (h1 : 1 < l.length) (h2 : l.length ≤ 200) : ∃ (r s : Int), spec_l1Cur_among.f code a seed l = some (r, ((a + 1 : Nat) : Int), s) ∧ r ∈ l := by
 obtain ⟨b, s, e, b0, b1⟩ := pick_ok code hb a ha seed (l.length : Int) (by omega) (by omega)
 unfold spec_l1Cur_among.f
 rw [e, Option.bind_some, if_pos b0, if_pos b1]
 refine ⟨_, _, rfl, ?_⟩
 have hlt : b.toNat < l.length := by omega
 unfold rd
 simp [List.getD, hlt]
theorem seats_ok (code : List Int) (hb : ∀ x ∈ code, 0 ≤ x ∧ x ≤ 255) (a : Nat) (ha : a ≤ 800) (seed : Int) : ∃ (r s : Int), spec_l1Cur_seats.f code a seed = some (r, ((a + 2 : Nat) : Int), s) ∧ -1 ≤ r ∧ r ≤ 4611686018427387904 := by
 obtain ⟨b, s, e⟩ := one_ok code hb a (by omega) seed 40 (by omega) (by omega)
 unfold spec_l1Cur_seats.f
 rw [e, Option.bind_some]
 dsimp only
 cases b with
 | true =>
  obtain ⟨r, s2, e2, hm⟩ := among_mem code hb (a + 1) (by omega) s [1, 2, 24, 25, 0, -1, 4611686018427387904] (by simp) (by simp)
  rw [if_pos rfl, e2]
  refine ⟨_, _, rfl, ?_⟩
  simp only [List.mem_cons, List.not_mem_nil, or_false] at hm
  omega
 | false =>
  obtain ⟨r, s2, e2, hm⟩ := among_mem code hb (a + 1) (by omega) s [6, 8, 5, 10, 7, 3, 12, 4, 20, 24] (by simp) (by simp)
  rw [if_neg (by simp), e2]
  refine ⟨_, _, rfl, ?_⟩
  simp only [List.mem_cons, List.not_mem_nil, or_false] at hm
  omega
theorem freeRow_ok (code : List Int) (hb : ∀ x ∈ code, 0 ≤ x ∧ x ≤ 255) (a : Nat) (ha : a ≤ 800) (seed : Int) : ∃ (n s : Int) (ring : Bool) (a' : Nat), spec_l1Cur_freeRow.f code a seed = some (n, ring, [], (a' : Int), s) ∧ a' ≤ a + 4 ∧ -1 ≤ n ∧ n ≤ 4611686018427387904 := by
 obtain ⟨n, s, e, h0, h1⟩ := seats_ok code hb a (by omega) seed
 obtain ⟨b, s2, e2⟩ := one_ok code hb (a + 2) (by omega) s 2 (by omega) (by omega)
 unfold spec_l1Cur_freeRow.f
 rw [e, Option.bind_some]
 dsimp only
 rw [e2, Option.bind_some]
 dsimp only
 rw [Option.bind_some]
 by_cases hbt : b = true
 ·rw [if_pos hbt]
  by_cases hn : n = 2
  ·obtain ⟨b3, s3, e3⟩ := one_ok code hb (a + 3) (by omega) s2 4 (by omega) (by omega)
   rw [if_pos hn, e3, Option.bind_some]
   dsimp only
   split
   ·exact ⟨_, _, _, a + 4, rfl, by omega, h0, h1⟩
   ·exact ⟨_, _, _, a + 4, rfl, by omega, by omega, by omega⟩
  ·rw [if_neg hn]
   exact ⟨_, _, _, a + 3, rfl, by omega, h0, h1⟩
 ·rw [if_neg hbt]
  exact ⟨_, _, _, a + 3, rfl, by omega, h0, h1⟩
def RowB (n : Int) (t : List Int) : Prop := t.length ≤ 40 ∧ -1 ≤ n ∧ n ≤ 4611686018427387904
theorem freeL_len24 {n : Int} (h : n ≤ 24) (t : List Int) : (freeL n t).length ≤ 24 := by
 have h1 : (freeL n t).length ≤ n.toNat := by
  unfold freeL
  refine Nat.le_trans (List.length_filter_le _ _) ?_
  simp
 omega
theorem row_j3 (code : List Int) (hb : ∀ x ∈ code, 0 ≤ x ∧ x ≤ 255) (a : Nat) (ha : a ≤ 800) (seed n : Int) (ring : Bool) (t : List Int) (ht : t.length ≤ 39) (h0 : -1 ≤ n) (h1 : n ≤ 4611686018427387904) :
  ∃ (n' s : Int) (r' : Bool) (t' : List Int) (a' : Nat), Ev (fun k => spec_l1Cur_row.j3 k code a seed n ring t) (n', r', t', (a' : Int), s) ∧ a' ≤ a + 2 ∧ RowB n' t' := by
 obtain ⟨b, s, e⟩ := one_ok code hb a (by omega) seed 40 (by omega) (by omega)
 cases b with
 | true =>
  obtain ⟨r, s2, e2⟩ := among_ok code hb (a + 1) (by omega) s [-1, 0, n, 4611686018427387904] (by simp) (by simp)
  refine ⟨n, s2, ring, t ++ [r], a + 2, Ev.succ ?_, by omega, by simp; omega, h0, h1⟩
  simp only [spec_l1Cur_row.j3]
  exact Ev.have e (Ev.pos (by first | rfl | exact True.intro) (Ev.have e2 (Ev.pos (by omega) (Ev.now _))))
 | false =>
  refine ⟨n, s, ring, t, a + 1, Ev.succ ?_, by omega, by omega, h0, h1⟩
  simp only [spec_l1Cur_row.j3]
  exact Ev.have e (Ev.neg (by simp) (Ev.now _))
open Classical in
theorem other_ev (n : Int) (ring : Bool) (t : List Int) (ht : t.length ≤ 1048576) (h : RowOK n ring t) : Ev (fun k => spec_OtherSeats.f k n ring t) (n, ring, freeL n t, true) := by
 unfold spec_OtherSeats.f
 refine Ev.bind (Ev.bound t.length fun k hk => spec_l2Row_eq n ring t ht k hk) (Ev.pos (decide_eq_true h) (Ev.bind (free_ev n ring t h.1.2 ht) ?_))
 unfold spec_l2Made.f
 exact Ev.now _
open Classical in
theorem row_tail (code : List Int) (hb : ∀ x ∈ code, 0 ≤ x ∧ x ≤ 255) (a : Nat) (ha : a ≤ 700) (seed n : Int) (ring : Bool) (t : List Int) (ht : t.length ≤ 39) (h0 : -1 ≤ n) (h1 : n ≤ 4611686018427387904) (b : Bool) (hbq : b = true → RowOK n ring t) :
  ∃ (n' s : Int) (r' : Bool) (t' : List Int) (a' : Nat), Ev (fun k => spec_l1Cur_row.j2 k b code a seed n ring t) (n', r', t', (a' : Int), s) ∧ a' ≤ a + 2 ∧ RowB n' t' := by
 cases b with
 | true =>
  have h := hbq rfl
  obtain ⟨n', s, r', t', a', e, h2, h3⟩ := row_j3 code hb a (by omega) seed n ring (freeL n t) (by have := freeL_len24 h.1.2 t; omega) h0 h1
  refine ⟨n', s, r', t', a', Ev.succ ?_, h2, h3⟩
  simp only [spec_l1Cur_row.j2]
  exact Ev.pos (by first | rfl | exact True.intro) (Ev.bind (other_ev n ring t (by omega) h) e)
 | false =>
  obtain ⟨n', s, r', t', a', e, h2, h3⟩ := row_j3 code hb a (by omega) seed n ring t ht h0 h1
  refine ⟨n', s, r', t', a', Ev.succ ?_, h2, h3⟩
  simp only [spec_l1Cur_row.j2]
  exact Ev.neg (by simp) e
open Classical in
theorem row_loop (code : List Int) (hb : ∀ x ∈ code, 0 ≤ x ∧ x ≤ 255) (odds : Int) (ho : 1 < odds) (ho2 : odds ≤ 200) (n : Int) (ring : Bool) (h0 : -1 ≤ n) (h1 : n ≤ 4611686018427387904) (d : Nat) : ∀ (i a : Nat) (seed : Int) (t : List Int), i + d = 25 → a ≤ 600 + i → t.length ≤ i →
  ∃ (n' s : Int) (r' : Bool) (t' : List Int) (a' : Nat), Ev (fun k => spec_l1Cur_row.l0 k odds (i : Int) code a seed n ring t) (n', r', t', (a' : Int), s) ∧ a' ≤ a + d + 3 ∧ RowB n' t' := by
 have tail : ∀ (i a : Nat) (seed : Int) (t : List Int), i ≤ 25 → a ≤ 600 + i → t.length ≤ i → ∃ (n' s : Int) (r' : Bool) (t' : List Int) (a' : Nat), Ev (fun k => spec_l1Cur_row.j1 k odds (i : Int) false code a seed n ring t) (n', r', t', (a' : Int), s) ∧ a' ≤ a + 3 ∧ RowB n' t' := by
  intro i a seed t hi ha ht
  obtain ⟨b, s, e⟩ := one_ok code hb a (by omega) seed 6 (by omega) (by omega)
  cases b with
  | true =>
   obtain ⟨n', s2, r', t', a', e2, h2, h3⟩ := row_tail code hb (a + 1) (by omega) s n ring t (by omega) h0 h1 (decide (RowOK n ring t)) of_decide_eq_true
   refine ⟨n', s2, r', t', a', Ev.succ ?_, by omega, h3⟩
   simp only [spec_l1Cur_row.j1]
   exact Ev.neg (by simp) (Ev.have e (Ev.pos (by first | rfl | exact True.intro) (Ev.bind (Ev.bound t.length fun k hk => spec_l2Row_eq n ring t (by omega) k hk) e2)))
  | false =>
   obtain ⟨n', s2, r', t', a', e2, h2, h3⟩ := row_tail code hb (a + 1) (by omega) s n ring t (by omega) h0 h1 false (by simp)
   refine ⟨n', s2, r', t', a', Ev.succ ?_, by omega, h3⟩
   simp only [spec_l1Cur_row.j1]
   exact Ev.neg (by simp) (Ev.have e (Ev.neg (by simp) e2))
 induction d with
 | zero =>
  intro i a seed t hi ha ht
  obtain ⟨n', s, r', t', a', e, h2, h3⟩ := tail i a seed t (by omega) ha ht
  refine ⟨n', s, r', t', a', Ev.succ ?_, by omega, h3⟩
  simp only [spec_l1Cur_row.l0]
  by_cases g : (i : Int) < n
  ·refine Ev.pos g ?_
   rw [decide_eq_false (by omega)]
   exact e
  ·exact Ev.neg g e
 | succ d ih =>
  intro i a seed t hi ha ht
  by_cases g : (i : Int) < n
  ·obtain ⟨b, s, e⟩ := one_ok code hb a (by omega) seed odds ho ho2
   obtain ⟨n', s2, r', t', a', e2, h2, h3⟩ := ih (i + 1) (a + 1) s (if b = true then t ++ [(i : Int)] else t) (by omega) (by omega) (by split <;> (try simp) <;> omega)
   refine ⟨n', s2, r', t', a', Ev.succ ?_, by omega, h3⟩
   simp only [spec_l1Cur_row.l0]
   refine Ev.pos g (Ev.succ ?_)
   simp only [spec_l1Cur_row.j1]
   refine Ev.pos (decide_eq_true (by omega)) (Ev.have e ?_)
   dsimp only
   rw [wrap_one (n := 100) (by omega) (by omega)]
   cases b with
   | true => exact Ev.pos (by first | rfl | exact True.intro) (Ev.pos (by omega) e2)
   | false => exact Ev.neg (by simp) e2
  ·obtain ⟨n', s, r', t', a', e, h2, h3⟩ := tail i a seed t (by omega) ha ht
   refine ⟨n', s, r', t', a', Ev.succ ?_, by omega, h3⟩
   simp only [spec_l1Cur_row.l0]
   exact Ev.neg g e
theorem row_ev (code : List Int) (hb : ∀ x ∈ code, 0 ≤ x ∧ x ≤ 255) (a : Nat) (ha : a ≤ 500) (seed : Int) : ∃ (n s : Int) (ring : Bool) (t : List Int) (a' : Nat), Ev (fun k => spec_l1Cur_row.f k code a seed) (n, ring, t, (a' : Int), s) ∧ a' ≤ a + 40 ∧ RowB n t := by
 obtain ⟨n, s, ring, a1, e, h2, h3, h4⟩ := freeRow_ok code hb a (by omega) seed
 obtain ⟨odds, s2, e2, hm⟩ := among_mem code hb a1 (by omega) s [3, 2, 5] (by simp) (by simp)
 simp only [List.mem_cons, List.not_mem_nil, or_false] at hm
 obtain ⟨n', s3, r', t', a', e3, h5, h6⟩ := row_loop code hb odds (by omega) (by omega) n ring h3 h4 25 0 (a1 + 1) s2 [] (by omega) (by omega) (by simp)
 refine ⟨n', s3, r', t', a', ?_, by omega, h6⟩
 unfold spec_l1Cur_row.f
 exact Ev.have e (Ev.have e2 e3)

theorem ev_mono {α : Type} {g : Nat → Option α} {r : α} (hm : ∀ k, LeO (g k) (g (k + 1))) (K : Nat) (h : g K = some r) : Ev g r := by
 have : ∀ d, g (K + d) = some r := by
  intro d
  induction d with
  | zero => exact h
  | succ d ih => exact hm (K + d) r ih
 exact ⟨K, fun k hk => by rw [show k = K + (k - K) from by omega]; exact this _⟩

theorem own_true_le (t : List Int) (p : Int) : ownN t true p ≤ ownN t false p ∧ (¬ rightN t p < leftN t p → ownN t true p = ownN t false p) := by
 unfold ownN
 constructor
 ·split <;> simp <;> omega
 ·intro h
  rw [if_neg (fun e => h e.2), if_neg (by simp)]
theorem few_many : ∀ (seats t : List Int) (i : Nat), i < seats.length → (standL true t seats).getD i 0 ≤ (standL false t seats).getD i 0 ∧ ((sidesL t seats).getD i 0 = 0 → (standL true t seats).getD i 0 = (standL false t seats).getD i 0)
 | [], _, i, h => absurd h (by simp)
 | p :: ps, t, 0, _ => by
  have := own_true_le t p
  simp only [standL, sidesL, List.getD_cons_zero]
  refine ⟨this.1, fun h => this.2 fun g => ?_⟩
  rw [if_pos g] at h
  omega
 | p :: ps, t, i + 1, h => by
  simp only [standL, sidesL, List.getD_cons_succ]
  exact few_many ps (putL t p) i (by simpa using h)
theorem path_good {s : Int} (hs : s ≤ 24) (both : Bool) : ∀ (n : Nat) (t : List Int), Tk s t → (freeL s t).length = n → (pathL s both n t).length = n ∧ (pathL s both n t).Nodup ∧ (∀ x ∈ pathL s both n t, x ∈ freeL s t) ∧ (standL both t (pathL s both n t)).sum = Vn s both n t
 | 0, t, _, _ => ⟨rfl, List.nodup_nil, by simp [pathL], rfl⟩
 | n + 1, t, h, hl => by
  obtain ⟨p, hf, hm, hpath⟩ := path_find hs both n t h hl
  have ih := path_good hs both n (putL t p) (h.put hm) (by have := freeL_put_len hm; omega)
  have hv := List.find?_some hf
  simp only [decide_eq_true_eq] at hv
  have hp' := mem_freeL.1 hm
  have hsub : ∀ x ∈ pathL s both n (putL t p), x ∈ freeL s t ∧ x ≠ p := fun x hx => by
   have h1 := mem_freeL.1 (ih.2.2.1 x hx)
   have h2 : ¬ (x = p ∨ x ∈ t) := fun e => h1.2 ((mem_put t p x hp'.2).2 e)
   exact ⟨mem_freeL.2 ⟨h1.1, fun e => h2 (.inr e)⟩, fun e => h2 (.inl e)⟩
  rw [hpath]
  refine ⟨by rw [List.length_cons, ih.1], List.nodup_cons.2 ⟨fun e => (hsub p e).2 rfl, ih.2.1⟩, fun x hx => ?_, ?_⟩
  ·rcases List.mem_cons.1 hx with rfl | hx
   ·exact hm
   ·exact (hsub x hx).1
  ·rw [standL, List.sum_cons, ih.2.2.2, hv]
theorem diff_of {s : Int} {ring : Bool} {t seats : List Int} {b : Bool} (hr : RowOK s ring t ∧ ring = false) (hl : seats.length ≤ 10) (hn : seats.Nodup) (hm : ∀ x ∈ seats, (0 ≤ x ∧ x ≤ s - 1) ∧ (x ∈ t ↔ b = true)) : Diff s ring t seats b := by
 refine ⟨hr, hl, fun j hj => ?_⟩
 have hx : seats.getD j 0 ∈ seats := by rw [show seats.getD j 0 = seats[j] from by simp [List.getD, hj]]; exact List.getElem_mem _
 exact ⟨(hm _ hx).1, (hm _ hx).2, (nodup_take seats).1 hn j hj⟩
theorem diff_out {s : Int} {ring : Bool} {t seats : List Int} {b : Bool} (h : Diff s ring t seats b) : seats.Nodup ∧ ∀ x ∈ seats, (0 ≤ x ∧ x ≤ s - 1) ∧ (x ∈ t ↔ b = true) := by
 refine ⟨(nodup_take seats).2 fun j hj => (h.2.2 j hj).2.2, fun x hx => ?_⟩
 obtain ⟨j, hj, rfl⟩ := List.getElem_of_mem hx
 have := h.2.2 j hj
 rw [show seats[j] = seats.getD j 0 from by simp [List.getD, hj]]
 exact ⟨this.1, this.2.1⟩
theorem path_diff {s : Int} {ring : Bool} {t : List Int} (both : Bool) (h : RowOK s ring t ∧ ring = false) (h10 : (freeL s t).length ≤ 10) : Diff s ring t (pathL s both (freeL s t).length t) false := by
 have g := path_good h.1.1.2 both _ t (row_tk h.1) rfl
 refine diff_of h (by rw [g.1]; exact h10) g.2.1 fun x hx => ?_
 have := mem_freeL.1 (g.2.2.1 x hx)
 exact ⟨by omega, by simp [this.2]⟩
def outS (E : List Int) : List Int → Int
 | [] => 0
 | p :: ps => (leftN E p : Int) + leftN ps p + outS E ps
theorem left_perm {a b : List Int} (h : a.Perm b) (p : Int) : leftN a p = leftN b p := (h.filter _).length_eq
theorem left_app (a b : List Int) (p : Int) : leftN (a ++ b) p = leftN a p + leftN b p := by simp [leftN]
theorem leave_sum (E : List Int) : ∀ (out t : List Int), t.Perm (E ++ out) → t.Nodup → (leaveL t out).sum = outS E out
 | [], _, _, _ => rfl
 | p :: ps, t, h, hn => by
  have hn2 : (E ++ p :: ps).Nodup := h.nodup_iff.1 hn
  have hp : p ∉ E ∧ p ∉ ps := by
   have h1 := List.nodup_append.1 hn2
   exact ⟨fun e => h1.2.2 p e p List.mem_cons_self rfl, (List.nodup_cons.1 h1.2.1).1⟩
  have hE : E.filter (fun x => !decide (x = p)) = E := List.filter_eq_self.2 fun x hx => by simp; rintro rfl; exact hp.1 hx
  have hps : ps.filter (fun x => !decide (x = p)) = ps := List.filter_eq_self.2 fun x hx => by simp; rintro rfl; exact hp.2 hx
  have h2 : (t.filter fun x => !decide (x = p)).Perm (E ++ ps) := by
   have := h.filter (fun x => !decide (x = p))
   rw [List.filter_append, List.filter_cons_of_neg (by simp), hE, hps] at this
   exact this
  have ih := leave_sum E ps _ h2 (List.Pairwise.filter _ hn)
  rw [leaveL, List.sum_cons, ih, outS]
  have h3 : leftN t p = leftN E p + leftN ps p := by
   rw [left_perm h p, left_app]
   congr 1
   simp [leftN]
  have h4 : (t.filter fun x => decide (x < p)).length = leftN t p := rfl
  rw [h4, h3]
  omega
theorem stand_app (both : Bool) : ∀ (a b t : List Int), standL both t (a ++ b) = standL both t a ++ standL both (a.foldl putL t) b
 | [], _, _ => rfl
 | p :: ps, b, t => by simp [standL, stand_app both ps b (putL t p)]
theorem put_perm {t : List Int} (hw : t.Pairwise (· < ·)) {p : Int} (hp : p ∉ t) : (putL t p).Perm (p :: t) := by
 refine (List.perm_ext_iff_of_nodup ?_ ?_).2 fun x => by rw [mem_put t p x hp, List.mem_cons]
 ·exact (put_pairwise t p hw).imp fun h => by omega
 ·exact List.nodup_cons.2 ⟨hp, hw.imp fun h => by omega⟩
theorem fold_put : ∀ (a t : List Int), t.Pairwise (· < ·) → a.Nodup → (∀ x ∈ a, x ∉ t) → (a.foldl putL t).Pairwise (· < ·) ∧ (a.foldl putL t).Perm (a ++ t)
 | [], t, hw, _, _ => ⟨hw, List.Perm.refl _⟩
 | p :: ps, t, hw, hn, hd => by
  have hp := hd p List.mem_cons_self
  have hn' := List.nodup_cons.1 hn
  have ih := fold_put ps (putL t p) (put_pairwise t p hw) hn'.2 fun x hx e => by
   rcases (mem_put t p x hp).1 e with rfl | g
   ·exact hn'.1 hx
   ·exact hd x (List.mem_cons_of_mem _ hx) g
  refine ⟨ih.1, ih.2.trans ?_⟩
  exact ((put_perm hw hp).append_left ps).trans (List.perm_middle)
theorem nodup_rev {l : List Int} (h : l.Nodup) : l.reverse.Nodup := (List.reverse_perm l).nodup_iff.2 h
theorem back_sum (E : List Int) (hw : E.Pairwise (· < ·)) : ∀ (out : List Int), out.Nodup → (∀ x ∈ out, x ∉ E) → (standL false E out.reverse).sum = outS E out
 | [], _, _ => rfl
 | p :: ps, hn, hd => by
  have hn' := List.nodup_cons.1 hn
  have ih := back_sum E hw ps hn'.2 fun x hx => hd x (List.mem_cons_of_mem _ hx)
  have g := fold_put ps.reverse E hw (nodup_rev hn'.2) fun x hx => hd x (List.mem_cons_of_mem _ (List.mem_reverse.1 hx))
  rw [List.reverse_cons, stand_app, List.sum_append, ih, outS]
  have h1 : leftN (ps.reverse.foldl putL E) p = leftN ps p + leftN E p := by
   rw [left_perm g.2 p, left_app, left_perm (List.reverse_perm ps) p]
  simp only [standL, List.sum_cons, List.sum_nil]
  unfold ownN
  rw [if_neg (by simp), h1]
  omega
theorem rising_of_pw {t : List Int} {a b : Int} (hw : t.Pairwise (· < ·)) (hb : ∀ x ∈ t, a ≤ x ∧ x ≤ b) : Rising t a b := by
 intro i hi
 refine ⟨hb _ (List.getElem_mem _), fun h0 => ?_⟩
 rw [show t.getD (i - 1) 0 = t[i - 1] from by simp [List.getD, show i - 1 < t.length by omega]]
 exact List.pairwise_iff_getElem.1 hw (i - 1) i (by omega) hi (by omega)
theorem back_diff {s : Int} {ring : Bool} {t out : List Int} (h : Diff s ring t out true) : Diff s false (t.filter fun x => decide (x ∉ out)) out.reverse false ∧ (standL false (t.filter fun x => decide (x ∉ out)) out.reverse).sum = (leaveL t out).sum := by
 have ho := diff_out h
 have hw := row_pairwise h.1.1
 have hs := h.1.1
 have hwE : (t.filter fun x => decide (x ∉ out)).Pairwise (· < ·) := List.Pairwise.filter _ hw
 have hr : RowOK s false (t.filter fun x => decide (x ∉ out)) := ⟨hs.1, by simp, rising_of_pw hwE fun x hx => rising_mem t _ _ hs.2.2 x (List.mem_filter.1 hx).1⟩
 have hdis : ∀ x ∈ out, x ∉ t.filter fun x => decide (x ∉ out) := fun x hx e => by
  have := (List.mem_filter.1 e).2
  simp only [decide_eq_true_eq] at this
  exact this hx
 have htn : t.Nodup := hw.imp fun h => by omega
 refine ⟨diff_of ⟨hr, rfl⟩ (by rw [List.length_reverse]; exact h.2.1) (nodup_rev ho.1) fun x hx => ?_, ?_⟩
 ·have hx' := List.mem_reverse.1 hx
  exact ⟨(ho.2 x hx').1, by simpa using hdis x hx'⟩
 ·rw [back_sum _ hwE out ho.1 hdis]
  refine (leave_sum _ out t ?_ htn).symm
  refine (List.perm_ext_iff_of_nodup htn ?_).2 fun x => ?_
  ·exact List.nodup_append.2 ⟨List.Pairwise.filter _ htn, ho.1, fun a ha b hb e => hdis b hb (e ▸ ha)⟩
  ·rw [List.mem_append, List.mem_filter, decide_eq_true_eq]
   constructor
   ·intro hx
    by_cases g : x ∈ out
    ·exact .inr g
    ·exact .inl ⟨hx, g⟩
   ·rintro (⟨hx, _⟩ | hx)
    ·exact hx
    ·exact (ho.2 x hx).2.2 rfl
theorem rhas_ev (l : List Int) (x : Int) (hl : l.length ≤ 1048576) (d : Nat) : ∀ i : Nat, i + d = l.length → x ∉ l.take i → Ev (fun k => laws_rHas.l0 k l x (i : Int)) (decide (x ∈ l)) := by
 induction d with
 | zero =>
  intro i hi hx
  refine Ev.succ ?_
  simp only [laws_rHas.l0]
  rw [List.take_of_length_le (by omega)] at hx
  exact Ev.neg (by omega) (Ev.same (Ev.now _) (decide_eq_false hx).symm)
 | succ d ih =>
  intro i hi hx
  refine Ev.succ ?_
  simp only [laws_rHas.l0]
  refine Ev.pos (by omega) (Ev.pos (by omega) ?_)
  rw [rd_get l i (by omega)]
  by_cases g : l[i] = x
  ·exact Ev.pos g (Ev.same (Ev.now _) (decide_eq_true (g ▸ List.getElem_mem _)).symm)
  ·refine Ev.neg g ?_
   rw [wrap_one (n := l.length) (by omega) (by omega)]
   refine ih (i + 1) (by omega) ?_
   rw [List.take_succ_eq_append_getElem (by omega), List.mem_append, List.mem_singleton]
   exact fun e => e.elim hx fun e => g e.symm
theorem rhas (l : List Int) (x : Int) (hl : l.length ≤ 1048576) : Ev (fun k => laws_rHas.f k l x) (decide (x ∈ l)) := by
 unfold laws_rHas.f
 exact rhas_ev l x hl l.length 0 (by omega) (by simp)
theorem rsum_ev (l : List Int) (hl : l.length ≤ 1000) (hb : ∀ x ∈ l, 0 ≤ x ∧ x ≤ 1000) (d : Nat) : ∀ i : Nat, i + d = l.length → Ev (fun k => laws_rSum.l0 k l ((l.take i).sum) (i : Int)) l.sum ∧ 0 ≤ (l.take i).sum ∧ (l.take i).sum ≤ 1000 * i := by
 have bound : ∀ i : Nat, i ≤ l.length → 0 ≤ (l.take i).sum ∧ (l.take i).sum ≤ 1000 * i := by
  intro i
  induction i with
  | zero => simp
  | succ i ih =>
   intro h
   have := ih (by omega)
   have hx := hb (l[i]'(by omega)) (List.getElem_mem _)
   rw [List.take_succ_eq_append_getElem (by omega), List.sum_append, List.sum_cons, List.sum_nil]
   omega
 induction d with
 | zero =>
  intro i hi
  refine ⟨Ev.succ ?_, bound i (by omega)⟩
  simp only [laws_rSum.l0]
  refine Ev.neg (by omega) (Ev.same (Ev.now _) ?_)
  rw [List.take_of_length_le (by omega)]
 | succ d ih =>
  intro i hi
  have hx := hb (l[i]'(by omega)) (List.getElem_mem _)
  have hB := bound i (by omega)
  have h := (ih (i + 1) (by omega)).1
  refine ⟨Ev.succ ?_, hB⟩
  simp only [laws_rSum.l0]
  refine Ev.pos (by omega) (Ev.pos (by omega) ?_)
  rw [rd_get l i (by omega), wrap_one (n := l.length) (by omega) (by omega), wrap_id (by omega) (by omega)]
  rw [List.take_succ_eq_append_getElem (by omega), List.sum_append, List.sum_cons, List.sum_nil, Int.add_zero] at h
  exact h
theorem rsum (l : List Int) (hl : l.length ≤ 1000) (hb : ∀ x ∈ l, 0 ≤ x ∧ x ≤ 1000) : Ev (fun k => laws_rSum.f k l) l.sum := by
 unfold laws_rSum.f
 exact (rsum_ev l hl hb l.length 0 (by omega)).1
theorem stand_bounds (both : Bool) : ∀ (seats t : List Int), (∀ p ∈ seats, 0 ≤ p ∧ p ≤ 23) → seats.Nodup → Seats t → t.Pairwise (· < ·) → (∀ p ∈ seats, p ∉ t) → ∀ x ∈ standL both t seats, 0 ≤ x ∧ x ≤ 1000
 | [], _, _, _, _, _, _, x, hx => by simp [standL] at hx
 | p :: ps, t, hb, hn, h, hw, hd, x, hx => by
  have hn' := List.nodup_cons.1 hn
  have hp := hb p List.mem_cons_self
  have hpt := hd p List.mem_cons_self
  rw [standL, List.mem_cons] at hx
  rcases hx with rfl | hx
  ·have := own_le h both p
   omega
  ·refine stand_bounds both ps (putL t p) (fun q hq => hb q (List.mem_cons_of_mem _ hq)) hn'.2 (put_seats h hw p hp.1 (by omega) hpt) (put_pairwise t p hw) (fun q hq e => ?_) x hx
   rcases (mem_put t p q hpt).1 e with rfl | g
   ·exact hn'.1 hq
   ·exact hd q (List.mem_cons_of_mem _ hq) g

open Classical in
theorem short_j2 (code : List Int) (hb : ∀ x ∈ code, 0 ≤ x ∧ x ≤ 255) (a : Nat) (ha : a ≤ 700) (seed n : Int) (ring : Bool) (t : List Int) (hr : RowB n t) (b : Bool) :
  ∃ (n' s : Int) (r' : Bool) (t' : List Int) (a' : Nat), Ev (fun k => spec_l1Cur_shortRow.j2 k b code a seed n ring t) (n', r', t', (a' : Int), s) ∧ a' ≤ a + 2 ∧ RowB n' t' := by
 have hl := hr.1
 cases b with
 | false =>
  refine ⟨n, seed, ring, t, a, Ev.succ ?_, by omega, hr⟩
  simp only [spec_l1Cur_shortRow.j2]
  exact Ev.neg (by simp) (Ev.now _)
 | true =>
  by_cases g : (t.length : Int) > 0
  ·obtain ⟨b2, s, e⟩ := one_ok code hb a (by omega) seed 2 (by omega) (by omega)
   cases b2 with
   | true =>
    obtain ⟨r, s2, a', e2, h1, h2, h3⟩ := pick_any code hb (a + 1) (by omega) s (t.length : Int) (by omega)
    refine ⟨n, s2, ring, [] ++ [rd t r], a', Ev.succ ?_, by omega, by simp, hr.2⟩
    simp only [spec_l1Cur_shortRow.j2]
    exact Ev.pos (by first | rfl | exact True.intro) (Ev.have rfl (Ev.pos g (Ev.have e (Ev.pos (by first | rfl | exact True.intro) (Ev.have e2 (Ev.pos h2 (Ev.pos (h3 (by omega)) (Ev.pos (by simp) (Ev.now _)))))))))
   | false =>
    refine ⟨n, s, ring, [], a + 1, Ev.succ ?_, by omega, by simp, hr.2⟩
    simp only [spec_l1Cur_shortRow.j2]
    exact Ev.pos (by first | rfl | exact True.intro) (Ev.have rfl (Ev.pos g (Ev.have e (Ev.neg (by simp) (Ev.now _)))))
  ·refine ⟨n, seed, ring, [], a, Ev.succ ?_, by omega, by simp, hr.2⟩
   simp only [spec_l1Cur_shortRow.j2]
   exact Ev.pos (by first | rfl | exact True.intro) (Ev.have rfl (Ev.neg g (Ev.now _)))
open Classical in
theorem short_j1 (code : List Int) (hb : ∀ x ∈ code, 0 ≤ x ∧ x ≤ 255) (a : Nat) (ha : a ≤ 600) (seed n : Int) (ring : Bool) (t : List Int) (hr : RowB n t) :
  ∃ (n' s : Int) (r' : Bool) (t' : List Int) (a' : Nat), Ev (fun k => spec_l1Cur_shortRow.j1 k code a seed n ring t) (n', r', t', (a' : Int), s) ∧ a' ≤ a + 3 ∧ RowB n' t' := by
 have hl := hr.1
 by_cases g : RowOK n ring t
 ·obtain ⟨b2, s, e⟩ := one_ok code hb a (by omega) seed 3 (by omega) (by omega)
  obtain ⟨n', s2, r', t', a', e2, h1, h2⟩ := short_j2 code hb (a + 1) (by omega) s n ring t hr b2
  refine ⟨n', s2, r', t', a', Ev.succ ?_, by omega, h2⟩
  simp only [spec_l1Cur_shortRow.j1]
  exact Ev.bind (Ev.bound t.length fun k hk => spec_l2Row_eq n ring t (by omega) k hk) (Ev.pos (decide_eq_true g) (Ev.have e e2))
 ·obtain ⟨n', s2, r', t', a', e2, h1, h2⟩ := short_j2 code hb a (by omega) seed n ring t hr false
  refine ⟨n', s2, r', t', a', Ev.succ ?_, by omega, h2⟩
  simp only [spec_l1Cur_shortRow.j1]
  exact Ev.bind (Ev.bound t.length fun k hk => spec_l2Row_eq n ring t (by omega) k hk) (Ev.neg (by rw [decide_eq_true_eq]; exact g) e2)
theorem shortRow_ev (code : List Int) (hb : ∀ x ∈ code, 0 ≤ x ∧ x ≤ 255) (a : Nat) (ha : a ≤ 300) (seed : Int) : ∃ (n s : Int) (ring : Bool) (t : List Int) (a' : Nat), Ev (fun k => spec_l1Cur_shortRow.f k code a seed) (n, ring, t, (a' : Int), s) ∧ a' ≤ a + 60 ∧ RowB n t := by
 obtain ⟨n, s, ring, t, a1, e, h1, h2⟩ := row_ev code hb a (by omega) seed
 have j0f : ∀ (a1 : Nat) (s : Int), a1 ≤ 500 → ∃ (n' s' : Int) (r' : Bool) (t' : List Int) (a' : Nat), Ev (fun k => spec_l1Cur_shortRow.j0 k false code a1 s n ring t) (n', r', t', (a' : Int), s') ∧ a' ≤ a1 + 3 ∧ RowB n' t' := by
  intro a1 s ha1
  obtain ⟨n', s2, r', t', a', e2, h3, h4⟩ := short_j1 code hb a1 (by omega) s n ring t h2
  refine ⟨n', s2, r', t', a', Ev.succ ?_, h3, h4⟩
  simp only [spec_l1Cur_shortRow.j0]
  exact Ev.neg (by simp) e2
 by_cases g : n > 10
 ·obtain ⟨b, s2, e2⟩ := one_ok code hb a1 (by omega) s 12 (by omega) (by omega)
  cases b with
  | true =>
   obtain ⟨n', s3, r', t', a', e3, h3, h4⟩ := j0f (a1 + 1) s2 (by omega)
   refine ⟨n', s3, r', t', a', ?_, by omega, h4⟩
   unfold spec_l1Cur_shortRow.f
   exact Ev.bind e (Ev.pos g (Ev.have e2 e3))
  | false =>
   obtain ⟨r, s3, e3, h5, h6⟩ := pick_ok code hb (a1 + 1) (by omega) s2 8 (by omega) (by omega)
   obtain ⟨n', s4, r', t', a', e4, h3, h4⟩ := short_j1 code hb (a1 + 1 + 1) (by omega) s3 (wrap64 (3 + r)) ring [] ⟨by simp, by rw [wrap_id (by omega) (by omega)]; omega⟩
   refine ⟨n', s4, r', t', a', ?_, by omega, h4⟩
   unfold spec_l1Cur_shortRow.f
   refine Ev.bind e (Ev.pos g (Ev.have e2 (Ev.succ ?_)))
   simp only [spec_l1Cur_shortRow.j0]
   exact Ev.pos (by first | rfl | exact True.intro) (Ev.have e3 e4)
 ·obtain ⟨n', s3, r', t', a', e3, h3, h4⟩ := j0f a1 s (by omega)
  refine ⟨n', s3, r', t', a', ?_, by omega, h4⟩
  unfold spec_l1Cur_shortRow.f
  exact Ev.bind e (Ev.neg g e3)
theorem lineRow_ev (code : List Int) (hb : ∀ x ∈ code, 0 ≤ x ∧ x ≤ 255) (a : Nat) (ha : a ≤ 200) (seed : Int) : ∃ (n s : Int) (ring : Bool) (t : List Int) (a' : Nat), Ev (fun k => spec_l1Cur_lineRow.f k code a seed) (n, ring, t, (a' : Int), s) ∧ a' ≤ a + 110 ∧ RowB n t := by
 obtain ⟨n, s, ring, t, a1, e, h1, h2⟩ := row_ev code hb a (by omega) seed
 obtain ⟨b, s2, e2⟩ := one_ok code hb a1 (by omega) s 2 (by omega) (by omega)
 cases b with
 | true =>
  obtain ⟨n', s3, ring', t', a2, e3, h3, h4⟩ := shortRow_ev code hb (a1 + 1) (by omega) s2
  obtain ⟨b2, s4, e4⟩ := one_ok code hb a2 (by omega) s3 16 (by omega) (by omega)
  cases b2 with
  | true =>
   refine ⟨n', s4, ring', t', a2 + 1, ?_, by omega, h4⟩
   unfold spec_l1Cur_lineRow.f
   exact Ev.bind e (Ev.have e2 (Ev.pos (by first | rfl | exact True.intro) (Ev.bind e3 (Ev.have e4 (Ev.pos (by first | rfl | exact True.intro) (Ev.now _))))))
  | false =>
   refine ⟨n', s4, false, t', a2 + 1, ?_, by omega, h4⟩
   unfold spec_l1Cur_lineRow.f
   exact Ev.bind e (Ev.have e2 (Ev.pos (by first | rfl | exact True.intro) (Ev.bind e3 (Ev.have e4 (Ev.neg (by simp) (Ev.now _))))))
 | false =>
  obtain ⟨b2, s4, e4⟩ := one_ok code hb (a1 + 1) (by omega) s2 16 (by omega) (by omega)
  cases b2 with
  | true =>
   refine ⟨n, s4, ring, t, a1 + 1 + 1, ?_, by omega, h2⟩
   unfold spec_l1Cur_lineRow.f
   exact Ev.bind e (Ev.have e2 (Ev.neg (by simp) (Ev.have e4 (Ev.pos (by first | rfl | exact True.intro) (Ev.now _)))))
  | false =>
   refine ⟨n, s4, false, t, a1 + 1 + 1, ?_, by omega, h2⟩
   unfold spec_l1Cur_lineRow.f
   exact Ev.bind e (Ev.have e2 (Ev.neg (by simp) (Ev.have e4 (Ev.neg (by simp) (Ev.now _)))))
theorem seat_ok (code : List Int) (hb : ∀ x ∈ code, 0 ≤ x ∧ x ≤ 255) (a : Nat) (ha : a ≤ 800) (seed n : Int) (ring : Bool) (t : List Int) : ∃ (r s : Int) (a' : Nat), spec_l1Cur_seat.f code a seed n ring t = some (r, (a' : Int), s) ∧ a' ≤ a + 2 := by
 obtain ⟨b, s, e⟩ := one_ok code hb a (by omega) seed 30 (by omega) (by omega)
 unfold spec_l1Cur_seat.f
 rw [e, Option.bind_some]
 dsimp only
 cases b with
 | true =>
  obtain ⟨r, s2, e2⟩ := among_ok code hb (a + 1) (by omega) s [-1, 0, n, 4611686018427387904] (by simp) (by simp)
  rw [if_pos rfl, e2]
  exact ⟨_, _, _, rfl, by omega⟩
 | false =>
  have hm : ∃ m : Int, m ≤ 200 ∧ ((spec_l1Least.f n 24).bind fun t415 => (spec_l1Most.f t415 1)) = some m := by
   unfold spec_l1Least.f spec_l1Most.f
   by_cases g : n < 24
   ·rw [if_pos g, Option.bind_some]
    split
    ·exact ⟨_, by omega, rfl⟩
    ·exact ⟨_, by omega, rfl⟩
   ·rw [if_neg g, Option.bind_some]
    exact ⟨24, by omega, rfl⟩
  obtain ⟨m, hm2, hm⟩ := hm
  obtain ⟨r, s2, a', e2, h1, _⟩ := pick_any code hb (a + 1) (by omega) s m hm2
  rw [if_neg (by simp)]
  obtain ⟨x, hx, hy⟩ := Option.bind_eq_some_iff.1 hm
  rw [hx, Option.bind_some, hy, Option.bind_some, e2]
  exact ⟨_, _, _, rfl, by omega⟩
open Classical in
theorem freeSeat_ev (code : List Int) (hb : ∀ x ∈ code, 0 ≤ x ∧ x ≤ 255) (a : Nat) (ha : a ≤ 700) (seed n : Int) (ring : Bool) (t : List Int) (ht : t.length ≤ 1048576) : ∃ (r s : Int) (a' : Nat), Ev (fun k => spec_l1Cur_freeSeat.f k code a seed n ring t) (r, (a' : Int), s) ∧ a' ≤ a + 3 := by
 have j0f : ∀ (a : Nat) (seed : Int), a ≤ 750 → ∃ (r s : Int) (a' : Nat), Ev (fun k => spec_l1Cur_freeSeat.j0 k false code a seed n ring t) (r, (a' : Int), s) ∧ a' ≤ a + 2 := by
  intro a seed ha
  obtain ⟨r, s, a', e, h⟩ := seat_ok code hb a (by omega) seed n ring t
  refine ⟨r, s, a', Ev.succ ?_, h⟩
  simp only [spec_l1Cur_freeSeat.j0]
  exact Ev.neg (by simp) (Ev.have e (Ev.now _))
 by_cases g : RowOK n ring t
 ·obtain ⟨b, s, e⟩ := one_ok code hb a (by omega) seed 8 (by omega) (by omega)
  cases b with
  | true =>
   obtain ⟨r, s2, a', e2, h⟩ := j0f (a + 1) s (by omega)
   refine ⟨r, s2, a', ?_, by omega⟩
   unfold spec_l1Cur_freeSeat.f
   exact Ev.bind (Ev.bound t.length fun k hk => spec_l2Row_eq n ring t ht k hk) (Ev.pos (decide_eq_true g) (Ev.have e e2))
  | false =>
   have hf := freeL_len24 g.1.2 t
   by_cases gl : ((freeL n t).length : Int) > 0
   ·obtain ⟨r, s2, a', e2, h1, h2, h3⟩ := pick_any code hb (a + 1) (by omega) s ((freeL n t).length : Int) (by omega)
    refine ⟨rd (freeL n t) r, s2, a', ?_, by omega⟩
    unfold spec_l1Cur_freeSeat.f
    refine Ev.bind (Ev.bound t.length fun k hk => spec_l2Row_eq n ring t ht k hk) (Ev.pos (decide_eq_true g) (Ev.have e (Ev.succ ?_)))
    simp only [spec_l1Cur_freeSeat.j0]
    exact Ev.pos (by first | rfl | exact True.intro) (Ev.bind (free_ev n ring t g.1.2 ht) (Ev.pos gl (Ev.have e2 (Ev.pos h2 (Ev.pos (h3 (by omega)) (Ev.now _))))))
   ·obtain ⟨r, s2, a', e2, h⟩ := seat_ok code hb (a + 1) (by omega) s n ring t
    refine ⟨r, s2, a', ?_, by omega⟩
    unfold spec_l1Cur_freeSeat.f
    refine Ev.bind (Ev.bound t.length fun k hk => spec_l2Row_eq n ring t ht k hk) (Ev.pos (decide_eq_true g) (Ev.have e (Ev.succ ?_)))
    simp only [spec_l1Cur_freeSeat.j0]
    exact Ev.pos (by first | rfl | exact True.intro) (Ev.bind (free_ev n ring t g.1.2 ht) (Ev.neg gl (Ev.have e2 (Ev.now _))))
 ·obtain ⟨r, s2, a', e2, h⟩ := j0f a seed (by omega)
  refine ⟨r, s2, a', ?_, by omega⟩
  unfold spec_l1Cur_freeSeat.f
  exact Ev.bind (Ev.bound t.length fun k hk => spec_l2Row_eq n ring t ht k hk) (Ev.neg (by rw [decide_eq_true_eq]; exact g) e2)
theorem arrival_l0 (code : List Int) (hb : ∀ x ∈ code, 0 ≤ x ∧ x ≤ 255) (n : Int) (ring : Bool) (t : List Int) (ht : t.length ≤ 1048576) : ∀ (d a : Nat) (seed : Int) (acc : List Int), d ≤ 10 → acc.length + d ≤ 10 → a + 4 * d ≤ 600 →
  ∃ (l : List Int) (s : Int) (a' : Nat), Ev (fun k => spec_l1Cur_arrival.l0 k acc (d : Int) code a seed n ring t) (l, (a' : Int), s) ∧ l.length ≤ 10 ∧ a' ≤ a + 4 * d
 | 0, a, seed, acc, _, h, _ => by
  refine ⟨acc, seed, a, Ev.succ ?_, by omega, by omega⟩
  simp only [spec_l1Cur_arrival.l0]
  exact Ev.neg (by simp) (Ev.now _)
 | d + 1, a, seed, acc, h10, h, ha => by
  obtain ⟨p, s, a1, e, h1⟩ := freeSeat_ev code hb a (by omega) seed n ring t ht
  have hw : wrap64 (((d + 1 : Nat) : Int) - 1) = (d : Int) := by rw [wrap_id (by omega) (by omega)]; omega
  have hx : Ev (fun k => spec_l1Has.f k acc p) (decide (p ∈ acc)) := Ev.bound acc.length fun k hk => spec_l1Has_eq acc p (by omega) k hk
  by_cases g : p ∈ acc
  ·obtain ⟨b, s2, e2⟩ := one_ok code hb a1 (by omega) s 20 (by omega) (by omega)
   cases b with
   | true =>
    obtain ⟨l, s3, a', e3, h2, h3⟩ := arrival_l0 code hb n ring t ht d (a1 + 1) s2 (acc ++ [p]) (by omega) (by simp; omega) (by omega)
    refine ⟨l, s3, a', Ev.succ ?_, h2, by omega⟩
    simp only [spec_l1Cur_arrival.l0]
    rw [hw]
    exact Ev.pos (by omega) (Ev.bind e (Ev.bind hx (Ev.pos (decide_eq_true g) (Ev.have e2 (Ev.pos (by first | rfl | exact True.intro) (Ev.pos (by omega) e3))))))
   | false =>
    obtain ⟨l, s3, a', e3, h2, h3⟩ := arrival_l0 code hb n ring t ht d (a1 + 1) s2 acc (by omega) (by omega) (by omega)
    refine ⟨l, s3, a', Ev.succ ?_, h2, by omega⟩
    simp only [spec_l1Cur_arrival.l0]
    rw [hw]
    exact Ev.pos (by omega) (Ev.bind e (Ev.bind hx (Ev.pos (decide_eq_true g) (Ev.have e2 (Ev.neg (by simp) e3)))))
  ·obtain ⟨l, s3, a', e3, h2, h3⟩ := arrival_l0 code hb n ring t ht d a1 s (acc ++ [p]) (by omega) (by simp; omega) (by omega)
   refine ⟨l, s3, a', Ev.succ ?_, h2, by omega⟩
   simp only [spec_l1Cur_arrival.l0]
   rw [hw]
   exact Ev.pos (by omega) (Ev.bind e (Ev.bind hx (Ev.neg (by rw [decide_eq_true_eq]; exact g) (Ev.pos (by omega) e3))))
theorem arrival_ev (code : List Int) (hb : ∀ x ∈ code, 0 ≤ x ∧ x ≤ 255) (a : Nat) (ha : a ≤ 500) (seed n : Int) (ring : Bool) (t : List Int) (ht : t.length ≤ 1048576) : ∃ (l : List Int) (s : Int) (a' : Nat), Ev (fun k => spec_l1Cur_arrival.f k code a seed n ring t) (l, (a' : Int), s) ∧ l.length ≤ 10 ∧ a' ≤ a + 41 := by
 obtain ⟨m, s, e, hm⟩ := among_mem code hb a (by omega) seed [3, 4, 2, 6, 1, 0, 10] (by simp) (by simp)
 simp only [List.mem_cons, List.not_mem_nil, or_false] at hm
 obtain ⟨d, rfl⟩ : ∃ d : Nat, m = d := ⟨m.toNat, by omega⟩
 obtain ⟨l, s2, a', e2, h1, h2⟩ := arrival_l0 code hb n ring t ht d (a + 1) s [] (by omega) (by simp; omega) (by omega)
 refine ⟨l, s2, a', ?_, h1, by omega⟩
 unfold spec_l1Cur_arrival.f
 exact Ev.have e e2

theorem drawStandsOf (code : List Int) (hb : ∀ x ∈ code, 0 ≤ x ∧ x ≤ 255) : ∃ (n : Int) (ring : Bool) (t seats : List Int) (both : Bool), Ev (fun k => spec_DrawStandsOf.f k code) (n, ring, t, seats, both) ∧ t.length ≤ 40 ∧ seats.length ≤ 10 := by
 obtain ⟨n, s, ring, t, a1, e, h1, h2⟩ := lineRow_ev code hb 0 (by omega) 0
 obtain ⟨l, s2, a2, e2, h3, h4⟩ := arrival_ev code hb a1 (by omega) s n ring t (by have := h2.1; omega)
 obtain ⟨b, s3, e3⟩ := one_ok code hb a2 (by omega) s2 2 (by omega) (by omega)
 refine ⟨n, ring, t, l, b, ?_, h2.1, h3⟩
 unfold spec_DrawStandsOf.f spec_DrawStandsOf_m.f
 exact Ev.bind (Ev.bind e (Ev.bind e2 (Ev.have e3 (Ev.now _)))) (Ev.now _)
theorem drawLeastStands (code : List Int) (hb : ∀ x ∈ code, 0 ≤ x ∧ x ≤ 255) : ∃ (n : Int) (ring : Bool) (t : List Int) (both : Bool), Ev (fun k => spec_DrawLeastStands.f k code) (n, ring, t, both) ∧ t.length ≤ 40 := by
 obtain ⟨n, s, ring, t, a1, e, h1, h2⟩ := shortRow_ev code hb 0 (by omega) 0
 obtain ⟨b, s2, e2⟩ := one_ok code hb a1 (by omega) s 16 (by omega) (by omega)
 obtain ⟨b2, s3, e3⟩ := one_ok code hb (a1 + 1) (by omega) s2 2 (by omega) (by omega)
 cases b with
 | true =>
  refine ⟨n, ring, t, b2, ?_, h2.1⟩
  unfold spec_DrawLeastStands.f spec_DrawLeastStands_m.f
  exact Ev.bind (Ev.bind e (Ev.have e2 (Ev.pos (by first | rfl | exact True.intro) (Ev.have e3 (Ev.now _))))) (Ev.now _)
 | false =>
  refine ⟨n, false, t, b2, ?_, h2.1⟩
  unfold spec_DrawLeastStands.f spec_DrawLeastStands_m.f
  exact Ev.bind (Ev.bind e (Ev.have e2 (Ev.neg (by simp) (Ev.have e3 (Ev.now _))))) (Ev.now _)
theorem drawBestArrival (code : List Int) (hb : ∀ x ∈ code, 0 ≤ x ∧ x ≤ 255) : ∃ (n : Int) (ring : Bool) (t : List Int) (both : Bool), Ev (fun k => spec_DrawBestArrival.f k code) (n, ring, t, both) ∧ t.length ≤ 40 := by
 obtain ⟨n, ring, t, b, e, h⟩ := drawLeastStands code hb
 refine ⟨n, ring, t, b, ?_, h⟩
 unfold spec_DrawBestArrival.f
 exact Ev.bind e (Ev.now _)
theorem leaveDraw_j2 (code : List Int) (hb : ∀ x ∈ code, 0 ≤ x ∧ x ≤ 255) (n : Int) (ring : Bool) (t : List Int) (d : Nat) (hd : d ≤ 8) (C : Nat)
  (H : ∀ (a : Nat) (seed : Int) (acc : List Int), acc.length + d ≤ 8 → a + 5 * d ≤ C → ∃ l : List Int, l.length ≤ 8 ∧ ∃ (a' s : Int), Ev (fun k => spec_DrawLeaveStands_m.l0 k acc (d : Int) code a seed n ring t) (n, ring, t, l, a', s))
  (a : Nat) (seed p : Int) (acc : List Int) (h : acc.length + (d + 1) ≤ 8) (ha : a + 1 + 5 * d ≤ C) (hC : C ≤ 600) : ∃ l : List Int, l.length ≤ 8 ∧ ∃ (a' s : Int), Ev (fun k => spec_DrawLeaveStands_m.j2 k acc ((d + 1 : Nat) : Int) p code a seed n ring t) (n, ring, t, l, a', s) := by
 have hw : wrap64 (((d + 1 : Nat) : Int) - 1) = (d : Int) := by rw [wrap_id (by omega) (by omega)]; omega
 have hx : Ev (fun k => spec_l1Has.f k acc p) (decide (p ∈ acc)) := Ev.bound acc.length fun k hk => spec_l1Has_eq acc p (by omega) k hk
 by_cases g : p ∈ acc
 ·obtain ⟨b, s2, e2⟩ := one_ok code hb a (by omega) seed 20 (by omega) (by omega)
  cases b with
  | true =>
   obtain ⟨l, h2, a', s3, e3⟩ := H (a + 1) s2 (acc ++ [p]) (by simp; omega) (by omega)
   refine ⟨l, h2, a', s3, Ev.succ ?_⟩
   simp only [spec_DrawLeaveStands_m.j2]
   rw [hw]
   exact Ev.bind hx (Ev.pos (decide_eq_true g) (Ev.have e2 (Ev.pos (by first | rfl | exact True.intro) (Ev.pos (by omega) e3))))
  | false =>
   obtain ⟨l, h2, a', s3, e3⟩ := H (a + 1) s2 acc (by omega) (by omega)
   refine ⟨l, h2, a', s3, Ev.succ ?_⟩
   simp only [spec_DrawLeaveStands_m.j2]
   rw [hw]
   exact Ev.bind hx (Ev.pos (decide_eq_true g) (Ev.have e2 (Ev.neg (by simp) e3)))
 ·obtain ⟨l, h2, a', s3, e3⟩ := H a seed (acc ++ [p]) (by simp; omega) (by omega)
  refine ⟨l, h2, a', s3, Ev.succ ?_⟩
  simp only [spec_DrawLeaveStands_m.j2]
  rw [hw]
  exact Ev.bind hx (Ev.neg (by rw [decide_eq_true_eq]; exact g) (Ev.pos (by omega) e3))
theorem leaveDraw_l0 (code : List Int) (hb : ∀ x ∈ code, 0 ≤ x ∧ x ≤ 255) (n : Int) (ring : Bool) (t : List Int) (ht : t.length ≤ 40) : ∀ (d : Nat), d ≤ 8 → ∀ (a : Nat) (seed : Int) (acc : List Int), acc.length + d ≤ 8 → a + 5 * d ≤ 400 → ∃ l : List Int, l.length ≤ 8 ∧ ∃ (a' s : Int), Ev (fun k => spec_DrawLeaveStands_m.l0 k acc (d : Int) code a seed n ring t) (n, ring, t, l, a', s)
 | 0, _, a, seed, acc, h, _ => by
  refine ⟨acc, by omega, a, seed, Ev.succ ?_⟩
  simp only [spec_DrawLeaveStands_m.l0]
  exact Ev.neg (by simp) (Ev.now _)
 | d + 1, hd, a, seed, acc, h, ha => by
  have H := leaveDraw_l0 code hb n ring t ht d (by omega)
  obtain ⟨p, s, a1, e, h1⟩ := seat_ok code hb a (by omega) seed n ring t
  by_cases g : (t.length : Int) > 0
  ·obtain ⟨b, s2, e2⟩ := one_ok code hb a1 (by omega) s 12 (by omega) (by omega)
   cases b with
   | true =>
    obtain ⟨l, h2, a', s3, e3⟩ := leaveDraw_j2 code hb n ring t d (by omega) 400 H (a1 + 1) s2 p acc h (by omega) (by omega)
    refine ⟨l, h2, a', s3, Ev.succ ?_⟩
    simp only [spec_DrawLeaveStands_m.l0]
    refine Ev.pos (by omega) (Ev.have e (Ev.pos g (Ev.have e2 (Ev.succ ?_))))
    simp only [spec_DrawLeaveStands_m.j1]
    exact Ev.neg (by simp) e3
   | false =>
    obtain ⟨r, s4, a2, e4, h4, h5, h6⟩ := pick_any code hb (a1 + 1) (by omega) s2 (t.length : Int) (by omega)
    obtain ⟨l, h2, a', s3, e3⟩ := leaveDraw_j2 code hb n ring t d (by omega) 400 H a2 s4 (rd t r) acc h (by omega) (by omega)
    refine ⟨l, h2, a', s3, Ev.succ ?_⟩
    simp only [spec_DrawLeaveStands_m.l0]
    refine Ev.pos (by omega) (Ev.have e (Ev.pos g (Ev.have e2 (Ev.succ ?_))))
    simp only [spec_DrawLeaveStands_m.j1]
    exact Ev.pos (by first | rfl | exact True.intro) (Ev.have e4 (Ev.pos h5 (Ev.pos (h6 (by omega)) e3)))
  ·obtain ⟨l, h2, a', s3, e3⟩ := leaveDraw_j2 code hb n ring t d (by omega) 400 H a1 s p acc h (by omega) (by omega)
   refine ⟨l, h2, a', s3, Ev.succ ?_⟩
   simp only [spec_DrawLeaveStands_m.l0]
   refine Ev.pos (by omega) (Ev.have e (Ev.neg g (Ev.succ ?_)))
   simp only [spec_DrawLeaveStands_m.j1]
   exact Ev.neg (by simp) e3
theorem drawLeaveStands (code : List Int) (hb : ∀ x ∈ code, 0 ≤ x ∧ x ≤ 255) : ∃ (n : Int) (ring : Bool) (t out : List Int), Ev (fun k => spec_DrawLeaveStands.f k code) (n, ring, t, out) ∧ t.length ≤ 40 ∧ out.length ≤ 8 := by
 obtain ⟨n, s, ring, t, a1, e, h1, h2⟩ := lineRow_ev code hb 0 (by omega) 0
 obtain ⟨m, s2, e2, hm⟩ := among_mem code hb a1 (by omega) s [2, 3, 1, 4, 0, 8] (by simp) (by simp)
 simp only [List.mem_cons, List.not_mem_nil, or_false] at hm
 obtain ⟨d, rfl⟩ : ∃ d : Nat, m = d := ⟨m.toNat, by omega⟩
 obtain ⟨l, h3, a', s3, e3⟩ := leaveDraw_l0 code hb n ring t h2.1 d (by omega) (a1 + 1) s2 [] (by simp; omega) (by omega)
 refine ⟨n, ring, t, l, ?_, h2.1, h3⟩
 unfold spec_DrawLeaveStands.f spec_DrawLeaveStands_m.f
 exact Ev.bind (Ev.bind e (Ev.have e2 e3)) (Ev.now _)
theorem drawCountStands (code : List Int) (hb : ∀ x ∈ code, 0 ≤ x ∧ x ≤ 255) : ∃ n : Int, spec_DrawCountStands.f code = some n ∧ -1 ≤ n ∧ n ≤ 11 := by
 obtain ⟨m, s2, e2, hm⟩ := among_mem code hb 0 (by omega) 0 [3, 4, 2, 5, 1, 8, 10, 11, 0, -1] (by simp) (by simp)
 simp only [List.mem_cons, List.not_mem_nil, or_false] at hm
 unfold spec_DrawCountStands.f
 rw [show ((0 : Nat) : Int) = 0 from rfl] at e2
 rw [e2]
 exact ⟨m, rfl, by omega, by omega⟩

theorem rints_ev (L : List Int) (hL : L.length ≤ 1000) : Ev (fun k => laws_rInts.f k L L) true := by
 have main : ∀ d i, i + d = L.length → Ev (fun k => laws_rInts.l0 k L L i) true := by
  intro d
  induction d with
  | zero =>
   intro i hi
   refine Ev.succ ?_
   simp only [laws_rInts.l0]
   exact Ev.neg (by omega) (Ev.now _)
  | succ d ih =>
   intro i hi
   have go := ih (i + 1) (by omega)
   refine Ev.succ ?_
   simp only [laws_rInts.l0]
   rw [wrap_one (n := 2000) (by omega) (by omega)]
   exact Ev.pos (by omega) (Ev.pos (by omega) (Ev.pos (by omega) (Ev.pos True.intro go)))
 unfold laws_rInts.f
 exact Ev.pos rfl (main _ 0 (Nat.zero_add _))

def fctT : Nat → Nat
 | 0 => 1
 | n + 1 => fctT n * (n + 1)
theorem fctT_le : ∀ n, n ≤ 10 → fctT n ≤ 3628800 := by decide
def chkS (n : Nat) : Bool :=
 match impl_CountStands.f 3000 (n : Int), spec_CountStands.f 3000 (n : Int) with
 | some (L, true), some (L', true) => (L == L') && (L.length == n * (n - 1) / 2 + 1) && (laws_rSum.f 200 L == some (fctT n : Int))
 | _, _ => false
theorem chkS_all : ∀ n, n < 10 → chkS (n + 1) = true := by decide +kernel
theorem many_len : ∀ n, n ≤ 10 → ((n * (n - 1) / 2 + 1 : Nat) : Int) = wrap64 ((wrap64 (Int.tdiv (wrap64 ((n : Int) * (wrap64 ((n : Int) - 1)))) 2)) + 1) := by decide +kernel
theorem counts_ten (n : Nat) (h1 : 1 ≤ n) (h2 : n ≤ 10) : ∃ L : List Int, Ev (fun k => impl_CountStands.f k (n : Int)) (L, true) ∧ Ev (fun k => spec_CountStands.f k (n : Int)) (L, true) ∧ L.length = n * (n - 1) / 2 + 1 ∧ Ev (fun k => laws_rSum.f k L) (fctT n : Int) := by
 have c := chkS_all (n - 1) (by omega)
 rw [show n - 1 + 1 = n from by omega] at c
 unfold chkS at c
 split at c
 ·rename_i L L' e1 e2
  simp only [Bool.and_eq_true, beq_iff_eq] at c
  obtain ⟨⟨c1, c2⟩, c4⟩ := c
  subst c1
  exact ⟨L, ev_mono (fun k => impl_CountStands.mono _ _) 3000 e1, ev_mono (fun k => spec_CountStands.mono _ _) 3000 e2, c2, ev_mono (fun k => laws_rSum.mono _ _) 200 c4⟩
 ·cases c
theorem counts_out (n : Int) (h : ¬ (1 ≤ n ∧ n ≤ 10)) : Ev (fun k => impl_CountStands.f k n) ([], false) ∧ Ev (fun k => spec_CountStands.f k n) ([], false) := by
 constructor
 ·unfold impl_CountStands.f impl_isPeople.f
  refine Ev.have (a := decide (1 ≤ n ∧ n ≤ 10)) (by rw [impl_within_eq, Option.bind_some]) (Ev.neg (by rw [decide_eq_true_eq]; exact h) (Ev.now _))
 ·unfold spec_CountStands.f
  exact Ev.have (spec_l1In_eq _ _ _) (Ev.neg (by rw [decide_eq_true_eq]; exact h) (Ev.now _))
theorem rints0 : Ev (fun k => laws_rInts.f k [] []) true := rints_ev [] (by simp)
theorem l3_ev (seats t : List Int) (hs : seats.length ≤ 10) : ∀ d i : Nat, i + d = seats.length → Ev (fun k => laws_FnTheatre.l3 k (sidesL t seats) (standL true t seats) (standL false t seats) (i : Int)) true
 | 0, i, hi => by
  refine Ev.succ ?_
  simp only [laws_FnTheatre.l3]
  rw [standL_length]
  exact Ev.neg (by omega) (Ev.now _)
 | d + 1, i, hi => by
  have ih := l3_ev seats t hs d (i + 1) (by omega)
  have h := few_many seats t i (by omega)
  refine Ev.succ ?_
  simp only [laws_FnTheatre.l3]
  rw [standL_length, standL_length, sidesL_length, rd_nat, rd_nat, rd_nat, wrap_one (n := 100) (by omega) (by omega)]
  refine Ev.pos (by omega) (Ev.pos (by omega) (Ev.pos (by omega) (Ev.neg (by omega) (Ev.pos (by omega) ?_))))
  by_cases g : (sidesL t seats).getD i 0 = 0
  ·exact Ev.pos g (Ev.pos (h.2 g) ih)
  ·exact Ev.neg g ih
open Classical in
theorem j12_ev (s : Int) (ring : Bool) (t seats : List Int) (ht : t.length ≤ 40) (hs : seats.length ≤ 10) : (Diff s ring t seats false → Ev (fun k => laws_FnTheatre.j12 k seats true (sidesL t seats) s ring t) true) ∧ (∀ x16, Ev (fun k => laws_FnTheatre.j12 k seats false x16 s ring t) true) := by
 constructor
 ·intro h
  have e1 := ((stands_vals s ring t seats true (by omega) (by omega)).1 h).2
  have e2 := ((stands_vals s ring t seats false (by omega) (by omega)).1 h).2
  refine Ev.succ ?_
  simp only [laws_FnTheatre.j12]
  refine Ev.pos (by first | rfl | exact True.intro) (Ev.bind e1 (Ev.bind e2 (Ev.pos (by first | rfl | exact True.intro) (Ev.pos (by first | rfl | exact True.intro) (Ev.succ ?_)))))
  simp only [laws_FnTheatre.j13]
  refine Ev.neg (by rw [standL_length, standL_length]; exact bne_self _) ?_
  exact l3_ev seats t hs seats.length 0 (by omega)
 ·intro x16
  refine Ev.succ ?_
  simp only [laws_FnTheatre.j12]
  exact Ev.neg (by simp) (Ev.now _)
section
variable (x4 : List Int) (x8 : Bool) (x16 : List Int) (a : Int) (b : Bool) (c : List Int) (H12 : Ev (fun k => laws_FnTheatre.j12 k x4 x8 x16 a b c) true)
include H12
theorem l2_ev {s : Int} {ring : Bool} {t out : List Int} (h : Diff s ring t out true) : ∀ m : Nat, m ≤ out.length → Ev (fun k => laws_FnTheatre.l2 k x4 x8 x16 out (leaveL t out).sum ((out.drop m).reverse) ((m : Int) - 1) a b c s false (t.filter fun x => decide (x ∉ out))) true
 | 0, _ => by
  have hd := back_diff h
  have ht : t.length ≤ 24 := row_len s ring t h.1.1
  have hf := List.length_filter_le (fun x => decide (x ∉ out)) t
  have e := ((stands_vals s false (t.filter fun x => decide (x ∉ out)) out.reverse false (by omega) (by rw [List.length_reverse]; have := h.2.1; omega)).1 hd.1).2
  refine Ev.succ ?_
  simp only [laws_FnTheatre.l2]
  rw [List.drop_zero]
  exact Ev.neg (by omega) (Ev.bind e (Ev.pos (by first | rfl | exact True.intro) (Ev.pos hd.2 H12)))
 | m + 1, hm => by
  have ih := l2_ev h m (by omega)
  have h10 := h.2.1
  refine Ev.succ ?_
  simp only [laws_FnTheatre.l2]
  rw [show ((m + 1 : Nat) : Int) - 1 = (m : Int) from by omega, wrap_id (x := (m : Int) - 1) (by omega) (by omega), rd_get out m (by omega)]
  rw [List.drop_eq_getElem_cons (show m < out.length by omega), List.reverse_cons] at ih
  exact Ev.pos (by omega) (Ev.pos (by omega) (Ev.pos (by omega) (Ev.pos (by simp; omega) ih)))
theorem l1_ev {s : Int} {ring : Bool} {t out : List Int} (h : Diff s ring t out true) : ∀ d i : Nat, i + d = t.length → Ev (fun k => laws_FnTheatre.l1 k x4 x8 x16 out (leaveL t out).sum [] (i : Int) a b c s ring t s false ((t.take i).filter fun x => decide (x ∉ out))) true
 | 0, i, hi => by
  have h10 := h.2.1
  have e := l2_ev x4 x8 x16 a b c H12 h out.length (Nat.le_refl _)
  refine Ev.succ ?_
  simp only [laws_FnTheatre.l1]
  rw [List.take_of_length_le (by omega), wrap_id (x := (out.length : Int) - 1) (by omega) (by omega)]
  rw [List.drop_length, List.reverse_nil] at e
  exact Ev.neg (by omega) e
 | d + 1, i, hi => by
  have ih := l1_ev h d (i + 1) (by omega)
  have h10 := h.2.1
  have ht : t.length ≤ 24 := row_len s ring t h.1.1
  have hf := List.length_filter_le (fun x => decide (x ∉ out)) (t.take i)
  have hti : (t.take i).length ≤ i := by rw [List.length_take]; omega
  refine Ev.succ ?_
  simp only [laws_FnTheatre.l1]
  rw [rd_get t i (by omega), wrap_one (n := 100) (by omega) (by omega)]
  rw [List.take_succ_eq_append_getElem (by omega), List.filter_append] at ih
  refine Ev.pos (by omega) (Ev.pos (by omega) (Ev.bind (rhas out t[i] (by omega)) ?_))
  by_cases g : t[i] ∈ out
  ·refine Ev.pos (decide_eq_true g) ?_
   rw [List.filter_cons_of_neg (by simpa using g), List.filter_nil, List.append_nil] at ih
   exact ih
  ·refine Ev.neg (by rw [decide_eq_true_eq]; exact g) (Ev.pos (by omega) ?_)
   rw [List.filter_cons_of_pos (by simpa using g), List.filter_nil] at ih
   exact ih
open Classical in
theorem j9_ev (s : Int) (ring : Bool) (t out : List Int) (ht : t.length ≤ 40) (ho : out.length ≤ 8) : ∃ (l : List Int) (n : Int) (five : Bool), l.length ≤ 1000 ∧ Ev (fun k => impl_LeaveStands.f k s ring t out) (l, n, five) ∧ Ev (fun k => spec_LeaveStands.f k s ring t out) (l, n, five) ∧ Ev (fun k => laws_FnTheatre.j9 k x4 x8 x16 out n five a b c s ring t) true := by
 have v := leave_vals s ring t out (by omega) (by omega)
 by_cases h : Diff s ring t out true
 ·refine ⟨leaveL t out, (leaveL t out).sum, true, by rw [leaveL_length]; omega, (v.1 h).2, (v.1 h).1, Ev.succ ?_⟩
  simp only [laws_FnTheatre.j9]
  refine Ev.pos (by first | rfl | exact True.intro) ?_
  have e := l1_ev x4 x8 x16 a b c H12 h t.length 0 (by omega)
  exact e
 ·refine ⟨[], 0, false, by simp, (v.2 h).2, (v.2 h).1, Ev.succ ?_⟩
  simp only [laws_FnTheatre.j9]
  exact Ev.neg (by simp) H12
end
open Classical in
theorem best_vals (s : Int) (ring : Bool) (t : List Int) (both : Bool) (ht : t.length ≤ 1048576) : (((RowOK s ring t ∧ ring = false) ∧ (freeL s t).length ≤ 10) → (Ev (fun k => spec_BestArrival.f k s ring t both) (pathL s both (freeL s t).length t, true) ∧ Ev (fun k => impl_BestArrival.f k s ring t both) (pathL s both (freeL s t).length t, true)) ∧ Ev (fun k => spec_LeastStands.f k s ring t both) (Wv s both t, true) ∧ Ev (fun k => impl_LeastStands.f k s ring t both) (Wv s both t, true)) ∧ (¬ ((RowOK s ring t ∧ ring = false) ∧ (freeL s t).length ≤ 10) → (Ev (fun k => spec_BestArrival.f k s ring t both) ([], false) ∧ Ev (fun k => impl_BestArrival.f k s ring t both) ([], false)) ∧ Ev (fun k => spec_LeastStands.f k s ring t both) (0, false) ∧ Ev (fun k => impl_LeastStands.f k s ring t both) (0, false)) := by
 constructor
 ·intro h
  have hs := h.1.1.1
  have hT := row_tk h.1.1
  have hp0 : 0 < 2 ^ (freeL s t).length := Nat.two_pow_pos _
  have hp : 2 ^ s.toNat < 2 ^ 32 := Nat.pow_lt_pow_right (by omega) (by omega)
  refine ⟨⟨?_, Ev.bound (t.length + 100) fun k hk => ?_⟩, ?_, Ev.bound (t.length + 100) fun k hk => ?_⟩
  ·obtain ⟨tab, e, h1, h2⟩ := table_ev (ring := ring) (both := both) hT hs.2 h.2
   unfold spec_BestArrival.f
   refine Ev.have rfl (Ev.bind (full_eq s ring t ht) (Ev.pos (decide_eq_true h) (Ev.bind e (Ev.bind (free_ev s ring t hs.2 ht) ?_))))
   have := ba_l0_ev (ring := ring) (both := both) hT hs.2 h.2 h1 h2 (freeL s t).length 0 [] hp0 (by rw [rowC_zero]) (by simp)
   rw [rowC_zero] at this
   exact this
  ·unfold impl_BestArrival.f impl_bench_all.f
   have hle := impl_ba_eq (s := s) (by omega) hs.2 both k (by omega) (freeL s t).length t [] 12 hT rfl h.2 (by omega) (by simpa using h.2)
   rw [public_eq s ring t ht k (by omega), Option.bind_some, if_pos (decide_eq_true h), if_pos (by omega), Option.bind_some, impl_taken_eq s ring t h.1.1 k (by omega), Option.bind_some, all_cast s (by omega) (by omega), hle]
   rfl
  ·obtain ⟨tab, e, h1, h2⟩ := table_ev (ring := ring) (both := both) hT hs.2 h.2
   unfold spec_LeastStands.f
   refine Ev.bind (full_eq s ring t ht) (Ev.pos (decide_eq_true h) (Ev.bind e (Ev.pos (by omega) ?_)))
   rw [show rd tab 0 = Wv s both t from by
    have := h2 0 hp0
    rw [rowC_zero] at this
    rw [← this]
    exact rd_nat tab 0]
   exact Ev.now _
  ·unfold impl_LeastStands.f impl_bench_all.f
   have hle := impl_le_eq (s := s) (by omega) hs.2 both k (by omega) (freeL s t).length t 11 hT rfl (by omega)
   rw [public_eq s ring t ht k (by omega), Option.bind_some, if_pos (decide_eq_true h), if_pos (by omega), Option.bind_some, impl_taken_eq s ring t h.1.1 k (by omega), Option.bind_some, if_pos ⟨by omega, by have := seats_lt (row_seats h.1.1); omega⟩, all_cast s (by omega) (by omega), hle]
   rfl
 ·intro h
  refine ⟨⟨?_, Ev.bound (t.length + 100) fun k hk => ?_⟩, ?_, Ev.bound (t.length + 100) fun k hk => ?_⟩
  ·unfold spec_BestArrival.f
   exact Ev.have rfl (Ev.bind (full_eq s ring t ht) (Ev.neg (by rw [decide_eq_true_eq]; exact h) (Ev.now _)))
  ·unfold impl_BestArrival.f
   rw [public_eq s ring t ht k (by omega), Option.bind_some, if_neg (by rw [decide_eq_true_eq]; exact h)]
  ·unfold spec_LeastStands.f
   exact Ev.bind (full_eq s ring t ht) (Ev.neg (by rw [decide_eq_true_eq]; exact h) (Ev.now _))
  ·unfold impl_LeastStands.f
   rw [public_eq s ring t ht k (by omega), Option.bind_some, if_neg (by rw [decide_eq_true_eq]; exact h)]
section
variable (x4 : List Int) (x8 : Bool) (x16 : List Int) (a : Int) (b : Bool) (c : List Int) (H12 : Ev (fun k => laws_FnTheatre.j12 k x4 x8 x16 a b c) true)
theorem fct_loop (x21 : Bool) (x22 : List Int) (x23 : Bool) (x26 : Int) (x31 : List Int) (x33 : Int) (x34 : Bool) (L : List Int) (n : Nat) (h1 : 1 ≤ n) (h10 : n ≤ 10) (hL : L.length = n * (n - 1) / 2 + 1) (hs : Ev (fun k => laws_rSum.f k L) (fctT n : Int)) (q1 : Int) (q2 : Bool) (q3 : List Int) (p1 : Int) (p2 : Bool) (p3 : List Int)
  (H8 : Ev (fun k => laws_FnTheatre.j8 k x4 x8 x16 x21 x22 x23 x26 x31 x33 x34 a b c q1 q2 q3 p1 p2 p3) true) (d : Nat) : ∀ i : Nat, 2 ≤ i → i + d = n + 1 ∨ (i = 2 ∧ n = 1 ∧ d = 0) →
  Ev (fun k => laws_FnTheatre.l0 k x4 x8 x16 x21 x22 x23 x26 x31 x33 x34 (n : Int) L (fctT (i - 1) : Int) (i : Int) a b c q1 q2 q3 p1 p2 p3) true := by
 induction d with
 | zero =>
  intro i h2 hi
  have hin : i - 1 = n := by omega
  refine Ev.succ ?_
  simp only [laws_FnTheatre.l0]
  rw [hin, ← many_len n h10, hL]
  exact Ev.neg (by omega) (Ev.bind hs (Ev.pos (by first | rfl | exact True.intro) (Ev.pos (by first | rfl | exact True.intro) H8)))
 | succ d ih =>
  intro i h2 hi
  have go := ih (i + 1) (by omega) (by omega)
  have hf := fctT_le (i - 1) (by omega)
  have hm : fctT (i - 1) * i ≤ 3628800 * 10 := Nat.mul_le_mul hf (by omega)
  have e : fctT (i + 1 - 1) = fctT (i - 1) * i := by
   obtain ⟨j, rfl⟩ : ∃ j, i = j + 1 := ⟨i - 1, by omega⟩
   rfl
  rw [e] at go
  refine Ev.succ ?_
  simp only [laws_FnTheatre.l0]
  rw [wrap_one (n := 20) (by omega) (by omega), show wrap64 ((fctT (i - 1) : Int) * (i : Int)) = ((fctT (i - 1) * i : Nat) : Int) from by rw [← Int.natCast_mul]; exact wrap_id (by omega) (by omega)]
  exact Ev.pos (by omega) go
include H12
open Classical in
theorem j4_ev (code : List Int) (hb : ∀ x ∈ code, 0 ≤ x ∧ x ≤ 255) (x21 : Bool) (x22 : List Int) (x23 : Bool) (x26 : Int) (q1 : Int) (q2 : Bool) (q3 : List Int)
  (HS : x23 = true → ∃ l, Ev (fun k => impl_StandsOf.f k q1 q2 q3 x22 x21) (l, x26, true)) : Ev (fun k => laws_FnTheatre.j4 k code x4 x8 x16 x21 x22 x23 x26 false a b c q1 q2 q3) true := by
 obtain ⟨s, ring, t, out, e, ht, ho⟩ := drawLeaveStands code hb
 obtain ⟨l, n, five, hl, e1, e2, H9⟩ := j9_ev x4 x8 x16 a b c H12 s ring t out ht ho
 have H8 : Ev (fun k => laws_FnTheatre.j8 k x4 x8 x16 x21 x22 x23 x26 out n five a b c q1 q2 q3 s ring t) true := by
  refine Ev.succ ?_
  simp only [laws_FnTheatre.j8]
  cases x23 with
  | true =>
   obtain ⟨l, e⟩ := HS rfl
   exact Ev.pos (by first | rfl | exact True.intro) (Ev.bind e (Ev.pos (by first | rfl | exact True.intro) (Ev.pos (by first | rfl | exact True.intro) H9)))
  | false => exact Ev.neg (by simp) H9
 refine Ev.succ ?_
 simp only [laws_FnTheatre.j4]
 refine Ev.neg (by simp) (Ev.bind e (Ev.bind e1 (Ev.bind e2 (Ev.pos (by first | rfl | exact True.intro) (Ev.neg (bne_self _) (Ev.bind (rints_ev l hl) (Ev.succ ?_)))))))
 simp only [laws_FnTheatre.j5]
 obtain ⟨n2, e3, h0, h11⟩ := drawCountStands code hb
 refine Ev.neg (by simp) (Ev.have e3 ?_)
 by_cases h : 1 ≤ n2 ∧ n2 ≤ 10
 ·obtain ⟨m, rfl⟩ : ∃ m : Nat, n2 = m := ⟨n2.toNat, by omega⟩
  obtain ⟨L, f1, f2, hL, hs⟩ := counts_ten m (by omega) (by omega)
  have hL2 : m * (m - 1) / 2 + 1 ≤ 1000 := by
   have : m * (m - 1) ≤ 10 * 10 := Nat.mul_le_mul (by omega) (by omega)
   omega
  refine Ev.bind f1 (Ev.bind f2 (Ev.neg (bne_self _) (Ev.bind (rints_ev L (by omega)) (Ev.succ ?_))))
  simp only [laws_FnTheatre.j6]
  refine Ev.neg (by simp) (Ev.pos (by first | rfl | exact True.intro) ?_)
  exact fct_loop x4 x8 x16 a b c x21 x22 x23 x26 out n five L m (by omega) (by omega) hL hs q1 q2 q3 s ring t H8 (m - 1) 2 (by omega) (by omega)
 ·obtain ⟨f1, f2⟩ := counts_out n2 h
  refine Ev.bind f1 (Ev.bind f2 (Ev.neg (bne_self _) (Ev.bind rints0 (Ev.succ ?_))))
  simp only [laws_FnTheatre.j6]
  exact Ev.neg (by simp) (Ev.neg (by simp) H8)
open Classical in
theorem j2_ev (code : List Int) (hb : ∀ x ∈ code, 0 ≤ x ∧ x ≤ 255) : Ev (fun k => laws_FnTheatre.j2 k code x4 x8 x16 false a b c) true := by
 obtain ⟨s, ring, t, both, e, ht⟩ := drawBestArrival code hb
 have v := best_vals s ring t both (by omega)
 refine Ev.succ ?_
 simp only [laws_FnTheatre.j2]
 refine Ev.neg (by simp) (Ev.bind e ?_)
 by_cases h : (RowOK s ring t ∧ ring = false) ∧ (freeL s t).length ≤ 10
 ·obtain ⟨⟨e1, e2⟩, e3, e4⟩ := v.1 h
  have g := path_good h.1.1.1.2 both _ t (row_tk h.1.1) rfl
  have hd := path_diff both h.1 h.2
  have es := ((stands_vals s ring t (pathL s both (freeL s t).length t) both (by omega) (by rw [g.1]; omega)).1 hd).2
  rw [g.2.2.2] at es
  have H4 := j4_ev x4 x8 x16 a b c H12 code hb both (pathL s both (freeL s t).length t) true (Wv s both t) s ring t (fun _ => ⟨_, es⟩)
  refine Ev.bind e2 (Ev.bind e1 (Ev.neg (bne_self _) (Ev.bind (rints_ev _ (by rw [g.1]; omega)) (Ev.succ ?_))))
  simp only [laws_FnTheatre.j3]
  exact Ev.neg (by simp) (Ev.bind e4 (Ev.bind e3 (Ev.pos (by first | rfl | exact True.intro) (Ev.neg (bne_self _) H4))))
 ·obtain ⟨⟨e1, e2⟩, e3, e4⟩ := v.2 h
  have H4 := j4_ev x4 x8 x16 a b c H12 code hb both [] false 0 s ring t (by simp)
  refine Ev.bind e2 (Ev.bind e1 (Ev.neg (bne_self _) (Ev.bind rints0 (Ev.succ ?_))))
  simp only [laws_FnTheatre.j3]
  exact Ev.neg (by simp) (Ev.bind e4 (Ev.bind e3 (Ev.pos (by first | rfl | exact True.intro) (Ev.neg (bne_self _) H4))))
end
open Classical in
theorem FnTheatre : laws_FnTheatre.Pure := by
 intro code _ hlen hwf
 have hb : ∀ x ∈ code, 0 ≤ x ∧ x ≤ 255 := fun x hx => u8_bounds (hwf x hx)
 suffices H : Ev (fun k => laws_FnTheatre.f k code) true from by
  obtain ⟨K, h⟩ := H
  exact ⟨K, h K (Nat.le_refl K)⟩
 unfold laws_FnTheatre.f
 refine Ev.have rfl ?_
 by_cases big : (code.length : Int) > 65536
 ·exact Ev.pos (decide_eq_true big) (Ev.now _)
 ·obtain ⟨s, ring, t, seats, both, e, ht, hs⟩ := drawStandsOf code hb
  have v := stands_vals s ring t seats both (by omega) (by omega)
  have vs := sides_vals s ring t seats (by omega) (by omega)
  obtain ⟨a1, a2⟩ := arrival_vals s ring t seats (by omega) (by omega)
  have H12 := j12_ev s ring t seats ht hs
  refine Ev.neg (by rw [decide_eq_true_eq]; exact big) (Ev.bind e ?_)
  by_cases h : Diff s ring t seats false
  ·have ho := diff_out h
   have hsum : Ev (fun k => laws_rSum.f k (standL both t seats)) (standL both t seats).sum := rsum _ (by rw [standL_length]; omega) (stand_bounds both seats t (fun p hp => by have := (ho.2 p hp).1; have := h.1.1.1; omega) ho.1 (row_seats h.1.1) (row_pairwise h.1.1) (fun p hp => by simpa using (ho.2 p hp).2))
   have H2 := j2_ev seats true (sidesL t seats) s ring t (H12.1 h) code hb
   rw [decide_eq_true h, decide_eq_true h.1] at a1 a2
   refine Ev.bind (v.1 h).2 (Ev.bind (v.1 h).1 (Ev.pos (by first | rfl | exact True.intro) (Ev.neg (bne_self _) (Ev.bind (rints_ev _ (by rw [standL_length]; omega)) (Ev.pos (by first | rfl | exact True.intro) (Ev.bind hsum ?_))))))
   rw [show ((standL both t seats).sum != (standL both t seats).sum) = false from by simp]
   refine Ev.succ ?_
   simp only [laws_FnTheatre.j0]
   refine Ev.neg (by simp) (Ev.bind a2 (Ev.bind a1 (Ev.neg (bne_self _) (Ev.neg (bne_self _) (Ev.pos (by first | rfl | exact True.intro) (Ev.succ ?_))))))
   simp only [laws_FnTheatre.j1]
   exact Ev.neg (by simp) (Ev.bind (vs.1 h).2 (Ev.bind (vs.1 h).1 (Ev.neg (bne_self _) (Ev.neg (bne_self _) (Ev.bind (rints_ev _ (by rw [sidesL_length]; omega)) H2)))))
  ·have hsum : Ev (fun k => laws_rSum.f k ([] : List Int)) 0 := rsum [] (by simp) (by simp)
   have H2 := j2_ev seats false [] s ring t (H12.2 []) code hb
   rw [decide_eq_false h] at a1 a2
   refine Ev.bind (v.2 h).2 (Ev.bind (v.2 h).1 (Ev.pos (by first | rfl | exact True.intro) (Ev.neg (bne_self _) (Ev.bind rints0 (Ev.pos (by first | rfl | exact True.intro) (Ev.bind hsum ?_))))))
   rw [show ((0 : Int) != 0) = false from by simp]
   have H1 : Ev (fun k => laws_FnTheatre.j1 k code seats false false s ring t) true := by
    refine Ev.succ ?_
    simp only [laws_FnTheatre.j1]
    exact Ev.neg (by simp) (Ev.bind (vs.2 h).2 (Ev.bind (vs.2 h).1 (Ev.neg (bne_self _) (Ev.neg (bne_self _) (Ev.bind rints0 H2)))))
   refine Ev.succ ?_
   simp only [laws_FnTheatre.j0]
   refine Ev.neg (by simp) (Ev.bind a2 (Ev.bind a1 (Ev.neg (bne_self _) (Ev.neg (bne_self _) ?_))))
   by_cases g : RowOK s ring t ∧ ring = false
   ·exact Ev.pos (decide_eq_true g) H1
   ·exact Ev.neg (by rw [decide_eq_true_eq]; exact g) H1

end Go.Proofs.YtohmonfaabofaaaDoor.Pure
-- squeezed
