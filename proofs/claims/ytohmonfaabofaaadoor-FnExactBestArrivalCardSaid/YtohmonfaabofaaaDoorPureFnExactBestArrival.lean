/- BestArrival of the program returns what the reference's returns, for every row and both ways. No conditions. -/
import Derived.Test.YtohmonfaabofaaaDoorQFnExactBestArrivalx
namespace Go.Proofs.YtohmonfaabofaaaDoor.Pure
open Go.RowKit Go.Proofs.YtohmonfaabofaaaDoor.QFnExactBestArrival Go.Proofs.YtohmonfaabofaaaDoorW.PrintWords Go.Proofs.YtohmonfaabofaaaDoorW.PrintLast Go.Proofs.YtohmonfaabofaaaDoorW.PrintMore
set_option linter.unusedVariables false
set_option linter.unusedSimpArgs false

theorem wrap_id {x : Int} (h0 : -9223372036854775808 ≤ x) (h1 : x ≤ 9223372036854775807) : wrap64 x = x := by
 unfold wrap64
 omega
theorem wrap_one {i n : Nat} (h : i < n) (hn : n ≤ 4611686018427387904) : wrap64 ((i : Int) + 1) = ((i + 1 : Nat) : Int) := by
 unfold wrap64
 omega
theorem rd_nat (l : List Int) (i : Nat) : rd l (i : Int) = l.getD i 0 := by unfold rd; simp
theorem rd_get (l : List Int) (i : Nat) (h : i < l.length) : rd l (i : Int) = l[i] := by rw [rd_nat]; simp [List.getD, h]
theorem fuel {k d : Nat} (h : d < k) : ∃ m, k = m + 1 ∧ d ≤ m := ⟨k - 1, by omega, by omega⟩

theorem bne_self {α : Type} [BEq α] [LawfulBEq α] (a : α) : ¬ (a != a) = true := by simp
theorem Ev.succ {α : Type} {g : Nat → Option α} {r : α} (h : Ev (fun k => g (k + 1)) r) : Ev g r := by
 obtain ⟨K, h⟩ := h
 refine ⟨K + 1, fun k hk => ?_⟩
 obtain ⟨k, rfl, hk'⟩ := fuel (show K < k by omega)
 exact h k hk'
theorem Ev.pos {α : Type} {g f : Nat → Option α} {r : α} {c : Prop} [Decidable c] (hc : c) (h : Ev g r) : Ev (fun k => if c then g k else f k) r := by
 obtain ⟨K, h⟩ := h
 exact ⟨K, fun k hk => by show (if c then g k else f k) = some r; rw [if_pos hc]; exact h k hk⟩
theorem Ev.neg {α : Type} {g f : Nat → Option α} {r : α} {c : Prop} [Decidable c] (hc : ¬ c) (h : Ev f r) : Ev (fun k => if c then g k else f k) r := by
 obtain ⟨K, h⟩ := h
 exact ⟨K, fun k hk => by show (if c then g k else f k) = some r; rw [if_neg hc]; exact h k hk⟩
theorem Ev.have {α β : Type} {x : Option α} {a : α} {f : Nat → α → Option β} {r : β} (e : x = some a) (h : Ev (fun k => f k a) r) : Ev (fun k => x.bind (f k)) r := by
 obtain ⟨K, h⟩ := h
 exact ⟨K, fun k hk => by show x.bind (f k) = some r; rw [e, Option.bind_some]; exact h k hk⟩
theorem Ev.bound {α : Type} {g : Nat → Option α} {r : α} (K : Nat) (h : ∀ k, K < k → g k = some r) : Ev g r := ⟨K + 1, fun k hk => h k (by omega)⟩
theorem spec_l1In_eq (n a b : Int) : spec_l1In.f n a b = some (decide (a ≤ n ∧ n ≤ b)) := by
 unfold spec_l1In.f
 by_cases h : n ≥ a
 ·rw [if_pos h]
  simp [show a ≤ n from h]
 ·rw [if_neg h]
  simp [show ¬ a ≤ n from h]
theorem impl_within_eq (n a b : Int) : impl_within.f n a b = some (decide (a ≤ n ∧ n ≤ b)) := by
 unfold impl_within.f
 by_cases h : n ≥ a
 ·rw [if_pos h]
  simp [show a ≤ n from h]
 ·rw [if_neg h]
  simp [show ¬ a ≤ n from h]

theorem impl_allWithin_l0 (l : List Int) (a b : Int) (hl : l.length ≤ 1048576) (d : Nat) : ∀ (k i : Nat), i ≤ l.length → l.length - i = d → d < k → impl_allWithin.l0 k a b l (l.length : Int) i = some (decide (∀ x ∈ l.drop i, a ≤ x ∧ x ≤ b)) := by
 induction d with
 | zero =>
  intro k i hi hd hk
  obtain ⟨k, rfl, _⟩ := fuel hk
  simp only [impl_allWithin.l0]
  rw [if_neg (by omega), List.drop_eq_nil_of_le (by omega)]
  simp
 | succ d ih =>
  intro k i hi hd hk
  obtain ⟨k, rfl, _⟩ := fuel hk
  simp only [impl_allWithin.l0]
  rw [if_pos (by omega), if_pos (by omega), if_pos (by omega), wrap_one (n := l.length) (by omega) (by omega), rd_get l i (by omega), impl_within_eq, ih k (i + 1) (by omega) (by omega) (by omega)]
  rw [List.drop_eq_getElem_cons (l := l) (i := i) (by omega)]
  rw [Option.bind_some]
  by_cases h : a ≤ l[i]'(by omega) ∧ l[i]'(by omega) ≤ b
  ·rw [if_pos (by simp only [h]; simp)]
   refine congrArg some ?_
   rw [decide_eq_decide]
   simp only [List.mem_cons]
   exact ⟨fun e x hx => hx.elim (fun z => z ▸ h) (e x), fun e x hx => e x (.inr hx)⟩
  ·rw [if_neg (by rw [decide_eq_true_eq]; exact h)]
   refine congrArg some ?_
   symm
   rw [decide_eq_false_iff_not]
   exact fun e => h (e _ List.mem_cons_self)
theorem impl_allWithin_eq (l : List Int) (a b : Int) (hl : l.length ≤ 1048576) (k : Nat) (hk : l.length < k) : impl_allWithin.f k l a b = some (decide (∀ x ∈ l, a ≤ x ∧ x ≤ b)) :=
 impl_allWithin_l0 l a b hl l.length k 0 (by omega) (by omega) hk

def Rising (l : List Int) (a b : Int) : Prop := ∀ i, (h : i < l.length) → (a ≤ l[i] ∧ l[i] ≤ b) ∧ (0 < i → l.getD (i - 1) 0 < l[i])
def RowOK (s : Int) (ring : Bool) (t : List Int) : Prop := (2 ≤ s ∧ s ≤ 24) ∧ (ring = true → 3 ≤ s) ∧ Rising t 0 (s - 1)
open Classical in
theorem spec_l1Rising_l0 (l : List Int) (a b : Int) (hl : l.length ≤ 1048576) (d : Nat) : ∀ (k i : Nat), i ≤ l.length → l.length - i = d → d < k → (∀ j, (h : j < i) → (hj : j < l.length) → (a ≤ l[j] ∧ l[j] ≤ b) ∧ (0 < j → l.getD (j - 1) 0 < l[j])) →
  spec_l1Rising.l0 k l a b i = some (decide (Rising l a b)) := by
 induction d with
 | zero =>
  intro k i hi hd hk hp
  obtain ⟨k, rfl, _⟩ := fuel hk
  simp only [spec_l1Rising.l0]
  rw [if_neg (by omega)]
  refine congrArg some ?_
  symm
  rw [decide_eq_true_eq]
  exact fun j hj => hp j (by omega) hj
 | succ d ih =>
  intro k i hi hd hk hp
  obtain ⟨k, rfl, _⟩ := fuel hk
  have no : ¬ ((a ≤ l[i]'(by omega) ∧ l[i]'(by omega) ≤ b) ∧ (0 < i → l.getD (i - 1) 0 < l[i]'(by omega))) → ¬ Rising l a b := fun g e => g (e i (by omega))
  have go : ((a ≤ l[i]'(by omega) ∧ l[i]'(by omega) ≤ b) ∧ (0 < i → l.getD (i - 1) 0 < l[i]'(by omega))) → spec_l1Rising.l0 k l a b (wrap64 ((i : Int) + 1)) = some (decide (Rising l a b)) := by
   intro g
   rw [wrap_one (n := l.length) (by omega) (by omega)]
   refine ih k (i + 1) (by omega) (by omega) (by omega) fun j hj hj' => ?_
   by_cases e : j = i
   ·subst e; exact g
   ·exact hp j (by omega) hj'
  simp only [spec_l1Rising.l0]
  rw [if_pos (by omega), if_pos (by omega), rd_get l i (by omega), spec_l1In_eq, Option.bind_some]
  by_cases g : a ≤ l[i]'(by omega) ∧ l[i]'(by omega) ≤ b
  ·rw [if_pos (decide_eq_true g)]
   by_cases h0 : 0 < i
   ·rw [if_pos (by omega), wrap_id (by omega) (by omega), if_pos (by omega), if_pos (by omega), show (i : Int) - 1 = ((i - 1 : Nat) : Int) from by omega, rd_nat]
    by_cases g2 : l.getD (i - 1) 0 < l[i]'(by omega)
    ·rw [if_neg (by omega)]
     exact go ⟨g, fun _ => g2⟩
    ·rw [if_pos (by omega), decide_eq_false (no fun e => g2 (e.2 h0))]
   ·rw [if_neg (by omega)]
    exact go ⟨g, fun e => absurd e h0⟩
  ·rw [if_neg (by rw [decide_eq_true_eq]; exact g), decide_eq_false (no fun e => g e.1)]
open Classical in
theorem spec_l1Rising_eq (l : List Int) (a b : Int) (hl : l.length ≤ 1048576) (k : Nat) (hk : l.length < k) : spec_l1Rising.f k l a b = some (decide (Rising l a b)) :=
 spec_l1Rising_l0 l a b hl l.length k 0 (by omega) (by omega) hk (fun j h => by omega)
open Classical in
theorem spec_l2Row_eq (s : Int) (ring : Bool) (t : List Int) (ht : t.length ≤ 1048576) (k : Nat) (hk : t.length < k) : spec_l2Row.f k s ring t = some (decide (RowOK s ring t)) := by
 unfold spec_l2Row.f
 rw [spec_l1In_eq, Option.bind_some]
 by_cases h : 2 ≤ s ∧ s ≤ 24
 ·rw [if_pos (decide_eq_true h), wrap_id (by omega) (by omega), spec_l1Rising_eq t _ _ ht k hk, Option.bind_some]
  cases ring with
  | true =>
   rw [if_pos rfl]
   by_cases h3 : s > 2
   ·rw [if_pos h3]
    refine congrArg some ?_
    rw [decide_eq_decide]
    exact ⟨fun e => ⟨h, fun _ => by omega, e⟩, fun e => e.2.2⟩
   ·rw [if_neg h3]
    refine congrArg some ?_
    symm
    rw [decide_eq_false_iff_not]
    exact fun e => h3 (by have := e.2.1 rfl; omega)
  | false =>
   rw [if_neg (by simp)]
   refine congrArg some ?_
   rw [decide_eq_decide]
   exact ⟨fun e => ⟨h, (fun z => by cases z), e⟩, fun e => e.2.2⟩
 ·rw [if_neg (by rw [decide_eq_true_eq]; exact h)]
  refine congrArg some ?_
  symm
  rw [decide_eq_false_iff_not]
  exact fun e => h e.1
theorem impl_bench_has_one (s : Int) (ring : Bool) (p : Int) (k : Nat) (hk : 2 < k) : impl_bench_has.f k s ring [p] = some (decide (0 ≤ p ∧ p ≤ wrap64 (s - 1))) := by
 unfold impl_bench_has.f
 rw [impl_allWithin_eq [p] _ _ (by simp) k (by simp; omega), Option.bind_some]
 refine congrArg some ?_
 rw [decide_eq_decide]
 simp
theorem impl_bench_valid_eq (s : Int) (ring : Bool) : impl_bench_valid.f s ring = some (decide ((2 ≤ s ∧ s ≤ 24) ∧ (ring = true → 3 ≤ s))) := by
 unfold impl_bench_valid.f
 rw [impl_within_eq, Option.bind_some]
 by_cases h : 2 ≤ s ∧ s ≤ 24
 ·rw [if_pos (decide_eq_true h)]
  cases ring with
  | true =>
   rw [if_pos rfl]
   refine congrArg some ?_
   rw [decide_eq_decide]
   exact ⟨fun e => ⟨h, fun _ => e⟩, fun e => e.2 rfl⟩
  | false =>
   rw [if_neg (by simp)]
   refine congrArg some ?_
   symm
   rw [decide_eq_true_eq]
   exact ⟨h, (fun z => by cases z)⟩
 ·rw [if_neg (by rw [decide_eq_true_eq]; exact h)]
  refine congrArg some ?_
  symm
  rw [decide_eq_false_iff_not]
  exact fun e => h e.1
open Classical in
theorem impl_IsRow_l0 (s : Int) (ring : Bool) (l : List Int) (hl : l.length ≤ 1048576) (d : Nat) : ∀ (k i : Nat), i ≤ l.length → l.length - i = d → d + 3 < k → ((2 ≤ s ∧ s ≤ 24) → ∀ j, (h : j < i) → (hj : j < l.length) → (0 ≤ l[j] ∧ l[j] ≤ s - 1) ∧ (0 < j → l.getD (j - 1) 0 < l[j])) →
  impl_IsRow.l0 k l (l.length : Int) i s ring l = some (decide (RowOK s ring l)) := by
 induction d with
 | zero =>
  intro k i hi hd hk hp
  obtain ⟨k, rfl, _⟩ := fuel hk
  simp only [impl_IsRow.l0]
  rw [if_neg (by omega), impl_Row_bench.f, Option.bind_some]
  dsimp only
  rw [impl_bench_valid_eq, Option.bind_some]
  refine congrArg some ?_
  rw [decide_eq_decide]
  exact ⟨fun e => ⟨e.1, e.2, fun j hj => hp e.1 j (by omega) hj⟩, fun e => ⟨e.1, e.2.1⟩⟩
 | succ d ih =>
  intro k i hi hd hk hp
  obtain ⟨k, rfl, _⟩ := fuel hk
  have no : (2 ≤ s ∧ s ≤ 24 → ¬ ((0 ≤ l[i]'(by omega) ∧ l[i]'(by omega) ≤ s - 1) ∧ (0 < i → l.getD (i - 1) 0 < l[i]'(by omega)))) → ¬ RowOK s ring l := fun g e => g e.1 (e.2.2 i (by omega))
  have go : (2 ≤ s ∧ s ≤ 24 → ((0 ≤ l[i]'(by omega) ∧ l[i]'(by omega) ≤ s - 1) ∧ (0 < i → l.getD (i - 1) 0 < l[i]'(by omega)))) → impl_IsRow.l0 k l (l.length : Int) (wrap64 ((i : Int) + 1)) s ring l = some (decide (RowOK s ring l)) := by
   intro g
   rw [wrap_one (n := l.length) (by omega) (by omega)]
   refine ih k (i + 1) (by omega) (by omega) (by omega) fun hs j hj hj' => ?_
   by_cases e : j = i
   ·subst e; exact g hs
   ·exact hp hs j (by omega) hj'
  simp only [impl_IsRow.l0]
  rw [if_pos (by omega), if_pos (by omega), if_pos (by omega), impl_Row_bench.f, Option.bind_some]
  dsimp only
  rw [rd_get l i (by omega), impl_bench_has_one _ _ _ k (by omega), Option.bind_some]
  by_cases g : 0 ≤ l[i]'(by omega) ∧ l[i]'(by omega) ≤ wrap64 (s - 1)
  ·rw [if_pos (decide_eq_true g)]
   have g' : 2 ≤ s ∧ s ≤ 24 → 0 ≤ l[i]'(by omega) ∧ l[i]'(by omega) ≤ s - 1 := fun hs => by
    rw [wrap_id (by omega) (by omega)] at g
    exact g
   by_cases h0 : 0 < i
   ·rw [if_pos (by omega), wrap_id (by omega) (by omega), if_pos (by omega), if_pos (by omega), show (i : Int) - 1 = ((i - 1 : Nat) : Int) from by omega, rd_nat]
    by_cases g2 : l.getD (i - 1) 0 < l[i]'(by omega)
    ·rw [if_neg (by omega)]
     exact go fun hs => ⟨g' hs, fun _ => g2⟩
    ·rw [if_pos (by omega), decide_eq_false (no fun _ e => g2 (e.2 h0))]
   ·rw [if_neg (by omega)]
    exact go fun hs => ⟨g' hs, fun e => absurd e h0⟩
  ·rw [if_neg (by rw [decide_eq_true_eq]; exact g)]
   rw [decide_eq_false (no fun hs e => g ?_)]
   rw [wrap_id (by omega) (by omega)]
   exact e.1
open Classical in
theorem impl_IsRow_eq (s : Int) (ring : Bool) (l : List Int) (hl : l.length ≤ 1048576) (k : Nat) (hk : l.length + 3 < k) : impl_IsRow.f k s ring l = some (decide (RowOK s ring l)) :=
 impl_IsRow_l0 s ring l hl l.length k 0 (by omega) (by omega) hk (fun _ j h => by omega)
theorem rising_lt (l : List Int) (a b : Int) (h : Rising l a b) (i j : Nat) (hij : i < j) (hj : j < l.length) : l[i]'(by omega) < l[j] := by
 induction j with
 | zero => omega
 | succ j ih =>
  have h1 := (h (j + 1) hj).2 (by omega)
  rw [show j + 1 - 1 = j from by omega, show l.getD j 0 = l[j]'(by omega) from by simp [List.getD, show j < l.length by omega]] at h1
  by_cases e : i = j
  ·subst e; exact h1
  ·have := ih (by omega) (by omega)
   omega
theorem rising_mem (l : List Int) (a b : Int) (h : Rising l a b) : ∀ x ∈ l, a ≤ x ∧ x ≤ b := by
 intro x hx
 obtain ⟨i, hi, rfl⟩ := List.getElem_of_mem hx
 exact (h i hi).1
theorem rising_nodup (l : List Int) (a b : Int) (h : Rising l a b) : l.Nodup := by
 refine List.pairwise_iff_getElem.2 fun i j hi hj hij e => ?_
 have := rising_lt l a b h i j hij hj
 omega
theorem row_len (s : Int) (ring : Bool) (t : List Int) (h : RowOK s ring t) : t.length ≤ 24 := by
 have hn := rising_nodup t _ _ h.2.2
 have hs : t ⊆ (List.range 24).map fun i : Nat => (i : Int) := by
  intro x hx
  have := rising_mem t _ _ h.2.2 x hx
  have := h.1
  exact List.mem_map.2 ⟨x.toNat, List.mem_range.2 (by omega), by omega⟩
 have := List.Nodup.length_le_of_subset hn hs
 simpa using this

theorem filter_snoc (l : List Int) (q : Int → Bool) (i : Nat) (hi : i < l.length) : (l.take (i + 1)).filter q = (l.take i).filter q ++ (if q l[i] then [l[i]] else []) := by
 rw [List.take_add_one, List.getElem?_eq_getElem hi, Option.toList_some, List.filter_append]
 by_cases h : q l[i] = true
 ·simp [h]
 ·simp [h]
theorem spec_between_l0 (s : Int) (ring : Bool) (t : List Int) (p : Int) (ht : t.length ≤ 1048576) (d : Nat) : ∀ (k i : Nat), i ≤ t.length → t.length - i = d → d < k →
  spec_l10Between.l0 k p (((t.take i).filter fun x => decide (x < p)).length : Int) (((t.take i).filter fun x => decide (p < x)).length : Int) i s ring t = some (((t.filter fun x => decide (x < p)).length : Int), ((t.filter fun x => decide (p < x)).length : Int)) := by
 induction d with
 | zero =>
  intro k i hi hd hk
  obtain ⟨k, rfl, _⟩ := fuel hk
  simp only [spec_l10Between.l0]
  rw [if_neg (by omega), List.take_of_length_le (by omega)]
 | succ d ih =>
  intro k i hi hd hk
  obtain ⟨k, rfl, _⟩ := fuel hk
  have h := ih k (i + 1) (by omega) (by omega) (by omega)
  rw [filter_snoc t _ i (by omega), filter_snoc t _ i (by omega), List.length_append, List.length_append] at h
  have l1 : ((t.take i).filter fun x => decide (x < p)).length ≤ i := Nat.le_trans (List.length_filter_le _ _) (by simp; omega)
  have l2 : ((t.take i).filter fun x => decide (p < x)).length ≤ i := Nat.le_trans (List.length_filter_le _ _) (by simp; omega)
  simp only [spec_l10Between.l0]
  rw [if_pos (by omega), if_pos (by omega), rd_get t i (by omega), wrap_one (n := t.length) (i := i) (by omega) (by omega)]
  by_cases g : t[i]'(by omega) < p
  ·rw [if_pos g, if_neg (by omega), wrap_one (n := t.length) (by omega) (by omega)]
   rw [if_pos (decide_eq_true g), if_neg (by simp; omega)] at h
   exact h
  ·rw [if_neg g]
   by_cases g2 : t[i]'(by omega) > p
   ·rw [if_pos g2, wrap_one (n := t.length) (by omega) (by omega)]
    rw [if_neg (by simpa using g), if_pos (decide_eq_true g2)] at h
    exact h
   ·rw [if_neg g2]
    rw [if_neg (by simpa using g), if_neg (by simpa using g2)] at h
    exact h
theorem spec_between_eq (s : Int) (ring : Bool) (t : List Int) (p : Int) (ht : t.length ≤ 1048576) (k : Nat) (hk : t.length < k) :
  spec_l10Between.f k s ring t p = some (((t.filter fun x => decide (x < p)).length : Int), ((t.filter fun x => decide (p < x)).length : Int)) :=
 spec_between_l0 s ring t p ht t.length k 0 (by omega) (by omega) hk

def setN (l : List Int) : Nat := l.foldl (fun s p => s ||| 2 ^ p.toNat) 0
theorem testBit_foldl (l : List Int) : ∀ (s i : Nat), (l.foldl (fun s p => s ||| 2 ^ p.toNat) s).testBit i = (s.testBit i || decide (∃ p ∈ l, p.toNat = i)) := by
 induction l with
 | nil => intro s i; simp
 | cons a l ih =>
  intro s i
  rw [List.foldl_cons, ih, Nat.testBit_or, Nat.testBit_two_pow, Bool.or_assoc]
  congr 1
  rw [Bool.eq_iff_iff]
  simp
theorem testBit_setN (l : List Int) (i : Nat) : (setN l).testBit i = decide (∃ p ∈ l, p.toNat = i) := by
 unfold setN
 rw [testBit_foldl]
 simp
theorem foldl_lt (l : List Int) (n : Nat) (hl : ∀ p ∈ l, p < n) (hn : 0 < n) : ∀ s, s < 2 ^ n → l.foldl (fun s p => s ||| 2 ^ p.toNat) s < 2 ^ n := by
 induction l with
 | nil => intro s h; exact h
 | cons a l ih =>
  intro s h
  rw [List.foldl_cons]
  have := hl a (by simp)
  exact ih (fun p hp => hl p (by simp [hp])) _ (Nat.or_lt_two_pow h (Nat.pow_lt_pow_right (by omega) (by omega)))
theorem setN_lt (l : List Int) (n : Nat) (hl : ∀ p ∈ l, p < n) (hn : 0 < n) : setN l < 2 ^ n := foldl_lt l n hl hn 0 (Nat.two_pow_pos n)
theorem setN_u32 (l : List Int) (hl : ∀ p ∈ l, p < 32) : setN l < 4294967296 := setN_lt l 32 hl (by omega)
theorem or_cast (a b : Nat) (ha : a < 4294967296) (hb : b < 4294967296) : Go.bits .or .u32 (a : Int) (b : Int) = ((a ||| b : Nat) : Int) :=
 (bits_nat .u32 32 (by decide) (fun n h h' => by rw [IntKind.wrap_u32]; omega) a b ha hb).2
theorem and_cast (a b : Nat) (ha : a < 4294967296) (hb : b < 4294967296) : Go.bits .and .u32 (a : Int) (b : Int) = ((a &&& b : Nat) : Int) :=
 (bits_nat .u32 32 (by decide) (fun n h h' => by rw [IntKind.wrap_u32]; omega) a b ha hb).1
theorem shl_one (p : Int) (h0 : 0 ≤ p) (h1 : p < 32) : shl .u32 1 p = ((2 ^ p.toNat : Nat) : Int) := by
 unfold shl
 rw [Int.one_mul, IntKind.wrap_u32, show min p.toNat IntKind.u32.bits = p.toNat from Nat.min_eq_left (by show p.toNat ≤ 32; omega)]
 have : 2 ^ p.toNat < 2 ^ 32 := Nat.pow_lt_pow_right (by omega) (by omega)
 have e : ((2 ^ p.toNat : Nat) : Int) = (2 : Int) ^ p.toNat := by simp
 rw [← e]
 generalize 2 ^ p.toNat = y at *
 omega

def andN (a b : Nat) : Nat := a ^^^ (a &&& b)
theorem testBit_andN (a b i : Nat) : (andN a b).testBit i = (a.testBit i && !b.testBit i) := by
 unfold andN
 rw [Nat.testBit_xor, Nat.testBit_and]
 cases a.testBit i <;> cases b.testBit i <;> rfl
theorem lt_of_bits (x n : Nat) (h : ∀ i, n ≤ i → x.testBit i = false) : x < 2 ^ n := Nat.lt_pow_two_of_testBit x h
theorem andN_lt (a b n : Nat) (ha : a < 2 ^ n) : andN a b < 2 ^ n := by
 refine lt_of_bits _ n fun i hi => ?_
 rw [testBit_andN, Nat.testBit_lt_two_pow (Nat.lt_of_lt_of_le ha (Nat.pow_le_pow_right (by omega) hi))]
 rfl
theorem andNot_cast (a b : Nat) (ha : a < 4294967296) (hb : b < 4294967296) : Go.bits .andNot .u32 (a : Int) (b : Int) = ((andN a b : Nat) : Int) := by
 have e : (BitVec.ofInt 32 (a : Int) &&& ~~~ BitVec.ofInt 32 (b : Int)).toNat = andN a b := by
  refine Nat.eq_of_testBit_eq fun i => ?_
  rw [testBit_andN, BitVec.ofInt_natCast, BitVec.ofInt_natCast]
  show (BitVec.ofNat 32 a &&& ~~~ BitVec.ofNat 32 b).getLsbD i = _
  rw [BitVec.getLsbD_and, BitVec.getLsbD_not, BitVec.getLsbD_ofNat, BitVec.getLsbD_ofNat]
  by_cases h : i < 32
  ·simp [h]
  ·have e1 : a.testBit i = false := Nat.testBit_lt_two_pow (Nat.lt_of_lt_of_le (show a < 2 ^ 32 from ha) (Nat.pow_le_pow_right (by omega) (by omega)))
   simp [h, e1]
 have hl := andN_lt a b 32 ha
 show IntKind.u32.wrap (((BitVec.ofInt 32 (a : Int) &&& ~~~ BitVec.ofInt 32 (b : Int)).toNat : Nat) : Int) = _
 rw [e, IntKind.wrap_u32]
 omega
theorem all_cast (s : Int) (h0 : 0 ≤ s) (h1 : s ≤ 31) : (shl .u32 1 s - 1) % 4294967296 = ((2 ^ s.toNat - 1 : Nat) : Int) := by
 rw [shl_one s h0 (by omega)]
 have : 0 < 2 ^ s.toNat := Nat.two_pow_pos _
 have h2 : 2 ^ s.toNat < 2 ^ 32 := Nat.pow_lt_pow_right (by omega) (by omega)
 generalize 2 ^ s.toNat = y at *
 omega
theorem testBit_all (n i : Nat) : (2 ^ n - 1).testBit i = decide (i < n) := Nat.testBit_two_pow_sub_one n i

structure Seats (t : List Int) : Prop where
 low : ∀ x ∈ t, 0 ≤ x ∧ x < 32
 nodup : t.Nodup
theorem seats_filter {t : List Int} (h : Seats t) (q : Int → Bool) : Seats (t.filter q) := ⟨fun x hx => h.low x (List.mem_filter.1 hx).1, List.Pairwise.filter _ h.nodup⟩
theorem seats_lt {t : List Int} (h : Seats t) : setN t < 4294967296 := setN_u32 t fun x hx => (h.low x hx).2
theorem seats_len {t : List Int} (h : Seats t) : t.length ≤ 32 := by
 have hs : t ⊆ (List.range 32).map fun i : Nat => (i : Int) := by
  intro x hx
  have := h.low x hx
  exact List.mem_map.2 ⟨x.toNat, List.mem_range.2 (by omega), by omega⟩
 have := List.Nodup.length_le_of_subset h.nodup hs
 simpa using this
theorem setN_ext (S : Nat) (l : List Int) (h : ∀ i, S.testBit i = true ↔ ∃ p ∈ l, p.toNat = i) : S = setN l := by
 refine Nat.eq_of_testBit_eq fun i => ?_
 rw [testBit_setN, Bool.eq_iff_iff, h, decide_eq_true_eq]

theorem popAux_filter : ∀ (n x : Nat), Lib.popAux n x = ((List.range n).filter fun i => x.testBit i).length
 | 0, x => by simp [Lib.popAux]
 | n + 1, x => by
  rw [Lib.popAux, popAux_filter n, List.range_succ_eq_map, List.filter_cons, List.filter_map, Nat.testBit_zero]
  have e : ((fun i => x.testBit i) ∘ Nat.succ) = fun i => (x / 2).testBit i := by
   funext i
   simp [Nat.testBit_succ]
  rw [e]
  by_cases h : x % 2 = 1
  ·simp [h]
   omega
  ·simp [h]
   omega
theorem onesCount_filter (x : Nat) : Lib.onesCount x = ((List.range 64).filter fun i => x.testBit i).length := popAux_filter 64 x
theorem onesCount_below (x n : Nat) (hx : x < 2 ^ n) (hn : n ≤ 64) : Lib.onesCount x = ((List.range n).filter fun i => x.testBit i).length := by
 rw [onesCount_filter, show 64 = n + (64 - n) from by omega, List.range_add, List.filter_append, List.length_append]
 have z : List.filter (fun i => x.testBit i) (List.map (fun x => n + x) (List.range (64 - n))) = [] := by
  rw [List.filter_eq_nil_iff]
  intro i hi
  obtain ⟨j, _, rfl⟩ := List.mem_map.1 hi
  rw [Nat.testBit_lt_two_pow (Nat.lt_of_lt_of_le hx (Nat.pow_le_pow_right (by omega) (by omega)))]
  simp
 rw [z, List.length_nil, Nat.add_zero]

theorem nodup_cover : ∀ (r l : List Int), r.Nodup → r ⊆ l → l.length ≤ r.length → l.Nodup
 | [], l, _, _, hl => by
  have : l = [] := List.eq_nil_of_length_eq_zero (by simpa using hl)
  subst this
  exact List.nodup_nil
 | a :: t, l, hn, hs, hl => by
  have ha : a ∈ l := hs List.mem_cons_self
  have hc := List.nodup_cons.1 hn
  have hlen := List.length_erase_of_mem ha
  have hpos := List.length_pos_of_mem ha
  have ht : t ⊆ l.erase a := fun x hx => (List.mem_erase_of_ne (by rintro rfl; exact hc.1 hx)).2 (hs (List.mem_cons_of_mem _ hx))
  have hl' : l.length ≤ t.length + 1 := by simpa using hl
  have ih := nodup_cover t (l.erase a) hc.2 ht (by omega)
  refine (List.perm_cons_erase ha).nodup_iff.2 (List.nodup_cons.2 ⟨fun hin => ?_, ih⟩)
  have hs' : (a :: t) ⊆ l.erase a := by
   intro x hx
   rcases List.mem_cons.1 hx with e | e
   ·exact e ▸ hin
   ·exact ht e
  have := List.Nodup.length_le_of_subset hn hs'
  simp at this
  omega

theorem count_setN (l : List Int) (hb : ∀ x ∈ l, 0 ≤ x ∧ x < 32) (n : Nat) (hn : n = l.length) : Lib.onesCount (setN l) = n ↔ l.Nodup := by
 rw [onesCount_below (setN l) 32 (setN_lt l 32 (fun p hp => (hb p hp).2) (by omega)) (by omega)]
 let F := ((List.range 32).filter fun i => (setN l).testBit i).map fun i : Nat => (i : Int)
 have hF : F.Nodup := by
  refine List.Pairwise.map _ ?_ (List.Pairwise.filter _ List.nodup_range)
  intro a b hab he
  exact hab (by omega)
 have hFl : F ⊆ l := by
  intro x hx
  obtain ⟨i, hi, rfl⟩ := List.mem_map.1 hx
  have := (List.mem_filter.1 hi).2
  rw [testBit_setN, decide_eq_true_eq] at this
  obtain ⟨p, hp, e⟩ := this
  have := hb p hp
  rw [show (i : Int) = p from by omega]
  exact hp
 have hlF : l ⊆ F := by
  intro x hx
  have := hb x hx
  refine List.mem_map.2 ⟨x.toNat, List.mem_filter.2 ⟨List.mem_range.2 (by omega), ?_⟩, by omega⟩
  rw [testBit_setN, decide_eq_true_eq]
  exact ⟨x, hx, rfl⟩
 have hlen : F.length = ((List.range 32).filter fun i => (setN l).testBit i).length := by simp [F]
 rw [← hlen]
 constructor
 ·intro e
  exact nodup_cover F l hF hFl (by omega)
 ·intro e
  have h1 := List.Nodup.length_le_of_subset hF hFl
  have h2 := List.Nodup.length_le_of_subset e hlF
  omega

theorem impl_setOf_l0 (l : List Int) (hl : l.length ≤ 1048576) (hb : ∀ x ∈ l, 0 ≤ x ∧ x < 32) (d : Nat) : ∀ (k i s : Nat), s < 4294967296 → i ≤ l.length → l.length - i = d → d < k →
  impl_setOf.l0 k (s : Int) l (l.length : Int) i = some (((l.drop i).foldl (fun s p => s ||| 2 ^ p.toNat) s : Nat) : Int) := by
 induction d with
 | zero =>
  intro k i s hs hi hd hk
  obtain ⟨k, rfl, _⟩ := fuel hk
  simp only [impl_setOf.l0]
  rw [if_neg (by omega), List.drop_eq_nil_of_le (by omega)]
  rfl
 | succ d ih =>
  intro k i s hs hi hd hk
  obtain ⟨k, rfl, _⟩ := fuel hk
  obtain ⟨b0, b1⟩ := hb (l[i]'(by omega)) (List.getElem_mem _)
  have hp : 2 ^ (l[i]'(by omega)).toNat < 2 ^ 32 := Nat.pow_lt_pow_right (by omega) (by omega)
  simp only [impl_setOf.l0]
  rw [if_pos (by omega), if_pos (by omega), if_pos (by omega), wrap_one (n := l.length) (by omega) (by omega), rd_get l i (by omega), if_pos b0, shl_one _ b0 b1, or_cast _ _ hs hp]
  rw [ih k (i + 1) _ (Nat.or_lt_two_pow (n := 32) hs hp) (by omega) (by omega) (by omega), List.drop_eq_getElem_cons (l := l) (i := i) (by omega)]
  rfl
theorem impl_setOf_eq (l : List Int) (hl : l.length ≤ 1048576) (hb : ∀ x ∈ l, 0 ≤ x ∧ x < 32) (k : Nat) (hk : l.length < k) : impl_setOf.f k l = some ((setN l : Nat) : Int) :=
 impl_setOf_l0 l hl hb l.length k 0 0 (by omega) (by omega) (by omega) hk

theorem impl_set_count_eq (s : Nat) (hs : s < 4294967296) : impl_set_count.f (s : Int) = some ((Lib.onesCount s : Nat) : Int) := by
 unfold impl_set_count.f bits_OnesCount32.f
 rw [if_pos (by omega)]
 rfl



theorem left_set {t : List Int} (h : Seats t) (p : Int) (h0 : 0 ≤ p) : setN t &&& (2 ^ p.toNat - 1) = setN (t.filter fun x => decide (x < p)) := by
 refine setN_ext _ _ fun i => ?_
 rw [Nat.testBit_and, testBit_setN, testBit_all, Bool.and_eq_true, decide_eq_true_eq, decide_eq_true_eq]
 constructor
 ·rintro ⟨⟨x, hx, e⟩, hi⟩
  have := h.low x hx
  exact ⟨x, List.mem_filter.2 ⟨hx, decide_eq_true (by omega)⟩, e⟩
 ·rintro ⟨x, hx, e⟩
  have h1 := List.mem_filter.1 hx
  have := h.low x h1.1
  have := of_decide_eq_true h1.2
  exact ⟨⟨x, h1.1, e⟩, by omega⟩
theorem right_set {t : List Int} (h : Seats t) (p : Int) (h0 : 0 ≤ p) : setN t / 2 ^ p.toNat = setN ((t.filter fun x => decide (p ≤ x)).map fun x => x - p) := by
 refine setN_ext _ _ fun i => ?_
 rw [Nat.testBit_div_two_pow, testBit_setN, decide_eq_true_eq]
 constructor
 ·rintro ⟨x, hx, e⟩
  have := h.low x hx
  exact ⟨x - p, List.mem_map.2 ⟨x, List.mem_filter.2 ⟨hx, decide_eq_true (by omega)⟩, rfl⟩, by omega⟩
 ·rintro ⟨y, hy, e⟩
  obtain ⟨x, hx, rfl⟩ := List.mem_map.1 hy
  have h1 := List.mem_filter.1 hx
  have := h.low x h1.1
  have := of_decide_eq_true h1.2
  exact ⟨x, h1.1, by omega⟩
theorem count_seats {t : List Int} (h : Seats t) : Lib.onesCount (setN t) = t.length := (count_setN t h.low t.length rfl).2 h.nodup
theorem right_seats {t : List Int} (h : Seats t) (p : Int) (h0 : 0 ≤ p) : Seats ((t.filter fun x => decide (p ≤ x)).map fun x => x - p) := by
 refine ⟨fun y hy => ?_, ?_⟩
 ·obtain ⟨x, hx, rfl⟩ := List.mem_map.1 hy
  have h1 := List.mem_filter.1 hx
  have := h.low x h1.1
  have := of_decide_eq_true h1.2
  omega
 ·refine List.Pairwise.map _ ?_ (List.Pairwise.filter _ h.nodup)
  intro a b hab he
  exact hab (by omega)
theorem impl_stands_eq {t : List Int} (h : Seats t) (p : Int) (h0 : 0 ≤ p) (h1 : p ≤ 23) (both : Bool) :
  impl_stands.f ((setN t : Nat) : Int) p both = some (if both = true ∧ (t.filter fun x => decide (p ≤ x)).length < (t.filter fun x => decide (x < p)).length then (((t.filter fun x => decide (p ≤ x)).length : Int), 1) else (((t.filter fun x => decide (x < p)).length : Int), 0)) := by
 have hS := seats_lt h
 have hp : 2 ^ p.toNat < 2 ^ 32 := Nat.pow_lt_pow_right (by omega) (by omega)
 have hd : setN t / 2 ^ p.toNat ≤ setN t := Nat.div_le_self _ _
 have e1 : shr .u32 ((setN t : Nat) : Int) p = ((setN t / 2 ^ p.toNat : Nat) : Int) := by
  unfold shr
  rw [show min p.toNat IntKind.u32.bits = p.toNat from Nat.min_eq_left (by show p.toNat ≤ 32; omega)]
  simp
 unfold impl_stands.f
 rw [if_pos h0, all_cast p h0 (by omega), and_cast _ _ hS (by omega), left_set h p h0, impl_set_count_eq _ (seats_lt (seats_filter h _)), Option.bind_some, e1, impl_set_count_eq _ (by omega), Option.bind_some, count_seats (seats_filter h _), right_set h p h0, count_seats (right_seats h p h0), List.length_map]
 cases both with
 | true =>
  rw [if_pos rfl]
  by_cases g : (t.filter fun x => decide (p ≤ x)).length < (t.filter fun x => decide (x < p)).length
  ·rw [if_pos (by omega), if_pos ⟨rfl, g⟩]
  ·rw [if_neg (by omega), if_neg (fun e => g e.2)]
 | false =>
  rw [if_neg (by simp), if_neg (by simp)]
theorem spec_l1Own_eq (l : List Int) (h : l.length < 17592186044416) : spec_l1Own.f l = some l := by
 unfold spec_l1Own.f
 rw [Option.bind_some, if_pos (by simpa using h)]
 rfl

def putL (t : List Int) (p : Int) : List Int := (t.filter fun x => decide (x < p)) ++ p :: t.filter fun x => decide (p < x)
theorem rising_split (t : List Int) (p : Int) (hr : ∀ i j, (h : i < j) → (hj : j < t.length) → t[i]'(by omega) < t[j]) (i : Nat) (hi : i ≤ t.length) (h1 : ∀ j, (h : j < i) → t[j]'(by omega) < p) (h2 : ∀ j, i ≤ j → (hj : j < t.length) → p < t[j]) :
  t.take i = (t.filter fun x => decide (x < p)) ∧ t.drop i = (t.filter fun x => decide (p < x)) := by
 have e := (List.take_append_drop i t).symm
 have a1 : ∀ x ∈ t.take i, x < p := fun x hx => by
  obtain ⟨j, hj, rfl⟩ := List.getElem_of_mem hx
  rw [List.length_take] at hj
  rw [List.getElem_take]
  exact h1 j (by omega)
 have a2 : ∀ x ∈ t.drop i, p < x := fun x hx => by
  obtain ⟨j, hj, rfl⟩ := List.getElem_of_mem hx
  rw [List.length_drop] at hj
  rw [List.getElem_drop]
  exact h2 _ (by omega) (by omega)
 constructor
 ·conv => rhs; rw [e]
  rw [List.filter_append, List.filter_eq_self.2 (fun x hx => decide_eq_true (a1 x hx)), List.filter_eq_nil_iff.2 (fun x hx => by have := a2 x hx; simp; omega), List.append_nil]
 ·conv => rhs; rw [e]
  rw [List.filter_append, List.filter_eq_nil_iff.2 (fun x hx => by have := a1 x hx; simp; omega), List.filter_eq_self.2 (fun x hx => decide_eq_true (a2 x hx)), List.nil_append]
theorem spec_l1Put_l0 (t : List Int) (p : Int) (ht : t.length ≤ 1048576) (hr : ∀ i j, (h : i < j) → (hj : j < t.length) → t[i]'(by omega) < t[j]) (hp : p ∉ t) (d : Nat) : ∀ (k i : Nat), i ≤ t.length → t.length - i = d → d < k → (∀ j, (h : j < i) → (hj : j < t.length) → t[j] < p) →
  spec_l1Put.l0 k t p (i : Int) = some (putL t p) := by
 have done : ∀ i, i ≤ t.length → (∀ j, (h : j < i) → (hj : j < t.length) → t[j] < p) → (∀ j, i ≤ j → (hj : j < t.length) → p < t[j]) → [] ++ t.take i ++ [p] ++ t.drop i = putL t p := by
  intro i hi h1 h2
  obtain ⟨e1, e2⟩ := rising_split t p hr i hi (fun j hj => h1 j hj (by omega)) h2
  rw [e1, e2]
  simp [putL]
 induction d with
 | zero =>
  intro k i hi hd hk h1
  obtain ⟨k, rfl, _⟩ := fuel hk
  simp only [spec_l1Put.l0]
  rw [if_neg (by omega), Option.bind_some, if_pos (by omega), if_pos (by omega), if_pos (by simp; omega), Option.bind_some, Option.bind_some, if_pos (by simp; omega), Option.bind_some, if_pos (by simp; omega), Int.toNat_natCast, done i hi h1 (fun j hj hj' => by omega)]
 | succ d ih =>
  intro k i hi hd hk h1
  obtain ⟨k, rfl, _⟩ := fuel hk
  simp only [spec_l1Put.l0]
  rw [if_pos (by omega), if_pos (by omega), rd_get t i (by omega)]
  by_cases g : t[i]'(by omega) < p
  ·rw [if_pos g, wrap_one (n := t.length) (by omega) (by omega)]
   refine ih k (i + 1) (by omega) (by omega) (by omega) fun j hj hj' => ?_
   by_cases e : j = i
   ·subst e; exact g
   ·exact h1 j (by omega) hj'
  ·have hne : t[i]'(by omega) ≠ p := fun e => hp (e ▸ List.getElem_mem _)
   rw [if_neg g, if_neg hne, Option.bind_some, if_pos (by omega), if_pos (by simp; omega), Option.bind_some, Option.bind_some, if_pos (by simp; omega), Option.bind_some, if_pos (by simp; omega), Int.toNat_natCast, done i hi h1]
   intro j hj hj'
   by_cases e : j = i
   ·subst e; omega
   ·have := hr i j (by omega) hj'
    omega
theorem spec_l1Put_eq (t : List Int) (p : Int) (ht : t.length ≤ 1048576) (hr : ∀ i j, (h : i < j) → (hj : j < t.length) → t[i]'(by omega) < t[j]) (hp : p ∉ t) (k : Nat) (hk : t.length < k) : spec_l1Put.f k t p = some (putL t p) :=
 spec_l1Put_l0 t p ht hr hp t.length k 0 (by omega) (by omega) hk (fun j h => by omega)
theorem spec_l2With_eq (s : Int) (ring : Bool) (t : List Int) (p : Int) (ht : t.length ≤ 1048576) (hr : ∀ i j, (h : i < j) → (hj : j < t.length) → t[i]'(by omega) < t[j]) (hp : p ∉ t) (k : Nat) (hk : t.length < k) : spec_l2With.f k s ring t p = some (s, ring, putL t p) := by
 unfold spec_l2With.f
 rw [spec_l1Own_eq t (by omega), Option.bind_some, spec_l1Put_eq t p ht hr hp k hk, Option.bind_some, spec_l2Made.f, Option.bind_some]
theorem mem_put (t : List Int) (p x : Int) (hp : p ∉ t) : x ∈ putL t p ↔ x = p ∨ x ∈ t := by
 unfold putL
 rw [List.mem_append, List.mem_cons, List.mem_filter, List.mem_filter, decide_eq_true_eq, decide_eq_true_eq]
 constructor
 ·rintro (e | e | e)
  ·exact .inr e.1
  ·exact .inl e
  ·exact .inr e.1
 ·rintro (e | e)
  ·exact .inr (.inl e)
  ·rcases Int.lt_trichotomy x p with g | g | g
   ·exact .inl ⟨e, g⟩
   ·exact .inr (.inl g)
   ·exact .inr (.inr ⟨e, g⟩)
theorem rising_of (t : List Int) (h : t.Pairwise (· < ·)) : ∀ i j, (h : i < j) → (hj : j < t.length) → t[i]'(by omega) < t[j] := fun i j hij hj => List.pairwise_iff_getElem.1 h i j (by omega) hj hij
theorem put_pairwise (t : List Int) (p : Int) (h : t.Pairwise (· < ·)) : (putL t p).Pairwise (· < ·) := by
 unfold putL
 rw [List.pairwise_append]
 refine ⟨List.Pairwise.filter _ h, List.pairwise_cons.2 ⟨fun x hx => ?_, List.Pairwise.filter _ h⟩, fun a ha b hb => ?_⟩
 ·exact of_decide_eq_true (List.mem_filter.1 hx).2
 ·have h1 := of_decide_eq_true (List.mem_filter.1 ha).2
  rcases List.mem_cons.1 hb with e | e
  ·omega
  ·have h2 := of_decide_eq_true (List.mem_filter.1 e).2
   omega
theorem row_pairwise {s : Int} {ring : Bool} {t : List Int} (h : RowOK s ring t) : t.Pairwise (· < ·) := List.pairwise_iff_getElem.2 fun i j hi hj hij => rising_lt t _ _ h.2.2 i j hij hj
theorem put_set (t : List Int) (p : Int) (hp : p ∉ t) : setN t ||| 2 ^ p.toNat = setN (putL t p) := by
 refine setN_ext _ _ fun i => ?_
 rw [Nat.testBit_or, testBit_setN, Nat.testBit_two_pow, Bool.or_eq_true, decide_eq_true_eq, decide_eq_true_eq]
 constructor
 ·rintro (⟨x, hx, e⟩ | e)
  ·exact ⟨x, (mem_put t p x hp).2 (.inr hx), e⟩
  ·exact ⟨p, (mem_put t p p hp).2 (.inl rfl), e⟩
 ·rintro ⟨x, hx, e⟩
  rcases (mem_put t p x hp).1 hx with g | g
  ·subst g; exact .inr e
  ·exact .inl ⟨x, g, e⟩
theorem filter_ge (t : List Int) (p : Int) (hp : p ∉ t) : (t.filter fun x => decide (p ≤ x)) = t.filter fun x => decide (p < x) := by
 refine List.filter_congr fun x hx => ?_
 rw [decide_eq_decide]
 constructor
 ·intro e
  have : x ≠ p := fun z => hp (z ▸ hx)
  omega
 ·intro e; omega

def leftN (t : List Int) (p : Int) : Nat := (t.filter fun x => decide (x < p)).length
def rightN (t : List Int) (p : Int) : Nat := (t.filter fun x => decide (p < x)).length
def ownN (t : List Int) (both : Bool) (p : Int) : Int := if both = true ∧ rightN t p < leftN t p then (rightN t p : Int) else (leftN t p : Int)
theorem own_le {t : List Int} (h : Seats t) (both : Bool) (p : Int) : 0 ≤ ownN t both p ∧ ownN t both p ≤ 32 := by
 have hl := seats_len h
 have h1 : leftN t p ≤ t.length := List.length_filter_le _ _
 have h2 : rightN t p ≤ t.length := List.length_filter_le _ _
 unfold ownN
 split <;> omega
theorem spec_own_eq (s : Int) (ring : Bool) (t : List Int) (p : Int) (both : Bool) (ht : t.length ≤ 1048576) (k : Nat) (hk : t.length < k) : spec_l10Stands.f k s ring t p both = some (ownN t both p) := by
 unfold spec_l10Stands.f
 rw [spec_between_eq s ring t p ht k hk, Option.bind_some]
 dsimp only
 cases both with
 | true =>
  rw [if_pos rfl]
  unfold spec_l1Least.f ownN leftN rightN
  by_cases g : (t.filter fun x => decide (p < x)).length < (t.filter fun x => decide (x < p)).length
  ·rw [if_neg (by omega), Option.bind_some, if_pos ⟨rfl, g⟩]
  ·by_cases g2 : (t.filter fun x => decide (x < p)).length < (t.filter fun x => decide (p < x)).length
   ·rw [if_pos (by omega), Option.bind_some, if_neg (fun e => g e.2)]
   ·rw [if_neg (by omega), Option.bind_some, if_neg (fun e => g e.2)]
    refine congrArg some ?_
    omega
 | false =>
  rw [if_neg (by simp)]
  unfold ownN leftN
  rw [if_neg (by simp)]
theorem impl_own_eq {t : List Int} (h : Seats t) (p : Int) (h0 : 0 ≤ p) (h1 : p ≤ 23) (hp : p ∉ t) (both : Bool) : ∃ z, impl_stands.f ((setN t : Nat) : Int) p both = some (ownN t both p, z) := by
 rw [impl_stands_eq h p h0 h1, filter_ge t p hp]
 unfold ownN leftN rightN
 by_cases g : both = true ∧ (t.filter fun x => decide (p < x)).length < (t.filter fun x => decide (x < p)).length
 ·rw [if_pos g, if_pos g]; exact ⟨_, rfl⟩
 ·rw [if_neg g, if_neg g]; exact ⟨_, rfl⟩

theorem ctz_lowest (s a : Nat) (ha : s.testBit a = true) (hl : ∀ j, j < a → s.testBit j = false) (h : s < 2 ^ 32) : Lib.ctz 32 s = a := by
 have h0 : s ≠ 0 := fun e => by rw [e] at ha; simp at ha
 unfold Lib.ctz
 rw [if_neg h0]
 obtain ⟨m, hm, hf⟩ := Lib.ctzFrom_spec 32 s (by omega) h
 generalize Lib.ctzFrom 32 s = c at hm hf
 rcases Nat.lt_trichotomy c a with g | g | g
 ·have := hl c g
  rw [hm, Nat.testBit_two_pow_mul] at this
  simp at this
 ·exact g
 ·rw [hm, Nat.testBit_two_pow_mul] at ha
  simp at ha
  omega
theorem and_pred (q a : Nat) : (2 ^ (a + 1) * q + 2 ^ a) &&& (2 ^ (a + 1) * q + 2 ^ a - 1) = 2 ^ (a + 1) * q := by
 have p : 0 < 2 ^ a := Nat.two_pow_pos a
 have l1 : 2 ^ a < 2 ^ (a + 1) := Nat.pow_lt_pow_right (by omega) (by omega)
 refine Nat.eq_of_testBit_eq fun j => ?_
 rw [show 2 ^ (a + 1) * q + 2 ^ a - 1 = 2 ^ (a + 1) * q + (2 ^ a - 1) from by omega, Nat.testBit_and, Nat.testBit_two_pow_mul_add q l1 j, Nat.testBit_two_pow_mul_add q (show 2 ^ a - 1 < 2 ^ (a + 1) by omega) j, Nat.testBit_two_pow_mul]
 by_cases g : j < a + 1
 ·rw [if_pos g, if_pos g, decide_eq_false (by omega : ¬ a + 1 ≤ j), Bool.false_and, Nat.testBit_two_pow, Nat.testBit_two_pow_sub_one]
  by_cases e : a = j
  ·subst e; simp
  ·simp [e]
 ·rw [if_neg g, if_neg g, decide_eq_true (by omega : a + 1 ≤ j), Bool.true_and, Bool.and_self]
theorem setN_cons (a : Int) (L : List Int) : setN (a :: L) = 2 ^ a.toNat ||| setN L := by
 refine Nat.eq_of_testBit_eq fun j => ?_
 rw [testBit_setN, Nat.testBit_or, Nat.testBit_two_pow, testBit_setN, Bool.eq_iff_iff]
 simp
theorem setN_split (a : Nat) (L : List Int) (hL : ∀ x ∈ L, (a : Int) < x) : ∃ q, setN L = 2 ^ (a + 1) * q ∧ setN ((a : Int) :: L) = 2 ^ (a + 1) * q + 2 ^ a := by
 have e : setN L = 2 ^ (a + 1) * (setN L / 2 ^ (a + 1)) := by
  have hz : setN L % 2 ^ (a + 1) = 0 := by
   refine Nat.eq_of_testBit_eq fun j => ?_
   rw [Nat.testBit_mod_two_pow, testBit_setN]
   by_cases g : j < a + 1
   ·have : ¬ ∃ p ∈ L, p.toNat = j := fun ⟨p, hp, e⟩ => by have := hL p hp; omega
    rw [decide_eq_false this]
    simp
   ·rw [decide_eq_false g]
    simp
  have := Nat.mod_add_div (setN L) (2 ^ (a + 1))
  omega
 refine ⟨setN L / 2 ^ (a + 1), e, ?_⟩
 have l1 : 2 ^ a < 2 ^ (a + 1) := Nat.pow_lt_pow_right (by omega) (by omega)
 rw [setN_cons, Int.toNat_natCast]
 generalize setN L / 2 ^ (a + 1) = q at e
 rw [e, Nat.or_comm, Nat.two_pow_add_eq_or_of_lt l1]
theorem set_list_l0 (L : List Int) : ∀ (out : List Int) (k : Nat), L.Pairwise (· < ·) → (∀ x ∈ L, 0 ≤ x ∧ x < 32) → out.length + L.length ≤ 1000 → L.length < k → impl_set_list.l0 k ((setN L : Nat) : Int) out = some (out ++ L) := by
 induction L with
 | nil =>
  intro out k _ _ _ hk
  obtain ⟨k, rfl, _⟩ := fuel hk
  simp only [impl_set_list.l0]
  rw [if_pos (show ((setN [] : Nat) : Int) = 0 from rfl), List.append_nil]
 | cons b L ih =>
  intro out k hp hb ho hk
  obtain ⟨k, rfl, hk'⟩ := fuel hk
  rw [List.length_cons] at ho hk'
  obtain ⟨h1, h2⟩ := List.pairwise_cons.1 hp
  have hb0 := hb b List.mem_cons_self
  obtain ⟨a, rfl⟩ : ∃ a : Nat, b = a := ⟨b.toNat, by omega⟩
  obtain ⟨q, e1, e2⟩ := setN_split a L h1
  have hlt : setN ((a : Int) :: L) < 4294967296 := setN_u32 _ fun p hp => (hb p hp).2
  have hlt2 : setN L < 4294967296 := setN_u32 _ fun p hp => (hb p (List.mem_cons_of_mem _ hp)).2
  have pa : 0 < 2 ^ a := Nat.two_pow_pos a
  have hctz : Lib.ctz 32 (setN ((a : Int) :: L)) = a := by
   refine ctz_lowest _ a ?_ (fun j hj => ?_) hlt
   ·rw [testBit_setN]
    exact decide_eq_true ⟨a, List.mem_cons_self, Int.toNat_natCast a⟩
   ·rw [testBit_setN]
    refine decide_eq_false fun ⟨p, hp, e⟩ => ?_
    rcases List.mem_cons.1 hp with g | g
    ·omega
    ·have := h1 p g; omega
  simp only [impl_set_list.l0]
  rw [if_neg (by omega)]
  have ef : bits_TrailingZeros32.f ((setN ((a : Int) :: L) : Nat) : Int) = some (a : Int) := by
   unfold bits_TrailingZeros32.f
   rw [if_pos (by omega), Int.toNat_natCast, hctz]
  rw [ef, Option.bind_some, if_pos (by omega)]
  have em : (((setN ((a : Int) :: L) : Nat) : Int) - 1) % 4294967296 = ((setN ((a : Int) :: L) - 1 : Nat) : Int) := by omega
  rw [em, and_cast _ _ hlt (by omega), e2, and_pred, ← e1, ih (out ++ [(a : Int)]) k h2 (fun x hx => hb x (List.mem_cons_of_mem _ hx)) (by simp; omega) (by omega), List.append_assoc]
  rfl
theorem taken_lt (s : Int) (ring : Bool) (t : List Int) (hr : RowOK s ring t) : (∀ x ∈ t, 0 ≤ x ∧ x < 32) ∧ setN t < 4294967296 := by
 have hm := rising_mem t _ _ hr.2.2
 have h24 := hr.1
 exact ⟨fun x hx => by have := hm x hx; omega, setN_u32 t fun x hx => by have := hm x hx; omega⟩
theorem impl_taken_eq (s : Int) (ring : Bool) (t : List Int) (hr : RowOK s ring t) (k : Nat) (hk : t.length < k) : impl_Row_taken.f k s ring t = some ((setN t : Nat) : Int) := by
 unfold impl_Row_taken.f
 have := row_len s ring t hr
 rw [impl_setOf_eq t (by omega) (taken_lt s ring t hr).1 k hk, Option.bind_some]

theorem impl_free_eq (s : Int) (ring : Bool) (t : List Int) (hr : RowOK s ring t) (k : Nat) (hk : t.length < k) : impl_Row_free.f k s ring t = some ((andN (2 ^ s.toNat - 1) (setN t) : Nat) : Int) := by
 unfold impl_Row_free.f
 have h24 := hr.1
 have hp : 2 ^ s.toNat < 2 ^ 32 := Nat.pow_lt_pow_right (by omega) (by omega)
 rw [impl_Row_bench.f, Option.bind_some]
 dsimp only
 unfold impl_bench_all.f
 rw [if_pos (by omega), Option.bind_some, impl_taken_eq s ring t hr k hk, Option.bind_some, all_cast s (by omega) (by omega), andNot_cast _ _ (by omega) (taken_lt s ring t hr).2]
theorem spec_l1Has_l0 (l : List Int) (n : Int) (hl : l.length ≤ 1048576) (d : Nat) : ∀ (k i : Nat), i ≤ l.length → l.length - i = d → d < k → spec_l1Has.l0 k l n i = some (decide (n ∈ l.drop i)) := by
 induction d with
 | zero =>
  intro k i hi hd hk
  obtain ⟨k, rfl, _⟩ := fuel hk
  simp only [spec_l1Has.l0]
  rw [if_neg (by omega), List.drop_eq_nil_of_le (by omega)]
  simp
 | succ d ih =>
  intro k i hi hd hk
  obtain ⟨k, rfl, _⟩ := fuel hk
  simp only [spec_l1Has.l0]
  rw [if_pos (by omega), if_pos (by omega), wrap_one (n := l.length) (by omega) (by omega), rd_get l i (by omega), ih k (i + 1) (by omega) (by omega) (by omega)]
  rw [List.drop_eq_getElem_cons (l := l) (i := i) (by omega)]
  by_cases h : l[i]'(by omega) = n
  ·rw [if_pos h, h]
   simp
  ·rw [if_neg h]
   refine congrArg some ?_
   rw [decide_eq_decide, List.mem_cons]
   exact ⟨.inr, fun e => e.resolve_left fun e => h e.symm⟩
theorem spec_l1Has_eq (l : List Int) (n : Int) (hl : l.length ≤ 1048576) (k : Nat) (hk : l.length < k) : spec_l1Has.f k l n = some (decide (n ∈ l)) := by
 have := spec_l1Has_l0 l n hl l.length k 0 (by omega) (by omega) hk
 exact this

theorem spec_l2Is_ev (s : Int) (ring : Bool) (t : List Int) (p : Int) (ht : t.length ≤ 1048576) : Ev (fun k => spec_l2Is.f k s ring t p) (decide (p ∈ t)) :=
 Ev.bound t.length fun k hk => by
  unfold spec_l2Is.f
  rw [spec_l1Has_eq t p ht k hk, Option.bind_some]

theorem sorted_ext : ∀ {a b : List Int}, a.Pairwise (· < ·) → b.Pairwise (· < ·) → (∀ x, x ∈ a ↔ x ∈ b) → a = b
 | [], [], _, _, _ => rfl
 | [], y :: b, _, _, h => absurd ((h y).2 List.mem_cons_self) (by simp)
 | x :: a, [], _, _, h => absurd ((h x).1 List.mem_cons_self) (by simp)
 | x :: a, y :: b, ha, hb, h => by
  have ha' := List.pairwise_cons.1 ha
  have hb' := List.pairwise_cons.1 hb
  have hxy : x = y := by
   rcases List.mem_cons.1 ((h x).1 List.mem_cons_self) with e | e
   ·exact e
   ·rcases List.mem_cons.1 ((h y).2 List.mem_cons_self) with e2 | e2
    ·exact e2.symm
    ·have := hb'.1 x e
     have := ha'.1 y e2
     omega
  subst hxy
  refine congrArg (x :: ·) (sorted_ext ha'.2 hb'.2 fun z => ⟨fun hz => ?_, fun hz => ?_⟩)
  ·rcases List.mem_cons.1 ((h z).1 (List.mem_cons_of_mem _ hz)) with e | e
   ·have := ha'.1 z hz
    omega
   ·exact e
  ·rcases List.mem_cons.1 ((h z).2 (List.mem_cons_of_mem _ hz)) with e | e
   ·have := hb'.1 z hz
    omega
   ·exact e
def freeL (s : Int) (t : List Int) : List Int := ((List.range s.toNat).map fun i : Nat => (i : Int)).filter fun x => decide (x ∉ t)
theorem mem_freeL {s : Int} {t : List Int} {x : Int} : x ∈ freeL s t ↔ (0 ≤ x ∧ x < s) ∧ x ∉ t := by
 unfold freeL
 rw [List.mem_filter, List.mem_map, decide_eq_true_eq]
 constructor
 ·rintro ⟨⟨i, hi, rfl⟩, h⟩
  have := List.mem_range.1 hi
  exact ⟨⟨by omega, by omega⟩, h⟩
 ·rintro ⟨⟨h0, h1⟩, h⟩
  exact ⟨⟨x.toNat, List.mem_range.2 (by omega), by omega⟩, h⟩
theorem freeL_pairwise (s : Int) (t : List Int) : (freeL s t).Pairwise (· < ·) := by
 unfold freeL
 refine List.Pairwise.filter _ (List.Pairwise.map _ ?_ List.pairwise_lt_range)
 intro a b h
 show (a : Int) < (b : Int)
 omega
theorem nodup_of_up {t : List Int} (h : t.Pairwise (· < ·)) : t.Nodup := h.imp fun {a b} hab => by
 show a ≠ b
 have : a < b := hab
 omega
structure Tk (s : Int) (t : List Int) : Prop where
 up : t.Pairwise (· < ·)
 inn : ∀ x ∈ t, 0 ≤ x ∧ x < s
theorem Tk.seats {s : Int} {t : List Int} (h : Tk s t) (hs : s ≤ 24) : Seats t := ⟨fun x hx => by
 have := h.inn x hx
 omega, nodup_of_up h.up⟩
theorem Tk.put {s : Int} {t : List Int} (h : Tk s t) {p : Int} (hp : p ∈ freeL s t) : Tk s (putL t p) := ⟨put_pairwise t p h.up, fun x hx => by
 rcases (mem_put t p x (mem_freeL.1 hp).2).1 hx with rfl | g
 ·exact (mem_freeL.1 hp).1
 ·exact h.inn x g⟩
theorem row_tk {s : Int} {ring : Bool} {t : List Int} (h : RowOK s ring t) : Tk s t := ⟨row_pairwise h, fun x hx => by
 have := rising_mem t _ _ h.2.2 x hx
 omega⟩
theorem freeL_put {s : Int} {t : List Int} {p : Int} (hp : p ∈ freeL s t) : freeL s (putL t p) = (freeL s t).filter fun x => decide (x ≠ p) := by
 refine sorted_ext (freeL_pairwise _ _) (List.Pairwise.filter _ (freeL_pairwise _ _)) fun x => ?_
 rw [mem_freeL, List.mem_filter, mem_freeL, mem_put t p x (mem_freeL.1 hp).2, decide_eq_true_eq]
 constructor
 ·rintro ⟨h1, h2⟩
  exact ⟨⟨h1, fun h => h2 (.inr h)⟩, fun h => h2 (.inl h)⟩
 ·rintro ⟨⟨h1, h2⟩, h3⟩
  exact ⟨h1, fun h => h.elim h3 h2⟩
theorem filter_ne_len {p : Int} : ∀ (l : List Int), l.Nodup → p ∈ l → (l.filter fun x => decide (x ≠ p)).length + 1 = l.length
 | [], _, h => absurd h (by simp)
 | x :: l, hn, h => by
  have hn' := List.nodup_cons.1 hn
  by_cases e : x = p
  ·subst e
   rw [List.filter_cons_of_neg (by simp)]
   have : l.filter (fun y => decide (y ≠ x)) = l := List.filter_eq_self.2 fun y hy => by
    rw [decide_eq_true_eq]
    rintro rfl
    exact hn'.1 hy
   rw [this]
   rfl
  ·rw [List.filter_cons_of_pos (by simpa using e)]
   have := filter_ne_len l hn'.2 ((List.mem_cons.1 h).resolve_left fun h => e h.symm)
   simp only [List.length_cons]
   omega
theorem freeL_put_len {s : Int} {t : List Int} {p : Int} (hp : p ∈ freeL s t) : (freeL s (putL t p)).length + 1 = (freeL s t).length := by
 rw [freeL_put hp]
 exact filter_ne_len _ (nodup_of_up (freeL_pairwise s t)) hp
theorem freeL_set {s : Int} {t : List Int} (h : Tk s t) : andN (2 ^ s.toNat - 1) (setN t) = setN (freeL s t) := by
 refine setN_ext _ _ fun i => ?_
 rw [testBit_andN, testBit_all, testBit_setN, Bool.and_eq_true, decide_eq_true_eq, Bool.not_eq_true', decide_eq_false_iff_not]
 constructor
 ·rintro ⟨h1, h2⟩
  exact ⟨(i : Int), mem_freeL.2 ⟨by omega, fun h3 => h2 ⟨(i : Int), h3, by omega⟩⟩, by omega⟩
 ·rintro ⟨p, hp, rfl⟩
  have hp' := mem_freeL.1 hp
  refine ⟨by omega, ?_⟩
  rintro ⟨q, hq, e⟩
  have := h.inn q hq
  have : q = p := by omega
  subst this
  exact hp'.2 hq
theorem freeL_len {s : Int} {t : List Int} (h : Tk s t) (hs : 0 ≤ s) : (freeL s t).length + t.length = s.toNat := by
 have e : t = ((List.range s.toNat).map fun i : Nat => (i : Int)).filter fun x => decide (x ∈ t) := by
  refine sorted_ext h.up (List.Pairwise.filter _ (List.Pairwise.map _ ?_ List.pairwise_lt_range)) fun x => ?_
  ·intro a b h
   show (a : Int) < (b : Int)
   omega
  ·rw [List.mem_filter, List.mem_map, decide_eq_true_eq]
   constructor
   ·intro hx
    have := h.inn x hx
    exact ⟨⟨x.toNat, List.mem_range.2 (by omega), by omega⟩, hx⟩
   ·exact fun hx => hx.2
 have h2 : ∀ l : List Int, (l.filter fun x => decide (x ∉ t)).length + (l.filter fun x => decide (x ∈ t)).length = l.length := by
  intro l
  induction l with
  | nil => rfl
  | cons x l ih =>
   by_cases g : x ∈ t
   ·rw [List.filter_cons_of_neg (by simpa using g), List.filter_cons_of_pos (by simpa using g)]
    simp only [List.length_cons]
    omega
   ·rw [List.filter_cons_of_pos (by simpa using g), List.filter_cons_of_neg (by simpa using g)]
    simp only [List.length_cons]
    omega
 have h3 := h2 ((List.range s.toNat).map fun i : Nat => (i : Int))
 rw [← e] at h3
 simpa [freeL] using h3
def loV (own X : Int → Int) : List Int → Int → Int
 | [], b => b
 | p :: ps, b => loV own X ps (if b < 0 then own p + X p else if own p + X p < b then own p + X p else b)
def Vn (s : Int) (both : Bool) : Nat → List Int → Int
 | 0, _ => 0
 | n + 1, t => loV (ownN t both) (fun p => Vn s both n (putL t p)) (freeL s t) (-1)
theorem loV_bound {own X : Int → Int} {M : Int} : ∀ (ps : List Int) (b : Int), (∀ p ∈ ps, 0 ≤ own p + X p ∧ own p + X p ≤ M) → -1 ≤ b → b ≤ M → -1 ≤ loV own X ps b ∧ loV own X ps b ≤ M ∧ (ps ≠ [] ∨ 0 ≤ b → 0 ≤ loV own X ps b)
 | [], b, _, h0, h1 => ⟨h0, h1, fun h => h.elim (fun h => absurd rfl h) id⟩
 | p :: ps, b, hp, h0, h1 => by
  have hq := hp p List.mem_cons_self
  unfold loV
  have key : 0 ≤ (if b < 0 then own p + X p else if own p + X p < b then own p + X p else b) ∧ (if b < 0 then own p + X p else if own p + X p < b then own p + X p else b) ≤ M := by
   split
   ·exact hq
   ·split
    ·exact hq
    ·omega
  have ih := loV_bound ps _ (fun q hq => hp q (List.mem_cons_of_mem _ hq)) (by omega : -1 ≤ (if b < 0 then own p + X p else if own p + X p < b then own p + X p else b)) key.2
  exact ⟨ih.1, ih.2.1, fun _ => ih.2.2 (.inr key.1)⟩
theorem Vn_bound {s : Int} (hs : s ≤ 24) (both : Bool) : ∀ (n : Nat) (t : List Int), Tk s t → (freeL s t).length = n → 0 ≤ Vn s both n t ∧ Vn s both n t ≤ 32 * (n : Int)
 | 0, _, _, _ => by simp [Vn]
 | n + 1, t, h, hl => by
  have hne : freeL s t ≠ [] := fun e => by rw [e] at hl; simp at hl
  have := loV_bound (own := ownN t both) (X := fun p => Vn s both n (putL t p)) (M := 32 * ((n + 1 : Nat) : Int)) (freeL s t) (-1) (fun p hp => by
   have h1 := own_le (h.seats hs) both p
   have h2 := Vn_bound hs both n (putL t p) (h.put hp) (by have := freeL_put_len hp; omega)
   show 0 ≤ ownN t both p + Vn s both n (putL t p) ∧ _
   omega) (by omega) (by omega)
  exact ⟨this.2.2 (.inl hne), this.2.1⟩
theorem impl_lo_eq {S : Int → Option Int} {t : List Int} {both : Bool} {X : Int → Int} {M : Int} (hM : M ≤ 100000) (ht : Seats t) : ∀ (ps : List Int) (b : Int), (∀ p ∈ ps, (0 ≤ p ∧ p ≤ 23) ∧ p ∉ t ∧ S ((setN (putL t p) : Nat) : Int) = some (X p) ∧ 0 ≤ ownN t both p + X p ∧ ownN t both p + X p ≤ M) → impl_BestArrival.lo S ((setN t : Nat) : Int) both ps b = some (loV (ownN t both) X ps b)
 | [], b, _ => rfl
 | p :: ps, b, hp => by
  obtain ⟨h0, h1, h2, h3, h4⟩ := hp p List.mem_cons_self
  obtain ⟨z, hz⟩ := impl_own_eq ht p h0.1 h0.2 h1 both
  have h5 : 2 ^ p.toNat < 2 ^ 32 := Nat.pow_lt_pow_right (by omega) (by omega)
  simp only [impl_BestArrival.lo]
  rw [if_pos h0.1, hz, Option.bind_some, shl_one p h0.1 (by omega), or_cast _ _ (seats_lt ht) (by omega), put_set t p h1, h2, Option.bind_some]
  dsimp only
  rw [wrap_id (by omega) (by omega)]
  exact impl_lo_eq hM ht ps _ fun q hq => hp q (List.mem_cons_of_mem _ hq)
theorem set_list_eq (L : List Int) (hp : L.Pairwise (· < ·)) (hb : ∀ x ∈ L, 0 ≤ x ∧ x < 32) (hl : L.length ≤ 100) (k : Nat) (hk : L.length < k) : impl_set_list.f k ((setN L : Nat) : Int) = some L := by
 unfold impl_set_list.f
 have := set_list_l0 L [] k hp hb (by simp; omega) hk
 rwa [List.nil_append] at this
theorem impl_le_eq {s : Int} (h0 : 0 ≤ s) (hs : s ≤ 24) (both : Bool) (k : Nat) (hk : 24 < k) : ∀ (n : Nat) (t : List Int) (d : Nat), Tk s t → (freeL s t).length = n → n < d → impl_BestArrival.le k ((2 ^ s.toNat - 1 : Nat) : Int) both d ((setN t : Nat) : Int) = some (Vn s both n t)
 | n, t, 0, _, _, hd => absurd hd (by omega)
 | 0, t, d + 1, h, hl, _ => by
  have he : freeL s t = [] := List.length_eq_zero_iff.1 hl
  have hall : setN t = 2 ^ s.toNat - 1 := by
   refine Nat.eq_of_testBit_eq fun i => ?_
   rw [testBit_setN, testBit_all, Bool.eq_iff_iff, decide_eq_true_eq, decide_eq_true_eq]
   constructor
   ·rintro ⟨p, hp, rfl⟩
    have := h.inn p hp
    omega
   ·intro hi
    by_cases g : (i : Int) ∈ t
    ·exact ⟨_, g, by omega⟩
    ·have : (i : Int) ∈ freeL s t := mem_freeL.2 ⟨by omega, g⟩
     rw [he] at this
     simp at this
  simp only [impl_BestArrival.le]
  rw [if_pos (by rw [hall])]
  rfl
 | n + 1, t, d + 1, h, hl, hd => by
  have hsE := h.seats hs
  have hp2 : 2 ^ s.toNat < 2 ^ 32 := Nat.pow_lt_pow_right (by omega) (by omega)
  have hne : ¬ ((setN t : Nat) : Int) = ((2 ^ s.toNat - 1 : Nat) : Int) := by
   intro e
   obtain ⟨p, hp⟩ := List.exists_mem_of_ne_nil (freeL s t) (fun e => by rw [e] at hl; simp at hl)
   have hp' := mem_freeL.1 hp
   have hb : (setN t).testBit p.toNat = true := by
    rw [show setN t = 2 ^ s.toNat - 1 from by omega, testBit_all, decide_eq_true_eq]
    omega
   rw [testBit_setN, decide_eq_true_eq] at hb
   obtain ⟨q, hq, e⟩ := hb
   have := h.inn q hq
   have : q = p := by omega
   subst this
   exact hp'.2 hq
  have hlen : (freeL s t).length ≤ 24 := by
   have := freeL_len h h0
   omega
  simp only [impl_BestArrival.le]
  rw [if_neg hne, andNot_cast _ _ (by omega) (seats_lt hsE), freeL_set h, set_list_eq _ (freeL_pairwise s t) (fun x hx => by have := mem_freeL.1 hx; omega) (by omega) k (by omega), Option.bind_some, if_pos (by omega)]
  refine impl_lo_eq (M := 32 * ((n + 1 : Nat) : Int)) (by omega) hsE (freeL s t) (-1) fun p hp => ?_
  have hp' := mem_freeL.1 hp
  have hpl : (freeL s (putL t p)).length = n := by have := freeL_put_len hp; omega
  have h1 := own_le hsE both p
  have h2 := Vn_bound hs both n (putL t p) (h.put hp) hpl
  exact ⟨by omega, hp'.2, impl_le_eq h0 hs both k hk n (putL t p) d (h.put hp) hpl (by omega), by omega, by omega⟩

theorem testBit_add_pow (c i j : Nat) (h : c.testBit i = false) : (c + 2 ^ i).testBit j = (c.testBit j || decide (j = i)) := by
 have he : c / 2 ^ i % 2 = 0 := by
  rw [Nat.testBit_eq_decide_div_mod_eq, decide_eq_false_iff_not] at h
  omega
 rw [Nat.add_comm]
 rcases Nat.lt_trichotomy j i with g | g | g
 ·rw [Nat.testBit_two_pow_add_gt g, decide_eq_false (by omega), Bool.or_false]
 ·subst g
  rw [Nat.testBit_two_pow_add_eq, h]
  simp
 ·have hp : 0 < 2 ^ i := Nat.two_pow_pos i
  have e : (2 ^ i + c) / 2 ^ (i + 1) = c / 2 ^ (i + 1) := by
   rw [Nat.pow_succ, ← Nat.div_div_eq_div_mul, ← Nat.div_div_eq_div_mul, Nat.add_div_left _ hp]
   omega
  obtain ⟨d, rfl⟩ : ∃ d, j = d + (i + 1) := ⟨j - (i + 1), by omega⟩
  rw [← Nat.testBit_div_two_pow, e, Nat.testBit_div_two_pow, decide_eq_false (by omega), Bool.or_false]
def rowC (F t0 : List Int) (c : Nat) : Nat → List Int
 | 0 => t0
 | j + 1 => if c.testBit j = true then putL (rowC F t0 c j) (F.getD j 0) else rowC F t0 c j
theorem rowC_spec {s : Int} {t0 : List Int} (h0 : Tk s t0) (c : Nat) : ∀ j, j ≤ (freeL s t0).length → Tk s (rowC (freeL s t0) t0 c j) ∧ ∀ x, x ∈ rowC (freeL s t0) t0 c j ↔ x ∈ t0 ∨ ∃ i, i < j ∧ c.testBit i = true ∧ (freeL s t0).getD i 0 = x
 | 0, _ => ⟨h0, fun x => by simp [rowC]⟩
 | j + 1, hj => by
  obtain ⟨h1, h2⟩ := rowC_spec h0 c j (by omega)
  by_cases g : c.testBit j = true
  ·have hget : (freeL s t0).getD j 0 = (freeL s t0)[j] := by simp [List.getD, show j < (freeL s t0).length from by omega]
   have hm : (freeL s t0).getD j 0 ∈ freeL s t0 := by rw [hget]; exact List.getElem_mem _
   have hm' := mem_freeL.1 hm
   have hnot : (freeL s t0).getD j 0 ∉ rowC (freeL s t0) t0 c j := by
    intro hx
    rcases (h2 _).1 hx with e | ⟨i, hi, _, e⟩
    ·exact hm'.2 e
    ·have hgi : (freeL s t0).getD i 0 = (freeL s t0)[i]'(by omega) := by simp [List.getD, show i < (freeL s t0).length from by omega]
     have := List.pairwise_iff_getElem.1 (freeL_pairwise s t0) i j (by omega) (by omega) hi
     rw [hgi, hget] at e
     omega
   have e : rowC (freeL s t0) t0 c (j + 1) = putL (rowC (freeL s t0) t0 c j) ((freeL s t0).getD j 0) := by rw [rowC, if_pos g]
   rw [e]
   refine ⟨h1.put (mem_freeL.2 ⟨hm'.1, hnot⟩), fun x => ?_⟩
   rw [mem_put _ _ x hnot, h2]
   constructor
   ·rintro (rfl | h | ⟨i, hi, hb, e⟩)
    ·exact .inr ⟨j, by omega, g, rfl⟩
    ·exact .inl h
    ·exact .inr ⟨i, by omega, hb, e⟩
   ·rintro (h | ⟨i, hi, hb, e'⟩)
    ·exact .inr (.inl h)
    ·by_cases hij : i = j
     ·subst hij
      exact .inl e'.symm
     ·exact .inr (.inr ⟨i, by omega, hb, e'⟩)
  ·have e : rowC (freeL s t0) t0 c (j + 1) = rowC (freeL s t0) t0 c j := by rw [rowC, if_neg g]
   rw [e]
   refine ⟨h1, fun x => ?_⟩
   rw [h2]
   constructor
   ·rintro (h | ⟨i, hi, hb, e⟩)
    ·exact .inl h
    ·exact .inr ⟨i, by omega, hb, e⟩
   ·rintro (h | ⟨i, hi, hb, e⟩)
    ·exact .inl h
    ·by_cases hij : i = j
     ·subst hij
      exact absurd hb g
     ·exact .inr ⟨i, by omega, hb, e⟩
theorem rowC_bit {s : Int} {t0 : List Int} (h0 : Tk s t0) (c i : Nat) (hi : i < (freeL s t0).length) (hb : c.testBit i = false) :
  (freeL s t0).getD i 0 ∉ rowC (freeL s t0) t0 c (freeL s t0).length ∧ rowC (freeL s t0) t0 (c + 2 ^ i) (freeL s t0).length = putL (rowC (freeL s t0) t0 c (freeL s t0).length) ((freeL s t0).getD i 0) := by
 obtain ⟨h1, h2⟩ := rowC_spec h0 c _ (Nat.le_refl _)
 obtain ⟨h3, h4⟩ := rowC_spec h0 (c + 2 ^ i) _ (Nat.le_refl _)
 have hget : ∀ q (hq : q < (freeL s t0).length), (freeL s t0).getD q 0 = (freeL s t0)[q] := fun q hq => by simp [List.getD, hq]
 have hm : (freeL s t0).getD i 0 ∈ freeL s t0 := by rw [hget i hi]; exact List.getElem_mem _
 have hinj : ∀ q, q < (freeL s t0).length → (freeL s t0).getD q 0 = (freeL s t0).getD i 0 → q = i := fun q hq e => by
  rw [hget q hq, hget i hi] at e
  rcases Nat.lt_trichotomy q i with g | g | g
  ·have := List.pairwise_iff_getElem.1 (freeL_pairwise s t0) q i hq hi g
   omega
  ·exact g
  ·have := List.pairwise_iff_getElem.1 (freeL_pairwise s t0) i q hi hq g
   omega
 have hnot : (freeL s t0).getD i 0 ∉ rowC (freeL s t0) t0 c (freeL s t0).length := by
  intro hx
  rcases (h2 _).1 hx with e | ⟨q, hq, hqb, e⟩
  ·exact (mem_freeL.1 hm).2 e
  ·have := hinj q hq e
   subst this
   rw [hb] at hqb
   exact absurd hqb (by simp)
 refine ⟨hnot, sorted_ext h3.up (put_pairwise _ _ h1.up) fun x => ?_⟩
 rw [h4, mem_put _ _ x hnot, h2]
 constructor
 ·rintro (h | ⟨q, hq, hqb, e⟩)
  ·exact .inr (.inl h)
  ·rw [testBit_add_pow c i q hb, Bool.or_eq_true, decide_eq_true_eq] at hqb
   rcases hqb with g | rfl
   ·exact .inr (.inr ⟨q, hq, g, e⟩)
   ·exact .inl e.symm
 ·rintro (rfl | h | ⟨q, hq, hqb, e⟩)
  ·exact .inr ⟨i, hi, by rw [testBit_add_pow c i i hb]; simp, rfl⟩
  ·exact .inl h
  ·exact .inr ⟨q, hq, by rw [testBit_add_pow c i q hb, hqb, Bool.true_or], e⟩
def un (c : Nat) : Nat → List Int → List Int
 | _, [] => []
 | i, p :: ps => if c.testBit i = true then un c (i + 1) ps else p :: un c (i + 1) ps
theorem mem_un (c : Nat) : ∀ (L : List Int) (i : Nat) (x : Int), x ∈ un c i L ↔ ∃ q, q < L.length ∧ c.testBit (i + q) = false ∧ L.getD q 0 = x
 | [], i, x => by simp [un]
 | p :: ps, i, x => by
  have ih := mem_un c ps (i + 1) x
  have hsh : (∃ q, q < (p :: ps).length ∧ c.testBit (i + q) = false ∧ (p :: ps).getD q 0 = x) ↔ (c.testBit i = false ∧ p = x) ∨ ∃ q, q < ps.length ∧ c.testBit (i + 1 + q) = false ∧ ps.getD q 0 = x := by
   constructor
   ·rintro ⟨q, hq, hb, e⟩
    cases q with
    | zero => exact .inl ⟨by simpa using hb, by simpa using e⟩
    | succ q => exact .inr ⟨q, by simpa using hq, by rw [show i + 1 + q = i + (q + 1) from by omega]; exact hb, by simpa using e⟩
   ·rintro (⟨hb, e⟩ | ⟨q, hq, hb, e⟩)
    ·exact ⟨0, by simp, by simpa using hb, by simpa using e⟩
    ·exact ⟨q + 1, by simpa using hq, by rw [show i + (q + 1) = i + 1 + q from by omega]; exact hb, by simpa using e⟩
  rw [hsh, ← ih, un]
  by_cases g : c.testBit i = true
  ·rw [if_pos g]
   simp [g]
  ·rw [if_neg g, List.mem_cons]
   have g' : c.testBit i = false := by simpa using g
   constructor
   ·rintro (rfl | h)
    ·exact .inl ⟨g', rfl⟩
    ·exact .inr h
   ·rintro (⟨_, rfl⟩ | h)
    ·exact .inl rfl
    ·exact .inr h
theorem un_sub (c : Nat) : ∀ (L : List Int) (i : Nat), (un c i L).Sublist L
 | [], _ => List.Sublist.slnil
 | p :: ps, i => by
  unfold un
  split
  ·exact (un_sub c ps (i + 1)).cons p
  ·exact (un_sub c ps (i + 1)).cons_cons p
theorem free_rowC {s : Int} {t0 : List Int} (h0 : Tk s t0) (c : Nat) : freeL s (rowC (freeL s t0) t0 c (freeL s t0).length) = un c 0 (freeL s t0) := by
 obtain ⟨h1, h2⟩ := rowC_spec h0 c _ (Nat.le_refl _)
 refine sorted_ext (freeL_pairwise _ _) ((freeL_pairwise s t0).sublist (un_sub c _ 0)) fun x => ?_
 rw [mem_freeL, mem_un, h2]
 constructor
 ·rintro ⟨hr, hn⟩
  have hx : x ∈ freeL s t0 := mem_freeL.2 ⟨hr, fun h => hn (.inl h)⟩
  obtain ⟨q, hq, e⟩ := List.getElem_of_mem hx
  have eg : (freeL s t0).getD q 0 = x := by simp [List.getD, hq, e]
  refine ⟨q, hq, ?_, eg⟩
  rw [Nat.zero_add]
  cases g : c.testBit q with
  | false => rfl
  | true => exact absurd (.inr ⟨q, hq, g, eg⟩) hn
 ·rintro ⟨q, hq, hb, e⟩
  rw [Nat.zero_add] at hb
  have hget : (freeL s t0).getD q 0 = (freeL s t0)[q] := by simp [List.getD, hq]
  have hm : x ∈ freeL s t0 := by rw [← e, hget]; exact List.getElem_mem _
  refine ⟨(mem_freeL.1 hm).1, ?_⟩
  have := (rowC_bit h0 c q hq hb).1
  rw [e, h2] at this
  exact this
theorem bit_of (c j : Nat) (hc : c < 9223372036854775808) (hj : j < 64) : (Go.bits .and .i64 (shr .i64 (c : Int) (j : Int)) 1 = 1) ↔ c.testBit j = true := by
 have hd : c / 2 ^ j ≤ c := Nat.div_le_self _ _
 have e1 : shr .i64 (c : Int) (j : Int) = ((c / 2 ^ j : Nat) : Int) := by
  unfold shr
  rw [Int.toNat_natCast, show min j IntKind.i64.bits = j from Nat.min_eq_left (by show j ≤ 64; omega)]
  simp
 have e2 : Go.bits .and .i64 ((c / 2 ^ j : Nat) : Int) 1 = ((c / 2 ^ j &&& 1 : Nat) : Int) :=
  (bits_nat .i64 63 (by decide) (fun n h h' => by rw [IntKind.wrap_i64]; omega) (c / 2 ^ j) 1 (by omega) (by decide)).1
 rw [e1, e2, Nat.and_one_is_mod, Nat.testBit_eq_decide_div_mod_eq, decide_eq_true_eq]
 omega
theorem shl_one64 (m : Nat) (hm : m ≤ 62) : shl .i64 1 (m : Int) = ((2 ^ m : Nat) : Int) := by
 unfold shl
 rw [Int.one_mul, Int.toNat_natCast, show min m IntKind.i64.bits = m from Nat.min_eq_left (by show m ≤ 64; omega)]
 have : 2 ^ m ≤ 2 ^ 62 := Nat.pow_le_pow_right (by omega) hm
 have e : ((2 ^ m : Nat) : Int) = (2 : Int) ^ m := by simp
 rw [← e, IntKind.wrap_i64]
 generalize 2 ^ m = y at *
 omega

open Classical in
theorem spec_l10Line_eq (s : Int) (ring : Bool) (t : List Int) (ht : t.length ≤ 1048576) (k : Nat) (hk : t.length < k) : spec_l10Line.f k s ring t = some (decide (RowOK s ring t ∧ ring = false)) := by
 unfold spec_l10Line.f
 rw [spec_l2Row_eq s ring t ht k hk, Option.bind_some]
 by_cases h : RowOK s ring t
 ·rw [if_pos (decide_eq_true h)]
  refine congrArg some ?_
  cases ring <;> simp [h]
 ·rw [if_neg (by rw [decide_eq_true_eq]; exact h)]
  simp [h]
open Classical in
theorem impl_isLine_eq (s : Int) (ring : Bool) (t : List Int) (ht : t.length ≤ 1048576) (k : Nat) (hk : t.length + 3 < k) : impl_isLine.f k s ring t = some (decide (RowOK s ring t ∧ ring = false)) := by
 unfold impl_isLine.f
 rw [impl_IsRow_eq s ring t ht k hk, Option.bind_some]
 by_cases h : RowOK s ring t
 ·rw [if_pos (decide_eq_true h)]
  refine congrArg some ?_
  cases ring <;> simp [h]
 ·rw [if_neg (by rw [decide_eq_true_eq]; exact h)]
  simp [h]

theorem getD_get (l : List Int) (i : Nat) (h : i < l.length) : l.getD i 0 = l[i] := by simp [List.getD, h]
theorem tab_l2_ev (s : Int) (ring both : Bool) (F t0 tab row : List Int) (c : Nat) (X : Int → Int) (hF : F.length ≤ 10) (hc : c < tab.length) (hl : tab.length ≤ 1024) (hrow : row.length ≤ 1048576)
  (hT : ∀ i, i < F.length → c.testBit i = false → c + 2 ^ i < tab.length ∧ rd tab ((c + 2 ^ i : Nat) : Int) = X (F.getD i 0) ∧ 0 ≤ ownN row both (F.getD i 0) + X (F.getD i 0) ∧ ownN row both (F.getD i 0) + X (F.getD i 0) ≤ 100000) {r : List Int} :
  ∀ d i b, i + d = F.length → Ev (fun k => spec_l10Table.l0 k both F (tab.set c (loV (ownN row both) X (un c i (F.drop i)) b)) ((c : Int) - 1) s ring t0) r → Ev (fun k => spec_l10Table.l2 k both F tab (c : Int) b (i : Int) s ring t0 s ring row) r
 | 0, i, b, hi, h => by
  refine Ev.succ ?_
  simp only [spec_l10Table.l2]
  refine Ev.neg (by omega) (Ev.pos (by omega) (Ev.pos (by omega) ?_))
  rw [List.drop_eq_nil_of_le (by omega), un, loV] at h
  rw [Int.toNat_natCast, wrap_id (by omega) (by omega)]
  exact h
 | d + 1, i, b, hi, h => by
  have ih := tab_l2_ev s ring both F t0 tab row c X hF hc hl hrow hT (r := r) d (i + 1)
  refine Ev.succ ?_
  simp only [spec_l10Table.l2]
  refine Ev.pos (by omega) (Ev.pos (by omega) ?_)
  rw [wrap_one (n := F.length) (by omega) (by omega)]
  rw [List.drop_eq_getElem_cons (show i < F.length from by omega), un] at h
  by_cases g : c.testBit i = true
  ·rw [if_pos g] at h
   exact Ev.pos ((bit_of c i (by omega) (by omega)).2 g) (ih b (by omega) h)
  ·rw [if_neg g, loV] at h
   obtain ⟨h1, h2, h3, h4⟩ := hT i (by omega) (by simpa using g)
   refine Ev.neg (fun e => g ((bit_of c i (by omega) (by omega)).1 e)) ?_
   refine Ev.bind (Ev.bound row.length fun k hk => spec_own_eq s ring row _ both hrow k hk) ?_
   (try dsimp only)
   have e1 : wrap64 ((c : Int) + shl .i64 1 (i : Int)) = ((c + 2 ^ i : Nat) : Int) := by
    rw [shl_one64 i (by omega)]
    generalize 2 ^ i = y at h1
    rw [wrap_id (by omega) (by omega)]
    omega
   have hp2 : 0 < 2 ^ i := Nat.two_pow_pos i
   rw [e1, h2, rd_get F i (by omega)]
   rw [getD_get F i (by omega)] at h3 h4 ⊢
   rw [wrap_id (by omega) (by omega)]
   refine Ev.pos (by omega) (Ev.pos (by omega) ?_)
   by_cases b0 : b < 0
   ·rw [if_pos b0] at h
    exact Ev.pos b0 (ih _ (by omega) h)
   ·rw [if_neg b0] at h
    refine Ev.neg b0 ?_
    by_cases b1 : ownN row both F[i] + X F[i] < b
    ·rw [if_pos b1] at h
     exact Ev.pos b1 (ih _ (by omega) h)
    ·rw [if_neg b1] at h
     exact Ev.neg b1 (ih _ (by omega) h)
theorem tab_l1_ev {s : Int} {ring both : Bool} {t0 tab : List Int} {c : Nat} (h0 : Tk s t0) (hs : s ≤ 24) (hF : (freeL s t0).length ≤ 10) (hc : c < 1024) {r : List Int}
  (h : Ev (fun k => spec_l10Table.l2 k both (freeL s t0) tab (c : Int) (-1) 0 s ring t0 s ring (rowC (freeL s t0) t0 c (freeL s t0).length)) r) :
  ∀ d j, j + d = (freeL s t0).length → Ev (fun k => spec_l10Table.l1 k both (freeL s t0) tab (c : Int) (-1) (j : Int) s ring t0 s ring (rowC (freeL s t0) t0 c j)) r
 | 0, j, hj => by
  refine Ev.succ ?_
  simp only [spec_l10Table.l1]
  have e : j = (freeL s t0).length := by omega
  subst e
  exact Ev.neg (by omega) h
 | d + 1, j, hj => by
  have ih := tab_l1_ev (ring := ring) (both := both) (tab := tab) h0 hs hF hc h d (j + 1) (by omega)
  refine Ev.succ ?_
  simp only [spec_l10Table.l1]
  refine Ev.pos (by omega) (Ev.pos (by omega) ?_)
  rw [wrap_one (n := (freeL s t0).length) (by omega) (by omega)]
  by_cases g : c.testBit j = true
  ·refine Ev.pos ((bit_of c j (by omega) (by omega)).2 g) ?_
   obtain ⟨h1, h2⟩ := rowC_spec h0 c j (by omega)
   have hlen := seats_len (h1.seats hs)
   have hnot : (freeL s t0)[j]'(by omega) ∉ rowC (freeL s t0) t0 c j := by
    intro hx
    rcases (h2 _).1 hx with e | ⟨i, hi, _, e⟩
    ·exact (mem_freeL.1 (List.getElem_mem (show j < (freeL s t0).length from by omega))).2 e
    ·rw [getD_get _ i (by omega)] at e
     have := List.pairwise_iff_getElem.1 (freeL_pairwise s t0) i j (by omega) (by omega) hi
     omega
   refine Ev.bind (a := (s, ring, putL (rowC (freeL s t0) t0 c j) ((freeL s t0)[j]'(by omega)))) (Ev.bound (rowC (freeL s t0) t0 c j).length fun k hk => ?_) ?_
   ·rw [rd_get _ j (by omega)]
    exact spec_l2With_eq s ring _ _ (by omega) (rising_of _ h1.up) hnot k hk
   ·rw [rowC, if_pos g, getD_get _ j (by omega)] at ih
    exact ih
  ·refine Ev.neg (fun e => g ((bit_of c j (by omega) (by omega)).1 e)) ?_
   rw [rowC, if_neg g] at ih
   exact ih
def Wv (s : Int) (both : Bool) (t : List Int) : Int := Vn s both (freeL s t).length t
theorem bits_full {c m : Nat} (hc : c < 2 ^ m) (h : ∀ i, i < m → c.testBit i = true) : c = 2 ^ m - 1 := by
 refine Nat.eq_of_testBit_eq fun i => ?_
 rw [testBit_all]
 by_cases g : i < m
 ·rw [h i g, decide_eq_true g]
 ·rw [decide_eq_false g]
  exact Nat.testBit_lt_two_pow (Nat.lt_of_lt_of_le hc (Nat.pow_le_pow_right (by omega) (by omega)))
theorem add_lt {c i m : Nat} (hc : c < 2 ^ m) (hi : i < m) (hb : c.testBit i = false) : c + 2 ^ i < 2 ^ m := by
 refine Nat.lt_pow_two_of_testBit _ fun j hj => ?_
 rw [testBit_add_pow c i j hb, Nat.testBit_lt_two_pow (Nat.lt_of_lt_of_le hc (Nat.pow_le_pow_right (by omega) hj)), decide_eq_false (by omega)]
 rfl
theorem tab_l0_ev {s : Int} {ring both : Bool} {t0 : List Int} (h0 : Tk s t0) (hs : s ≤ 24) (hF : (freeL s t0).length ≤ 10) : ∀ (n : Nat) (tab : List Int), n ≤ 2 ^ (freeL s t0).length - 1 → tab.length = 2 ^ (freeL s t0).length →
  (∀ c', n ≤ c' → c' < 2 ^ (freeL s t0).length → tab.getD c' 0 = Wv s both (rowC (freeL s t0) t0 c' (freeL s t0).length)) →
  ∃ tab', Ev (fun k => spec_l10Table.l0 k both (freeL s t0) tab ((n : Int) - 1) s ring t0) tab' ∧ tab'.length = 2 ^ (freeL s t0).length ∧ ∀ c', c' < 2 ^ (freeL s t0).length → tab'.getD c' 0 = Wv s both (rowC (freeL s t0) t0 c' (freeL s t0).length)
 | 0, tab, _, hl, hg => ⟨tab, by
   refine Ev.succ ?_
   simp only [spec_l10Table.l0]
   exact Ev.neg (by omega) (Ev.now _), hl, fun c' hc' => hg c' (Nat.zero_le _) hc'⟩
 | n + 1, tab, hn, hl, hg => by
  have hp : 2 ^ (freeL s t0).length ≤ 2 ^ 10 := Nat.pow_le_pow_right (by omega) hF
  obtain ⟨h1, h2⟩ := rowC_spec h0 n _ (Nat.le_refl (freeL s t0).length)
  have hfr := free_rowC h0 n
  have hlen := seats_len (h1.seats hs)
  obtain ⟨i0, hi0, hb0⟩ : ∃ i, i < (freeL s t0).length ∧ n.testBit i = false := by
   by_cases g : ∀ i, i < (freeL s t0).length → n.testBit i = true
   ·have := bits_full (show n < 2 ^ (freeL s t0).length from by omega) g
    omega
   ·simp only [Classical.not_forall] at g
    obtain ⟨i, hi, hb⟩ := g
    exact ⟨i, hi, by simpa using hb⟩
  have hne : freeL s (rowC (freeL s t0) t0 n (freeL s t0).length) ≠ [] := by
   rw [hfr]
   intro e
   have : (freeL s t0).getD i0 0 ∈ un n 0 (freeL s t0) := (mem_un n _ 0 _).2 ⟨i0, hi0, by rw [Nat.zero_add]; exact hb0, rfl⟩
   rw [e] at this
   simp at this
  obtain ⟨q, hq⟩ : ∃ q, (freeL s (rowC (freeL s t0) t0 n (freeL s t0).length)).length = q + 1 := ⟨_, (Nat.succ_pred_eq_of_pos (List.length_pos_iff.2 hne)).symm⟩
  have hWv : Wv s both (rowC (freeL s t0) t0 n (freeL s t0).length) = loV (ownN (rowC (freeL s t0) t0 n (freeL s t0).length) both) (fun p => Vn s both q (putL (rowC (freeL s t0) t0 n (freeL s t0).length) p)) (un n 0 (freeL s t0)) (-1) := by
   unfold Wv
   rw [hq, Vn, hfr]
  obtain ⟨tab', e, hl', hg'⟩ := tab_l0_ev (ring := ring) (both := both) h0 hs hF n (tab.set n (Wv s both (rowC (freeL s t0) t0 n (freeL s t0).length))) (by omega) (by rw [List.length_set, hl]) (fun c' hc' hc2 => by
   by_cases g : c' = n
   ·subst g
    simp [List.getD, List.getElem?_set, show c' < tab.length from by omega]
   ·have := hg c' (by omega) hc2
    simp only [List.getD, List.getElem?_set, if_neg (show ¬ n = c' from fun h => g h.symm)] at this ⊢
    exact this)
  refine ⟨tab', ?_, hl', hg'⟩
  rw [show ((n + 1 : Nat) : Int) - 1 = (n : Int) from by omega]
  refine Ev.succ ?_
  simp only [spec_l10Table.l0]
  refine Ev.pos (by omega) ?_
  refine tab_l1_ev h0 hs hF (by omega) ?_ _ 0 (Nat.zero_add _)
  refine tab_l2_ev s ring both (freeL s t0) t0 tab _ n (fun p => Vn s both q (putL (rowC (freeL s t0) t0 n (freeL s t0).length) p)) hF (by omega) (by omega) (by omega) ?_ _ 0 (-1) (Nat.zero_add _) ?_
  ·intro i hi hb
   obtain ⟨hnot, hput⟩ := rowC_bit h0 n i hi hb
   have hlt := add_lt (show n < 2 ^ (freeL s t0).length from by omega) hi hb
   have hm : (freeL s t0).getD i 0 ∈ freeL s (rowC (freeL s t0) t0 n (freeL s t0).length) := by
    rw [hfr]
    exact (mem_un n _ 0 _).2 ⟨i, hi, by rw [Nat.zero_add]; exact hb, rfl⟩
   have hpl := freeL_put_len hm
   have hk : (freeL s (putL (rowC (freeL s t0) t0 n (freeL s t0).length) ((freeL s t0).getD i 0))).length = q := by omega
   have ho := own_le (h1.seats hs) both ((freeL s t0).getD i 0)
   have hv := Vn_bound hs both q _ (h1.put hm) hk
   have hq10 : q ≤ 24 := by
    have hfl : (freeL s (rowC (freeL s t0) t0 n (freeL s t0).length)).length ≤ (freeL s t0).length := by
     rw [hfr]
     exact (un_sub n _ 0).length_le
    omega
   refine ⟨by omega, ?_, by omega, by omega⟩
   have hp2 : 0 < 2 ^ i := Nat.two_pow_pos i
   rw [rd_nat, hg _ (by omega) hlt, hput]
   unfold Wv
   rw [hk]
  ·rw [List.drop_zero, ← hWv]
   exact e
theorem l2Free_ev (s : Int) (ring : Bool) (t : List Int) (h1 : s ≤ 24) (ht : t.length ≤ 1048576) : ∀ (d j : Nat) (acc : List Int), j + d = s.toNat → acc.length ≤ j → Ev (fun k => spec_l2Free.l0 k acc (j : Int) s ring t) (acc ++ ((List.range' j d).map fun i : Nat => (i : Int)).filter fun x => decide (x ∉ t))
 | 0, j, acc, hj, _ => by
  refine Ev.succ ?_
  simp only [spec_l2Free.l0]
  refine Ev.neg (by omega) ?_
  simp only [List.range'_zero, List.map_nil, List.filter_nil, List.append_nil]
  exact Ev.now _
 | d + 1, j, acc, hj, ha => by
  refine Ev.succ ?_
  simp only [spec_l2Free.l0]
  refine Ev.pos (by omega) (Ev.bind (spec_l2Is_ev s ring t (j : Int) ht) ?_)
  rw [wrap_one (n := 24) (by omega) (by omega), List.range'_succ, List.map_cons]
  by_cases g : (j : Int) ∈ t
  ·rw [List.filter_cons_of_neg (by simpa using g)]
   exact Ev.pos (decide_eq_true g) (l2Free_ev s ring t h1 ht d (j + 1) acc (by omega) (by omega))
  ·rw [List.filter_cons_of_pos (by simpa using g)]
   refine Ev.neg (by simpa using g) (Ev.pos (by omega) ?_)
   have := l2Free_ev s ring t h1 ht d (j + 1) (acc ++ [(j : Int)]) (by omega) (by simp; omega)
   rw [List.append_assoc] at this
   exact this
theorem free_ev (s : Int) (ring : Bool) (t : List Int) (h1 : s ≤ 24) (ht : t.length ≤ 1048576) : Ev (fun k => spec_l2Free.f k s ring t) (freeL s t) := by
 unfold spec_l2Free.f freeL
 rw [List.range_eq_range']
 exact l2Free_ev s ring t h1 ht s.toNat 0 [] (by omega) (Nat.le_refl _)
theorem table_ev {s : Int} {ring both : Bool} {t : List Int} (h : Tk s t) (hs : s ≤ 24) (hF : (freeL s t).length ≤ 10) : ∃ tab, Ev (fun k => spec_l10Table.f k s ring t both) tab ∧ tab.length = 2 ^ (freeL s t).length ∧ ∀ c', c' < 2 ^ (freeL s t).length → tab.getD c' 0 = Wv s both (rowC (freeL s t) t c' (freeL s t).length) := by
 have hp : 2 ^ (freeL s t).length ≤ 2 ^ 10 := Nat.pow_le_pow_right (by omega) hF
 have hp0 : 0 < 2 ^ (freeL s t).length := Nat.two_pow_pos _
 have hlen := seats_len (h.seats hs)
 obtain ⟨tab, e, h1, h2⟩ := tab_l0_ev (ring := ring) (both := both) h hs hF (2 ^ (freeL s t).length - 1) (List.replicate (2 ^ (freeL s t).length) 0) (Nat.le_refl _) (by simp) (fun c' hc hc2 => by
  have hc3 : c' = 2 ^ (freeL s t).length - 1 := by omega
  have hempty : freeL s (rowC (freeL s t) t c' (freeL s t).length) = [] := by
   rw [free_rowC h c']
   refine List.eq_nil_iff_forall_not_mem.2 fun x hx => ?_
   obtain ⟨q, hq, hb, _⟩ := (mem_un c' _ 0 x).1 hx
   rw [hc3, Nat.zero_add, testBit_all, decide_eq_false_iff_not] at hb
   exact hb hq
  unfold Wv
  rw [hempty]
  rw [getD_get _ c' (by simpa using hc2)]
  simp [Vn])
 refine ⟨tab, ?_, h1, h2⟩
 unfold spec_l10Table.f
 refine Ev.bind (free_ev s ring t hs (by omega)) ?_
 rw [shl_one64 _ (by omega), Int.toNat_natCast]
 refine Ev.pos (by omega) (Ev.pos (by omega) ?_)
 refine Ev.have rfl ?_
 rw [List.length_replicate, wrap_id (by omega) (by omega), show ((2 ^ (freeL s t).length : Nat) : Int) - 2 = ((2 ^ (freeL s t).length - 1 : Nat) : Int) - 1 from by omega]
 exact e
theorem rowC_zero (F t0 : List Int) : ∀ j, rowC F t0 0 j = t0
 | 0 => rfl
 | j + 1 => by rw [rowC, if_neg (by simp), rowC_zero F t0 j]
open Classical in
theorem full_eq (s : Int) (ring : Bool) (t : List Int) (ht : t.length ≤ 1048576) : Ev (fun k => spec_l10Full.f k s ring t) (decide ((RowOK s ring t ∧ ring = false) ∧ (freeL s t).length ≤ 10)) := by
 refine Ev.bound t.length fun k hk => ?_
 unfold spec_l10Full.f
 rw [spec_l10Line_eq s ring t ht k hk, Option.bind_some]
 by_cases h : RowOK s ring t ∧ ring = false
 ·have hl := freeL_len (row_tk h.1) (by have := h.1.1; omega)
  have := h.1.1
  rw [if_pos (decide_eq_true h), wrap_id (by omega) (by omega)]
  refine congrArg some ?_
  by_cases g : (freeL s t).length ≤ 10
  ·rw [decide_eq_true (by omega), decide_eq_true ⟨h, g⟩]
  ·rw [decide_eq_false (by omega), decide_eq_false (fun e => g e.2)]
 ·rw [if_neg (by rw [decide_eq_true_eq]; exact h), decide_eq_false (fun e => h e.1)]
open Classical in
theorem public_eq (s : Int) (ring : Bool) (t : List Int) (ht : t.length ≤ 1048576) (k : Nat) (hk : t.length + 3 < k) : impl_isPublic.f k s ring t = some (decide ((RowOK s ring t ∧ ring = false) ∧ (freeL s t).length ≤ 10)) := by
 unfold impl_isPublic.f
 rw [impl_isLine_eq s ring t ht k hk, Option.bind_some]
 by_cases h : RowOK s ring t ∧ ring = false
 ·have hT := row_tk h.1
  have hs := h.1.1
  have hS : Seats (freeL s t) := ⟨fun x hx => by have := mem_freeL.1 hx; omega, nodup_of_up (freeL_pairwise s t)⟩
  rw [if_pos (decide_eq_true h), impl_free_eq s ring t h.1 k (by omega), Option.bind_some, freeL_set hT, impl_set_count_eq _ (seats_lt hS), Option.bind_some, count_seats hS]
  refine congrArg some ?_
  by_cases g : (freeL s t).length ≤ 10
  ·rw [decide_eq_true (by omega), decide_eq_true ⟨h, g⟩]
  ·rw [decide_eq_false (by omega), decide_eq_false (fun e => g e.2)]
 ·rw [if_neg (by rw [decide_eq_true_eq]; exact h), decide_eq_false (fun e => h e.1)]

theorem loV_mem {own X : Int → Int} : ∀ (ps : List Int) (b : Int), (∀ p ∈ ps, 0 ≤ own p + X p) → (∃ p ∈ ps, own p + X p = loV own X ps b) ∨ loV own X ps b = b
 | [], b, _ => .inr rfl
 | p :: ps, b, h => by
  have hp := h p List.mem_cons_self
  have ih := loV_mem ps (if b < 0 then own p + X p else if own p + X p < b then own p + X p else b) (fun q hq => h q (List.mem_cons_of_mem _ hq))
  unfold loV
  rcases ih with ⟨q, hq, e⟩ | e
  ·exact .inl ⟨q, List.mem_cons_of_mem _ hq, e⟩
  ·rw [e]
   split
   ·exact .inl ⟨p, List.mem_cons_self, rfl⟩
   ·split
    ·exact .inl ⟨p, List.mem_cons_self, rfl⟩
    ·exact .inr rfl
def pathL (s : Int) (both : Bool) : Nat → List Int → List Int
 | 0, _ => []
 | n + 1, t => match (freeL s t).find? (fun p => decide (ownN t both p + Vn s both n (putL t p) = Vn s both (n + 1) t)) with
  | some p => p :: pathL s both n (putL t p)
  | none => []
theorem pathL_len (s : Int) (both : Bool) : ∀ (n : Nat) (t : List Int), (pathL s both n t).length ≤ n
 | 0, _ => Nat.le_refl _
 | n + 1, t => by
  unfold pathL
  split
  ·have := pathL_len s both n (putL t (by assumption))
   simp only [List.length_cons]
   omega
  ·simp
theorem path_find {s : Int} (hs : s ≤ 24) (both : Bool) (n : Nat) (t : List Int) (h : Tk s t) (hl : (freeL s t).length = n + 1) :
  ∃ p, (freeL s t).find? (fun p => decide (ownN t both p + Vn s both n (putL t p) = Vn s both (n + 1) t)) = some p ∧ p ∈ freeL s t ∧ pathL s both (n + 1) t = p :: pathL s both n (putL t p) := by
 have hne : freeL s t ≠ [] := fun e => by rw [e] at hl; simp at hl
 have hb : ∀ p ∈ freeL s t, 0 ≤ ownN t both p + Vn s both n (putL t p) := fun p hp => by
  have h1 := own_le (h.seats hs) both p
  have h2 := Vn_bound hs both n (putL t p) (h.put hp) (by have := freeL_put_len hp; omega)
  omega
 have hv := Vn_bound hs both (n + 1) t h hl
 have hf : ∃ p ∈ freeL s t, ownN t both p + Vn s both n (putL t p) = Vn s both (n + 1) t := by
  rcases loV_mem (own := ownN t both) (X := fun p => Vn s both n (putL t p)) (freeL s t) (-1) hb with h1 | h1
  ·exact h1
  ·have : Vn s both (n + 1) t = -1 := h1
   omega
 cases e : (freeL s t).find? (fun p => decide (ownN t both p + Vn s both n (putL t p) = Vn s both (n + 1) t)) with
 | none =>
  obtain ⟨p, hp, e2⟩ := hf
  have := List.find?_eq_none.1 e p hp
  exact absurd (decide_eq_true e2) this
 | some p =>
  refine ⟨p, rfl, List.mem_of_find?_eq_some e, ?_⟩
  rw [pathL, e]
theorem impl_bi_eq {S : Int → Option Int} {t : List Int} {both : Bool} {X : Int → Int} {v : Int} (ht : Seats t) (hv : S ((setN t : Nat) : Int) = some v) : ∀ (ps : List Int), (∀ p ∈ ps, (0 ≤ p ∧ p ≤ 23) ∧ p ∉ t ∧ S ((setN (putL t p) : Nat) : Int) = some (X p) ∧ 0 ≤ ownN t both p + X p ∧ ownN t both p + X p ≤ 100000) → impl_BestArrival.bi S ((setN t : Nat) : Int) both ps = ps.find? (fun p => decide (ownN t both p + X p = v))
 | [], _ => rfl
 | p :: ps, hp => by
  obtain ⟨h0, h1, h2, h3, h4⟩ := hp p List.mem_cons_self
  obtain ⟨z, hz⟩ := impl_own_eq ht p h0.1 h0.2 h1 both
  have h5 : 2 ^ p.toNat < 2 ^ 32 := Nat.pow_lt_pow_right (by omega) (by omega)
  simp only [impl_BestArrival.bi]
  rw [if_pos h0.1, hz, Option.bind_some, shl_one p h0.1 (by omega), or_cast _ _ (seats_lt ht) (by omega), put_set t p h1, h2, Option.bind_some, hv, Option.bind_some]
  dsimp only
  rw [wrap_id (by omega) (by omega)]
  by_cases g : ownN t both p + X p = v
  ·rw [if_pos g, List.find?_cons_of_pos (by simpa using g)]
  ·rw [if_neg g, List.find?_cons_of_neg (by simpa using g)]
   exact impl_bi_eq ht hv ps fun q hq => hp q (List.mem_cons_of_mem _ hq)
theorem full_set {s : Int} {t : List Int} (h : Tk s t) (he : freeL s t = []) : setN t = 2 ^ s.toNat - 1 := by
 refine Nat.eq_of_testBit_eq fun i => ?_
 rw [testBit_setN, testBit_all, Bool.eq_iff_iff, decide_eq_true_eq, decide_eq_true_eq]
 constructor
 ·rintro ⟨p, hp, rfl⟩
  have := h.inn p hp
  omega
 ·intro hi
  by_cases g : (i : Int) ∈ t
  ·exact ⟨_, g, by omega⟩
  ·have : (i : Int) ∈ freeL s t := mem_freeL.2 ⟨by omega, g⟩
   rw [he] at this
   simp at this
theorem not_full {s : Int} {t : List Int} (h : Tk s t) (hs : s ≤ 24) (hl : freeL s t ≠ []) : ¬ ((setN t : Nat) : Int) = ((2 ^ s.toNat - 1 : Nat) : Int) := by
 intro e
 obtain ⟨p, hp⟩ := List.exists_mem_of_ne_nil (freeL s t) hl
 have hp' := mem_freeL.1 hp
 have hb : (setN t).testBit p.toNat = true := by
  rw [show setN t = 2 ^ s.toNat - 1 from by omega, testBit_all, decide_eq_true_eq]
  omega
 rw [testBit_setN, decide_eq_true_eq] at hb
 obtain ⟨q, hq, e⟩ := hb
 have := h.inn q hq
 have : q = p := by omega
 subst this
 exact hp'.2 hq
theorem impl_ba_eq {s : Int} (h0 : 0 ≤ s) (hs : s ≤ 24) (both : Bool) (k : Nat) (hk : 24 < k) : ∀ (n : Nat) (t out : List Int) (q : Nat), Tk s t → (freeL s t).length = n → n ≤ 10 → n < q → out.length + n ≤ 10 → impl_BestArrival.ba k ((2 ^ s.toNat - 1 : Nat) : Int) both q out ((setN t : Nat) : Int) = some (out ++ pathL s both n t)
 | n, t, out, 0, _, _, _, hq, _ => absurd hq (by omega)
 | 0, t, out, q + 1, h, hl, _, _, _ => by
  simp only [impl_BestArrival.ba]
  rw [if_pos (by rw [full_set h (List.length_eq_zero_iff.1 hl)]), pathL, List.append_nil]
 | n + 1, t, out, q + 1, h, hl, hn, hq, ho => by
  have hsE := h.seats hs
  have hp2 : 2 ^ s.toNat < 2 ^ 32 := Nat.pow_lt_pow_right (by omega) (by omega)
  have hlen : (freeL s t).length ≤ 24 := by omega
  obtain ⟨p, hf, hm, hpath⟩ := path_find hs both n t h hl
  have hp' := mem_freeL.1 hm
  have h5 : 2 ^ p.toNat < 2 ^ 32 := Nat.pow_lt_pow_right (by omega) (by omega)
  have hlt := seats_lt hsE
  simp only [impl_BestArrival.ba]
  rw [if_neg (not_full h hs (fun e => by rw [e] at hl; simp at hl)), if_pos ⟨by omega, by omega⟩, andNot_cast _ _ (by omega) hlt, freeL_set h, set_list_eq _ (freeL_pairwise s t) (fun x hx => by have := mem_freeL.1 hx; omega) (by omega) k (by omega), Option.bind_some, if_pos ⟨by omega, by omega⟩]
  rw [impl_bi_eq (X := fun p => Vn s both n (putL t p)) hsE (impl_le_eq h0 hs both k hk (n + 1) t 11 h hl (by omega)) (freeL s t) (fun x hx => by
   have hx' := mem_freeL.1 hx
   have hxl : (freeL s (putL t x)).length = n := by have := freeL_put_len hx; omega
   have h1 := own_le hsE both x
   have h2 := Vn_bound hs both n (putL t x) (h.put hx) hxl
   exact ⟨by omega, hx'.2, impl_le_eq h0 hs both k hk n (putL t x) 11 (h.put hx) hxl (by omega), by omega, by omega⟩), hf, Option.bind_some, shl_one p hp'.1.1 (by omega), or_cast _ _ hlt (by omega), put_set t p hp'.2,
   impl_ba_eq h0 hs both k hk n (putL t p) (out ++ [p]) q (h.put hm) (by have := freeL_put_len hm; omega) (by omega) (by omega) (by simp; omega), hpath, List.append_assoc]
  rfl
theorem ba_l1_ev (s : Int) (ring both : Bool) (F tab row out : List Int) (c : Nat) (X : Int → Int) (v : Int) (hF : F.length ≤ 10) (hc : c < tab.length) (hl : tab.length ≤ 1024) (hrow : row.length ≤ 32) (hup : row.Pairwise (· < ·)) (hout : out.length ≤ 10)
  (hv : rd tab (c : Int) = v)
  (hT : ∀ i, i < F.length → c.testBit i = false → F.getD i 0 ∉ row ∧ c + 2 ^ i < tab.length ∧ rd tab ((c + 2 ^ i : Nat) : Int) = X (F.getD i 0) ∧ 0 ≤ ownN row both (F.getD i 0) + X (F.getD i 0) ∧ ownN row both (F.getD i 0) + X (F.getD i 0) ≤ 100000) {r : List Int × Bool} {p : Int}
  (h : ∀ i0, i0 < F.length → c.testBit i0 = false → F.getD i0 0 = p → Ev (fun k => spec_BestArrival.l0 k both (out ++ [p]) tab F ((c + 2 ^ i0 : Nat) : Int) s ring (putL row p)) r) :
  ∀ d i, i + d = F.length → (un c i (F.drop i)).find? (fun p => decide (ownN row both p + X p = v)) = some p → Ev (fun k => spec_BestArrival.l1 k both out tab F (c : Int) (i : Int) s ring row) r
 | 0, i, hi, hf => by
  rw [List.drop_eq_nil_of_le (by omega), un] at hf
  exact absurd hf (by simp)
 | d + 1, i, hi, hf => by
  have ih := ba_l1_ev s ring both F tab row out c X v hF hc hl hrow hup hout hv hT h d (i + 1)
  rw [List.drop_eq_getElem_cons (show i < F.length from by omega), un] at hf
  refine Ev.succ ?_
  simp only [spec_BestArrival.l1]
  refine Ev.pos (by omega) ?_
  rw [wrap_one (n := F.length) (by omega) (by omega)]
  by_cases g : c.testBit i = true
  ·rw [if_pos g] at hf
   exact Ev.pos ((bit_of c i (by omega) (by omega)).2 g) (ih (by omega) hf)
  ·rw [if_neg g] at hf
   obtain ⟨h0, h1, h2, h3, h4⟩ := hT i (by omega) (by simpa using g)
   have hk := h i (by omega) (by simpa using g)
   refine Ev.neg (fun e => g ((bit_of c i (by omega) (by omega)).1 e)) (Ev.pos (by omega) ?_)
   refine Ev.bind (Ev.bound row.length fun k hk => spec_own_eq s ring row _ both (by omega) k hk) ?_
   (try dsimp only)
   have e1 : wrap64 ((c : Int) + shl .i64 1 (i : Int)) = ((c + 2 ^ i : Nat) : Int) := by
    rw [shl_one64 i (by omega)]
    generalize 2 ^ i = y at h1
    rw [wrap_id (by omega) (by omega)]
    omega
   have hp2 : 0 < 2 ^ i := Nat.two_pow_pos i
   rw [e1, h2, rd_get F i (by omega), hv]
   rw [getD_get F i (by omega)] at h0 h3 h4 hk ⊢
   rw [wrap_id (by omega) (by omega)]
   refine Ev.pos (by omega) (Ev.pos (by omega) (Ev.pos (by omega) (Ev.pos (by omega) ?_)))
   by_cases gq : ownN row both F[i] + X F[i] = v
   ·rw [List.find?_cons_of_pos (by simpa using gq)] at hf
    obtain rfl := Option.some.inj hf
    refine Ev.pos gq (Ev.pos (by omega) ?_)
    refine Ev.bind (a := (s, ring, putL row F[i])) (Ev.bound row.length fun k hk => spec_l2With_eq s ring row _ (by omega) (rising_of _ hup) h0 k hk) ?_
    exact hk rfl
   ·rw [List.find?_cons_of_neg (by simpa using gq)] at hf
    exact Ev.neg gq (ih (by omega) hf)
theorem ba_l0_ev {s : Int} {ring both : Bool} {t0 tab : List Int} (h0 : Tk s t0) (hs : s ≤ 24) (hF : (freeL s t0).length ≤ 10) (hl : tab.length = 2 ^ (freeL s t0).length)
  (hg : ∀ c', c' < 2 ^ (freeL s t0).length → tab.getD c' 0 = Wv s both (rowC (freeL s t0) t0 c' (freeL s t0).length)) : ∀ (q c : Nat) (out : List Int), c < 2 ^ (freeL s t0).length → (freeL s (rowC (freeL s t0) t0 c (freeL s t0).length)).length = q → out.length + q = (freeL s t0).length →
  Ev (fun k => spec_BestArrival.l0 k both out tab (freeL s t0) (c : Int) s ring (rowC (freeL s t0) t0 c (freeL s t0).length)) (out ++ pathL s both q (rowC (freeL s t0) t0 c (freeL s t0).length), true)
 | 0, c, out, hc, hq, ho => by
  refine Ev.succ ?_
  simp only [spec_BestArrival.l0]
  refine Ev.neg (by omega) ?_
  rw [pathL, List.append_nil]
  exact Ev.now _
 | q + 1, c, out, hc, hq, ho => by
  have hp : 2 ^ (freeL s t0).length ≤ 2 ^ 10 := Nat.pow_le_pow_right (by omega) hF
  obtain ⟨h1, h2⟩ := rowC_spec h0 c _ (Nat.le_refl (freeL s t0).length)
  have hfr := free_rowC h0 c
  have hlen := seats_len (h1.seats hs)
  obtain ⟨p, hf, hm, hpath⟩ := path_find hs both q _ h1 hq
  refine Ev.succ ?_
  simp only [spec_BestArrival.l0]
  refine Ev.pos (by omega) ?_
  refine ba_l1_ev s ring both (freeL s t0) tab _ out c (fun p => Vn s both q (putL (rowC (freeL s t0) t0 c (freeL s t0).length) p)) (Vn s both (q + 1) (rowC (freeL s t0) t0 c (freeL s t0).length)) hF (by omega) (by omega) hlen h1.up (by omega) ?_ ?_ (p := p) ?_ _ 0 (Nat.zero_add _) ?_
  ·rw [rd_nat, hg c hc]
   unfold Wv
   rw [hq]
  ·intro i hi hb
   obtain ⟨hnot, hput⟩ := rowC_bit h0 c i hi hb
   have hlt := add_lt hc hi hb
   have hmi : (freeL s t0).getD i 0 ∈ freeL s (rowC (freeL s t0) t0 c (freeL s t0).length) := by
    rw [hfr]
    exact (mem_un c _ 0 _).2 ⟨i, hi, by rw [Nat.zero_add]; exact hb, rfl⟩
   have hpl := freeL_put_len hmi
   have hk : (freeL s (putL (rowC (freeL s t0) t0 c (freeL s t0).length) ((freeL s t0).getD i 0))).length = q := by omega
   have hown := own_le (h1.seats hs) both ((freeL s t0).getD i 0)
   have hv := Vn_bound hs both q _ (h1.put hmi) hk
   refine ⟨hnot, by omega, ?_, by omega, by omega⟩
   rw [rd_nat, hg _ hlt, hput]
   unfold Wv
   rw [hk]
  ·intro i0 hi0 hb0 e0
   obtain ⟨hnot, hput⟩ := rowC_bit h0 c i0 hi0 hb0
   rw [e0] at hput
   have hpl := freeL_put_len hm
   have ih := ba_l0_ev (ring := ring) (both := both) h0 hs hF hl hg q (c + 2 ^ i0) (out ++ [p]) (add_lt hc hi0 hb0) (by rw [hput]; omega) (by simp; omega)
   rw [hput, List.append_assoc] at ih
   rw [hpath]
   exact ih
  ·rw [List.drop_zero, ← hfr]
   exact hf

theorem laws_toIntS_l0 (l : List Int) (hl : l.length ≤ 1048576) (d : Nat) : ∀ (k i : Nat) (x : List Int), x.length = l.length → i ≤ l.length → l.length - i = d → d < k → (∀ j (h : j < i) (h' : j < x.length) (h'' : j < l.length), x[j] = l[j]) → laws_toIntS.l0 k l x i = some l := by
 induction d with
 | zero =>
  intro k i x hx hi hd hk hp
  obtain ⟨k, rfl, _⟩ := fuel hk
  simp only [laws_toIntS.l0]
  rw [if_neg (by omega)]
  refine congrArg some ?_
  apply List.ext_getElem hx
  intro j h1 h2
  exact hp j (by omega) h1 h2
 | succ d ih =>
  intro k i x hx hi hd hk hp
  obtain ⟨k, rfl, _⟩ := fuel hk
  simp only [laws_toIntS.l0]
  rw [if_pos (by omega), if_pos (by omega), if_pos (by omega), wrap_one (n := l.length) (by omega) (by omega)]
  rw [rd_get l i (by omega), Int.toNat_natCast, ih k (i + 1) _ (by simp [hx]) (by omega) (by omega) (by omega)]
  intro j h h' h''
  rw [List.getElem_set]
  split
  ·rename_i e
   subst e
   rfl
  ·rename_i e
   exact hp j (by omega) (by simpa using h') h''
theorem laws_toIntS_eq (l : List Int) (hl : l.length ≤ 1048576) (k : Nat) (hk : l.length < k) : laws_toIntS.f k l = some l := by
 unfold laws_toIntS.f
 rw [if_pos (by omega), if_pos (by omega)]
 exact laws_toIntS_l0 l hl l.length k 0 _ (by simp) (by omega) (by omega) hk (fun j h => by omega)

theorem laws_eqIntS_l0 (a b : List Int) (hl : a.length ≤ 1048576) (he : a.length = b.length) (d : Nat) : ∀ (k i : Nat), i ≤ a.length → a.length - i = d → d < k → laws_eqIntS.l0 k a b i = some (decide (a.drop i = b.drop i)) := by
 induction d with
 | zero =>
  intro k i hi hd hk
  obtain ⟨k, rfl, _⟩ := fuel hk
  simp only [laws_eqIntS.l0]
  rw [if_neg (by omega), List.drop_eq_nil_of_le (by omega), List.drop_eq_nil_of_le (by omega)]
  simp
 | succ d ih =>
  intro k i hi hd hk
  obtain ⟨k, rfl, _⟩ := fuel hk
  simp only [laws_eqIntS.l0]
  rw [if_pos (by omega), if_pos (by omega), if_pos (by omega), wrap_one (n := a.length) (by omega) (by omega), rd_get a i (by omega), rd_get b i (by omega), ih k (i + 1) (by omega) (by omega) (by omega)]
  rw [List.drop_eq_getElem_cons (l := a) (i := i) (by omega), List.drop_eq_getElem_cons (l := b) (i := i) (by omega)]
  by_cases h : a[i]'(by omega) = b[i]'(by omega)
  ·rw [if_pos h]
   refine congrArg some ?_
   rw [decide_eq_decide, List.cons.injEq]
   exact ⟨fun e => ⟨h, e⟩, fun e => e.2⟩
  ·rw [if_neg h]
   refine congrArg some ?_
   symm
   rw [decide_eq_false_iff_not, List.cons.injEq]
   exact fun e => h e.1
theorem laws_eqIntS_eq (a b : List Int) (hl : a.length ≤ 1048576) (k : Nat) (hk : a.length < k) : laws_eqIntS.f k a b = some (decide (a = b)) := by
 unfold laws_eqIntS.f
 by_cases h : a.length = b.length
 ·rw [if_pos (by omega)]
  have := laws_eqIntS_l0 a b hl h a.length k 0 (by omega) (by omega) hk
  simpa using this
 ·rw [if_neg (by omega)]
  refine congrArg some ?_
  symm
  rw [decide_eq_false_iff_not]
  intro e
  exact h (by rw [e])
theorem laws_eqIntS_self (a : List Int) (hl : a.length ≤ 1048576) (k : Nat) (hk : a.length < k) : laws_eqIntS.f k a a = some true := by
 rw [laws_eqIntS_eq a a hl k hk]
 simp

theorem laws_toIntS_ev (l : List Int) (hl : l.length ≤ 1048576) : Ev (fun k => laws_toIntS.f k l) l := Ev.bound l.length fun k hk => laws_toIntS_eq l hl k hk
theorem laws_eqIntS_ev (l : List Int) (hl : l.length ≤ 1048576) : Ev (fun k => laws_eqIntS.f k l l) true := Ev.bound l.length fun k hk => laws_eqIntS_self l hl k hk

theorem laws_szRow_eq (s : Int) (b : Bool) (t : List Int) (m : Nat) (hm : m ≤ 1048576) (ht : t.length ≤ maxLen) : laws_szRow.f s b t (m : Int) = some (if t.length ≤ m then ((m - t.length : Nat) : Int) else -1) := by
 have hmax : t.length ≤ 9223372036854775807 := ht
 unfold laws_szRow.f laws_szIntS.f
 rw [wrap_id (by omega) (by omega)]
 by_cases h : t.length ≤ m
 ·rw [if_neg (by omega), Option.bind_some, if_neg (by omega), if_pos h]
  refine congrArg some ?_
  omega
 ·rw [if_pos (by omega), Option.bind_some, if_pos (by omega), if_neg h]
theorem laws_toRow_ev (s : Int) (b : Bool) (t : List Int) (ht : t.length ≤ 1048576) : Ev (fun k => laws_toRow.f k s b t) (s, b, t) := by
 unfold laws_toRow.f
 exact Ev.bind (laws_toIntS_ev t ht) (Ev.now _)
theorem laws_eqRow_ev (s : Int) (b : Bool) (t : List Int) (ht : t.length ≤ 1048576) : Ev (fun k => laws_eqRow.f k s b t s b t) true := by
 unfold laws_eqRow.f
 refine Ev.pos rfl (Ev.neg (by simp) ?_)
 exact Ev.bind (laws_eqIntS_ev t ht) (Ev.pos rfl (Ev.now _))

theorem laws_markIntS_l0 (d : Nat) : ∀ (k i : Nat) (x : List Int) (m : Nat), x.length ≤ 1048576 → m ≤ 1000000000 + i → i ≤ x.length → x.length - i = d → d < k →
  laws_markIntS.l0 k x m i = some (((m + (x.length - i) : Nat) : Int), x.take i ++ (List.range (x.length - i)).map fun j => ((m + j : Nat) : Int)) := by
 induction d with
 | zero =>
  intro k i x m hx hm hi hd hk
  obtain ⟨k, rfl, _⟩ := fuel hk
  simp only [laws_markIntS.l0]
  rw [if_neg (by omega), hd]
  simp [List.take_of_length_le (show x.length ≤ i by omega)]
 | succ d ih =>
  intro k i x m hx hm hi hd hk
  obtain ⟨k, rfl, _⟩ := fuel hk
  simp only [laws_markIntS.l0]
  rw [if_pos (by omega), if_pos (by omega), wrap_one (n := x.length) (i := i) (by omega) (by omega), wrap_one (n := m + 1) (i := m) (by omega) (by omega), Int.toNat_natCast]
  rw [ih k (i + 1) (x.set i m) (m + 1) (by simp; omega) (by omega) (by simp; omega) (by simp; omega) (by omega)]
  simp only [List.length_set, Option.some.injEq, Prod.mk.injEq]
  refine ⟨by omega, ?_⟩
  rw [hd, show x.length - (i + 1) = d from by omega, List.range_succ_eq_map, List.map_cons, List.map_map]
  rw [List.take_set, List.take_add_one, List.set_append_right _ _ (by simp; omega)]
  simp [List.length_take, show min i x.length = i from by omega, List.getElem?_eq_getElem (show i < x.length by omega)]
  intro a _
  omega
theorem laws_markIntS_eq (x : List Int) (m k : Nat) (hx : x.length ≤ 1048576) (hm : m ≤ 1000000000) (hk : x.length < k) :
  laws_markIntS.f k x m = some (((m + x.length : Nat) : Int), (List.range x.length).map fun j => ((m + j : Nat) : Int)) := by
 unfold laws_markIntS.f
 have := laws_markIntS_l0 x.length k 0 x m hx (by omega) (by omega) (by omega) hk
 simpa using this
theorem laws_heldIntS_l0 (n m : Nat) (hx : n ≤ 1048576) (hm : m ≤ 1000000000) (d : Nat) : ∀ (k i : Nat), i ≤ n → n - i = d → d < k →
  laws_heldIntS.l0 k ((List.range n).map fun j => ((m + j : Nat) : Int)) ((m + i : Nat) : Int) i = some (((m + n : Nat) : Int)) := by
 induction d with
 | zero =>
  intro k i hi hd hk
  obtain ⟨k, rfl, _⟩ := fuel hk
  simp only [laws_heldIntS.l0]
  rw [if_neg (by simp; omega), show i = n from by omega]
 | succ d ih =>
  intro k i hi hd hk
  obtain ⟨k, rfl, _⟩ := fuel hk
  simp only [laws_heldIntS.l0]
  rw [if_pos (by simp; omega), if_pos (by omega), rd_get _ i (by simp; omega)]
  simp only [List.getElem_map, List.getElem_range, if_true]
  rw [wrap_one (n := n) (i := i) (by omega) (by omega), wrap_one (n := m + i + 1) (i := m + i) (by omega) (by omega), show m + i + 1 = m + (i + 1) from by omega]
  exact ih k (i + 1) (by omega) (by omega) (by omega)
theorem laws_heldIntS_eq (n m k : Nat) (hx : n ≤ 1048576) (hm : m ≤ 1000000000) (hk : n < k) :
  laws_heldIntS.f k ((List.range n).map fun j => ((m + j : Nat) : Int)) m = some (((m + n : Nat) : Int)) :=
 laws_heldIntS_l0 n m hx hm n k 0 (by omega) (by omega) hk

def marksL (n : Nat) (m : Int) : List Int := (List.range n).map fun j => ((m.toNat + j : Nat) : Int)
theorem laws_markIntS_ev (l : List Int) (m : Int) (hl : l.length ≤ 1048576) (h0 : 0 ≤ m) (hm : m ≤ 1000000000) : Ev (fun k => laws_markIntS.f k l m) (m + l.length, marksL l.length m) :=
 Ev.bound l.length fun k hk => by
  obtain ⟨n, rfl⟩ : ∃ n : Nat, m = n := ⟨m.toNat, by omega⟩
  rw [laws_markIntS_eq l n k hl (by omega) hk]
  unfold marksL
  rw [Int.toNat_natCast]
  refine congrArg some (Prod.ext ?_ rfl)
  exact Int.natCast_add _ _
theorem laws_heldIntS_ev (n : Nat) (m : Int) (hl : n ≤ 1048576) (h0 : 0 ≤ m) (hm : m ≤ 1000000000) : Ev (fun k => laws_heldIntS.f k (marksL n m) m) (m + n) :=
 Ev.bound n fun k hk => by
  obtain ⟨j, rfl⟩ : ∃ j : Nat, m = j := ⟨m.toNat, by omega⟩
  unfold marksL
  rw [Int.toNat_natCast, laws_heldIntS_eq n j k hl (by omega) hk]
  exact congrArg some (Int.natCast_add _ _)

theorem laws_markRow_ev (s : Int) (b : Bool) (l : List Int) (m : Int) (hl : l.length ≤ 1048576) (h0 : 0 ≤ m) (hm : m ≤ 1000000000) : Ev (fun k => laws_markRow.f k s b l m) (m + l.length, marksL l.length m) := by
 unfold laws_markRow.f
 exact Ev.bind (laws_markIntS_ev l m hl h0 hm) (Ev.now _)

open Classical in
theorem best_both (s : Int) (ring : Bool) (t : List Int) (both : Bool) (ht : t.length ≤ 1048576) : ∃ (l : List Int) (b : Bool), l.length ≤ 1048576 ∧ Ev (fun k => spec_BestArrival.f k s ring t both) (l, b) ∧ Ev (fun k => impl_BestArrival.f k s ring t both) (l, b) := by
 by_cases h : (RowOK s ring t ∧ ring = false) ∧ (freeL s t).length ≤ 10
 ·have hs := h.1.1.1
  have hT := row_tk h.1.1
  have hp0 : 0 < 2 ^ (freeL s t).length := Nat.two_pow_pos _
  have hp : 2 ^ s.toNat < 2 ^ 32 := Nat.pow_lt_pow_right (by omega) (by omega)
  have hpl := pathL_len s both (freeL s t).length t
  refine ⟨pathL s both (freeL s t).length t, true, by omega, ?_, Ev.bound (t.length + 100) fun k hk => ?_⟩
  ·obtain ⟨tab, e, h1, h2⟩ := table_ev (ring := ring) (both := both) hT hs.2 h.2
   unfold spec_BestArrival.f
   refine Ev.have rfl (Ev.bind (full_eq s ring t ht) (Ev.pos (decide_eq_true h) (Ev.bind e (Ev.bind (free_ev s ring t hs.2 ht) ?_))))
   have := ba_l0_ev (ring := ring) (both := both) hT hs.2 h.2 h1 h2 (freeL s t).length 0 [] hp0 (by rw [rowC_zero]) (by simp)
   rw [rowC_zero] at this
   exact this
  ·unfold impl_BestArrival.f impl_bench_all.f
   have hle := impl_ba_eq (s := s) (by omega) hs.2 both k (by omega) (freeL s t).length t [] 12 hT rfl h.2 (by omega) (by simpa using h.2)
   rw [public_eq s ring t ht k (by omega), Option.bind_some, if_pos (decide_eq_true h), if_pos (by omega), Option.bind_some, impl_taken_eq s ring t h.1.1 k (by omega), Option.bind_some, all_cast s (by omega) (by omega), hle]
   rfl
 ·refine ⟨[], false, by simp, ?_, Ev.bound (t.length + 100) fun k hk => ?_⟩
  ·unfold spec_BestArrival.f
   exact Ev.have rfl (Ev.bind (full_eq s ring t ht) (Ev.neg (by rw [decide_eq_true_eq]; exact h) (Ev.now _)))
  ·unfold impl_BestArrival.f
   rw [public_eq s ring t ht k (by omega), Option.bind_some, if_neg (by rw [decide_eq_true_eq]; exact h)]
theorem FnExactBestArrival : ∀ (a0_0 : Int) (a0_1 : Bool) (a0_2 : List Int) (a1 : Bool), (Lit.int .i64 a0_0).wf = true → a0_2.length ≤ maxLen → (∀ x ∈ a0_2, (Lit.int .i64 x).wf = true) → ∃ k, laws_FnExactBestArrival.f k a0_0 a0_1 a0_2 a1 = some true := by
 intro s ring t both _ ht _
 refine Ev.rounds ?_
 unfold laws_FnExactBestArrival.f
 by_cases h2 : t.length ≤ 1048576
 ·obtain ⟨l, b, hr, e1, e2⟩ := best_both s ring t both h2
  refine Ev.have (laws_szRow_eq s ring t 1048576 (by omega) ht) ?_
  rw [if_pos h2]
  repeat' (first
   | exact Ev.now _
   | (refine Ev.bind e1 ?_; (try dsimp only))
   | (refine Ev.bind e2 ?_; (try dsimp only))
   | (refine Ev.bind (laws_toIntS_ev _ (by omega)) ?_; (try dsimp only))
   | (refine Ev.bind (laws_eqIntS_ev _ (by omega)) ?_; (try dsimp only))
   | (refine Ev.bind (laws_markIntS_ev _ _ (by omega) (by omega) (by omega)) ?_; (try dsimp only))
   | (refine Ev.bind (laws_heldIntS_ev _ _ (by omega) (by omega) (by omega)) ?_; (try dsimp only))
   | (refine Ev.bind (laws_toRow_ev _ _ _ (by omega)) ?_; (try dsimp only))
   | (refine Ev.bind (laws_eqRow_ev _ _ _ (by omega)) ?_; (try dsimp only))
   | (refine Ev.bind (laws_markRow_ev _ _ _ _ (by omega) (by omega) (by omega)) ?_; (try dsimp only))
   | (refine Ev.have (laws_szRow_eq _ _ _ 1048576 (by omega) (by assumption)) ?_; (try dsimp only))
   | (refine Ev.pos rfl ?_; (try dsimp only))
   | (refine Ev.neg (by omega) ?_; (try dsimp only))
   | (refine Ev.pos (by omega) ?_; (try dsimp only))
   | (refine Ev.neg (bne_self _) ?_; (try dsimp only))
   | (refine Ev.neg Bool.false_ne_true ?_; (try dsimp only))
   | (refine Ev.neg (fun h => h) ?_; (try dsimp only))
   | (refine Ev.pos True.intro ?_; (try dsimp only))
   | (refine Ev.succ ?_; simp only [laws_FnExactBestArrival.j0, laws_FnExactBestArrival.j1, laws_FnExactBestArrival.j2]))
 ·refine Ev.have (laws_szRow_eq s ring t 1048576 (by omega) ht) ?_
  rw [if_neg h2]
  exact Ev.pos (by omega) (Ev.now _)

end Go.Proofs.YtohmonfaabofaaaDoor.Pure
-- squeezed
