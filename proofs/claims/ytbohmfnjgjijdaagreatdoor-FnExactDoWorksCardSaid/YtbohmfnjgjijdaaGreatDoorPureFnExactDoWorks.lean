/- DoWorks of the program returns what the reference's returns, for every house and every list of works. No conditions. -/
import Derived.Test.YtbohmfnjgjijdaaGreatDoorQFnExactDoWorksx
namespace Go.Proofs.YtbohmfnjgjijdaaGreatDoor.Pure
open Go.RowKit Go.Proofs.YtbohmfnjgjijdaaGreatDoor.QFnExactDoWorks Go.Proofs.YtbohmfnjgjijdaaGreatDoorW.PrintWords Go.Proofs.YtbohmfnjgjijdaaGreatDoorW.PrintLast Go.Proofs.YtbohmfnjgjijdaaGreatDoorW.PrintMore
set_option linter.unusedVariables false
set_option linter.unusedSimpArgs false

theorem wrap_id {x : Int} (h0 : -9223372036854775808 ≤ x) (h1 : x ≤ 9223372036854775807) : wrap64 x = x := by
 unfold wrap64
 omega
theorem wrap_one {i n : Nat} (h : i < n) (hn : n ≤ 4611686018427387904) : wrap64 ((i : Int) + 1) = ((i + 1 : Nat) : Int) := by
 unfold wrap64
 omega
theorem rd_nat (l : List Int) (i : Nat) : rd l (i : Int) = l.getD i 0 := by unfold rd; simp
theorem rd_get (l : List Int) (i : Nat) (h : i < l.length) : rd l (i : Int) = l[i] := by rw [rd_nat]; simp [List.getD, h]
theorem fuel {k d : Nat} (h : d < k) : ∃ m, k = m + 1 ∧ d ≤ m := ⟨k - 1, by omega, by omega⟩

theorem bne_self {α : Type} [BEq α] [LawfulBEq α] (a : α) : ¬ (a != a) = true := by simp
theorem Ev.succ {α : Type} {g : Nat → Option α} {r : α} (h : Ev (fun k => g (k + 1)) r) : Ev g r := by
 obtain ⟨K, h⟩ := h
 refine ⟨K + 1, fun k hk => ?_⟩
 obtain ⟨k, rfl, hk'⟩ := fuel (show K < k by omega)
 exact h k hk'
theorem Ev.pos {α : Type} {g f : Nat → Option α} {r : α} {c : Prop} [Decidable c] (hc : c) (h : Ev g r) : Ev (fun k => if c then g k else f k) r := by
 obtain ⟨K, h⟩ := h
 exact ⟨K, fun k hk => by show (if c then g k else f k) = some r; rw [if_pos hc]; exact h k hk⟩
theorem Ev.neg {α : Type} {g f : Nat → Option α} {r : α} {c : Prop} [Decidable c] (hc : ¬ c) (h : Ev f r) : Ev (fun k => if c then g k else f k) r := by
 obtain ⟨K, h⟩ := h
 exact ⟨K, fun k hk => by show (if c then g k else f k) = some r; rw [if_neg hc]; exact h k hk⟩
theorem Ev.have {α β : Type} {x : Option α} {a : α} {f : Nat → α → Option β} {r : β} (e : x = some a) (h : Ev (fun k => f k a) r) : Ev (fun k => x.bind (f k)) r := by
 obtain ⟨K, h⟩ := h
 exact ⟨K, fun k hk => by show x.bind (f k) = some r; rw [e, Option.bind_some]; exact h k hk⟩
theorem Ev.bound {α : Type} {g : Nat → Option α} {r : α} (K : Nat) (h : ∀ k, K < k → g k = some r) : Ev g r := ⟨K + 1, fun k hk => h k (by omega)⟩
theorem Ev.same {α : Type} {g : Nat → Option α} {r r' : α} (h : Ev g r) (e : r = r') : Ev g r' := e ▸ h
def setN (l : List Int) : Nat := l.foldl (fun s p => s ||| 2 ^ p.toNat) 0
theorem testBit_foldl (l : List Int) : ∀ (s i : Nat), (l.foldl (fun s p => s ||| 2 ^ p.toNat) s).testBit i = (s.testBit i || decide (∃ p ∈ l, p.toNat = i)) := by
 induction l with
 | nil => intro s i; simp
 | cons a l ih =>
  intro s i
  rw [List.foldl_cons, ih, Nat.testBit_or, Nat.testBit_two_pow, Bool.or_assoc]
  congr 1
  rw [Bool.eq_iff_iff]
  simp
theorem testBit_setN (l : List Int) (i : Nat) : (setN l).testBit i = decide (∃ p ∈ l, p.toNat = i) := by
 unfold setN
 rw [testBit_foldl]
 simp
theorem foldl_lt (l : List Int) (n : Nat) (hl : ∀ p ∈ l, p < n) (hn : 0 < n) : ∀ s, s < 2 ^ n → l.foldl (fun s p => s ||| 2 ^ p.toNat) s < 2 ^ n := by
 induction l with
 | nil => intro s h; exact h
 | cons a l ih =>
  intro s h
  rw [List.foldl_cons]
  have := hl a (by simp)
  exact ih (fun p hp => hl p (by simp [hp])) _ (Nat.or_lt_two_pow h (Nat.pow_lt_pow_right (by omega) (by omega)))
theorem setN_lt (l : List Int) (n : Nat) (hl : ∀ p ∈ l, p < n) (hn : 0 < n) : setN l < 2 ^ n := foldl_lt l n hl hn 0 (Nat.two_pow_pos n)
theorem setN_u32 (l : List Int) (hl : ∀ p ∈ l, p < 32) : setN l < 4294967296 := setN_lt l 32 hl (by omega)
theorem or_cast (a b : Nat) (ha : a < 4294967296) (hb : b < 4294967296) : Go.bits .or .u32 (a : Int) (b : Int) = ((a ||| b : Nat) : Int) :=
 (bits_nat .u32 32 (by decide) (fun n h h' => by rw [IntKind.wrap_u32]; omega) a b ha hb).2
theorem and_cast (a b : Nat) (ha : a < 4294967296) (hb : b < 4294967296) : Go.bits .and .u32 (a : Int) (b : Int) = ((a &&& b : Nat) : Int) :=
 (bits_nat .u32 32 (by decide) (fun n h h' => by rw [IntKind.wrap_u32]; omega) a b ha hb).1
theorem shl_one (p : Int) (h0 : 0 ≤ p) (h1 : p < 32) : shl .u32 1 p = ((2 ^ p.toNat : Nat) : Int) := by
 unfold shl
 rw [Int.one_mul, IntKind.wrap_u32, show min p.toNat IntKind.u32.bits = p.toNat from Nat.min_eq_left (by show p.toNat ≤ 32; omega)]
 have : 2 ^ p.toNat < 2 ^ 32 := Nat.pow_lt_pow_right (by omega) (by omega)
 have e : ((2 ^ p.toNat : Nat) : Int) = (2 : Int) ^ p.toNat := by simp
 rw [← e]
 generalize 2 ^ p.toNat = y at *
 omega

theorem lt_of_bits (x n : Nat) (h : ∀ i, n ≤ i → x.testBit i = false) : x < 2 ^ n := Nat.lt_pow_two_of_testBit x h
def gapI (n : Nat) (ring : Bool) (p q : Nat) : Int :=
 if ring = true then (if (if (p : Int) - q > (q : Int) - p then (p : Int) - q else (q : Int) - p) < (n : Int) - (if (p : Int) - q > (q : Int) - p then (p : Int) - q else (q : Int) - p) then (if (p : Int) - q > (q : Int) - p then (p : Int) - q else (q : Int) - p) else (n : Int) - (if (p : Int) - q > (q : Int) - p then (p : Int) - q else (q : Int) - p)) else (if (p : Int) - q > (q : Int) - p then (p : Int) - q else (q : Int) - p)
theorem spec_l2Gap_eq (n : Nat) (ring : Bool) (t : List Int) (p q : Nat) (hn : n ≤ 24) (hp : p < n) (hq : q < n) : spec_l2Gap.f (n : Int) ring t (p : Int) (q : Int) = some (gapI n ring p q) := by
 unfold spec_l2Gap.f gapI
 rw [wrap_id (x := (p : Int) - q) (by omega) (by omega), wrap_id (x := (q : Int) - p) (by omega) (by omega)]
 have e : spec_l1Most.f ((p : Int) - q) ((q : Int) - p) = some (if (p : Int) - q > (q : Int) - p then (p : Int) - q else (q : Int) - p) := by
  unfold spec_l1Most.f
  split <;> rfl
 rw [e, Option.bind_some]
 have hb : 0 ≤ (if (p : Int) - q > (q : Int) - p then (p : Int) - q else (q : Int) - p) ∧ (if (p : Int) - q > (q : Int) - p then (p : Int) - q else (q : Int) - p) ≤ 24 := by split <;> omega
 generalize (if (p : Int) - q > (q : Int) - p then (p : Int) - q else (q : Int) - p) = d at hb ⊢
 rw [wrap_id (by omega) (by omega)]
 cases ring with
 | true =>
  rw [if_pos rfl, if_pos rfl]
  unfold spec_l1Least.f
  split <;> rw [Option.bind_some]
 | false => rw [if_neg (by simp), if_neg (by simp)]
theorem impl_gap_eq (n : Nat) (ring : Bool) (p q : Nat) (hn : n ≤ 24) (hp : p < n) (hq : q < n) : impl_bench_gap.f (n : Int) ring (p : Int) (q : Int) = some (gapI n ring p q) := by
 unfold impl_bench_gap.f gapI
 rw [wrap_id (x := (p : Int) - q) (by omega) (by omega), wrap_id (x := (q : Int) - p) (by omega) (by omega)]
 have e : mx ((p : Int) - q) ((q : Int) - p) = (if (p : Int) - q > (q : Int) - p then (p : Int) - q else (q : Int) - p) := by
  unfold mx
  split <;> split <;> omega
 rw [e]
 have hb : 0 ≤ (if (p : Int) - q > (q : Int) - p then (p : Int) - q else (q : Int) - p) ∧ (if (p : Int) - q > (q : Int) - p then (p : Int) - q else (q : Int) - p) ≤ 24 := by split <;> omega
 generalize (if (p : Int) - q > (q : Int) - p then (p : Int) - q else (q : Int) - p) = d at hb ⊢
 rw [wrap_id (by omega) (by omega)]
 cases ring with
 | true =>
  rw [if_pos rfl, if_pos rfl]
  refine congrArg some ?_
  unfold mn
  split <;> split <;> omega
 | false => rw [if_neg (by simp), if_neg (by simp)]
def bitsN (P : Nat → Bool) : Nat → Nat
 | 0 => 0
 | i + 1 => if P i = true then bitsN P i ||| 2 ^ i else bitsN P i
theorem testBit_bitsN (P : Nat → Bool) : ∀ i q, (bitsN P i).testBit q = (decide (q < i) && P q)
 | 0, q => by simp [bitsN]
 | i + 1, q => by
  rw [bitsN]
  by_cases h : P i = true
  ·rw [if_pos h, Nat.testBit_or, testBit_bitsN P i q, Nat.testBit_two_pow]
   by_cases e : i = q
   ·subst e; rw [h]; simp
   ·rw [decide_eq_false e, Bool.or_false]
    by_cases g : q < i
    ·rw [decide_eq_true g, decide_eq_true (show q < i + 1 by omega)]
    ·rw [decide_eq_false g, decide_eq_false (show ¬ q < i + 1 by omega)]
  ·rw [if_neg h, testBit_bitsN P i q]
   by_cases e : i = q
   ·subst e; rw [Bool.eq_false_iff.2 h]; simp
   ·by_cases g : q < i
    ·rw [decide_eq_true g, decide_eq_true (show q < i + 1 by omega)]
    ·rw [decide_eq_false g, decide_eq_false (show ¬ q < i + 1 by omega)]
theorem bitsN_lt (P : Nat → Bool) (i : Nat) (hi : i ≤ 32) : bitsN P i < 4294967296 := show bitsN P i < 2 ^ 32 from lt_of_bits _ 32 fun q hq => by
 rw [testBit_bitsN, decide_eq_false (by omega)]
 rfl
def castL (l : List Nat) : List Int := l.map fun i : Nat => (i : Int)
def listN (P : Nat → Bool) (i : Nat) : List Int := castL ((List.range i).filter P)
theorem listN_succ (P : Nat → Bool) (i : Nat) : listN P (i + 1) = if P i = true then listN P i ++ [(i : Int)] else listN P i := by
 unfold listN castL
 rw [List.range_succ, List.filter_append]
 by_cases h : P i = true
 ·rw [if_pos h]; simp [h]
 ·rw [if_neg h]; simp [h]
theorem listN_len (P : Nat → Bool) (i : Nat) : (listN P i).length ≤ i := by
 unfold listN castL
 rw [List.length_map]
 exact Nat.le_trans (List.length_filter_le _ _) (by simp)
theorem mem_listN (P : Nat → Bool) (i : Nat) (x : Int) : x ∈ listN P i ↔ ∃ q : Nat, q < i ∧ P q = true ∧ x = q := by
 unfold listN castL
 rw [List.mem_map]
 constructor
 ·rintro ⟨q, hq, rfl⟩
  have := List.mem_filter.1 hq
  exact ⟨q, List.mem_range.1 this.1, this.2, rfl⟩
 ·rintro ⟨q, h1, h2, rfl⟩
  exact ⟨q, List.mem_filter.2 ⟨List.mem_range.2 h1, h2⟩, rfl⟩

theorem spec_l1In_eq (n a b : Int) : spec_l1In.f n a b = some (decide (a ≤ n ∧ n ≤ b)) := by
 unfold spec_l1In.f
 by_cases h : n ≥ a
 ·rw [if_pos h]
  simp [show a ≤ n from h]
 ·rw [if_neg h]
  simp [show ¬ a ≤ n from h]
theorem impl_within_eq (n a b : Int) : impl_within.f n a b = some (decide (a ≤ n ∧ n ≤ b)) := by
 unfold impl_within.f
 by_cases h : n ≥ a
 ·rw [if_pos h]
  simp [show a ≤ n from h]
 ·rw [if_neg h]
  simp [show ¬ a ≤ n from h]

theorem impl_allWithin_l0 (l : List Int) (a b : Int) (hl : l.length ≤ 1048576) (d : Nat) : ∀ (k i : Nat), i ≤ l.length → l.length - i = d → d < k → impl_allWithin.l0 k a b l (l.length : Int) i = some (decide (∀ x ∈ l.drop i, a ≤ x ∧ x ≤ b)) := by
 induction d with
 | zero =>
  intro k i hi hd hk
  obtain ⟨k, rfl, _⟩ := fuel hk
  simp only [impl_allWithin.l0]
  rw [if_neg (by omega), List.drop_eq_nil_of_le (by omega)]
  simp
 | succ d ih =>
  intro k i hi hd hk
  obtain ⟨k, rfl, _⟩ := fuel hk
  simp only [impl_allWithin.l0]
  rw [if_pos (by omega), if_pos (by omega), if_pos (by omega), wrap_one (n := l.length) (by omega) (by omega), rd_get l i (by omega), impl_within_eq, ih k (i + 1) (by omega) (by omega) (by omega)]
  rw [List.drop_eq_getElem_cons (l := l) (i := i) (by omega)]
  rw [Option.bind_some]
  by_cases h : a ≤ l[i]'(by omega) ∧ l[i]'(by omega) ≤ b
  ·rw [if_pos (by simp only [h]; simp)]
   refine congrArg some ?_
   rw [decide_eq_decide]
   simp only [List.mem_cons]
   exact ⟨fun e x hx => hx.elim (fun z => z ▸ h) (e x), fun e x hx => e x (.inr hx)⟩
  ·rw [if_neg (by rw [decide_eq_true_eq]; exact h)]
   refine congrArg some ?_
   symm
   rw [decide_eq_false_iff_not]
   exact fun e => h (e _ List.mem_cons_self)
theorem impl_allWithin_eq (l : List Int) (a b : Int) (hl : l.length ≤ 1048576) (k : Nat) (hk : l.length < k) : impl_allWithin.f k l a b = some (decide (∀ x ∈ l, a ≤ x ∧ x ≤ b)) :=
 impl_allWithin_l0 l a b hl l.length k 0 (by omega) (by omega) hk

def Rising (l : List Int) (a b : Int) : Prop := ∀ i, (h : i < l.length) → (a ≤ l[i] ∧ l[i] ≤ b) ∧ (0 < i → l.getD (i - 1) 0 < l[i])
def RowOK (s : Int) (ring : Bool) (t : List Int) : Prop := (2 ≤ s ∧ s ≤ 24) ∧ (ring = true → 3 ≤ s) ∧ Rising t 0 (s - 1)
open Classical in
theorem spec_l1Rising_l0 (l : List Int) (a b : Int) (hl : l.length ≤ 1048576) (d : Nat) : ∀ (k i : Nat), i ≤ l.length → l.length - i = d → d < k → (∀ j, (h : j < i) → (hj : j < l.length) → (a ≤ l[j] ∧ l[j] ≤ b) ∧ (0 < j → l.getD (j - 1) 0 < l[j])) →
  spec_l1Rising.l0 k l a b i = some (decide (Rising l a b)) := by
 induction d with
 | zero =>
  intro k i hi hd hk hp
  obtain ⟨k, rfl, _⟩ := fuel hk
  simp only [spec_l1Rising.l0]
  rw [if_neg (by omega)]
  refine congrArg some ?_
  symm
  rw [decide_eq_true_eq]
  exact fun j hj => hp j (by omega) hj
 | succ d ih =>
  intro k i hi hd hk hp
  obtain ⟨k, rfl, _⟩ := fuel hk
  have no : ¬ ((a ≤ l[i]'(by omega) ∧ l[i]'(by omega) ≤ b) ∧ (0 < i → l.getD (i - 1) 0 < l[i]'(by omega))) → ¬ Rising l a b := fun g e => g (e i (by omega))
  have go : ((a ≤ l[i]'(by omega) ∧ l[i]'(by omega) ≤ b) ∧ (0 < i → l.getD (i - 1) 0 < l[i]'(by omega))) → spec_l1Rising.l0 k l a b (wrap64 ((i : Int) + 1)) = some (decide (Rising l a b)) := by
   intro g
   rw [wrap_one (n := l.length) (by omega) (by omega)]
   refine ih k (i + 1) (by omega) (by omega) (by omega) fun j hj hj' => ?_
   by_cases e : j = i
   ·subst e; exact g
   ·exact hp j (by omega) hj'
  simp only [spec_l1Rising.l0]
  rw [if_pos (by omega), if_pos (by omega), rd_get l i (by omega), spec_l1In_eq, Option.bind_some]
  by_cases g : a ≤ l[i]'(by omega) ∧ l[i]'(by omega) ≤ b
  ·rw [if_pos (decide_eq_true g)]
   by_cases h0 : 0 < i
   ·rw [if_pos (by omega), wrap_id (by omega) (by omega), if_pos (by omega), if_pos (by omega), show (i : Int) - 1 = ((i - 1 : Nat) : Int) from by omega, rd_nat]
    by_cases g2 : l.getD (i - 1) 0 < l[i]'(by omega)
    ·rw [if_neg (by omega)]
     exact go ⟨g, fun _ => g2⟩
    ·rw [if_pos (by omega), decide_eq_false (no fun e => g2 (e.2 h0))]
   ·rw [if_neg (by omega)]
    exact go ⟨g, fun e => absurd e h0⟩
  ·rw [if_neg (by rw [decide_eq_true_eq]; exact g), decide_eq_false (no fun e => g e.1)]
open Classical in
theorem spec_l1Rising_eq (l : List Int) (a b : Int) (hl : l.length ≤ 1048576) (k : Nat) (hk : l.length < k) : spec_l1Rising.f k l a b = some (decide (Rising l a b)) :=
 spec_l1Rising_l0 l a b hl l.length k 0 (by omega) (by omega) hk (fun j h => by omega)
open Classical in
theorem spec_l2Row_eq (s : Int) (ring : Bool) (t : List Int) (ht : t.length ≤ 1048576) (k : Nat) (hk : t.length < k) : spec_l2Row.f k s ring t = some (decide (RowOK s ring t)) := by
 unfold spec_l2Row.f
 rw [spec_l1In_eq, Option.bind_some]
 by_cases h : 2 ≤ s ∧ s ≤ 24
 ·rw [if_pos (decide_eq_true h), wrap_id (by omega) (by omega), spec_l1Rising_eq t _ _ ht k hk, Option.bind_some]
  cases ring with
  | true =>
   rw [if_pos rfl]
   by_cases h3 : s > 2
   ·rw [if_pos h3]
    refine congrArg some ?_
    rw [decide_eq_decide]
    exact ⟨fun e => ⟨h, fun _ => by omega, e⟩, fun e => e.2.2⟩
   ·rw [if_neg h3]
    refine congrArg some ?_
    symm
    rw [decide_eq_false_iff_not]
    exact fun e => h3 (by have := e.2.1 rfl; omega)
  | false =>
   rw [if_neg (by simp)]
   refine congrArg some ?_
   rw [decide_eq_decide]
   exact ⟨fun e => ⟨h, (fun z => by cases z), e⟩, fun e => e.2.2⟩
 ·rw [if_neg (by rw [decide_eq_true_eq]; exact h)]
  refine congrArg some ?_
  symm
  rw [decide_eq_false_iff_not]
  exact fun e => h e.1
theorem impl_bench_has_one (s : Int) (ring : Bool) (p : Int) (k : Nat) (hk : 2 < k) : impl_bench_has.f k s ring [p] = some (decide (0 ≤ p ∧ p ≤ wrap64 (s - 1))) := by
 unfold impl_bench_has.f
 rw [impl_allWithin_eq [p] _ _ (by simp) k (by simp; omega), Option.bind_some]
 refine congrArg some ?_
 rw [decide_eq_decide]
 simp
theorem impl_bench_valid_eq (s : Int) (ring : Bool) : impl_bench_valid.f s ring = some (decide ((2 ≤ s ∧ s ≤ 24) ∧ (ring = true → 3 ≤ s))) := by
 unfold impl_bench_valid.f
 rw [impl_within_eq, Option.bind_some]
 by_cases h : 2 ≤ s ∧ s ≤ 24
 ·rw [if_pos (decide_eq_true h)]
  cases ring with
  | true =>
   rw [if_pos rfl]
   refine congrArg some ?_
   rw [decide_eq_decide]
   exact ⟨fun e => ⟨h, fun _ => e⟩, fun e => e.2 rfl⟩
  | false =>
   rw [if_neg (by simp)]
   refine congrArg some ?_
   symm
   rw [decide_eq_true_eq]
   exact ⟨h, (fun z => by cases z)⟩
 ·rw [if_neg (by rw [decide_eq_true_eq]; exact h)]
  refine congrArg some ?_
  symm
  rw [decide_eq_false_iff_not]
  exact fun e => h e.1
open Classical in
theorem impl_IsRow_l0 (s : Int) (ring : Bool) (l : List Int) (hl : l.length ≤ 1048576) (d : Nat) : ∀ (k i : Nat), i ≤ l.length → l.length - i = d → d + 3 < k → ((2 ≤ s ∧ s ≤ 24) → ∀ j, (h : j < i) → (hj : j < l.length) → (0 ≤ l[j] ∧ l[j] ≤ s - 1) ∧ (0 < j → l.getD (j - 1) 0 < l[j])) →
  impl_IsRow.l0 k l (l.length : Int) i s ring l = some (decide (RowOK s ring l)) := by
 induction d with
 | zero =>
  intro k i hi hd hk hp
  obtain ⟨k, rfl, _⟩ := fuel hk
  simp only [impl_IsRow.l0]
  rw [if_neg (by omega), impl_Row_bench.f, Option.bind_some]
  dsimp only
  rw [impl_bench_valid_eq, Option.bind_some]
  refine congrArg some ?_
  rw [decide_eq_decide]
  exact ⟨fun e => ⟨e.1, e.2, fun j hj => hp e.1 j (by omega) hj⟩, fun e => ⟨e.1, e.2.1⟩⟩
 | succ d ih =>
  intro k i hi hd hk hp
  obtain ⟨k, rfl, _⟩ := fuel hk
  have no : (2 ≤ s ∧ s ≤ 24 → ¬ ((0 ≤ l[i]'(by omega) ∧ l[i]'(by omega) ≤ s - 1) ∧ (0 < i → l.getD (i - 1) 0 < l[i]'(by omega)))) → ¬ RowOK s ring l := fun g e => g e.1 (e.2.2 i (by omega))
  have go : (2 ≤ s ∧ s ≤ 24 → ((0 ≤ l[i]'(by omega) ∧ l[i]'(by omega) ≤ s - 1) ∧ (0 < i → l.getD (i - 1) 0 < l[i]'(by omega)))) → impl_IsRow.l0 k l (l.length : Int) (wrap64 ((i : Int) + 1)) s ring l = some (decide (RowOK s ring l)) := by
   intro g
   rw [wrap_one (n := l.length) (by omega) (by omega)]
   refine ih k (i + 1) (by omega) (by omega) (by omega) fun hs j hj hj' => ?_
   by_cases e : j = i
   ·subst e; exact g hs
   ·exact hp hs j (by omega) hj'
  simp only [impl_IsRow.l0]
  rw [if_pos (by omega), if_pos (by omega), if_pos (by omega), impl_Row_bench.f, Option.bind_some]
  dsimp only
  rw [rd_get l i (by omega), impl_bench_has_one _ _ _ k (by omega), Option.bind_some]
  by_cases g : 0 ≤ l[i]'(by omega) ∧ l[i]'(by omega) ≤ wrap64 (s - 1)
  ·rw [if_pos (decide_eq_true g)]
   have g' : 2 ≤ s ∧ s ≤ 24 → 0 ≤ l[i]'(by omega) ∧ l[i]'(by omega) ≤ s - 1 := fun hs => by
    rw [wrap_id (by omega) (by omega)] at g
    exact g
   by_cases h0 : 0 < i
   ·rw [if_pos (by omega), wrap_id (by omega) (by omega), if_pos (by omega), if_pos (by omega), show (i : Int) - 1 = ((i - 1 : Nat) : Int) from by omega, rd_nat]
    by_cases g2 : l.getD (i - 1) 0 < l[i]'(by omega)
    ·rw [if_neg (by omega)]
     exact go fun hs => ⟨g' hs, fun _ => g2⟩
    ·rw [if_pos (by omega), decide_eq_false (no fun _ e => g2 (e.2 h0))]
   ·rw [if_neg (by omega)]
    exact go fun hs => ⟨g' hs, fun e => absurd e h0⟩
  ·rw [if_neg (by rw [decide_eq_true_eq]; exact g)]
   rw [decide_eq_false (no fun hs e => g ?_)]
   rw [wrap_id (by omega) (by omega)]
   exact e.1
open Classical in
theorem impl_IsRow_eq (s : Int) (ring : Bool) (l : List Int) (hl : l.length ≤ 1048576) (k : Nat) (hk : l.length + 3 < k) : impl_IsRow.f k s ring l = some (decide (RowOK s ring l)) :=
 impl_IsRow_l0 s ring l hl l.length k 0 (by omega) (by omega) hk (fun _ j h => by omega)
theorem rising_lt (l : List Int) (a b : Int) (h : Rising l a b) (i j : Nat) (hij : i < j) (hj : j < l.length) : l[i]'(by omega) < l[j] := by
 induction j with
 | zero => omega
 | succ j ih =>
  have h1 := (h (j + 1) hj).2 (by omega)
  rw [show j + 1 - 1 = j from by omega, show l.getD j 0 = l[j]'(by omega) from by simp [List.getD, show j < l.length by omega]] at h1
  by_cases e : i = j
  ·subst e; exact h1
  ·have := ih (by omega) (by omega)
   omega
theorem rising_mem (l : List Int) (a b : Int) (h : Rising l a b) : ∀ x ∈ l, a ≤ x ∧ x ≤ b := by
 intro x hx
 obtain ⟨i, hi, rfl⟩ := List.getElem_of_mem hx
 exact (h i hi).1
theorem rising_nodup (l : List Int) (a b : Int) (h : Rising l a b) : l.Nodup := by
 refine List.pairwise_iff_getElem.2 fun i j hi hj hij e => ?_
 have := rising_lt l a b h i j hij hj
 omega
theorem row_len (s : Int) (ring : Bool) (t : List Int) (h : RowOK s ring t) : t.length ≤ 24 := by
 have hn := rising_nodup t _ _ h.2.2
 have hs : t ⊆ (List.range 24).map fun i : Nat => (i : Int) := by
  intro x hx
  have := rising_mem t _ _ h.2.2 x hx
  have := h.1
  exact List.mem_map.2 ⟨x.toNat, List.mem_range.2 (by omega), by omega⟩
 have := List.Nodup.length_le_of_subset hn hs
 simpa using this

structure Seats (t : List Int) : Prop where
 low : ∀ x ∈ t, 0 ≤ x ∧ x < 32
 nodup : t.Nodup
theorem setN_ext (S : Nat) (l : List Int) (h : ∀ i, S.testBit i = true ↔ ∃ p ∈ l, p.toNat = i) : S = setN l := by
 refine Nat.eq_of_testBit_eq fun i => ?_
 rw [testBit_setN, Bool.eq_iff_iff, h, decide_eq_true_eq]

theorem ctz_lowest (s a : Nat) (ha : s.testBit a = true) (hl : ∀ j, j < a → s.testBit j = false) (h : s < 2 ^ 32) : Lib.ctz 32 s = a := by
 have h0 : s ≠ 0 := fun e => by rw [e] at ha; simp at ha
 unfold Lib.ctz
 rw [if_neg h0]
 obtain ⟨m, hm, hf⟩ := Lib.ctzFrom_spec 32 s (by omega) h
 generalize Lib.ctzFrom 32 s = c at hm hf
 rcases Nat.lt_trichotomy c a with g | g | g
 ·have := hl c g
  rw [hm, Nat.testBit_two_pow_mul] at this
  simp at this
 ·exact g
 ·rw [hm, Nat.testBit_two_pow_mul] at ha
  simp at ha
  omega
theorem and_pred (q a : Nat) : (2 ^ (a + 1) * q + 2 ^ a) &&& (2 ^ (a + 1) * q + 2 ^ a - 1) = 2 ^ (a + 1) * q := by
 have p : 0 < 2 ^ a := Nat.two_pow_pos a
 have l1 : 2 ^ a < 2 ^ (a + 1) := Nat.pow_lt_pow_right (by omega) (by omega)
 refine Nat.eq_of_testBit_eq fun j => ?_
 rw [show 2 ^ (a + 1) * q + 2 ^ a - 1 = 2 ^ (a + 1) * q + (2 ^ a - 1) from by omega, Nat.testBit_and, Nat.testBit_two_pow_mul_add q l1 j, Nat.testBit_two_pow_mul_add q (show 2 ^ a - 1 < 2 ^ (a + 1) by omega) j, Nat.testBit_two_pow_mul]
 by_cases g : j < a + 1
 ·rw [if_pos g, if_pos g, decide_eq_false (by omega : ¬ a + 1 ≤ j), Bool.false_and, Nat.testBit_two_pow, Nat.testBit_two_pow_sub_one]
  by_cases e : a = j
  ·subst e; simp
  ·simp [e]
 ·rw [if_neg g, if_neg g, decide_eq_true (by omega : a + 1 ≤ j), Bool.true_and, Bool.and_self]
theorem setN_cons (a : Int) (L : List Int) : setN (a :: L) = 2 ^ a.toNat ||| setN L := by
 refine Nat.eq_of_testBit_eq fun j => ?_
 rw [testBit_setN, Nat.testBit_or, Nat.testBit_two_pow, testBit_setN, Bool.eq_iff_iff]
 simp
theorem setN_split (a : Nat) (L : List Int) (hL : ∀ x ∈ L, (a : Int) < x) : ∃ q, setN L = 2 ^ (a + 1) * q ∧ setN ((a : Int) :: L) = 2 ^ (a + 1) * q + 2 ^ a := by
 have e : setN L = 2 ^ (a + 1) * (setN L / 2 ^ (a + 1)) := by
  have hz : setN L % 2 ^ (a + 1) = 0 := by
   refine Nat.eq_of_testBit_eq fun j => ?_
   rw [Nat.testBit_mod_two_pow, testBit_setN]
   by_cases g : j < a + 1
   ·have : ¬ ∃ p ∈ L, p.toNat = j := fun ⟨p, hp, e⟩ => by have := hL p hp; omega
    rw [decide_eq_false this]
    simp
   ·rw [decide_eq_false g]
    simp
  have := Nat.mod_add_div (setN L) (2 ^ (a + 1))
  omega
 refine ⟨setN L / 2 ^ (a + 1), e, ?_⟩
 have l1 : 2 ^ a < 2 ^ (a + 1) := Nat.pow_lt_pow_right (by omega) (by omega)
 rw [setN_cons, Int.toNat_natCast]
 generalize setN L / 2 ^ (a + 1) = q at e
 rw [e, Nat.or_comm, Nat.two_pow_add_eq_or_of_lt l1]
theorem set_list_l0 (L : List Int) : ∀ (out : List Int) (k : Nat), L.Pairwise (· < ·) → (∀ x ∈ L, 0 ≤ x ∧ x < 32) → out.length + L.length ≤ 1000 → L.length < k → impl_set_list.l0 k ((setN L : Nat) : Int) out = some (out ++ L) := by
 induction L with
 | nil =>
  intro out k _ _ _ hk
  obtain ⟨k, rfl, _⟩ := fuel hk
  simp only [impl_set_list.l0]
  rw [if_pos (show ((setN [] : Nat) : Int) = 0 from rfl), List.append_nil]
 | cons b L ih =>
  intro out k hp hb ho hk
  obtain ⟨k, rfl, hk'⟩ := fuel hk
  rw [List.length_cons] at ho hk'
  obtain ⟨h1, h2⟩ := List.pairwise_cons.1 hp
  have hb0 := hb b List.mem_cons_self
  obtain ⟨a, rfl⟩ : ∃ a : Nat, b = a := ⟨b.toNat, by omega⟩
  obtain ⟨q, e1, e2⟩ := setN_split a L h1
  have hlt : setN ((a : Int) :: L) < 4294967296 := setN_u32 _ fun p hp => (hb p hp).2
  have hlt2 : setN L < 4294967296 := setN_u32 _ fun p hp => (hb p (List.mem_cons_of_mem _ hp)).2
  have pa : 0 < 2 ^ a := Nat.two_pow_pos a
  have hctz : Lib.ctz 32 (setN ((a : Int) :: L)) = a := by
   refine ctz_lowest _ a ?_ (fun j hj => ?_) hlt
   ·rw [testBit_setN]
    exact decide_eq_true ⟨a, List.mem_cons_self, Int.toNat_natCast a⟩
   ·rw [testBit_setN]
    refine decide_eq_false fun ⟨p, hp, e⟩ => ?_
    rcases List.mem_cons.1 hp with g | g
    ·omega
    ·have := h1 p g; omega
  simp only [impl_set_list.l0]
  rw [if_neg (by omega)]
  have ef : bits_TrailingZeros32.f ((setN ((a : Int) :: L) : Nat) : Int) = some (a : Int) := by
   unfold bits_TrailingZeros32.f
   rw [if_pos (by omega), Int.toNat_natCast, hctz]
  rw [ef, Option.bind_some, if_pos (by omega)]
  have em : (((setN ((a : Int) :: L) : Nat) : Int) - 1) % 4294967296 = ((setN ((a : Int) :: L) - 1 : Nat) : Int) := by omega
  rw [em, and_cast _ _ hlt (by omega), e2, and_pred, ← e1, ih (out ++ [(a : Int)]) k h2 (fun x hx => hb x (List.mem_cons_of_mem _ hx)) (by simp; omega) (by omega), List.append_assoc]
  rfl
theorem set_list_ev (L : List Int) (hp : L.Pairwise (· < ·)) (hb : ∀ x ∈ L, 0 ≤ x ∧ x < 32) (hl : L.length ≤ 100) : Ev (fun k => impl_set_list.f k ((setN L : Nat) : Int)) L := by
 refine Ev.bound L.length fun k hk => ?_
 unfold impl_set_list.f
 have := set_list_l0 L [] k hp hb (by simp; omega) hk
 rwa [List.nil_append] at this

theorem impl_setOf_l0 (l : List Int) (hl : l.length ≤ 1048576) (hb : ∀ x ∈ l, 0 ≤ x ∧ x < 32) (d : Nat) : ∀ (k i s : Nat), s < 4294967296 → i ≤ l.length → l.length - i = d → d < k →
  impl_setOf.l0 k (s : Int) l (l.length : Int) i = some (((l.drop i).foldl (fun s p => s ||| 2 ^ p.toNat) s : Nat) : Int) := by
 induction d with
 | zero =>
  intro k i s hs hi hd hk
  obtain ⟨k, rfl, _⟩ := fuel hk
  simp only [impl_setOf.l0]
  rw [if_neg (by omega), List.drop_eq_nil_of_le (by omega)]
  rfl
 | succ d ih =>
  intro k i s hs hi hd hk
  obtain ⟨k, rfl, _⟩ := fuel hk
  obtain ⟨b0, b1⟩ := hb (l[i]'(by omega)) (List.getElem_mem _)
  have hp : 2 ^ (l[i]'(by omega)).toNat < 2 ^ 32 := Nat.pow_lt_pow_right (by omega) (by omega)
  simp only [impl_setOf.l0]
  rw [if_pos (by omega), if_pos (by omega), if_pos (by omega), wrap_one (n := l.length) (by omega) (by omega), rd_get l i (by omega), if_pos b0, shl_one _ b0 b1, or_cast _ _ hs hp]
  rw [ih k (i + 1) _ (Nat.or_lt_two_pow (n := 32) hs hp) (by omega) (by omega) (by omega), List.drop_eq_getElem_cons (l := l) (i := i) (by omega)]
  rfl
theorem impl_setOf_eq (l : List Int) (hl : l.length ≤ 1048576) (hb : ∀ x ∈ l, 0 ≤ x ∧ x < 32) (k : Nat) (hk : l.length < k) : impl_setOf.f k l = some ((setN l : Nat) : Int) :=
 impl_setOf_l0 l hl hb l.length k 0 0 (by omega) (by omega) (by omega) hk

theorem taken_lt (s : Int) (ring : Bool) (t : List Int) (hr : RowOK s ring t) : (∀ x ∈ t, 0 ≤ x ∧ x < 32) ∧ setN t < 4294967296 := by
 have hm := rising_mem t _ _ hr.2.2
 have h24 := hr.1
 exact ⟨fun x hx => by have := hm x hx; omega, setN_u32 t fun x hx => by have := hm x hx; omega⟩
theorem impl_taken_eq (s : Int) (ring : Bool) (t : List Int) (hr : RowOK s ring t) (k : Nat) (hk : t.length < k) : impl_Row_taken.f k s ring t = some ((setN t : Nat) : Int) := by
 unfold impl_Row_taken.f
 have := row_len s ring t hr
 rw [impl_setOf_eq t (by omega) (taken_lt s ring t hr).1 k hk, Option.bind_some]

theorem spec_l1Own_eq (l : List Int) (h : l.length < 17592186044416) : spec_l1Own.f l = some l := by
 unfold spec_l1Own.f
 rw [Option.bind_some, if_pos (by simpa using h)]
 rfl

def putL (t : List Int) (p : Int) : List Int := (t.filter fun x => decide (x < p)) ++ p :: t.filter fun x => decide (p < x)
theorem rising_split (t : List Int) (p : Int) (hr : ∀ i j, (h : i < j) → (hj : j < t.length) → t[i]'(by omega) < t[j]) (i : Nat) (hi : i ≤ t.length) (h1 : ∀ j, (h : j < i) → t[j]'(by omega) < p) (h2 : ∀ j, i ≤ j → (hj : j < t.length) → p < t[j]) :
  t.take i = (t.filter fun x => decide (x < p)) ∧ t.drop i = (t.filter fun x => decide (p < x)) := by
 have e := (List.take_append_drop i t).symm
 have a1 : ∀ x ∈ t.take i, x < p := fun x hx => by
  obtain ⟨j, hj, rfl⟩ := List.getElem_of_mem hx
  rw [List.length_take] at hj
  rw [List.getElem_take]
  exact h1 j (by omega)
 have a2 : ∀ x ∈ t.drop i, p < x := fun x hx => by
  obtain ⟨j, hj, rfl⟩ := List.getElem_of_mem hx
  rw [List.length_drop] at hj
  rw [List.getElem_drop]
  exact h2 _ (by omega) (by omega)
 constructor
 ·conv => rhs; rw [e]
  rw [List.filter_append, List.filter_eq_self.2 (fun x hx => decide_eq_true (a1 x hx)), List.filter_eq_nil_iff.2 (fun x hx => by have := a2 x hx; simp; omega), List.append_nil]
 ·conv => rhs; rw [e]
  rw [List.filter_append, List.filter_eq_nil_iff.2 (fun x hx => by have := a1 x hx; simp; omega), List.filter_eq_self.2 (fun x hx => decide_eq_true (a2 x hx)), List.nil_append]
theorem spec_l1Put_l0 (t : List Int) (p : Int) (ht : t.length ≤ 1048576) (hr : ∀ i j, (h : i < j) → (hj : j < t.length) → t[i]'(by omega) < t[j]) (hp : p ∉ t) (d : Nat) : ∀ (k i : Nat), i ≤ t.length → t.length - i = d → d < k → (∀ j, (h : j < i) → (hj : j < t.length) → t[j] < p) →
  spec_l1Put.l0 k t p (i : Int) = some (putL t p) := by
 have done : ∀ i, i ≤ t.length → (∀ j, (h : j < i) → (hj : j < t.length) → t[j] < p) → (∀ j, i ≤ j → (hj : j < t.length) → p < t[j]) → [] ++ t.take i ++ [p] ++ t.drop i = putL t p := by
  intro i hi h1 h2
  obtain ⟨e1, e2⟩ := rising_split t p hr i hi (fun j hj => h1 j hj (by omega)) h2
  rw [e1, e2]
  simp [putL]
 induction d with
 | zero =>
  intro k i hi hd hk h1
  obtain ⟨k, rfl, _⟩ := fuel hk
  simp only [spec_l1Put.l0]
  rw [if_neg (by omega), Option.bind_some, if_pos (by omega), if_pos (by omega), if_pos (by simp; omega), Option.bind_some, Option.bind_some, if_pos (by simp; omega), Option.bind_some, if_pos (by simp; omega), Int.toNat_natCast, done i hi h1 (fun j hj hj' => by omega)]
 | succ d ih =>
  intro k i hi hd hk h1
  obtain ⟨k, rfl, _⟩ := fuel hk
  simp only [spec_l1Put.l0]
  rw [if_pos (by omega), if_pos (by omega), rd_get t i (by omega)]
  by_cases g : t[i]'(by omega) < p
  ·rw [if_pos g, wrap_one (n := t.length) (by omega) (by omega)]
   refine ih k (i + 1) (by omega) (by omega) (by omega) fun j hj hj' => ?_
   by_cases e : j = i
   ·subst e; exact g
   ·exact h1 j (by omega) hj'
  ·have hne : t[i]'(by omega) ≠ p := fun e => hp (e ▸ List.getElem_mem _)
   rw [if_neg g, if_neg hne, Option.bind_some, if_pos (by omega), if_pos (by simp; omega), Option.bind_some, Option.bind_some, if_pos (by simp; omega), Option.bind_some, if_pos (by simp; omega), Int.toNat_natCast, done i hi h1]
   intro j hj hj'
   by_cases e : j = i
   ·subst e; omega
   ·have := hr i j (by omega) hj'
    omega
theorem spec_l1Put_eq (t : List Int) (p : Int) (ht : t.length ≤ 1048576) (hr : ∀ i j, (h : i < j) → (hj : j < t.length) → t[i]'(by omega) < t[j]) (hp : p ∉ t) (k : Nat) (hk : t.length < k) : spec_l1Put.f k t p = some (putL t p) :=
 spec_l1Put_l0 t p ht hr hp t.length k 0 (by omega) (by omega) hk (fun j h => by omega)
theorem spec_l2With_eq (s : Int) (ring : Bool) (t : List Int) (p : Int) (ht : t.length ≤ 1048576) (hr : ∀ i j, (h : i < j) → (hj : j < t.length) → t[i]'(by omega) < t[j]) (hp : p ∉ t) (k : Nat) (hk : t.length < k) : spec_l2With.f k s ring t p = some (s, ring, putL t p) := by
 unfold spec_l2With.f
 rw [spec_l1Own_eq t (by omega), Option.bind_some, spec_l1Put_eq t p ht hr hp k hk, Option.bind_some, spec_l2Made.f, Option.bind_some]
theorem mem_put (t : List Int) (p x : Int) (hp : p ∉ t) : x ∈ putL t p ↔ x = p ∨ x ∈ t := by
 unfold putL
 rw [List.mem_append, List.mem_cons, List.mem_filter, List.mem_filter, decide_eq_true_eq, decide_eq_true_eq]
 constructor
 ·rintro (e | e | e)
  ·exact .inr e.1
  ·exact .inl e
  ·exact .inr e.1
 ·rintro (e | e)
  ·exact .inr (.inl e)
  ·rcases Int.lt_trichotomy x p with g | g | g
   ·exact .inl ⟨e, g⟩
   ·exact .inr (.inl g)
   ·exact .inr (.inr ⟨e, g⟩)
theorem rising_of (t : List Int) (h : t.Pairwise (· < ·)) : ∀ i j, (h : i < j) → (hj : j < t.length) → t[i]'(by omega) < t[j] := fun i j hij hj => List.pairwise_iff_getElem.1 h i j (by omega) hj hij
theorem put_pairwise (t : List Int) (p : Int) (h : t.Pairwise (· < ·)) : (putL t p).Pairwise (· < ·) := by
 unfold putL
 rw [List.pairwise_append]
 refine ⟨List.Pairwise.filter _ h, List.pairwise_cons.2 ⟨fun x hx => ?_, List.Pairwise.filter _ h⟩, fun a ha b hb => ?_⟩
 ·exact of_decide_eq_true (List.mem_filter.1 hx).2
 ·have h1 := of_decide_eq_true (List.mem_filter.1 ha).2
  rcases List.mem_cons.1 hb with e | e
  ·omega
  ·have h2 := of_decide_eq_true (List.mem_filter.1 e).2
   omega
theorem row_pairwise {s : Int} {ring : Bool} {t : List Int} (h : RowOK s ring t) : t.Pairwise (· < ·) := List.pairwise_iff_getElem.2 fun i j hi hj hij => rising_lt t _ _ h.2.2 i j hij hj
def nearL (g : Int → Int) : List Int → Int → Int
 | [], a => a
 | q :: qs, a => nearL g qs (if a < 0 then g q else if g q < a then g q else a)
theorem gapI_range (n : Nat) (ring : Bool) (p q : Nat) (hp : p < n) (hq : q < n) : 0 ≤ gapI n ring p q ∧ gapI n ring p q < n := by
 unfold gapI
 generalize hd : (if (p : Int) - q > (q : Int) - p then (p : Int) - q else (q : Int) - p) = d
 have hb : 0 ≤ d ∧ d < n := by rw [← hd]; split <;> omega
 split
 ·split <;> omega
 ·omega
theorem gapI_zero (n : Nat) (ring : Bool) (p q : Nat) (hp : p < n) (hq : q < n) : gapI n ring p q = 0 ↔ p = q := by
 unfold gapI
 generalize hd : (if (p : Int) - q > (q : Int) - p then (p : Int) - q else (q : Int) - p) = d
 have hb : 0 ≤ d ∧ d < n ∧ (d = 0 ↔ p = q) := by rw [← hd]; split <;> omega
 split
 ·split <;> omega
 ·omega
theorem nearL_range (g : Int → Int) (m : Int) : ∀ (l : List Int) (a : Int), (∀ x ∈ l, 0 ≤ g x ∧ g x < m) → (a = -1 ∨ 0 ≤ a ∧ a < m) → (l = [] ∧ nearL g l a = a) ∨ (0 ≤ nearL g l a ∧ nearL g l a < m)
 | [], a, _, _ => .inl ⟨rfl, rfl⟩
 | q :: qs, a, h, ha => by
  have hq := h q List.mem_cons_self
  rw [nearL]
  have := nearL_range g m qs (if a < 0 then g q else if g q < a then g q else a) (fun x hx => h x (List.mem_cons_of_mem _ hx)) (by
   rcases ha with rfl | ha
   ·rw [if_pos (by omega)]; exact .inr hq
   ·rw [if_neg (by omega)]
    split
    ·exact .inr hq
    ·exact .inr ha)
  rcases this with ⟨_, e⟩ | h2
  ·rw [e]
   refine .inr ?_
   rcases ha with rfl | ha
   ·rw [if_pos (by omega)]; exact hq
   ·rw [if_neg (by omega)]
    split
    ·exact hq
    ·exact ha
  ·exact .inr h2
theorem nearL_zero (g : Int → Int) : ∀ (l : List Int) (a : Int), (∀ x ∈ l, 0 ≤ g x) → (-1 ≤ a) → (nearL g l a = 0 ↔ a = 0 ∨ ∃ x ∈ l, g x = 0)
 | [], a, _, _ => by simp [nearL]
 | q :: qs, a, h, ha => by
  have hq := h q List.mem_cons_self
  rw [nearL, nearL_zero g qs _ (fun x hx => h x (List.mem_cons_of_mem _ hx)) (by split; omega; split <;> omega)]
  have : (if a < 0 then g q else if g q < a then g q else a) = 0 ↔ a = 0 ∨ g q = 0 := by
   split
   ·omega
   ·split <;> omega
  rw [this]
  simp only [List.mem_cons, exists_eq_or_imp, or_assoc]
def farV (n : Nat) (ring : Bool) (t : List Int) (p : Nat) : Int := if t = [] then (n : Int) else nearL (fun q => gapI n ring p q.toNat) t (-1)
section
variable {n : Nat} {ring : Bool} {t : List Int} (hR : RowOK n ring t)
include hR
theorem far_in : ∀ x ∈ t, 0 ≤ x ∧ x < n := fun x hx => by have := rising_mem t _ _ hR.2.2 x hx; omega
theorem far_range (p : Nat) (hp : p < n) : 0 ≤ farV n ring t p ∧ farV n ring t p ≤ n := by
 unfold farV
 split
 ·omega
 ·rename_i hne
  have h := far_in hR
  rcases nearL_range (fun q => gapI n ring p q.toNat) n t (-1) (fun x hx => gapI_range n ring p x.toNat hp (by have := h x hx; omega)) (.inl rfl) with ⟨e, _⟩ | e
  ·exact absurd e hne
  ·omega
theorem far_zero (p : Nat) (hp : p < n) : farV n ring t p = 0 ↔ (p : Int) ∈ t := by
 have hn : 2 ≤ n := by have := hR.1.1; omega
 have h := far_in hR
 unfold farV
 split
 ·rename_i e
  subst e
  constructor
  ·intro e; omega
  ·intro e; simp at e
 ·rw [nearL_zero _ _ _ (fun x hx => (gapI_range n ring p x.toNat hp (by have := h x hx; omega)).1) (by omega)]
  constructor
  ·rintro (e | ⟨x, hx, e⟩)
   ·omega
   ·have := h x hx
    have := (gapI_zero n ring p x.toNat hp (by omega)).1 e
    rwa [show (p : Int) = x by omega]
  ·intro e
   exact .inr ⟨p, e, (gapI_zero n ring p _ hp (by simpa using hp)).2 (by simp)⟩
theorem impl_nearest_ev (p : Nat) (hp : p < n) : ∃ b : Int, Ev (fun k => impl_bench_nearest.f k n ring p ((setN t : Nat) : Int)) (b, mx 0 (nearL (fun q => gapI n ring p q.toNat) t (-1)), decide (nearL (fun q => gapI n ring p q.toNat) t (-1) ≥ 0)) := by
 have hn : n ≤ 24 := by have := hR.1.2; omega
 have h := far_in hR
 have hl := row_len _ ring _ hR
 have main : ∀ (l : List Int) (i : Nat) (b a : Int), t.drop i = l → ∃ b' : Int, Ev (fun k => impl_bench_nearest.l0 k p b a t (t.length : Int) i n ring) (b', mx 0 (nearL (fun q => gapI n ring p q.toNat) l a), decide (nearL (fun q => gapI n ring p q.toNat) l a ≥ 0)) := by
  intro l
  induction l with
  | nil =>
   intro i b a e
   have : t.length ≤ i := List.drop_eq_nil_iff.1 e
   refine ⟨b, Ev.succ ?_⟩
   simp only [impl_bench_nearest.l0]
   exact Ev.neg (by omega) (Ev.now _)
  | cons q qs ih =>
   intro i b a e
   have hi : i < t.length := by
    rcases Nat.lt_or_ge i t.length with g | g
    ·exact g
    ·rw [List.drop_eq_nil_iff.2 g] at e; cases e
   rw [List.drop_eq_getElem_cons hi] at e
   injection e with e1 e2
   have hq := h q (by rw [← e1]; exact List.getElem_mem hi)
   obtain ⟨b', go⟩ := ih (i + 1) q (gapI n ring p q.toNat) e2
   obtain ⟨b2, go2⟩ := ih (i + 1) b a e2
   have hg := gapI_range n ring p q.toNat hp (by omega)
   have ge := impl_gap_eq n ring p q.toNat hn hp (by omega)
   rw [show ((q.toNat : Nat) : Int) = q by omega] at ge
   by_cases c1 : a < 0
   ·refine ⟨b', Ev.succ ?_⟩
    simp only [impl_bench_nearest.l0, nearL]
    rw [if_pos c1]
    refine Ev.pos (by omega) (Ev.pos (by omega) (Ev.pos (by omega) ?_))
    rw [rd_get t i hi, e1, wrap_one (n := 100) (by omega) (by omega)]
    exact Ev.have ge (Ev.pos c1 go)
   ·by_cases c2 : gapI n ring p q.toNat < a
    ·refine ⟨b', Ev.succ ?_⟩
     simp only [impl_bench_nearest.l0, nearL]
     rw [if_neg c1, if_pos c2]
     refine Ev.pos (by omega) (Ev.pos (by omega) (Ev.pos (by omega) ?_))
     rw [rd_get t i hi, e1, wrap_one (n := 100) (by omega) (by omega)]
     exact Ev.have ge (Ev.neg c1 (Ev.pos c2 go))
    ·refine ⟨b2, Ev.succ ?_⟩
     simp only [impl_bench_nearest.l0, nearL]
     rw [if_neg c1, if_neg c2]
     refine Ev.pos (by omega) (Ev.pos (by omega) (Ev.pos (by omega) ?_))
     rw [rd_get t i hi, e1, wrap_one (n := 100) (by omega) (by omega)]
     exact Ev.have ge (Ev.neg c1 (Ev.neg c2 go2))
 obtain ⟨b, hb⟩ := main t 0 0 (-1) rfl
 refine ⟨b, ?_⟩
 unfold impl_bench_nearest.f
 exact Ev.bind (set_list_ev t (row_pairwise hR) (fun x hx => by have := h x hx; omega) (by omega)) hb
theorem spec_far_ev (p : Nat) (hp : p < n) : Ev (fun k => spec_l3Far.f k n ring t p) (farV n ring t p) := by
 have hn : n ≤ 24 := by have := hR.1.2; omega
 have h := far_in hR
 have hl := row_len _ ring _ hR
 have main : ∀ (l : List Int) (i : Nat) (b a : Int), t.drop i = l → (b < 0 ↔ a < 0) → ∃ b' : Int, Ev (fun k => spec_l2Nearest.l0 k t p b a i n ring t) (b', nearL (fun q => gapI n ring p q.toNat) l a) := by
  intro l
  induction l with
  | nil =>
   intro i b a e _
   have : t.length ≤ i := List.drop_eq_nil_iff.1 e
   refine ⟨b, Ev.succ ?_⟩
   simp only [spec_l2Nearest.l0]
   exact Ev.neg (by omega) (Ev.now _)
  | cons q qs ih =>
   intro i b a e hab
   have hi : i < t.length := by
    rcases Nat.lt_or_ge i t.length with g | g
    ·exact g
    ·rw [List.drop_eq_nil_iff.2 g] at e; cases e
   rw [List.drop_eq_getElem_cons hi] at e
   injection e with e1 e2
   have hq := h q (by rw [← e1]; exact List.getElem_mem hi)
   have hg := gapI_range n ring p q.toNat hp (by omega)
   obtain ⟨b', go⟩ := ih (i + 1) q (gapI n ring p q.toNat) e2 (by omega)
   obtain ⟨b2, go2⟩ := ih (i + 1) b a e2 hab
   have ge := spec_l2Gap_eq n ring t p q.toNat hn hp (by omega)
   rw [show ((q.toNat : Nat) : Int) = q by omega] at ge
   by_cases c1 : a < 0
   ·refine ⟨b', Ev.succ ?_⟩
    simp only [spec_l2Nearest.l0, nearL]
    rw [if_pos c1]
    refine Ev.pos (by omega) (Ev.pos (by omega) ?_)
    rw [rd_get t i hi, e1, wrap_one (n := 100) (by omega) (by omega)]
    exact Ev.have ge (Ev.pos (hab.2 c1) go)
   ·by_cases c2 : gapI n ring p q.toNat < a
    ·refine ⟨b', Ev.succ ?_⟩
     simp only [spec_l2Nearest.l0, nearL]
     rw [if_neg c1, if_pos c2]
     refine Ev.pos (by omega) (Ev.pos (by omega) ?_)
     rw [rd_get t i hi, e1, wrap_one (n := 100) (by omega) (by omega)]
     exact Ev.have ge (Ev.neg (fun x => c1 (hab.1 x)) (Ev.pos c2 go))
    ·refine ⟨b2, Ev.succ ?_⟩
     simp only [spec_l2Nearest.l0, nearL]
     rw [if_neg c1, if_neg c2]
     refine Ev.pos (by omega) (Ev.pos (by omega) ?_)
     rw [rd_get t i hi, e1, wrap_one (n := 100) (by omega) (by omega)]
     exact Ev.have ge (Ev.neg (fun x => c1 (hab.1 x)) (Ev.neg c2 go2))
 unfold spec_l3Far.f farV
 by_cases ht : t = []
 ·rw [if_pos ht]
  exact Ev.pos (by rw [ht]; rfl) (Ev.now _)
 ·rw [if_neg ht]
  have : 0 < t.length := List.length_pos_iff.2 ht
  obtain ⟨b, hb⟩ := main t 0 (-1) (-1) rfl (by omega)
  refine Ev.neg (by omega) (Ev.bind (a := nearL (fun q => gapI n ring p q.toNat) t (-1)) ?_ (Ev.now _))
  unfold spec_l2Farthest.f spec_l2Nearest.f
  exact Ev.bind hb (Ev.now _)
def farL (n : Nat) (ring : Bool) (t : List Int) (i : Nat) : List Int := (List.range i).map (farV n ring t)
omit hR in
theorem farL_succ (i : Nat) : farL n ring t (i + 1) = farL n ring t i ++ [farV n ring t i] := by simp [farL, List.range_succ]
omit hR in
theorem farL_len (i : Nat) : (farL n ring t i).length = i := by simp [farL]
omit hR in
theorem farL_rd (i p : Nat) (h : p < i) : rd (farL n ring t i) p = farV n ring t p := by
 rw [rd_get _ _ (by rw [farL_len]; exact h)]
 simp [farL]
theorem spec_all_ev : Ev (fun k => spec_l3All.f k n ring t) (farL n ring t n) := by
 have hn : n ≤ 24 := by have := hR.1.2; omega
 have main : ∀ d i, i + d = n → Ev (fun k => spec_l3All.l0 k (farL n ring t i) i n ring t) (farL n ring t n) := by
  intro d
  induction d with
  | zero =>
   intro i hi
   obtain rfl : i = n := by omega
   refine Ev.succ ?_
   simp only [spec_l3All.l0]
   exact Ev.neg (by omega) (Ev.now _)
  | succ d ih =>
   intro i hi
   have go := ih (i + 1) (by omega)
   rw [farL_succ] at go
   refine Ev.succ ?_
   simp only [spec_l3All.l0]
   rw [wrap_one (n := 100) (by omega) (by omega)]
   exact Ev.pos (by omega) (Ev.bind (spec_far_ev hR i (by omega)) (Ev.pos (by rw [farL_len]; omega) go))
 unfold spec_l3All.f
 exact main n 0 (by omega)
theorem impl_farness_ev : Ev (fun k => impl_bench_farness.f k n ring ((setN t : Nat) : Int)) (farL n ring t n) := by
 have hn : n ≤ 24 := by have := hR.1.2; omega
 have h := far_in hR
 have main : ∀ d i, i + d = n → Ev (fun k => impl_bench_farness.l0 k ((setN t : Nat) : Int) (farL n ring t i) n i n ring) (farL n ring t n) := by
  intro d
  induction d with
  | zero =>
   intro i hi
   obtain rfl : i = n := by omega
   refine Ev.succ ?_
   simp only [impl_bench_farness.l0]
   exact Ev.neg (by omega) (Ev.now _)
  | succ d ih =>
   intro i hi
   have go := ih (i + 1) (by omega)
   rw [farL_succ] at go
   obtain ⟨b, hb⟩ := impl_nearest_ev hR i (by omega)
   refine Ev.succ ?_
   simp only [impl_bench_farness.l0]
   rw [wrap_one (n := 100) (by omega) (by omega)]
   refine Ev.pos (by omega) (Ev.bind hb ?_)
   dsimp only
   unfold farV at go
   by_cases ht : t = []
   ·rw [if_pos ht] at go
    exact Ev.neg (by rw [ht]; simp [nearL]) (Ev.pos (by rw [farL_len]; omega) go)
   ·rw [if_neg ht] at go
    rcases nearL_range (fun q => gapI n ring i q.toNat) n t (-1) (fun x hx => gapI_range n ring i x.toNat (by omega) (by have := h x hx; omega)) (.inl rfl) with ⟨e, _⟩ | e
    ·exact absurd e ht
    ·rw [show mx 0 (nearL (fun q => gapI n ring i q.toNat) t (-1)) = nearL (fun q => gapI n ring i q.toNat) t (-1) from by unfold mx; split <;> omega]
     exact Ev.pos (decide_eq_true e.1) (Ev.pos (by rw [farL_len]; omega) go)
 unfold impl_bench_farness.f
 exact main n 0 (by omega)
end

theorem spec_l1Has_l0 (l : List Int) (n : Int) (hl : l.length ≤ 1048576) (d : Nat) : ∀ (k i : Nat), i ≤ l.length → l.length - i = d → d < k → spec_l1Has.l0 k l n i = some (decide (n ∈ l.drop i)) := by
 induction d with
 | zero =>
  intro k i hi hd hk
  obtain ⟨k, rfl, _⟩ := fuel hk
  simp only [spec_l1Has.l0]
  rw [if_neg (by omega), List.drop_eq_nil_of_le (by omega)]
  simp
 | succ d ih =>
  intro k i hi hd hk
  obtain ⟨k, rfl, _⟩ := fuel hk
  simp only [spec_l1Has.l0]
  rw [if_pos (by omega), if_pos (by omega), wrap_one (n := l.length) (by omega) (by omega), rd_get l i (by omega), ih k (i + 1) (by omega) (by omega) (by omega)]
  rw [List.drop_eq_getElem_cons (l := l) (i := i) (by omega)]
  by_cases h : l[i]'(by omega) = n
  ·rw [if_pos h, h]
   simp
  ·rw [if_neg h]
   refine congrArg some ?_
   rw [decide_eq_decide, List.mem_cons]
   exact ⟨.inr, fun e => e.resolve_left fun e => h e.symm⟩
theorem spec_l1Has_eq (l : List Int) (n : Int) (hl : l.length ≤ 1048576) (k : Nat) (hk : l.length < k) : spec_l1Has.f k l n = some (decide (n ∈ l)) := by
 have := spec_l1Has_l0 l n hl l.length k 0 (by omega) (by omega) hk
 exact this

theorem cover_perm : ∀ (r l : List Int), r.Nodup → r ⊆ l → l.length ≤ r.length → l.Perm r
 | [], l, _, _, hl => by
  have : l = [] := List.eq_nil_of_length_eq_zero (by simpa using hl)
  subst this
  exact List.Perm.refl _
 | a :: t, l, hn, hs, hl => by
  have ha : a ∈ l := hs List.mem_cons_self
  have hc := List.nodup_cons.1 hn
  have hlen := List.length_erase_of_mem ha
  have hpos := List.length_pos_of_mem ha
  have ht : t ⊆ l.erase a := fun x hx => (List.mem_erase_of_ne (by rintro rfl; exact hc.1 hx)).2 (hs (List.mem_cons_of_mem _ hx))
  have hl' : l.length ≤ t.length + 1 := by simpa using hl
  exact (List.perm_cons_erase ha).trans ((cover_perm t (l.erase a) hc.2 ht (by omega)).cons a)
theorem sorted_unique : ∀ (a b : List Int), a.Pairwise (· ≤ ·) → b.Pairwise (· ≤ ·) → a.Perm b → a = b
 | [], b, _, _, h => (List.perm_nil.1 h.symm).symm
 | x :: a, [], _, _, h => absurd (List.perm_nil.1 h) (by simp)
 | x :: a, y :: b, ha, hb, h => by
  obtain ⟨h1, h2⟩ := List.pairwise_cons.1 ha
  obtain ⟨h3, h4⟩ := List.pairwise_cons.1 hb
  have e1 : x ≤ y := by
   rcases List.mem_cons.1 (h.mem_iff.2 List.mem_cons_self : y ∈ x :: a) with e | e
   ·omega
   ·exact h1 y e
  have e2 : y ≤ x := by
   rcases List.mem_cons.1 (h.mem_iff.1 List.mem_cons_self : x ∈ y :: b) with e | e
   ·omega
   ·exact h3 x e
  obtain rfl : x = y := by omega
  rw [sorted_unique a b h2 h4 (List.Perm.cons_inv h)]
def sortL (c : List Int) : List Int := c.mergeSort fun x y => decide (x ≤ y)
theorem sort_perm (c : List Int) : (sortL c).Perm c := List.mergeSort_perm c _
theorem sort_pairwise (c : List Int) : (sortL c).Pairwise (· ≤ ·) := by
 have := List.pairwise_mergeSort (le := fun x y : Int => decide (x ≤ y)) (fun a b c h1 h2 => by simp at *; omega) (fun a b => by simp; omega) c
 exact this.imp fun h => by simpa using h
theorem sort_taken {s : Int} {ring : Bool} {t c : List Int} (h : RowOK s ring t) : sortL c = t ↔ c.length = t.length ∧ ∀ x ∈ t, x ∈ c := by
 constructor
 ·intro e
  refine ⟨by rw [← e]; exact (sort_perm c).length_eq.symm, fun x hx => ?_⟩
  rw [← e] at hx
  exact (sort_perm c).mem_iff.1 hx
 ·rintro ⟨h1, h2⟩
  have p := cover_perm t c (rising_nodup t _ _ h.2.2) h2 (by omega)
  refine sorted_unique _ _ (sort_pairwise c) ?_ ((sort_perm c).trans p)
  exact List.pairwise_iff_getElem.2 fun i j hi hj hij => by have := rising_lt t _ _ h.2.2 i j hij hj; omega
def HouseOK (s : Int) (ring : Bool) (t c : List Int) (n : Int) : Prop := RowOK s ring t ∧ (c.length = t.length ∧ ∀ x ∈ t, x ∈ c) ∧ 0 ≤ n ∧ n ≤ 1000
theorem equal_eq (a b : List Int) (ha : a.length ≤ 1048576) (k : Nat) (hk : a.length < k) : slices_Equal_int_int.f k a b = some (decide (a = b)) := by
 unfold slices_Equal_int_int.f
 by_cases hl : a.length = b.length
 ·rw [if_pos (by omega)]
  have main : ∀ d k i, i + d = a.length → d < k → (∀ j, j < i → a[j]? = b[j]?) → slices_Equal_int_int.l0 k a b (a.length : Int) (i : Int) = some (decide (a = b)) := by
   intro d
   induction d with
   | zero =>
    intro k i hi hk hj
    obtain ⟨k, rfl, _⟩ := fuel hk
    simp only [slices_Equal_int_int.l0]
    rw [if_neg (by omega)]
    refine congrArg some (decide_eq_true ?_).symm
    refine List.ext_getElem hl fun j h1 h2 => ?_
    have := hj j (by omega)
    rw [List.getElem?_eq_getElem h1, List.getElem?_eq_getElem h2] at this
    exact Option.some.inj this
   | succ d ih =>
    intro k i hi hk hj
    obtain ⟨k, rfl, _⟩ := fuel hk
    simp only [slices_Equal_int_int.l0]
    rw [if_pos (by omega), if_pos (by omega), if_pos (by omega), if_pos (by omega), rd_get a i (by omega), rd_get b i (by omega), wrap_one (n := a.length) (by omega) (by omega)]
    by_cases e : a[i]'(by omega) = b[i]'(by omega)
    ·rw [if_pos e]
     refine ih k (i + 1) (by omega) (by omega) fun j hj' => ?_
     by_cases g : j = i
     ·subst g
      rw [List.getElem?_eq_getElem (by omega), List.getElem?_eq_getElem (by omega), e]
     ·exact hj j (by omega)
    ·rw [if_neg e]
     refine congrArg some (decide_eq_false fun h => e ?_).symm
     simp only [h]
  exact main a.length k 0 (by omega) hk (fun j hj => by omega)
 ·rw [if_neg (by omega)]
  exact congrArg some (decide_eq_false fun h => hl (by rw [h])).symm
open Classical in
theorem spec_good_eq (s : Int) (ring : Bool) (t c : List Int) (n : Int) (ht : t.length ≤ 1048576) (hc : c.length ≤ 1048576) : Ev (fun k => spec_l12Good.f k s ring t c n) (decide (HouseOK s ring t c n)) := by
 have jn : Ev (fun k => spec_l12Good.j0 k true s ring t c n) false := by
  refine Ev.succ ?_
  simp only [spec_l12Good.j0]
  exact Ev.pos (by first | rfl | exact True.intro) (Ev.now _)
 unfold spec_l12Good.f
 refine Ev.bind (Ev.bound t.length fun k hk => spec_l2Row_eq s ring t ht k hk) ?_
 by_cases h : RowOK s ring t
 ·rw [decide_eq_true h]
  refine Ev.pos rfl ?_
  by_cases hl : c.length = t.length
  ·refine Ev.pos (by omega) (Ev.have (spec_l1In_eq _ _ _) ?_)
   by_cases hn : 0 ≤ n ∧ n ≤ 1000
   ·rw [decide_eq_true hn]
    refine Ev.succ ?_
    simp only [spec_l12Good.j0]
    refine Ev.neg (by simp) ?_
    have main : ∀ d i : Nat, i + d = t.length → (∀ j, (hj : j < i) → (h2 : j < t.length) → t[j] ∈ c) → Ev (fun k => spec_l12Good.l0 k (i : Int) s ring t c n) (decide (HouseOK s ring t c n)) := by
     intro d
     induction d with
     | zero =>
      intro i hi hj
      refine Ev.succ ?_
      simp only [spec_l12Good.l0]
      rw [decide_eq_true (show HouseOK s ring t c n from ⟨h, ⟨hl, fun x hx => by
       obtain ⟨j, hj2, rfl⟩ := List.getElem_of_mem hx
       exact hj j (by omega) hj2⟩, hn⟩)]
      exact Ev.neg (by omega) (Ev.now _)
     | succ d ih =>
      intro i hi hj
      refine Ev.succ ?_
      simp only [spec_l12Good.l0]
      rw [rd_get t i (by omega), wrap_one (n := t.length) (by omega) (by omega)]
      refine Ev.pos (by omega) (Ev.pos (by omega) (Ev.bind (Ev.bound c.length fun k hk => spec_l1Has_eq c _ hc k hk) ?_))
      by_cases g : t[i]'(by omega) ∈ c
      ·refine Ev.pos (decide_eq_true g) (ih (i + 1) (by omega) fun j hj' h2 => ?_)
       by_cases e : j = i
       ·subst e; exact g
       ·exact hj j (by omega) h2
      ·rw [decide_eq_false (fun z : HouseOK s ring t c n => g (z.2.1.2 _ (List.getElem_mem _)))]
       exact Ev.neg (by rw [decide_eq_true_eq]; exact g) (Ev.now _)
    exact main t.length 0 (by omega) (fun j hj => by omega)
   ·rw [decide_eq_false hn, decide_eq_false (fun z : HouseOK s ring t c n => hn z.2.2)]
    exact jn
  ·rw [decide_eq_false (fun z : HouseOK s ring t c n => hl z.2.1.1)]
   exact Ev.neg (by omega) jn
 ·rw [decide_eq_false h, decide_eq_false (fun z : HouseOK s ring t c n => h z.1)]
  exact Ev.neg (by simp) jn
open Classical in
theorem impl_house_eq (s : Int) (ring : Bool) (t c : List Int) (n : Int) (ht : t.length ≤ 1048576) (hc : c.length ≤ 1048576) : Ev (fun k => impl_IsHouse.f k s ring t c n) (decide (HouseOK s ring t c n)) := by
 unfold impl_IsHouse.f
 refine Ev.bind (Ev.bound (t.length + 3) fun k hk => impl_IsRow_eq s ring t ht k hk) ?_
 by_cases h : RowOK s ring t
 ·rw [decide_eq_true h]
  have es : slices_Sorted_int.f c = some (sortL c) := by unfold slices_Sorted_int.f; rw [if_pos hc]; rfl
  refine Ev.pos rfl (Ev.have es (Ev.bind (Ev.bound (sortL c).length fun k hk => equal_eq (sortL c) t (by rw [(sort_perm c).length_eq]; exact hc) k hk) ?_))
  by_cases e : sortL c = t
  ·refine Ev.pos (decide_eq_true e) (Ev.have (impl_within_eq _ _ _) ?_)
   rw [show decide (HouseOK s ring t c n) = decide (0 ≤ n ∧ n ≤ 1000) from decide_eq_decide.2 ⟨fun z => z.2.2, fun z => ⟨h, (sort_taken h).1 e, z⟩⟩]
   exact Ev.now _
  ·rw [decide_eq_false (fun z : HouseOK s ring t c n => e ((sort_taken h).2 z.2.1))]
   exact Ev.neg (by rw [decide_eq_true_eq]; exact e) (Ev.now _)
 ·rw [decide_eq_false h, decide_eq_false (fun z : HouseOK s ring t c n => h z.1)]
  exact Ev.neg (by simp) (Ev.now _)

def mostF (F : Nat → Int) : Nat → Int
 | 0 => 0
 | i + 1 => if F i > mostF F i then F i else mostF F i
theorem most_ge (F : Nat → Int) : ∀ i, 0 ≤ mostF F i
 | 0 => by simp [mostF]
 | i + 1 => by
  have := most_ge F i
  rw [mostF]
  split <;> omega
theorem most_le (F : Nat → Int) : ∀ i j, j < i → F j ≤ mostF F i
 | 0, j, h => by omega
 | i + 1, j, h => by
  rw [mostF]
  rcases Nat.lt_or_ge j i with g | g
  ·have := most_le F i j g
   split <;> omega
  ·obtain rfl : j = i := by omega
   split <;> omega
theorem most_at (F : Nat → Int) : ∀ i, 0 < mostF F i → ∃ j, j < i ∧ F j = mostF F i
 | 0, h => by simp [mostF] at h
 | i + 1, h => by
  rw [mostF] at h ⊢
  split
  ·exact ⟨i, by omega, rfl⟩
  ·rename_i g
   rw [if_neg g] at h
   obtain ⟨j, h1, h2⟩ := most_at F i h
   exact ⟨j, by omega, h2⟩
def polB (F : Nat → Int) (M : Int) (p : Nat) : Bool := decide (F p = M ∧ 0 < M)
theorem bitsN_none (P : Nat → Bool) : ∀ i, (∀ j, j < i → P j = false) → bitsN P i = 0
 | 0, _ => rfl
 | i + 1, h => by
  rw [bitsN, if_neg (by rw [h i (by omega)]; simp), bitsN_none P i (fun j hj => h j (by omega))]
theorem listN_pairwise (P : Nat → Bool) (n : Nat) : (listN P n).Pairwise (· < ·) := by
 unfold listN castL
 rw [List.pairwise_map]
 exact (List.pairwise_lt_range.filter P).imp fun h => by omega
theorem bits_list (P : Nat → Bool) (n : Nat) : bitsN P n = setN (listN P n) := by
 refine setN_ext _ _ fun i => ?_
 rw [testBit_bitsN]
 simp only [Bool.and_eq_true, decide_eq_true_eq]
 constructor
 ·rintro ⟨h1, h2⟩
  exact ⟨i, (mem_listN _ _ _).2 ⟨i, h1, h2, rfl⟩, by simp⟩
 ·rintro ⟨p, hp, hi⟩
  obtain ⟨q, h1, h2, rfl⟩ := (mem_listN _ _ _).1 hp
  obtain rfl : q = i := by simpa using hi
  exact ⟨h1, h2⟩
def polL (n : Nat) (ring : Bool) (t : List Int) : List Int := listN (polB (farV n ring t) (mostF (farV n ring t) n)) n
open Classical in
theorem isRow_ev {n : Nat} {ring : Bool} {t : List Int} (hR : RowOK n ring t) : Ev (fun k => impl_IsRow.f k n ring t) true := by
 have hl := row_len _ ring _ hR
 exact Ev.same (Ev.bound (t.length + 3) fun k hk => impl_IsRow_eq n ring t (by omega) k (by omega)) (decide_eq_true hR)
section
variable {n : Nat} {ring : Bool} {t : List Int} (hR : RowOK n ring t)
include hR
theorem impl_polite_ev : Ev (fun k => impl_bench_polite.f k n ring ((setN t : Nat) : Int)) (((setN (polL n ring t) : Nat) : Int), mostF (farV n ring t) n) := by
 have hn : n ≤ 24 := by have := hR.1.2; omega
 have hF : ∀ p, p < n → 0 ≤ farV n ring t p ∧ farV n ring t p ≤ n := fun p hp => far_range hR p hp
 have main : ∀ d i, i + d = n → Ev (fun k => impl_bench_polite.l0 k ((bitsN (polB (farV n ring t) (mostF (farV n ring t) i)) i : Nat) : Int) (mostF (farV n ring t) i) (farL n ring t n) n i) (((setN (polL n ring t) : Nat) : Int), mostF (farV n ring t) n) := by
  intro d
  induction d with
  | zero =>
   intro i hi
   obtain rfl : i = n := by omega
   refine Ev.succ ?_
   simp only [impl_bench_polite.l0]
   refine Ev.neg (by omega) ?_
   rw [bits_list]
   exact Ev.now _
  | succ d ih =>
   intro i hi
   have go := ih (i + 1) (by omega)
   have hf := hF i (by omega)
   have hm := most_ge (farV n ring t) i
   have hle := most_le (farV n ring t) i
   rw [mostF, bitsN] at go
   refine Ev.succ ?_
   simp only [impl_bench_polite.l0]
   rw [farL_rd n i (by omega)]
   refine Ev.pos (by omega) (Ev.pos (by omega) (Ev.pos (by rw [farL_len]; omega) ?_))
   generalize hfv : farV n ring t i = f at go hf ⊢
   generalize hmv : mostF (farV n ring t) i = m at go hm hle ⊢
   have stay : (f = 0 ∨ f < m) → Ev (fun k => impl_bench_polite.l0 k ((bitsN (polB (farV n ring t) m) i : Nat) : Int) m (farL n ring t n) n (wrap64 (i + 1))) (((setN (polL n ring t) : Nat) : Int), mostF (farV n ring t) n) := by
    intro h
    rw [wrap_one (n := 100) (by omega) (by omega)]
    rw [if_neg (show ¬ f > m by omega), if_neg (by unfold polB; simp only [decide_eq_true_eq, hfv]; omega)] at go
    exact go
   by_cases c0 : f = 0
   ·refine Ev.pos c0 (Ev.succ ?_)
    simp only [impl_bench_polite.j1]
    exact Ev.pos (by first | rfl | exact True.intro) (stay (.inl c0))
   ·refine Ev.neg c0 (Ev.succ ?_)
    simp only [impl_bench_polite.j1]
    by_cases c1 : f < m
    ·exact Ev.pos (decide_eq_true c1) (stay (.inr c1))
    ·have h2 : 2 ^ i < 2 ^ 32 := Nat.pow_lt_pow_right (by omega) (by omega)
     refine Ev.neg (by simpa using c1) ?_
     rw [wrap_one (n := 100) (by omega) (by omega), shl_one _ (by omega) (by omega), Int.toNat_natCast]
     by_cases c2 : f > m
     ·refine Ev.pos c2 (Ev.pos (by omega) ?_)
      have hp : polB (farV n ring t) f i = true := by unfold polB; exact decide_eq_true ⟨hfv, by omega⟩
      rw [if_pos c2, if_pos hp, bitsN_none _ i (fun j hj => by have := hle j hj; unfold polB; exact decide_eq_false (by omega))] at go
      have := or_cast 0 (2 ^ i) (by omega) (by omega)
      rw [show ((0 : Nat) : Int) = 0 from rfl] at this
      rw [this]
      exact go
     ·refine Ev.neg c2 (Ev.pos (by omega) ?_)
      have hp : polB (farV n ring t) m i = true := by unfold polB; exact decide_eq_true ⟨by omega, by omega⟩
      rw [if_neg c2, if_pos hp] at go
      rw [or_cast _ _ (bitsN_lt _ _ (by omega)) (by omega)]
      exact go
 unfold impl_bench_polite.f
 refine Ev.bind (impl_farness_ev hR) ?_
 rw [show ((farL n ring t n).length : Int) = n by rw [farL_len]]
 exact main n 0 (by omega)
theorem pol_mem (x : Int) : x ∈ polL n ring t → ∃ q : Nat, q < n ∧ x = q ∧ x ∉ t := by
 intro hx
 obtain ⟨q, h1, h2, rfl⟩ := (mem_listN _ _ _).1 hx
 unfold polB at h2
 have h2 := of_decide_eq_true h2
 refine ⟨q, h1, rfl, fun hm => ?_⟩
 have := (far_zero hR q h1).2 hm
 omega
theorem impl_seats_ev : Ev (fun k => impl_PoliteSeats.f k n ring t) (polL n ring t, true) := by
 have hn : n ≤ 24 := by have := hR.1.2; omega
 have hl := row_len _ ring _ hR
 unfold impl_PoliteSeats.f
 refine Ev.bind (isRow_ev hR) (Ev.pos rfl (Ev.have rfl ?_))
 refine Ev.bind (Ev.bound t.length fun k hk => impl_taken_eq n ring t hR k hk) (Ev.bind (impl_polite_ev hR) ?_)
 refine Ev.bind (set_list_ev (polL n ring t) (listN_pairwise _ _) (fun x hx => ?_) (Nat.le_trans (listN_len _ _) (by omega))) (Ev.now _)
 obtain ⟨q, h1, rfl, _⟩ := pol_mem hR x hx
 omega
theorem spec_polite_ev : Ev (fun k => spec_l3Polite.f k n ring t) (polL n ring t) := by
 have hn : n ≤ 24 := by have := hR.1.2; omega
 have second : ∀ d i, i + d = n → Ev (fun k => spec_l3Polite.l1 k (listN (polB (farV n ring t) (mostF (farV n ring t) n)) i) (farL n ring t n) (mostF (farV n ring t) n) i n ring t) (polL n ring t) := by
  intro d
  induction d with
  | zero =>
   intro i hi
   obtain rfl : i = n := by omega
   refine Ev.succ ?_
   simp only [spec_l3Polite.l1]
   refine Ev.neg (by omega) (Ev.succ ?_)
   simp only [spec_l3Polite.j2]
   exact Ev.neg (by simp) (Ev.now _)
  | succ d ih =>
   intro i hi
   have go := ih (i + 1) (by omega)
   have hl := listN_len (polB (farV n ring t) (mostF (farV n ring t) n)) i
   rw [listN_succ] at go
   refine Ev.succ ?_
   simp only [spec_l3Polite.l1]
   refine Ev.pos (by omega) (Ev.succ ?_)
   simp only [spec_l3Polite.j2]
   by_cases c : mostF (farV n ring t) n > 0
   ·refine Ev.pos (decide_eq_true c) (Ev.pos (by omega) (Ev.pos (by rw [farL_len]; omega) ?_))
    rw [farL_rd n i (by omega), wrap_one (n := 100) (by omega) (by omega)]
    by_cases e : farV n ring t i = mostF (farV n ring t) n
    ·rw [if_pos (by unfold polB; exact decide_eq_true ⟨e, c⟩)] at go
     exact Ev.pos e (Ev.pos (by omega) go)
    ·rw [if_neg (by unfold polB; simp only [decide_eq_true_eq]; omega)] at go
     exact Ev.neg e go
   ·refine Ev.neg (by simpa using c) ?_
    have none_ : ∀ j, listN (polB (farV n ring t) (mostF (farV n ring t) n)) j = [] := fun j => List.eq_nil_iff_forall_not_mem.2 fun x hx => by
     obtain ⟨q, _, h2, _⟩ := (mem_listN _ _ _).1 hx
     unfold polB at h2
     have := of_decide_eq_true h2
     omega
    unfold polL
    rw [none_ i, none_ n]
    exact Ev.now _
 have first : ∀ d i, i + d = n → Ev (fun k => spec_l3Polite.l0 k [] (farL n ring t n) (mostF (farV n ring t) i) i n ring t) (polL n ring t) := by
  intro d
  induction d with
  | zero =>
   intro i hi
   obtain rfl : i = n := by omega
   refine Ev.succ ?_
   simp only [spec_l3Polite.l0]
   exact Ev.neg (by omega) (second i 0 (by omega))
  | succ d ih =>
   intro i hi
   have go := ih (i + 1) (by omega)
   rw [mostF] at go
   refine Ev.succ ?_
   simp only [spec_l3Polite.l0]
   rw [farL_rd n i (by omega), wrap_one (n := 100) (by omega) (by omega)]
   refine Ev.pos (by omega) (Ev.pos (by omega) (Ev.pos (by rw [farL_len]; omega) (Ev.have (a := if farV n ring t i > mostF (farV n ring t) i then farV n ring t i else mostF (farV n ring t) i) ?_ go)))
   unfold spec_l1Most.f
   by_cases g : mostF (farV n ring t) i > farV n ring t i
   ·rw [if_pos g, if_neg (by omega)]
   ·rw [if_neg g]
    by_cases g2 : farV n ring t i > mostF (farV n ring t) i
    ·rw [if_pos g2]
    ·rw [if_neg g2]
     exact congrArg some (by omega)
 unfold spec_l3Polite.f
 exact Ev.bind (spec_all_ev hR) (first n 0 (by omega))
omit hR in
theorem range_nodup (m : Nat) : (castL (List.range m)).Nodup := by
 unfold castL
 exact (List.pairwise_map.2 (List.pairwise_lt_range.imp fun h => by omega))
omit hR in
theorem mem_castR (m : Nat) (x : Int) : x ∈ castL (List.range m) ↔ 0 ≤ x ∧ x < m := by
 unfold castL
 rw [List.mem_map]
 constructor
 ·rintro ⟨q, hq, rfl⟩
  have := List.mem_range.1 hq
  omega
 ·rintro ⟨h0, h1⟩
  exact ⟨x.toNat, List.mem_range.2 (by omega), by omega⟩
theorem pol_empty : polL n ring t = [] ↔ ¬ t.length < n := by
 have h := far_in hR
 have hN := rising_nodup t _ _ hR.2.2
 constructor
 ·intro e hlt
  have hex : ∃ q : Nat, q < n ∧ (q : Int) ∉ t := by
   refine Classical.byContradiction fun hno => ?_
   have hall : ∀ x ∈ castL (List.range n), x ∈ t := fun x hx => by
    have hx := (mem_castR n x).1 hx
    refine Classical.byContradiction fun hxt => hno ⟨x.toNat, by omega, ?_⟩
    rwa [show ((x.toNat : Nat) : Int) = x by omega]
   have := (cover_perm _ t (range_nodup n) hall (by simp [castL]; omega)).length_eq
   simp [castL] at this
   omega
  obtain ⟨q, hq, hqt⟩ := hex
  have h1 := far_range hR q hq
  have h2 : farV n ring t q ≠ 0 := fun e => hqt ((far_zero hR q hq).1 e)
  have h3 := most_le (farV n ring t) n q hq
  obtain ⟨j, hj, ej⟩ := most_at (farV n ring t) n (by omega)
  have : (j : Int) ∈ polL n ring t := (mem_listN _ _ _).2 ⟨j, hj, by unfold polB; exact decide_eq_true ⟨ej, by omega⟩, rfl⟩
  rw [e] at this
  simp at this
 ·intro hge
  refine List.eq_nil_iff_forall_not_mem.2 fun x hx => ?_
  obtain ⟨q, hq, rfl, hqt⟩ := pol_mem hR x hx
  have hp := cover_perm t (castL (List.range n)) hN (fun y hy => (mem_castR n y).2 (h y hy)) (by simp [castL]; omega)
  exact hqt (hp.mem_iff.1 ((mem_castR n q).2 ⟨by omega, by omega⟩))
theorem impl_next_ev : Ev (fun k => impl_NextPolite.f k n ring t) (if t.length < n then (rd (polL n ring t) 0, true) else (0, false)) := by
 unfold impl_NextPolite.f
 refine Ev.bind (impl_seats_ev hR) (Ev.pos rfl ?_)
 have he := pol_empty hR
 by_cases g : t.length < n
 ·rw [if_pos g]
  have : polL n ring t ≠ [] := fun e => he.1 e g
  have : 0 < (polL n ring t).length := List.length_pos_iff.2 this
  refine Ev.neg ?_ (Ev.pos ?_ (Ev.now _)) <;> (dsimp only; omega)
 ·rw [if_neg g]
  exact Ev.pos (by rw [he.2 g]; rfl) (Ev.now _)
theorem next_free (g : t.length < n) : ∃ q : Nat, q < n ∧ rd (polL n ring t) 0 = q ∧ (q : Int) ∉ t ∧ 0 < (polL n ring t).length := by
 have he := pol_empty hR
 have h1 : polL n ring t ≠ [] := fun e => he.1 e g
 have h2 : 0 < (polL n ring t).length := List.length_pos_iff.2 h1
 have h3 : rd (polL n ring t) ((0 : Nat) : Int) ∈ polL n ring t := by rw [rd_get _ 0 h2]; exact List.getElem_mem h2
 obtain ⟨q, hq, e, hqt⟩ := pol_mem hR _ h3
 exact ⟨q, hq, e, by rw [← e]; exact hqt, h2⟩
end

theorem first_at (x : Int) : ∀ c : List Int, x ∈ c → ∃ p, ∃ h : p < c.length, c[p] = x ∧ ∀ j, (hj : j < p) → c[j]'(by omega) ≠ x
 | a :: c, hx => by
  by_cases e : a = x
  ·exact ⟨0, by simp, by simpa using e, fun j hj => by omega⟩
  ·obtain ⟨p, h, h1, h2⟩ := first_at x c ((List.mem_cons.1 hx).resolve_left fun z => e z.symm)
   refine ⟨p + 1, by simp; omega, by simpa using h1, fun j hj => ?_⟩
   cases j with
   | zero => simpa using e
   | succ j => simpa using h2 j (by omega)
theorem spec_place_ev (c : List Int) (hc : c.length ≤ 1048576) (x : Int) (p : Nat) (hp : p < c.length) (h1 : c[p] = x) (h2 : ∀ j, (hj : j < p) → c[j]'(by omega) ≠ x) : Ev (fun k => spec_l12Place.f k c x) (p : Int) := by
 have main : ∀ d i : Nat, i + d = p → Ev (fun k => spec_l12Place.l0 k c x (i : Int)) (p : Int) := by
  intro d
  induction d with
  | zero =>
   intro i hi
   obtain rfl : i = p := by omega
   refine Ev.succ ?_
   simp only [spec_l12Place.l0]
   rw [rd_get c i hp]
   exact Ev.pos (by omega) (Ev.pos (by omega) (Ev.pos h1 (Ev.now _)))
  | succ d ih =>
   intro i hi
   have go := ih (i + 1) (by omega)
   refine Ev.succ ?_
   simp only [spec_l12Place.l0]
   rw [rd_get c i (by omega), wrap_one (n := c.length) (by omega) (by omega)]
   exact Ev.pos (by omega) (Ev.pos (by omega) (Ev.neg (h2 i (by omega)) go))
 exact main p 0 (by omega)

theorem impl_Clone_eq (l : List Int) (h : l.length < 17592186044416) : slices_Clone_int_int.f l = some l := by
 unfold slices_Clone_int_int.f
 rw [if_pos h]

theorem spec_l2Is_ev (s : Int) (ring : Bool) (t : List Int) (p : Int) (ht : t.length ≤ 1048576) : Ev (fun k => spec_l2Is.f k s ring t p) (decide (p ∈ t)) :=
 Ev.bound t.length fun k hk => by
  unfold spec_l2Is.f
  rw [spec_l1Has_eq t p ht k hk, Option.bind_some]

theorem filter_snoc (l : List Int) (q : Int → Bool) (i : Nat) (hi : i < l.length) : (l.take (i + 1)).filter q = (l.take i).filter q ++ (if q l[i] then [l[i]] else []) := by
 rw [List.take_add_one, List.getElem?_eq_getElem hi, Option.toList_some, List.filter_append]
 by_cases h : q l[i] = true
 ·simp [h]
 ·simp [h]

theorem spec_without_l0 (s : Int) (ring : Bool) (t : List Int) (p : Int) (ht : t.length ≤ 1048576) (d : Nat) : ∀ (k i : Nat), i ≤ t.length → t.length - i = d → d < k →
  spec_l2Without.l0 k p ((t.take i).filter fun x => !decide (x = p)) i s ring t = some (s, ring, t.filter fun x => !decide (x = p)) := by
 induction d with
 | zero =>
  intro k i hi hd hk
  obtain ⟨k, rfl, _⟩ := fuel hk
  simp only [spec_l2Without.l0]
  rw [if_neg (by omega), List.take_of_length_le (by omega), spec_l2Made.f, Option.bind_some]
 | succ d ih =>
  intro k i hi hd hk
  obtain ⟨k, rfl, _⟩ := fuel hk
  have h := ih k (i + 1) (by omega) (by omega) (by omega)
  rw [filter_snoc t _ i (by omega)] at h
  have l1 : ((t.take i).filter fun x => !decide (x = p)).length ≤ i := Nat.le_trans (List.length_filter_le _ _) (by simp; omega)
  simp only [spec_l2Without.l0]
  rw [if_pos (by omega), if_pos (by omega), rd_get t i (by omega), wrap_one (n := t.length) (i := i) (by omega) (by omega)]
  by_cases g : t[i]'(by omega) = p
  ·rw [if_pos g]
   rw [if_neg (by simp [g]), List.append_nil] at h
   exact h
  ·rw [if_neg g, if_pos (by omega)]
   rw [if_pos (by simp [g])] at h
   exact h
theorem spec_without_eq (s : Int) (ring : Bool) (t : List Int) (p : Int) (ht : t.length ≤ 1048576) (k : Nat) (hk : t.length < k) : spec_l2Without.f k s ring t p = some (s, ring, t.filter fun x => !decide (x = p)) :=
 spec_without_l0 s ring t p ht t.length k 0 (by omega) (by omega) hk

theorem index_ev (l : List Int) (hl : l.length ≤ 1000000) (x : Int) : (x ∉ l ∧ Ev (fun k => slices_Index_int_int.f k l x) (-1) ∧ Ev (fun k => slices_Contains_int_int.f k l x) false) ∨
  ∃ p : Nat, ∃ h : p < l.length, l[p] = x ∧ Ev (fun k => slices_Index_int_int.f k l x) (p : Int) ∧ Ev (fun k => slices_Contains_int_int.f k l x) true ∧ Ev (fun k => spec_l12Place.f k l x) (p : Int) := by
 by_cases hx : x ∈ l
 ·obtain ⟨p, hp, h1, h2⟩ := first_at x l hx
  have main : ∀ d i : Nat, i + d = p → Ev (fun k => slices_Index_int_int.l0 k l x (l.length : Int) (i : Int)) (p : Int) := by
   intro d
   induction d with
   | zero =>
    intro i hi
    obtain rfl : i = p := by omega
    refine Ev.succ ?_
    simp only [slices_Index_int_int.l0]
    rw [rd_get l i hp]
    exact Ev.pos (by omega) (Ev.pos (by omega) (Ev.pos (by omega) (Ev.pos h1.symm (Ev.now _))))
   | succ d ih =>
    intro i hi
    have go := ih (i + 1) (by omega)
    refine Ev.succ ?_
    simp only [slices_Index_int_int.l0]
    rw [rd_get l i (by omega), wrap_one (n := l.length) (by omega) (by omega)]
    exact Ev.pos (by omega) (Ev.pos (by omega) (Ev.pos (by omega) (Ev.neg (fun e => h2 i (by omega) e.symm) go)))
  refine .inr ⟨p, hp, h1, main p 0 (by omega), ?_, spec_place_ev l (by omega) x p hp h1 h2⟩
  unfold slices_Contains_int_int.f
  exact Ev.bind (main p 0 (by omega)) (Ev.same (Ev.now _) (decide_eq_true (by omega)))
 ·have main : ∀ d i : Nat, i + d = l.length → Ev (fun k => slices_Index_int_int.l0 k l x (l.length : Int) (i : Int)) (-1) := by
   intro d
   induction d with
   | zero =>
    intro i hi
    refine Ev.succ ?_
    simp only [slices_Index_int_int.l0]
    exact Ev.neg (by omega) (Ev.now _)
   | succ d ih =>
    intro i hi
    have go := ih (i + 1) (by omega)
    refine Ev.succ ?_
    simp only [slices_Index_int_int.l0]
    rw [rd_get l i (by omega), wrap_one (n := l.length) (by omega) (by omega)]
    exact Ev.pos (by omega) (Ev.pos (by omega) (Ev.pos (by omega) (Ev.neg (fun e => hx (e ▸ List.getElem_mem _)) go)))
  refine .inl ⟨hx, main l.length 0 (by omega), ?_⟩
  unfold slices_Contains_int_int.f
  exact Ev.bind (main l.length 0 (by omega)) (Ev.same (Ev.now _) (decide_eq_false (by omega)))
theorem rising_mk (l : List Int) (a b : Int) (hp : l.Pairwise (· < ·)) (hb : ∀ x ∈ l, a ≤ x ∧ x ≤ b) : Rising l a b := by
 intro i h
 refine ⟨hb _ (List.getElem_mem _), fun h0 => ?_⟩
 have := List.pairwise_iff_getElem.1 hp (i - 1) i (by omega) h (by omega)
 simpa [List.getD, show i - 1 < l.length from by omega] using this
theorem nodup_le : ∀ (a b : List Int), a.Nodup → (∀ x ∈ a, x ∈ b) → a.length ≤ b.length
 | [], _, _, _ => by simp
 | x :: a, b, hn, hs => by
  have hx := hs x List.mem_cons_self
  have hc := List.nodup_cons.1 hn
  have := nodup_le a (b.erase x) hc.2 fun y hy => (List.mem_erase_of_ne (by rintro rfl; exact hc.1 hy)).2 (hs y (List.mem_cons_of_mem _ hy))
  have hl := List.length_erase_of_mem hx
  have hpos := List.length_pos_of_mem hx
  simp only [List.length_cons]
  omega
theorem perm_taken {s : Int} {ring : Bool} {t c : List Int} {m : Int} (h : HouseOK s ring t c m) : c.Perm t := by
 have e := (sort_taken h.1).2 h.2.1
 have := (sort_perm c).symm
 rwa [e] at this
theorem house_mk {n : Nat} {ring : Bool} {t c : List Int} {m : Int} (hR : RowOK n ring t) (hl : c.length = t.length) (hm : ∀ x, x ∈ c ↔ x ∈ t) (h0 : 0 ≤ m) (h1 : m ≤ 1000) : HouseOK n ring t c m := ⟨hR, ⟨hl, fun x hx => (hm x).2 hx⟩, h0, h1⟩
theorem row_mk {n : Nat} {ring : Bool} {t t' : List Int} (hR : RowOK n ring t) (hw : t'.Pairwise (· < ·)) (hb : ∀ x ∈ t', 0 ≤ x ∧ x < n) : RowOK n ring t' := ⟨hR.1, hR.2.1, rising_mk t' 0 ((n : Int) - 1) hw fun x hx => by have := hb x hx; omega⟩
theorem set_same (a b : List Int) (h : ∀ x, x ∈ a ↔ x ∈ b) : setN a = setN b := setN_ext _ _ fun i => by
 rw [testBit_setN, decide_eq_true_eq]
 exact ⟨fun ⟨p, hp, e⟩ => ⟨p, (h p).1 hp, e⟩, fun ⟨p, hp, e⟩ => ⟨p, (h p).2 hp, e⟩⟩
section
variable {n : Nat} {ring : Bool} {t c : List Int} {m : Int} (hH : HouseOK n ring t c m)
include hH
theorem free_both (p : Int) : (∃ b, Ev (fun k => impl_houseFree.f k n ring t c p) b ∧ Ev (fun k => spec_l12Free.f k n ring t c m p) b ∧ (b = true ↔ (0 ≤ p ∧ p < n) ∧ p ∉ t)) := by
 have hP := perm_taken hH
 have hn := hH.1.1
 have hl := row_len _ ring _ hH.1
 have hcl := hP.length_eq
 have hw : wrap64 ((n : Int) - 1) = n - 1 := wrap_id (by omega) (by omega)
 have e1 : Ev (fun k => impl_bench_has.f k n ring [p]) (decide (0 ≤ p ∧ p ≤ (n : Int) - 1)) := Ev.bound 2 fun k hk => by rw [impl_bench_has_one _ _ _ k hk, hw]
 have e2 := spec_l1In_eq p 0 ((n : Int) - 1)
 unfold impl_houseFree.f spec_l12Free.f
 rw [hw]
 by_cases hp : 0 ≤ p ∧ p ≤ (n : Int) - 1
 ·rw [decide_eq_true hp] at e1 e2
  have e3 := spec_l2Is_ev n ring t p (by omega)
  rcases index_ev c (by omega) p with ⟨hx, _, h2⟩ | ⟨q, hq, hx, _, h2, _⟩
  ·have hxt : p ∉ t := fun e => hx (hP.mem_iff.2 e)
   rw [decide_eq_false hxt] at e3
   exact ⟨true, Ev.have rfl (Ev.bind e1 (Ev.pos rfl (Ev.bind h2 (Ev.now _)))), Ev.have e2 (Ev.pos rfl (Ev.bind e3 (Ev.now _))), by simp [hxt]; omega⟩
  ·have hxt : p ∈ t := hP.mem_iff.1 (hx ▸ List.getElem_mem hq)
   rw [decide_eq_true hxt] at e3
   exact ⟨false, Ev.have rfl (Ev.bind e1 (Ev.pos rfl (Ev.bind h2 (Ev.now _)))), Ev.have e2 (Ev.pos rfl (Ev.bind e3 (Ev.now _))), by simp [hxt]⟩
 ·rw [decide_eq_false hp] at e1 e2
  exact ⟨false, Ev.have rfl (Ev.bind e1 (Ev.neg Bool.false_ne_true (Ev.now _))), Ev.have e2 (Ev.neg Bool.false_ne_true (Ev.now _)), by simp; omega⟩
theorem taken_both (p : Int) : Ev (fun k => spec_l12Taken.f k n ring t c m p) (decide (p ∈ t)) := by
 have hn := hH.1.1
 have hl := row_len _ ring _ hH.1
 have hin := far_in hH.1
 unfold spec_l12Taken.f
 rw [show wrap64 ((n : Int) - 1) = n - 1 from wrap_id (by omega) (by omega)]
 by_cases hp : 0 ≤ p ∧ p ≤ (n : Int) - 1
 ·exact Ev.have (spec_l1In_eq p 0 _) (Ev.pos (decide_eq_true hp) (Ev.bind (spec_l2Is_ev n ring t p (by omega)) (Ev.now _)))
 ·have : p ∉ t := fun e => by have := hin p e; omega
  rw [decide_eq_false this]
  exact Ev.have (spec_l1In_eq p 0 _) (Ev.neg (by simpa using hp) (Ev.now _))
theorem seat_in {p : Int} (h0 : 0 ≤ p) (h1 : p < n) (hp : p ∉ t) : RowOK n ring (putL t p) ∧ (c ++ [p]).length = (putL t p).length ∧ ∀ x, x ∈ c ++ [p] ↔ x ∈ putL t p := by
 have hP := perm_taken hH
 have hw := row_pairwise hH.1
 have hin := far_in hH.1
 have hmem : ∀ x, x ∈ c ++ [p] ↔ x ∈ putL t p := fun x => by
  rw [mem_put t p x hp, List.mem_append, hP.mem_iff, List.mem_singleton]
  exact Or.comm
 have hR' : RowOK n ring (putL t p) := row_mk hH.1 (put_pairwise t p hw) fun x hx => by
  rcases (mem_put t p x hp).1 hx with e | e
  ·omega
  ·exact hin x e
 refine ⟨hR', ?_, hmem⟩
 have hN : (c ++ [p]).Nodup := List.nodup_append.2 ⟨hP.nodup_iff.2 (rising_nodup t _ _ hH.1.2.2), by simp, fun a ha b hb e => hp (by rw [List.mem_singleton] at hb; subst hb; subst e; exact hP.mem_iff.1 ha)⟩
 have h1 := nodup_le _ (putL t p) hN (fun x hx => (hmem x).1 hx)
 have h2 := nodup_le _ (c ++ [p]) (rising_nodup _ _ _ hR'.2.2) (fun x hx => (hmem x).2 hx)
 omega
theorem without_row (p : Int) (hp : p ∈ t) : RowOK n ring (t.filter fun x => !decide (x = p)) ∧ (t.filter fun x => !decide (x = p)).length + 1 = t.length := by
 have hw := row_pairwise hH.1
 have hin := far_in hH.1
 have hN := rising_nodup t _ _ hH.1.2.2
 refine ⟨row_mk hH.1 (hw.filter _) fun x hx => hin x (List.mem_filter.1 hx).1, ?_⟩
 have e1 := nodup_le (t.filter fun x => !decide (x = p)) (t.erase p) (hN.filter _) fun x hx => by
  obtain ⟨h1, h2⟩ := List.mem_filter.1 hx
  exact (List.mem_erase_of_ne (by simpa using h2)).2 h1
 have e2 := nodup_le (t.erase p) (t.filter fun x => !decide (x = p)) (hN.erase p) fun x hx => by
  have := (List.Nodup.mem_erase_iff hN).1 hx
  exact List.mem_filter.2 ⟨this.2, by simpa using this.1⟩
 have := List.length_erase_of_mem hp
 have := List.length_pos_of_mem hp
 omega
end

section
variable {n : Nat} {ring : Bool} {t c : List Int} {m : Int} (hH : HouseOK n ring t c m)
include hH
theorem step_both (hs : t.length + c.length ≤ 1048576) (kind A B : Int) :
  (Ev (fun k => spec_l12May.f k n ring t c m kind A B) false ∧ ∃ x, Ev (fun k => impl_House_guests.f k n ring t c m kind A B) (x, false)) ∨
  (∃ t' c', Ev (fun k => spec_l12May.f k n ring t c m kind A B) true ∧ Ev (fun k => spec_l12Make.f k n ring t c m kind A B) (n, ring, t', c', m) ∧ Ev (fun k => impl_House_guests.f k n ring t c m kind A B) (c', true) ∧ RowOK n ring t' ∧ c'.length = t'.length ∧ ∀ x, x ∈ c' ↔ x ∈ t') := by
 have hP := perm_taken hH
 have hR := hH.1
 have hn := hH.1.1
 have hl := row_len _ ring _ hH.1
 have hcl := hP.length_eq
 have hin := far_in hR
 have hw := row_pairwise hR
 have hcN : c.Nodup := hP.nodup_iff.2 (rising_nodup t _ _ hR.2.2)
 have own : spec_l12Own.f n ring t c m = some ((n : Int), ring, t, c, m) := by
  unfold spec_l12Own.f
  rw [spec_l1Own_eq t (by omega), Option.bind_some, spec_l1Own_eq c (by omega), Option.bind_some]
 have cl := impl_Clone_eq c (by omega)
 have idx : ∃ q, Ev (fun k => slices_Index_int_int.f k c A) q := by
  rcases index_ev c (by omega) A with ⟨_, h, _⟩ | ⟨q, _, _, h, _⟩
  ·exact ⟨_, h⟩
  ·exact ⟨_, h⟩
 obtain ⟨q0, hq0⟩ := idx
 have sit : ∀ p : Int, 0 ≤ p → p < n → p ∉ t → Ev (fun k => spec_l12Sit.f k n ring t c m p) ((n : Int), ring, putL t p, c ++ [p], m) := by
  intro p h0 h1 hp
  unfold spec_l12Sit.f
  refine Ev.bind (Ev.bound t.length fun k hk => spec_l2With_eq n ring t p (by omega) (rising_of t hw) hp k hk) (Ev.have (spec_l1Own_eq c (by omega)) (Ev.pos (by omega) (Ev.now _)))
 by_cases k1 : kind = 1
 ·subst k1
  by_cases g : t.length < n
  ·by_cases hA : A = 0 ∧ B = 0
   ·obtain ⟨rfl, rfl⟩ := hA
    obtain ⟨q, hq, e, hqt, hL⟩ := next_free hR g
    have hs := seat_in hH (p := (q : Int)) (by omega) (by omega) hqt
    refine .inr ⟨putL t q, c ++ [(q : Int)], ?_, ?_, ?_, hs.1, hs.2.1, hs.2.2⟩
    ·unfold spec_l12May.f
     exact Ev.pos rfl (Ev.pos (by omega) (Ev.pos rfl (Ev.now _)))
    ·unfold spec_l12Make.f
     refine Ev.have own (Ev.pos rfl (Ev.bind (spec_polite_ev hR) (Ev.pos (by omega) ?_)))
     rw [e]
     exact Ev.bind (sit q (by omega) (by omega) hqt) (Ev.now _)
    ·unfold impl_House_guests.f
     refine Ev.have cl (Ev.bind hq0 (Ev.pos rfl (Ev.bind (impl_next_ev hR) ?_)))
     rw [if_pos g, e]
     exact Ev.pos (by omega) (Ev.have rfl (Ev.pos rfl (Ev.pos rfl (Ev.now _))))
   ·refine .inl ⟨?_, ?_⟩
    ·unfold spec_l12May.f
     refine Ev.pos rfl (Ev.pos (by omega) ?_)
     by_cases a0 : A = 0
     ·exact Ev.pos a0 (Ev.same (Ev.now _) (by simpa using fun e => hA ⟨a0, e⟩))
     ·exact Ev.neg a0 (Ev.now _)
    ·refine ⟨c ++ [rd (polL n ring t) 0], ?_⟩
     unfold impl_House_guests.f
     refine Ev.have cl (Ev.bind hq0 (Ev.pos rfl (Ev.bind (impl_next_ev hR) ?_)))
     rw [if_pos g]
     refine Ev.pos (by omega) (Ev.have rfl (Ev.pos rfl ?_))
     by_cases a0 : A = 0
     ·exact Ev.pos a0 (Ev.same (Ev.now _) (by rw [show (B == 0) = false by simpa using fun e => hA ⟨a0, e⟩]))
     ·exact Ev.neg a0 (Ev.now _)
  ·refine .inl ⟨?_, ?_⟩
   ·unfold spec_l12May.f
    exact Ev.pos rfl (Ev.neg (by omega) (Ev.now _))
   ·refine ⟨c ++ [0], ?_⟩
    unfold impl_House_guests.f
    refine Ev.have cl (Ev.bind hq0 (Ev.pos rfl (Ev.bind (impl_next_ev hR) ?_)))
    rw [if_neg g]
    exact Ev.pos (by omega) (Ev.have rfl (Ev.neg Bool.false_ne_true (Ev.now _)))
 by_cases k2 : kind = 2
 ·subst k2
  obtain ⟨b, f1, f2, f3⟩ := free_both hH A
  by_cases hA : b = true ∧ B = 0
  ·obtain ⟨rfl, rfl⟩ := hA
   obtain ⟨⟨h0, h1⟩, hp⟩ := f3.1 rfl
   have hs := seat_in hH h0 h1 hp
   refine .inr ⟨putL t A, c ++ [A], ?_, ?_, ?_, hs.1, hs.2.1, hs.2.2⟩
   ·unfold spec_l12May.f
    exact Ev.neg (by omega) (Ev.pos rfl (Ev.bind f2 (Ev.pos rfl (Ev.now _))))
   ·unfold spec_l12Make.f
    exact Ev.have own (Ev.neg (by omega) (Ev.pos rfl (Ev.bind (sit A h0 h1 hp) (Ev.now _))))
   ·unfold impl_House_guests.f
    exact Ev.have cl (Ev.bind hq0 (Ev.neg (by omega) (Ev.pos rfl (Ev.pos (by omega) (Ev.have rfl (Ev.bind f1 (Ev.pos rfl (Ev.now _))))))))
  ·refine .inl ⟨?_, ?_⟩
   ·unfold spec_l12May.f
    refine Ev.neg (by omega) (Ev.pos rfl (Ev.bind f2 ?_))
    by_cases hb : b = true
    ·exact Ev.pos hb (Ev.same (Ev.now _) (by simpa using fun e => hA ⟨hb, e⟩))
    ·exact Ev.neg hb (Ev.now _)
   ·refine ⟨c ++ [A], ?_⟩
    unfold impl_House_guests.f
    refine Ev.have cl (Ev.bind hq0 (Ev.neg (by omega) (Ev.pos rfl (Ev.pos (by omega) (Ev.have rfl (Ev.bind f1 ?_))))))
    by_cases hb : b = true
    ·exact Ev.pos hb (Ev.same (Ev.now _) (by rw [show (B == 0) = false by simpa using fun e => hA ⟨hb, e⟩]))
    ·exact Ev.neg hb (Ev.now _)
 by_cases k3 : kind = 3
 ·subst k3
  have tk := taken_both hH A
  rcases index_ev c (by omega) A with ⟨hx, h1, _⟩ | ⟨p, hp, hx, h1, _, h3⟩
  ·have hxt : A ∉ t := fun e => hx (hP.mem_iff.2 e)
   rw [decide_eq_false hxt] at tk
   refine .inl ⟨?_, ?_⟩
   ·unfold spec_l12May.f
    exact Ev.neg (by omega) (Ev.neg (by omega) (Ev.pos rfl (Ev.bind tk (Ev.neg Bool.false_ne_true (Ev.now _)))))
   ·refine ⟨[], ?_⟩
    unfold impl_House_guests.f
    exact Ev.have cl (Ev.bind h1 (Ev.neg (by omega) (Ev.neg (by omega) (Ev.pos rfl (Ev.pos (by omega) (Ev.now _))))))
  ·have hxt : A ∈ t := hP.mem_iff.1 (hx ▸ List.getElem_mem hp)
   rw [decide_eq_true hxt] at tk
   have wp : wrap64 ((p : Int) + 1) = ((p + 1 : Nat) : Int) := wrap_one (n := c.length) hp (by omega)
   have del : slices_Delete_int_int.f c p (wrap64 ((p : Int) + 1)) = some (c.eraseIdx p) := by
    rw [wp]
    unfold slices_Delete_int_int.f
    rw [if_pos ⟨by omega, by omega, by omega⟩, List.eraseIdx_eq_take_drop_succ, Int.toNat_natCast, Int.toNat_natCast]
   have gu : Ev (fun k => impl_House_guests.f k n ring t c m 3 A B) (c.eraseIdx p, B == 0) := by
    unfold impl_House_guests.f
    exact Ev.have cl (Ev.bind h1 (Ev.neg (by omega) (Ev.neg (by omega) (Ev.pos rfl (Ev.neg (by omega) (Ev.have del (Ev.now _)))))))
   by_cases hB : B = 0
   ·subst hB
    have wr := without_row hH A hxt
    refine .inr ⟨t.filter fun x => !decide (x = A), c.eraseIdx p, ?_, ?_, gu, wr.1, ?_, ?_⟩
    ·unfold spec_l12May.f
     exact Ev.neg (by omega) (Ev.neg (by omega) (Ev.pos rfl (Ev.bind tk (Ev.pos rfl (Ev.now _)))))
    ·unfold spec_l12Make.f
     refine Ev.have own (Ev.neg (by omega) (Ev.neg (by omega) (Ev.pos rfl (Ev.bind h3 (Ev.bind (Ev.bound t.length fun k hk => spec_without_eq n ring t A (by omega) k hk) ?_)))))
     dsimp only
     rw [wp]
     exact Ev.pos (by omega) (Ev.pos (by omega) (Ev.pos (by omega) (Ev.pos (by omega) (Ev.now _))))
    ·rw [List.length_eraseIdx_of_lt hp]; omega
    ·intro x
     rw [List.mem_filter, ← hP.mem_iff]
     rw [List.mem_eraseIdx_iff_getElem?]
     have hh := List.pairwise_iff_getElem.1 hcN
     constructor
     ·rintro ⟨i, hi, e⟩
      obtain ⟨h1, e⟩ := List.getElem?_eq_some_iff.1 e
      refine ⟨e ▸ List.getElem_mem h1, ?_⟩
      have : x ≠ A := fun e2 => by
       rcases Nat.lt_trichotomy p i with g | g | g
       ·exact absurd (by rw [hx, ← e2, e]) (hh p i hp h1 g)
       ·exact hi g.symm
       ·exact absurd (by rw [hx, ← e2, e]) (hh i p h1 hp g)
      simpa using this
     ·rintro ⟨e, e2⟩
      obtain ⟨i, hi, rfl⟩ := List.getElem_of_mem e
      refine ⟨i, ?_, List.getElem?_eq_getElem hi⟩
      rintro rfl
      simp [hx] at e2
   ·refine .inl ⟨?_, _, Ev.same gu (by rw [show (B == 0) = false by simpa using hB])⟩
    unfold spec_l12May.f
    exact Ev.neg (by omega) (Ev.neg (by omega) (Ev.pos rfl (Ev.bind tk (Ev.pos rfl (Ev.same (Ev.now _) (by simpa using hB))))))
 by_cases k4 : kind = 4
 ·subst k4
  have tk := taken_both hH A
  rcases index_ev c (by omega) A with ⟨hx, h1, _⟩ | ⟨p, hp, hx, h1, _, h3⟩
  ·have hxt : A ∉ t := fun e => hx (hP.mem_iff.2 e)
   rw [decide_eq_false hxt] at tk
   refine .inl ⟨?_, ?_⟩
   ·unfold spec_l12May.f
    exact Ev.neg (by omega) (Ev.neg (by omega) (Ev.neg (by omega) (Ev.pos rfl (Ev.bind tk (Ev.neg Bool.false_ne_true (Ev.now _))))))
   ·refine ⟨[], ?_⟩
    unfold impl_House_guests.f
    exact Ev.have cl (Ev.bind h1 (Ev.neg (by omega) (Ev.neg (by omega) (Ev.neg (by omega) (Ev.pos rfl (Ev.pos (by omega) (Ev.now _)))))))
  ·have hxt : A ∈ t := hP.mem_iff.1 (hx ▸ List.getElem_mem hp)
   rw [decide_eq_true hxt] at tk
   obtain ⟨b, f1, f2, f3⟩ := free_both hH B
   by_cases hb : b = true
   ·subst hb
    obtain ⟨⟨h0, hB1⟩, hBt⟩ := f3.1 rfl
    have wr := without_row hH A hxt
    have hw2 := row_pairwise wr.1
    have hBf : B ∉ t.filter fun x => !decide (x = A) := fun e => hBt (List.mem_filter.1 e).1
    have hAB : B ≠ A := fun e => hBt (e ▸ hxt)
    have hmem : ∀ x, x ∈ c.set p B ↔ x ∈ putL (t.filter fun x => !decide (x = A)) B := fun x => by
     rw [mem_put _ B x hBf, List.mem_filter, ← hP.mem_iff]
     constructor
     ·intro e
      obtain ⟨j, hj, e⟩ := List.getElem_of_mem e
      rw [List.getElem_set] at e
      split at e
      ·exact .inl e.symm
      ·rename_i hpj
       rw [List.length_set] at hj
       refine .inr ⟨e ▸ List.getElem_mem hj, ?_⟩
       have : x ≠ A := fun e2 => hpj (by
        have hh := List.pairwise_iff_getElem.1 hcN
        rcases Nat.lt_trichotomy p j with g | g | g
        ·exact absurd (by rw [hx, ← e2, e]) (hh p j hp hj g)
        ·exact g
        ·exact absurd (by rw [hx, ← e2, e]) (hh j p hj hp g))
       simpa using this
     ·rintro (e | ⟨e, e2⟩)
      ·rw [e]
       exact List.mem_iff_getElem.2 ⟨p, by simpa using hp, by simp⟩
      ·obtain ⟨j, hj, rfl⟩ := List.getElem_of_mem e
       refine List.mem_iff_getElem.2 ⟨j, by simpa using hj, ?_⟩
       rw [List.getElem_set, if_neg]
       rintro rfl
       simp [hx] at e2
    have hR' : RowOK n ring (putL (t.filter fun x => !decide (x = A)) B) := row_mk hR (put_pairwise _ B hw2) fun x hx => by
     rcases (mem_put _ B x hBf).1 hx with e | e
     ·omega
     ·exact hin x (List.mem_filter.1 e).1
    have hlen : (c.set p B).length = (putL (t.filter fun x => !decide (x = A)) B).length := by
     have hN1 := rising_nodup _ _ _ hR'.2.2
     have e1 := nodup_le _ (c.set p B) hN1 fun x hx => (hmem x).2 hx
     have hNB : (B :: t.filter fun x => !decide (x = A)).Nodup := List.nodup_cons.2 ⟨hBf, (rising_nodup t _ _ hR.2.2).filter _⟩
     have e2 := nodup_le _ (putL (t.filter fun x => !decide (x = A)) B) hNB fun x hx => (mem_put _ B x hBf).2 (by simpa using hx)
     rw [List.length_set] at e1 ⊢
     simp only [List.length_cons] at e2
     omega
    refine .inr ⟨_, c.set p B, ?_, ?_, ?_, hR', hlen, hmem⟩
    ·unfold spec_l12May.f
     exact Ev.neg (by omega) (Ev.neg (by omega) (Ev.neg (by omega) (Ev.pos rfl (Ev.bind tk (Ev.pos rfl (Ev.bind f2 (Ev.now _)))))))
    ·unfold spec_l12Make.f
     refine Ev.have own (Ev.neg (by omega) (Ev.neg (by omega) (Ev.neg (by omega) (Ev.pos rfl (Ev.bind (Ev.bound t.length fun k hk => spec_without_eq n ring t A (by omega) k hk) (Ev.bind (Ev.bound t.length fun k hk => spec_l2With_eq n ring _ B (by omega) (rising_of _ hw2) hBf k (by omega)) (Ev.bind h3 ?_)))))))
     dsimp only
     exact Ev.pos (by omega) (Ev.pos (by omega) (Ev.now _))
    ·unfold impl_House_guests.f
     refine Ev.have cl (Ev.bind h1 (Ev.neg (by omega) (Ev.neg (by omega) (Ev.neg (by omega) (Ev.pos rfl (Ev.neg (by omega) (Ev.bind f1 (Ev.pos rfl (Ev.pos (by omega) (Ev.pos (by omega) (Ev.now _)))))))))))
   ·refine .inl ⟨?_, ?_⟩
    ·unfold spec_l12May.f
     have hbf : b = false := by simpa using hb
     rw [hbf] at f2
     exact Ev.neg (by omega) (Ev.neg (by omega) (Ev.neg (by omega) (Ev.pos rfl (Ev.bind tk (Ev.pos rfl (Ev.bind f2 (Ev.now _)))))))
    ·refine ⟨[], ?_⟩
     unfold impl_House_guests.f
     exact Ev.have cl (Ev.bind h1 (Ev.neg (by omega) (Ev.neg (by omega) (Ev.neg (by omega) (Ev.pos rfl (Ev.neg (by omega) (Ev.bind f1 (Ev.neg hb (Ev.now _)))))))))
 by_cases k5 : kind = 5
 ·subst k5
  have may : Ev (fun k => spec_l12May.f k n ring t c m 5 A B) (decide (A = 0 ∧ B = 0)) := by
   unfold spec_l12May.f
   refine Ev.neg (by omega) (Ev.neg (by omega) (Ev.neg (by omega) (Ev.neg (by omega) (Ev.pos rfl ?_))))
   by_cases a0 : A = 0
   ·exact Ev.pos a0 (Ev.same (Ev.now _) (by by_cases b0 : B = 0 <;> simp [a0, b0]))
   ·exact Ev.neg a0 (Ev.same (Ev.now _) (by simp [a0]))
  have gu : Ev (fun k => impl_House_guests.f k n ring t c m 5 A B) ([], decide (A = 0 ∧ B = 0)) := by
   unfold impl_House_guests.f
   refine Ev.have cl (Ev.bind hq0 (Ev.neg (by omega) (Ev.neg (by omega) (Ev.neg (by omega) (Ev.neg (by omega) (Ev.pos rfl (Ev.have rfl ?_)))))))
   by_cases a0 : A = 0
   ·exact Ev.pos a0 (Ev.same (Ev.now _) (by by_cases b0 : B = 0 <;> simp [a0, b0]))
   ·exact Ev.neg a0 (Ev.same (Ev.now _) (by simp [a0]))
  by_cases hA : A = 0 ∧ B = 0
  ·rw [decide_eq_true hA] at may gu
   refine .inr ⟨[], [], may, ?_, gu, row_mk hR (by simp) (by simp), rfl, by simp⟩
   unfold spec_l12Make.f
   exact Ev.have own (Ev.neg (by omega) (Ev.neg (by omega) (Ev.neg (by omega) (Ev.neg (by omega) (Ev.pos rfl (Ev.now _))))))
  ·rw [decide_eq_false hA] at may gu
   exact .inl ⟨may, _, gu⟩
 ·refine .inl ⟨?_, [], ?_⟩
  ·unfold spec_l12May.f
   exact Ev.neg k1 (Ev.neg k2 (Ev.neg k3 (Ev.neg k4 (Ev.neg k5 (Ev.now _)))))
  ·unfold impl_House_guests.f
   exact Ev.have cl (Ev.bind hq0 (Ev.neg k1 (Ev.neg k2 (Ev.neg k3 (Ev.neg k4 (Ev.neg k5 (Ev.now _)))))))
end

theorem do_step {n : Nat} {ring : Bool} {t c : List Int} {m : Int} (hH : HouseOK n ring t c m) (kind A B : Int) : ∃ (s' : Int) (r' : Bool) (t' c' : List Int) (m' : Int) (b : Bool), Ev (fun k => spec_l12Do.f k n ring t c m kind A B) (s', r', t', c', m', b) ∧ Ev (fun k => impl_DoWork.f k n ring t c m kind A B) (s', r', t', c', m', b) ∧ (b = true → s' = n ∧ r' = ring ∧ HouseOK n ring t' c' m') := by
 classical
 have hl := row_len _ ring _ hH.1
 have hcl := (perm_taken hH).length_eq
 have hm := hH.2.2
 have g2 := impl_house_eq n ring t c m (by omega) (by omega)
 rw [decide_eq_true hH] at g2
 have no : ∀ x : List Int, Ev (fun k => impl_DoWork.j0 k x true n ring t c m) (0, false, [], [], 0, false) := fun x => by
  refine Ev.succ ?_
  simp only [impl_DoWork.j0]
  exact Ev.pos (by first | rfl | exact True.intro) (Ev.now _)
 rcases step_both hH (by omega) kind A B with ⟨e1, x, e2⟩ | ⟨t', c', e1, e2, e3, hR', hl', hm'⟩
 ·refine ⟨0, false, [], [], 0, false, ?_, ?_, fun e => by cases e⟩
  ·unfold spec_l12Do.f
   exact Ev.bind e1 (Ev.neg (by simp) (Ev.now _))
  ·unfold impl_DoWork.f
   exact Ev.bind g2 (Ev.pos rfl (Ev.bind e2 (Ev.neg (by simp) (no x))))
 ·have hl2 := row_len _ ring _ hR'
  have own : spec_l12Own.f n ring t' c' m = some ((n : Int), ring, t', c', m) := by
   unfold spec_l12Own.f
   rw [spec_l1Own_eq t' (by omega), Option.bind_some, spec_l1Own_eq c' (by omega), Option.bind_some]
  have g3 := spec_good_eq n ring t' c' (m + 1) (by omega) (by omega)
  have wm : wrap64 (m + 1) = m + 1 := wrap_id (by omega) (by omega)
  by_cases last : m = 1000
  ·have : ¬ HouseOK n ring t' c' (m + 1) := fun hh => by have := hh.2.2.2; omega
   rw [decide_eq_false this] at g3
   refine ⟨0, false, [], [], 0, false, ?_, ?_, fun e => by cases e⟩
   ·unfold spec_l12Do.f
    refine Ev.bind e1 (Ev.pos rfl (Ev.bind e2 (Ev.have own ?_)))
    dsimp only
    rw [wm]
    exact Ev.bind g3 (Ev.neg (by simp) (Ev.now _))
   ·unfold impl_DoWork.f
    refine Ev.bind g2 (Ev.pos rfl (Ev.bind e3 (Ev.pos rfl ?_)))
    rw [show (m == 1000) = true by simpa using last]
    exact no c'
  ·have hH' : HouseOK n ring t' c' (m + 1) := house_mk hR' hl' hm' (by omega) (by omega)
   rw [decide_eq_true hH'] at g3
   refine ⟨n, ring, t', c', m + 1, true, ?_, ?_, fun _ => ⟨rfl, rfl, hH'⟩⟩
   ·unfold spec_l12Do.f
    refine Ev.bind e1 (Ev.pos rfl (Ev.bind e2 (Ev.have own ?_)))
    dsimp only
    rw [wm]
    exact Ev.bind g3 (Ev.pos rfl (Ev.now _))
   ·unfold impl_DoWork.f
    refine Ev.bind g2 (Ev.pos rfl (Ev.bind e3 (Ev.pos rfl ?_)))
    rw [show (m == 1000) = false by simpa using last]
    refine Ev.succ ?_
    simp only [impl_DoWork.j0]
    have hin := far_in hR'
    have e5 : Ev (fun k => impl_setOf.f k c') ((setN c' : Nat) : Int) := Ev.bound c'.length fun k hk => impl_setOf_eq c' (by omega) (fun x hx => by have := hin x ((hm' x).1 hx); have := hR'.1.2; omega) k hk
    rw [set_same c' t' hm'] at e5
    have e6 : Ev (fun k => impl_bench_row.f k n ring ((setN t' : Nat) : Int)) ((n : Int), ring, t') := by
     unfold impl_bench_row.f
     exact Ev.bind (set_list_ev t' (row_pairwise hR') (fun x hx => by have := hin x hx; have := hR'.1.2; omega) (by omega)) (Ev.now _)
    refine Ev.neg (by simp) (Ev.have rfl (Ev.bind e5 (Ev.bind e6 ?_)))
    dsimp only
    rw [wm]
    exact Ev.now _
theorem works_loop (ws : List S50) (hw : ws.length ≤ 1048576) (n : Nat) (ring : Bool) : ∀ d i : Nat, i + d = ws.length → ∀ (t c : List Int) (m : Int), HouseOK n ring t c m → ∃ (t' c' : List Int) (m' q : Int), t'.length ≤ 1048576 ∧ c'.length ≤ 1048576 ∧ Ev (fun k => spec_DoWorks.l0 k ws (i : Int) n ring t c m) (n, ring, t', c', m', q, true) ∧ Ev (fun k => impl_DoWorks.l0 k ws ws (ws.length : Int) (i : Int) n ring t c m) (n, ring, t', c', m', q, true) := by
 intro d
 induction d with
 | zero =>
  intro i hi t c m hH
  have hl := row_len _ ring _ hH.1
  have hcl := (perm_taken hH).length_eq
  refine ⟨t, c, m, (ws.length : Int), by omega, by omega, Ev.succ ?_, Ev.succ ?_⟩
  ·simp only [spec_DoWorks.l0]
   exact Ev.neg (by omega) (Ev.now _)
  ·simp only [impl_DoWorks.l0]
   exact Ev.neg (by omega) (Ev.now _)
 | succ d ih =>
  intro i hi t c m hH
  have hl := row_len _ ring _ hH.1
  have hcl := (perm_taken hH).length_eq
  have w1 : wrap64 ((i : Int) + 1) = ((i + 1 : Nat) : Int) := wrap_one (n := ws.length) (by omega) (by omega)
  obtain ⟨s', r', t', c', m', b, e1, e2, h⟩ := do_step hH (rd_T50 ws i).f0 (rd_T50 ws i).f1 (rd_T50 ws i).f2
  by_cases hb : b = true
  ·obtain ⟨rfl, rfl, hH'⟩ := h hb
   obtain ⟨t2, c2, m2, q, h1, h2, g1, g2⟩ := ih (i + 1) (by omega) t' c' m' hH'
   refine ⟨t2, c2, m2, q, h1, h2, Ev.succ ?_, Ev.succ ?_⟩
   ·simp only [spec_DoWorks.l0]
    rw [w1]
    exact Ev.pos (by omega) (Ev.pos (by omega) (Ev.bind e1 (Ev.pos hb g1)))
   ·simp only [impl_DoWorks.l0]
    rw [w1]
    exact Ev.pos (by omega) (Ev.pos (by omega) (Ev.pos (by omega) (Ev.bind e2 (Ev.pos hb g2))))
  ·refine ⟨t, c, m, (i : Int), by omega, by omega, Ev.succ ?_, Ev.succ ?_⟩
   ·simp only [spec_DoWorks.l0]
    exact Ev.pos (by omega) (Ev.pos (by omega) (Ev.bind e1 (Ev.neg hb (Ev.now _))))
   ·simp only [impl_DoWorks.l0]
    exact Ev.pos (by omega) (Ev.pos (by omega) (Ev.pos (by omega) (Ev.bind e2 (Ev.neg hb (Ev.now _)))))
open Classical in
theorem works_both (s : Int) (ring : Bool) (t c : List Int) (m : Int) (ws : List S50) (hs : t.length + c.length ≤ 1048576) (hw : ws.length ≤ 1048576) : ∃ (s' : Int) (r' : Bool) (t' c' : List Int) (m' q : Int) (b : Bool), t'.length ≤ 1048576 ∧ c'.length ≤ 1048576 ∧
  Ev (fun k => spec_DoWorks.f k s ring t c m ws) (s', r', t', c', m', q, b) ∧ Ev (fun k => impl_DoWorks.f k s ring t c m ws) (s', r', t', c', m', q, b) := by
 have g1 := spec_good_eq s ring t c m (by omega) (by omega)
 have g2 := impl_house_eq s ring t c m (by omega) (by omega)
 by_cases h : HouseOK s ring t c m
 ·rw [decide_eq_true h] at g1 g2
  obtain ⟨n, rfl⟩ : ∃ n : Nat, s = n := ⟨s.toNat, by have := h.1.1; omega⟩
  obtain ⟨t', c', m', q, h1, h2, e1, e2⟩ := works_loop ws hw n ring ws.length 0 (by omega) t c m h
  have own : spec_l12Own.f n ring t c m = some ((n : Int), ring, t, c, m) := by
   unfold spec_l12Own.f
   rw [spec_l1Own_eq t (by omega), Option.bind_some, spec_l1Own_eq c (by omega), Option.bind_some]
  have own2 : impl_House_own.f n ring t c m = some ((n : Int), ring, t, c, m) := by
   have hl := row_len _ ring _ h.1
   unfold impl_House_own.f
   rw [Option.bind_some, if_pos (by simp; omega), Option.bind_some, if_pos (by simp; omega)]
   rfl
  refine ⟨n, ring, t', c', m', q, true, h1, h2, ?_, ?_⟩
  ·unfold spec_DoWorks.f
   exact Ev.bind g1 (Ev.pos rfl (Ev.have own e1))
  ·unfold impl_DoWorks.f
   exact Ev.bind g2 (Ev.pos rfl (Ev.have own2 e2))
 ·rw [decide_eq_false h] at g1 g2
  refine ⟨0, false, [], [], 0, 0, false, by simp, by simp, ?_, ?_⟩
  ·unfold spec_DoWorks.f
   exact Ev.bind g1 (Ev.neg (by simp) (Ev.now _))
  ·unfold impl_DoWorks.f
   exact Ev.bind g2 (Ev.neg (by simp) (Ev.now _))
def workL (l : List S66) : List S50 := l.map fun x => ⟨x.f0, x.f1, x.f2⟩
theorem toWorkS_ev (l : List S66) (hl : l.length ≤ 1048576) : Ev (fun k => laws_toWorkS.f k l) (workL l) := by
 have main : ∀ d i : Nat, i + d = l.length → Ev (fun k => laws_toWorkS.l0 k l (workL (l.take i) ++ List.replicate d z50) (i : Int)) (workL l) := by
  intro d
  induction d with
  | zero =>
   intro i hi
   obtain rfl : i = l.length := by omega
   refine Ev.succ ?_
   simp only [laws_toWorkS.l0]
   rw [List.take_length, List.replicate_zero, List.append_nil]
   exact Ev.neg (by omega) (Ev.now _)
  | succ d ih =>
   intro i hi
   have go := ih (i + 1) (by omega)
   have hi' : i < l.length := by omega
   have hlen : (workL (l.take i)).length = i := by unfold workL; rw [List.length_map, List.length_take]; omega
   have e : (workL (l.take i) ++ List.replicate (d + 1) z50).set i (⟨(l[i]).f0, (l[i]).f1, (l[i]).f2⟩ : S50) = workL (l.take (i + 1)) ++ List.replicate d z50 := by
    rw [List.set_append_right _ _ (by omega), hlen, Nat.sub_self, List.replicate_succ, List.set_cons_zero]
    unfold workL
    rw [List.take_add_one, List.getElem?_eq_getElem hi', Option.toList_some, List.map_append, List.append_assoc]
    rfl
   rw [← e] at go
   refine Ev.succ ?_
   simp only [laws_toWorkS.l0]
   rw [show rd_T66 l (i : Int) = l[i] by unfold rd_T66; rw [Int.toNat_natCast]; simp [List.getD, List.getElem?_eq_getElem hi'], show wrap64 ((i : Int) + 1) = ((i + 1 : Nat) : Int) from wrap_one (n := l.length) (by omega) (by omega), Int.toNat_natCast]
   exact Ev.pos (by omega) (Ev.pos (by omega) (Ev.have rfl (Ev.pos (by rw [List.length_append, hlen, List.length_replicate]; omega) go)))
 unfold laws_toWorkS.f
 rw [Int.toNat_natCast]
 exact Ev.pos (by omega) (Ev.pos (by omega) (main l.length 0 (by omega)))
theorem eqWorkS_ev (l : List S50) (hl : l.length ≤ 1048576) : Ev (fun k => laws_eqWorkS.f k l l) true := by
 have main : ∀ d i : Nat, i + d = l.length → Ev (fun k => laws_eqWorkS.l0 k l l (i : Int)) true := by
  intro d
  induction d with
  | zero =>
   intro i hi
   refine Ev.succ ?_
   simp only [laws_eqWorkS.l0]
   exact Ev.neg (by omega) (Ev.now _)
  | succ d ih =>
   intro i hi
   have go := ih (i + 1) (by omega)
   refine Ev.succ ?_
   simp only [laws_eqWorkS.l0]
   rw [show wrap64 ((i : Int) + 1) = ((i + 1 : Nat) : Int) from wrap_one (n := l.length) (by omega) (by omega)]
   refine Ev.pos (by omega) (Ev.pos (by omega) (Ev.pos (by omega) (Ev.have (a := true) ?_ (Ev.pos rfl go))))
   unfold laws_eqWork.f
   rw [if_pos rfl, if_pos rfl, if_pos rfl]
 unfold laws_eqWorkS.f
 exact Ev.pos rfl (main l.length 0 (by omega))
theorem markWorkS_ev (l : List S50) (a : Int) (hl : l.length ≤ 1048576) (h0 : 0 ≤ a) (ha : a ≤ 100000000) : ∃ l' : List S50, Ev (fun k => laws_markWorkS.f k l a) (a + 3 * l.length, l') := by
 have main : ∀ d i : Nat, ∀ (l : List S50) (a : Int), i + d = l.length → l.length ≤ 1048576 → 0 ≤ a → a + 3 * d ≤ 200000000 → ∃ l' : List S50, Ev (fun k => laws_markWorkS.l0 k l a (i : Int)) (a + 3 * d, l') := by
  intro d
  induction d with
  | zero =>
   intro i l a hi hl h0 ha
   refine ⟨l, Ev.succ ?_⟩
   simp only [laws_markWorkS.l0]
   exact Ev.neg (by omega) (Ev.same (Ev.now _) (by simp))
  | succ d ih =>
   intro i l a hi hl h0 ha
   have w1 : wrap64 (a + 1) = a + 1 := wrap_id (by omega) (by omega)
   have w2 : wrap64 (a + 1 + 1) = a + 2 := by rw [wrap_id (by omega) (by omega)]; omega
   have w3 : wrap64 (a + 2 + 1) = a + 3 := by rw [wrap_id (by omega) (by omega)]; omega
   have w4 : wrap64 ((i : Int) + 1) = ((i + 1 : Nat) : Int) := wrap_one (n := l.length) (by omega) (by omega)
   have go : ∀ l2 : List S50, l2.length = l.length → ∃ l' : List S50, Ev (fun k => laws_markWorkS.l0 k l2 (a + 3) ((i + 1 : Nat) : Int)) (a + 3 * ((d + 1 : Nat) : Int), l') := fun l2 h2 => by
    obtain ⟨l', e⟩ := ih (i + 1) l2 (a + 3) (by omega) (by omega) (by omega) (by omega)
    exact ⟨l', Ev.same e (by rw [Prod.mk.injEq]; exact ⟨by omega, rfl⟩)⟩
   let y1 : List S50 := l.set (i : Int).toNat ⟨a, (rd_T50 l (i : Int)).f1, (rd_T50 l (i : Int)).f2⟩
   let y2 : List S50 := y1.set (i : Int).toNat ⟨(rd_T50 y1 (i : Int)).f0, a + 1, (rd_T50 y1 (i : Int)).f2⟩
   obtain ⟨l', e⟩ := go (y2.set (i : Int).toNat ⟨(rd_T50 y2 (i : Int)).f0, (rd_T50 y2 (i : Int)).f1, a + 2⟩) (by simp only [y2, y1, List.length_set])
   refine ⟨l', Ev.succ ?_⟩
   simp only [laws_markWorkS.l0]
   rw [w1, w2, w3, w4]
   exact Ev.pos (by omega) (Ev.pos (by omega) (Ev.have rfl (Ev.have rfl e)))
 unfold laws_markWorkS.f
 exact main l.length 0 l a (by omega) hl h0 (by omega)

theorem laws_toIntS_l0 (l : List Int) (hl : l.length ≤ 1048576) (d : Nat) : ∀ (k i : Nat) (x : List Int), x.length = l.length → i ≤ l.length → l.length - i = d → d < k → (∀ j (h : j < i) (h' : j < x.length) (h'' : j < l.length), x[j] = l[j]) → laws_toIntS.l0 k l x i = some l := by
 induction d with
 | zero =>
  intro k i x hx hi hd hk hp
  obtain ⟨k, rfl, _⟩ := fuel hk
  simp only [laws_toIntS.l0]
  rw [if_neg (by omega)]
  refine congrArg some ?_
  apply List.ext_getElem hx
  intro j h1 h2
  exact hp j (by omega) h1 h2
 | succ d ih =>
  intro k i x hx hi hd hk hp
  obtain ⟨k, rfl, _⟩ := fuel hk
  simp only [laws_toIntS.l0]
  rw [if_pos (by omega), if_pos (by omega), if_pos (by omega), wrap_one (n := l.length) (by omega) (by omega)]
  rw [rd_get l i (by omega), Int.toNat_natCast, ih k (i + 1) _ (by simp [hx]) (by omega) (by omega) (by omega)]
  intro j h h' h''
  rw [List.getElem_set]
  split
  ·rename_i e
   subst e
   rfl
  ·rename_i e
   exact hp j (by omega) (by simpa using h') h''
theorem laws_toIntS_eq (l : List Int) (hl : l.length ≤ 1048576) (k : Nat) (hk : l.length < k) : laws_toIntS.f k l = some l := by
 unfold laws_toIntS.f
 rw [if_pos (by omega), if_pos (by omega)]
 exact laws_toIntS_l0 l hl l.length k 0 _ (by simp) (by omega) (by omega) hk (fun j h => by omega)

theorem laws_eqIntS_l0 (a b : List Int) (hl : a.length ≤ 1048576) (he : a.length = b.length) (d : Nat) : ∀ (k i : Nat), i ≤ a.length → a.length - i = d → d < k → laws_eqIntS.l0 k a b i = some (decide (a.drop i = b.drop i)) := by
 induction d with
 | zero =>
  intro k i hi hd hk
  obtain ⟨k, rfl, _⟩ := fuel hk
  simp only [laws_eqIntS.l0]
  rw [if_neg (by omega), List.drop_eq_nil_of_le (by omega), List.drop_eq_nil_of_le (by omega)]
  simp
 | succ d ih =>
  intro k i hi hd hk
  obtain ⟨k, rfl, _⟩ := fuel hk
  simp only [laws_eqIntS.l0]
  rw [if_pos (by omega), if_pos (by omega), if_pos (by omega), wrap_one (n := a.length) (by omega) (by omega), rd_get a i (by omega), rd_get b i (by omega), ih k (i + 1) (by omega) (by omega) (by omega)]
  rw [List.drop_eq_getElem_cons (l := a) (i := i) (by omega), List.drop_eq_getElem_cons (l := b) (i := i) (by omega)]
  by_cases h : a[i]'(by omega) = b[i]'(by omega)
  ·rw [if_pos h]
   refine congrArg some ?_
   rw [decide_eq_decide, List.cons.injEq]
   exact ⟨fun e => ⟨h, e⟩, fun e => e.2⟩
  ·rw [if_neg h]
   refine congrArg some ?_
   symm
   rw [decide_eq_false_iff_not, List.cons.injEq]
   exact fun e => h e.1
theorem laws_eqIntS_eq (a b : List Int) (hl : a.length ≤ 1048576) (k : Nat) (hk : a.length < k) : laws_eqIntS.f k a b = some (decide (a = b)) := by
 unfold laws_eqIntS.f
 by_cases h : a.length = b.length
 ·rw [if_pos (by omega)]
  have := laws_eqIntS_l0 a b hl h a.length k 0 (by omega) (by omega) hk
  simpa using this
 ·rw [if_neg (by omega)]
  refine congrArg some ?_
  symm
  rw [decide_eq_false_iff_not]
  intro e
  exact h (by rw [e])
theorem laws_eqIntS_self (a : List Int) (hl : a.length ≤ 1048576) (k : Nat) (hk : a.length < k) : laws_eqIntS.f k a a = some true := by
 rw [laws_eqIntS_eq a a hl k hk]
 simp

theorem laws_toIntS_ev (l : List Int) (hl : l.length ≤ 1048576) : Ev (fun k => laws_toIntS.f k l) l := Ev.bound l.length fun k hk => laws_toIntS_eq l hl k hk
theorem laws_eqIntS_ev (l : List Int) (hl : l.length ≤ 1048576) : Ev (fun k => laws_eqIntS.f k l l) true := Ev.bound l.length fun k hk => laws_eqIntS_self l hl k hk

theorem laws_szRow_eq (s : Int) (b : Bool) (t : List Int) (m : Nat) (hm : m ≤ 1048576) (ht : t.length ≤ maxLen) : laws_szRow.f s b t (m : Int) = some (if t.length ≤ m then ((m - t.length : Nat) : Int) else -1) := by
 have hmax : t.length ≤ 9223372036854775807 := ht
 unfold laws_szRow.f laws_szIntS.f
 rw [wrap_id (by omega) (by omega)]
 by_cases h : t.length ≤ m
 ·rw [if_neg (by omega), Option.bind_some, if_neg (by omega), if_pos h]
  refine congrArg some ?_
  omega
 ·rw [if_pos (by omega), Option.bind_some, if_pos (by omega), if_neg h]
theorem laws_toRow_ev (s : Int) (b : Bool) (t : List Int) (ht : t.length ≤ 1048576) : Ev (fun k => laws_toRow.f k s b t) (s, b, t) := by
 unfold laws_toRow.f
 exact Ev.bind (laws_toIntS_ev t ht) (Ev.now _)
theorem laws_eqRow_ev (s : Int) (b : Bool) (t : List Int) (ht : t.length ≤ 1048576) : Ev (fun k => laws_eqRow.f k s b t s b t) true := by
 unfold laws_eqRow.f
 refine Ev.pos rfl (Ev.neg (by simp) ?_)
 exact Ev.bind (laws_eqIntS_ev t ht) (Ev.pos rfl (Ev.now _))

theorem laws_szHouse_eq (s : Int) (b : Bool) (t c : List Int) (n : Int) (ht : t.length ≤ maxLen) (hc : c.length ≤ maxLen) : laws_szHouse.f s b t c n 1048576 = some (if t.length + c.length ≤ 1048576 then ((1048576 - t.length - c.length : Nat) : Int) else -1) := by
 have hc' : c.length ≤ 9223372036854775807 := hc
 unfold laws_szHouse.f
 have e := laws_szRow_eq s b t 1048576 (by omega) ht
 rw [show ((1048576 : Nat) : Int) = 1048576 from rfl] at e
 rw [e, Option.bind_some]
 by_cases h : t.length ≤ 1048576
 ·rw [if_pos h, if_neg (by omega)]
  unfold laws_szIntS.f
  rw [wrap_id (by omega) (by omega)]
  by_cases g : t.length + c.length ≤ 1048576
  ·rw [if_neg (by omega), Option.bind_some, if_neg (by omega), if_pos g]
   refine congrArg some ?_
   omega
  ·rw [if_pos (by omega), Option.bind_some, if_pos (by omega), if_neg g]
 ·rw [if_neg h, if_pos (by omega), if_neg (by omega)]
theorem laws_toHouse_ev (s : Int) (b : Bool) (t c : List Int) (n : Int) (ht : t.length ≤ 1048576) (hc : c.length ≤ 1048576) : Ev (fun k => laws_toHouse.f k s b t c n) (s, b, t, c, n) := by
 unfold laws_toHouse.f
 exact Ev.bind (laws_toRow_ev s b t ht) (Ev.bind (laws_toIntS_ev c hc) (Ev.now _))
theorem laws_eqHouse_ev (s : Int) (b : Bool) (t c : List Int) (n : Int) (ht : t.length ≤ 1048576) (hc : c.length ≤ 1048576) : Ev (fun k => laws_eqHouse.f k s b t c n s b t c n) true := by
 unfold laws_eqHouse.f
 exact Ev.bind (laws_eqRow_ev s b t ht) (Ev.pos rfl (Ev.bind (laws_eqIntS_ev c hc) (Ev.pos rfl (Ev.pos (by first | rfl | exact True.intro) (Ev.now _)))))

theorem laws_markIntS_l0 (d : Nat) : ∀ (k i : Nat) (x : List Int) (m : Nat), x.length ≤ 1048576 → m ≤ 1000000000 + i → i ≤ x.length → x.length - i = d → d < k →
  laws_markIntS.l0 k x m i = some (((m + (x.length - i) : Nat) : Int), x.take i ++ (List.range (x.length - i)).map fun j => ((m + j : Nat) : Int)) := by
 induction d with
 | zero =>
  intro k i x m hx hm hi hd hk
  obtain ⟨k, rfl, _⟩ := fuel hk
  simp only [laws_markIntS.l0]
  rw [if_neg (by omega), hd]
  simp [List.take_of_length_le (show x.length ≤ i by omega)]
 | succ d ih =>
  intro k i x m hx hm hi hd hk
  obtain ⟨k, rfl, _⟩ := fuel hk
  simp only [laws_markIntS.l0]
  rw [if_pos (by omega), if_pos (by omega), wrap_one (n := x.length) (i := i) (by omega) (by omega), wrap_one (n := m + 1) (i := m) (by omega) (by omega), Int.toNat_natCast]
  rw [ih k (i + 1) (x.set i m) (m + 1) (by simp; omega) (by omega) (by simp; omega) (by simp; omega) (by omega)]
  simp only [List.length_set, Option.some.injEq, Prod.mk.injEq]
  refine ⟨by omega, ?_⟩
  rw [hd, show x.length - (i + 1) = d from by omega, List.range_succ_eq_map, List.map_cons, List.map_map]
  rw [List.take_set, List.take_add_one, List.set_append_right _ _ (by simp; omega)]
  simp [List.length_take, show min i x.length = i from by omega, List.getElem?_eq_getElem (show i < x.length by omega)]
  intro a _
  omega
theorem laws_markIntS_eq (x : List Int) (m k : Nat) (hx : x.length ≤ 1048576) (hm : m ≤ 1000000000) (hk : x.length < k) :
  laws_markIntS.f k x m = some (((m + x.length : Nat) : Int), (List.range x.length).map fun j => ((m + j : Nat) : Int)) := by
 unfold laws_markIntS.f
 have := laws_markIntS_l0 x.length k 0 x m hx (by omega) (by omega) (by omega) hk
 simpa using this
theorem laws_heldIntS_l0 (n m : Nat) (hx : n ≤ 1048576) (hm : m ≤ 1000000000) (d : Nat) : ∀ (k i : Nat), i ≤ n → n - i = d → d < k →
  laws_heldIntS.l0 k ((List.range n).map fun j => ((m + j : Nat) : Int)) ((m + i : Nat) : Int) i = some (((m + n : Nat) : Int)) := by
 induction d with
 | zero =>
  intro k i hi hd hk
  obtain ⟨k, rfl, _⟩ := fuel hk
  simp only [laws_heldIntS.l0]
  rw [if_neg (by simp; omega), show i = n from by omega]
 | succ d ih =>
  intro k i hi hd hk
  obtain ⟨k, rfl, _⟩ := fuel hk
  simp only [laws_heldIntS.l0]
  rw [if_pos (by simp; omega), if_pos (by omega), rd_get _ i (by simp; omega)]
  simp only [List.getElem_map, List.getElem_range, if_true]
  rw [wrap_one (n := n) (i := i) (by omega) (by omega), wrap_one (n := m + i + 1) (i := m + i) (by omega) (by omega), show m + i + 1 = m + (i + 1) from by omega]
  exact ih k (i + 1) (by omega) (by omega) (by omega)
theorem laws_heldIntS_eq (n m k : Nat) (hx : n ≤ 1048576) (hm : m ≤ 1000000000) (hk : n < k) :
  laws_heldIntS.f k ((List.range n).map fun j => ((m + j : Nat) : Int)) m = some (((m + n : Nat) : Int)) :=
 laws_heldIntS_l0 n m hx hm n k 0 (by omega) (by omega) hk

def marksL (n : Nat) (m : Int) : List Int := (List.range n).map fun j => ((m.toNat + j : Nat) : Int)
theorem laws_markIntS_ev (l : List Int) (m : Int) (hl : l.length ≤ 1048576) (h0 : 0 ≤ m) (hm : m ≤ 1000000000) : Ev (fun k => laws_markIntS.f k l m) (m + l.length, marksL l.length m) :=
 Ev.bound l.length fun k hk => by
  obtain ⟨n, rfl⟩ : ∃ n : Nat, m = n := ⟨m.toNat, by omega⟩
  rw [laws_markIntS_eq l n k hl (by omega) hk]
  unfold marksL
  rw [Int.toNat_natCast]
  refine congrArg some (Prod.ext ?_ rfl)
  exact Int.natCast_add _ _
theorem laws_heldIntS_ev (n : Nat) (m : Int) (hl : n ≤ 1048576) (h0 : 0 ≤ m) (hm : m ≤ 1000000000) : Ev (fun k => laws_heldIntS.f k (marksL n m) m) (m + n) :=
 Ev.bound n fun k hk => by
  obtain ⟨j, rfl⟩ : ∃ j : Nat, m = j := ⟨m.toNat, by omega⟩
  unfold marksL
  rw [Int.toNat_natCast, laws_heldIntS_eq n j k hl (by omega) hk]
  exact congrArg some (Int.natCast_add _ _)

theorem laws_markRow_ev (s : Int) (b : Bool) (l : List Int) (m : Int) (hl : l.length ≤ 1048576) (h0 : 0 ≤ m) (hm : m ≤ 1000000000) : Ev (fun k => laws_markRow.f k s b l m) (m + l.length, marksL l.length m) := by
 unfold laws_markRow.f
 exact Ev.bind (laws_markIntS_ev l m hl h0 hm) (Ev.now _)

theorem laws_markHouse_ev (s : Int) (b : Bool) (t c : List Int) (n m : Int) (ht : t.length ≤ 1048576) (hc : c.length ≤ 1048576) (h0 : 0 ≤ m) (hm : m ≤ 100000000) : Ev (fun k => laws_markHouse.f k s b t c n m) (m + t.length + c.length, marksL t.length m, marksL c.length (m + t.length)) := by
 unfold laws_markHouse.f
 exact Ev.bind (laws_markRow_ev s b t m ht h0 (by omega)) (Ev.bind (laws_markIntS_ev c _ hc (by omega) (by omega)) (Ev.now _))

theorem laws_heldRow_ev (s : Int) (b : Bool) (n : Nat) (m : Int) (hl : n ≤ 1048576) (h0 : 0 ≤ m) (hm : m ≤ 1000000000) : Ev (fun k => laws_heldRow.f k s b (marksL n m) m) (m + n) := by
 unfold laws_heldRow.f
 exact Ev.bind (laws_heldIntS_ev n m hl h0 hm) (Ev.neg (by omega) (Ev.now _))

theorem laws_heldHouse_ev (s : Int) (b : Bool) (i j : Nat) (n m : Int) (hi : i ≤ 1048576) (hj : j ≤ 1048576) (h0 : 0 ≤ m) (hm : m ≤ 100000000) : Ev (fun k => laws_heldHouse.f k s b (marksL i m) (marksL j (m + i)) n m) (m + i + j) := by
 unfold laws_heldHouse.f
 exact Ev.bind (laws_heldRow_ev s b i m hi h0 (by omega)) (Ev.neg (by omega) (Ev.bind (laws_heldIntS_ev j (m + i) hj (by omega) (by omega)) (Ev.neg (by omega) (Ev.now _))))
theorem FnExactDoWorks : ∀ (a0_0_0 : Int) (a0_0_1 : Bool) (a0_0_2 : List Int) (a0_1 : List Int) (a0_2 : Int) (a1 : List S66), (Lit.int .i64 a0_0_0).wf = true → a0_0_2.length ≤ maxLen → (∀ x ∈ a0_0_2, (Lit.int .i64 x).wf = true) → a0_1.length ≤ maxLen → (∀ x ∈ a0_1, (Lit.int .i64 x).wf = true) → (Lit.int .i64 a0_2).wf = true → a1.length ≤ maxLen → ∃ k, laws_FnExactDoWorks.f k a0_0_0 a0_0_1 a0_0_2 a0_1 a0_2 a1 = some true := by
 intro s ring t c n ws _ ht _ hc _ _ hws
 have hmx : maxLen ≤ 9223372036854775807 := by decide
 refine Ev.rounds ?_
 unfold laws_FnExactDoWorks.f
 refine Ev.have (laws_szHouse_eq s ring t c n ht hc) ?_
 by_cases h2 : t.length + c.length ≤ 1048576
 ·rw [if_pos h2]
  by_cases h3 : t.length + c.length + ws.length ≤ 1048576
  ·have hwl : (workL ws).length ≤ 1048576 := by unfold workL; rw [List.length_map]; omega
   have hsz : laws_szWorkS.f ws ((1048576 - t.length - c.length : Nat) : Int) = some (((1048576 - t.length - c.length : Nat) : Int) - (ws.length : Int)) := by
    unfold laws_szWorkS.f
    rw [wrap_id (by omega) (by omega), if_neg (by omega)]
   obtain ⟨s', r', t', c', n', q, b, ht', hc', e1, e2⟩ := works_both s ring t c n (workL ws) h2 hwl
   obtain ⟨w', e6⟩ := markWorkS_ev (workL ws) (1 + t.length + c.length) hwl (by omega) (by omega)
   have e0 := toWorkS_ev ws (by omega)
   have e7 := eqWorkS_ev (workL ws) hwl
   have e3 := laws_eqHouse_ev s' r' t' c' n' ht' hc'
   have e4 := laws_markHouse_ev s' r' t' c' n' 1 ht' hc' (by omega) (by omega)
   have e5 := laws_heldHouse_ev s' r' t'.length c'.length n' 1 ht' hc' (by omega) (by omega)
   refine Ev.neg (by omega) (Ev.have hsz (Ev.neg (by omega) ?_))
   repeat' (first
    | exact Ev.now _
    | (refine Ev.bind e0 ?_; (try dsimp only))
    | (refine Ev.bind e1 ?_; (try dsimp only))
    | (refine Ev.bind e2 ?_; (try dsimp only))
    | (refine Ev.bind e3 ?_; (try dsimp only))
    | (refine Ev.bind e4 ?_; (try dsimp only))
    | (refine Ev.bind e5 ?_; (try dsimp only))
    | (refine Ev.bind e6 ?_; (try dsimp only))
    | (refine Ev.bind e7 ?_; (try dsimp only))
    | (refine Ev.bind (laws_toIntS_ev _ (by omega)) ?_; (try dsimp only))
    | (refine Ev.bind (laws_eqIntS_ev _ (by omega)) ?_; (try dsimp only))
    | (refine Ev.bind (laws_markIntS_ev _ _ (by omega) (by omega) (by omega)) ?_; (try dsimp only))
    | (refine Ev.bind (laws_heldIntS_ev _ _ (by omega) (by omega) (by omega)) ?_; (try dsimp only))
    | (refine Ev.bind (laws_toRow_ev _ _ _ (by omega)) ?_; (try dsimp only))
    | (refine Ev.bind (laws_eqRow_ev _ _ _ (by omega)) ?_; (try dsimp only))
    | (refine Ev.bind (laws_markRow_ev _ _ _ _ (by omega) (by omega) (by omega)) ?_; (try dsimp only))
    | (refine Ev.bind (laws_toHouse_ev _ _ _ _ _ (by omega) (by omega)) ?_; (try dsimp only))
    | (refine Ev.bind (laws_eqHouse_ev _ _ _ _ _ (by omega) (by omega)) ?_; (try dsimp only))
    | (refine Ev.bind (laws_markHouse_ev _ _ _ _ _ _ (by omega) (by omega) (by omega) (by omega)) ?_; (try dsimp only))
    | (refine Ev.have (laws_szRow_eq _ _ _ 1048576 (by omega) (by assumption)) ?_; (try dsimp only))
    | (refine Ev.pos rfl ?_; (try dsimp only))
    | (refine Ev.neg (by omega) ?_; (try dsimp only))
    | (refine Ev.pos (by omega) ?_; (try dsimp only))
    | (refine Ev.neg (bne_self _) ?_; (try dsimp only))
    | (refine Ev.neg Bool.false_ne_true ?_; (try dsimp only))
    | (refine Ev.neg (fun h => h) ?_; (try dsimp only))
    | (refine Ev.pos True.intro ?_; (try dsimp only))
    | (refine Ev.succ ?_; simp only [laws_FnExactDoWorks.j0, laws_FnExactDoWorks.j1, laws_FnExactDoWorks.j2]))
  ·have hsz : laws_szWorkS.f ws ((1048576 - t.length - c.length : Nat) : Int) = some (-1) := by
    unfold laws_szWorkS.f
    rw [wrap_id (by omega) (by omega), if_pos (by omega)]
   exact Ev.neg (by omega) (Ev.have hsz (Ev.pos (by omega) (Ev.now _)))
 ·rw [if_neg h2]
  exact Ev.pos (by omega) (Ev.now _)

end Go.Proofs.YtbohmfnjgjijdaaGreatDoor.Pure
-- squeezed
