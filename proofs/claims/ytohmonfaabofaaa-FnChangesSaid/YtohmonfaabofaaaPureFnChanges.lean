/- Changes, for all codes: what the program tells is what the reference tells; side swaps are the pairs out of order and lead home, free swaps are no more, hole moves at most three for each, and the change back needs as many of both and leads back again. No conditions. -/
import Derived.Test.YtohmonfaabofaaaQFnChangesx
namespace Go.Proofs.Ytohmonfaabofaaa.Pure
open Go.RowKit Go.Proofs.Ytohmonfaabofaaa.QFnChanges Go.Proofs.YtohmonfaabofaaaW.PrintWords Go.Proofs.YtohmonfaabofaaaW.PrintLast Go.Proofs.YtohmonfaabofaaaW.PrintMore
set_option linter.unusedVariables false
set_option linter.unusedSimpArgs false

/-! ### base -/
theorem wrap_id {x : Int} (h0 : -9223372036854775808 ≤ x) (h1 : x ≤ 9223372036854775807) : wrap64 x = x := by
  unfold wrap64
  omega
theorem wrap_one {i n : Nat} (h : i < n) (hn : n ≤ 4611686018427387904) : wrap64 ((i : Int) + 1) = ((i + 1 : Nat) : Int) := by
  unfold wrap64
  omega
theorem rd_nat (l : List Int) (i : Nat) : rd l (i : Int) = l.getD i 0 := by unfold rd; simp
theorem rd_get (l : List Int) (i : Nat) (h : i < l.length) : rd l (i : Int) = l[i] := by rw [rd_nat]; simp [List.getD, h]
theorem fuel {k d : Nat} (h : d < k) : ∃ m, k = m + 1 ∧ d ≤ m := ⟨k - 1, by omega, by omega⟩

/-! ### within -/
theorem spec_l1In_eq (n a b : Int) : spec_l1In.f n a b = some (decide (a ≤ n ∧ n ≤ b)) := by
  unfold spec_l1In.f
  by_cases h : n ≥ a
  · rw [if_pos h]
    simp [show a ≤ n from h]
  · rw [if_neg h]
    simp [show ¬ a ≤ n from h]
theorem impl_within_eq (n a b : Int) : impl_within.f n a b = some (decide (a ≤ n ∧ n ≤ b)) := by
  unfold impl_within.f
  by_cases h : n ≥ a
  · rw [if_pos h]
    simp [show a ≤ n from h]
  · rw [if_neg h]
    simp [show ¬ a ≤ n from h]

/-! ### spec_l1Has -/
theorem spec_l1Has_l0 (l : List Int) (n : Int) (hl : l.length ≤ 1048576) (d : Nat) : ∀ (k i : Nat), i ≤ l.length → l.length - i = d → d < k → spec_l1Has.l0 k l n i = some (decide (n ∈ l.drop i)) := by
  induction d with
  | zero =>
    intro k i hi hd hk
    obtain ⟨k, rfl, _⟩ := fuel hk
    simp only [spec_l1Has.l0]
    rw [if_neg (by omega), List.drop_eq_nil_of_le (by omega)]
    simp
  | succ d ih =>
    intro k i hi hd hk
    obtain ⟨k, rfl, _⟩ := fuel hk
    simp only [spec_l1Has.l0]
    rw [if_pos (by omega), if_pos (by omega), wrap_one (n := l.length) (by omega) (by omega), rd_get l i (by omega), ih k (i + 1) (by omega) (by omega) (by omega)]
    rw [List.drop_eq_getElem_cons (l := l) (i := i) (by omega)]
    by_cases h : l[i]'(by omega) = n
    · rw [if_pos h, h]
      simp
    · rw [if_neg h]
      refine congrArg some ?_
      rw [decide_eq_decide, List.mem_cons]
      exact ⟨.inr, fun e => e.resolve_left fun e => h e.symm⟩
theorem spec_l1Has_eq (l : List Int) (n : Int) (hl : l.length ≤ 1048576) (k : Nat) (hk : l.length < k) : spec_l1Has.f k l n = some (decide (n ∈ l)) := by
  have := spec_l1Has_l0 l n hl l.length k 0 (by omega) (by omega) hk
  exact this

/-! ### sets -/
/-- A list of numbers as a set of bits. -/
def setN (l : List Int) : Nat := l.foldl (fun s p => s ||| 2 ^ p.toNat) 0
theorem testBit_foldl (l : List Int) : ∀ (s i : Nat), (l.foldl (fun s p => s ||| 2 ^ p.toNat) s).testBit i = (s.testBit i || decide (∃ p ∈ l, p.toNat = i)) := by
  induction l with
  | nil => intro s i; simp
  | cons a l ih =>
    intro s i
    rw [List.foldl_cons, ih, Nat.testBit_or, Nat.testBit_two_pow, Bool.or_assoc]
    congr 1
    rw [Bool.eq_iff_iff]
    simp
theorem testBit_setN (l : List Int) (i : Nat) : (setN l).testBit i = decide (∃ p ∈ l, p.toNat = i) := by
  unfold setN
  rw [testBit_foldl]
  simp
theorem foldl_lt (l : List Int) (n : Nat) (hl : ∀ p ∈ l, p < n) (hn : 0 < n) : ∀ s, s < 2 ^ n → l.foldl (fun s p => s ||| 2 ^ p.toNat) s < 2 ^ n := by
  induction l with
  | nil => intro s h; exact h
  | cons a l ih =>
    intro s h
    rw [List.foldl_cons]
    have := hl a (by simp)
    exact ih (fun p hp => hl p (by simp [hp])) _ (Nat.or_lt_two_pow h (Nat.pow_lt_pow_right (by omega) (by omega)))
theorem setN_lt (l : List Int) (n : Nat) (hl : ∀ p ∈ l, p < n) (hn : 0 < n) : setN l < 2 ^ n := foldl_lt l n hl hn 0 (Nat.two_pow_pos n)
theorem setN_u32 (l : List Int) (hl : ∀ p ∈ l, p < 32) : setN l < 4294967296 := setN_lt l 32 hl (by omega)
theorem or_cast (a b : Nat) (ha : a < 4294967296) (hb : b < 4294967296) : Go.bits .or .u32 (a : Int) (b : Int) = ((a ||| b : Nat) : Int) :=
  (bits_nat .u32 32 (by decide) (fun n h h' => by rw [IntKind.wrap_u32]; omega) a b ha hb).2
theorem and_cast (a b : Nat) (ha : a < 4294967296) (hb : b < 4294967296) : Go.bits .and .u32 (a : Int) (b : Int) = ((a &&& b : Nat) : Int) :=
  (bits_nat .u32 32 (by decide) (fun n h h' => by rw [IntKind.wrap_u32]; omega) a b ha hb).1
theorem shl_one (p : Int) (h0 : 0 ≤ p) (h1 : p < 32) : shl .u32 1 p = ((2 ^ p.toNat : Nat) : Int) := by
  unfold shl
  rw [Int.one_mul, IntKind.wrap_u32, show min p.toNat IntKind.u32.bits = p.toNat from Nat.min_eq_left (by show p.toNat ≤ 32; omega)]
  have : 2 ^ p.toNat < 2 ^ 32 := Nat.pow_lt_pow_right (by omega) (by omega)
  have e : ((2 ^ p.toNat : Nat) : Int) = (2 : Int) ^ p.toNat := by simp
  rw [← e]
  generalize 2 ^ p.toNat = y at *
  omega

/-! ### pop -/
theorem popAux_filter : ∀ (n x : Nat), Lib.popAux n x = ((List.range n).filter fun i => x.testBit i).length
  | 0, x => by simp [Lib.popAux]
  | n + 1, x => by
    rw [Lib.popAux, popAux_filter n, List.range_succ_eq_map, List.filter_cons, List.filter_map, Nat.testBit_zero]
    have e : ((fun i => x.testBit i) ∘ Nat.succ) = fun i => (x / 2).testBit i := by
      funext i
      simp [Nat.testBit_succ]
    rw [e]
    by_cases h : x % 2 = 1
    · simp [h]
      omega
    · simp [h]
      omega
theorem onesCount_filter (x : Nat) : Lib.onesCount x = ((List.range 64).filter fun i => x.testBit i).length := popAux_filter 64 x
/-- A set whose members are below n: their number. -/
theorem onesCount_below (x n : Nat) (hx : x < 2 ^ n) (hn : n ≤ 64) : Lib.onesCount x = ((List.range n).filter fun i => x.testBit i).length := by
  rw [onesCount_filter, show 64 = n + (64 - n) from by omega, List.range_add, List.filter_append, List.length_append]
  have z : List.filter (fun i => x.testBit i) (List.map (fun x => n + x) (List.range (64 - n))) = [] := by
    rw [List.filter_eq_nil_iff]
    intro i hi
    obtain ⟨j, _, rfl⟩ := List.mem_map.1 hi
    rw [Nat.testBit_lt_two_pow (Nat.lt_of_lt_of_le hx (Nat.pow_le_pow_right (by omega) (by omega)))]
    simp
  rw [z, List.length_nil, Nat.add_zero]

/-! ### impl_allWithin -/
theorem impl_allWithin_l0 (l : List Int) (a b : Int) (hl : l.length ≤ 1048576) (d : Nat) : ∀ (k i : Nat), i ≤ l.length → l.length - i = d → d < k → impl_allWithin.l0 k a b l (l.length : Int) i = some (decide (∀ x ∈ l.drop i, a ≤ x ∧ x ≤ b)) := by
  induction d with
  | zero =>
    intro k i hi hd hk
    obtain ⟨k, rfl, _⟩ := fuel hk
    simp only [impl_allWithin.l0]
    rw [if_neg (by omega), List.drop_eq_nil_of_le (by omega)]
    simp
  | succ d ih =>
    intro k i hi hd hk
    obtain ⟨k, rfl, _⟩ := fuel hk
    simp only [impl_allWithin.l0]
    rw [if_pos (by omega), if_pos (by omega), if_pos (by omega), wrap_one (n := l.length) (by omega) (by omega), rd_get l i (by omega), impl_within_eq, ih k (i + 1) (by omega) (by omega) (by omega)]
    rw [List.drop_eq_getElem_cons (l := l) (i := i) (by omega)]
    rw [Option.bind_some]
    by_cases h : a ≤ l[i]'(by omega) ∧ l[i]'(by omega) ≤ b
    · rw [if_pos (by simp only [h]; simp)]
      refine congrArg some ?_
      rw [decide_eq_decide]
      simp only [List.mem_cons]
      exact ⟨fun e x hx => hx.elim (fun z => z ▸ h) (e x), fun e x hx => e x (.inr hx)⟩
    · rw [if_neg (by rw [decide_eq_true_eq]; exact h)]
      refine congrArg some ?_
      symm
      rw [decide_eq_false_iff_not]
      exact fun e => h (e _ List.mem_cons_self)
theorem impl_allWithin_eq (l : List Int) (a b : Int) (hl : l.length ≤ 1048576) (k : Nat) (hk : l.length < k) : impl_allWithin.f k l a b = some (decide (∀ x ∈ l, a ≤ x ∧ x ≤ b)) :=
  impl_allWithin_l0 l a b hl l.length k 0 (by omega) (by omega) hk

/-! ### impl_setOf -/
theorem impl_setOf_l0 (l : List Int) (hl : l.length ≤ 1048576) (hb : ∀ x ∈ l, 0 ≤ x ∧ x < 32) (d : Nat) : ∀ (k i s : Nat), s < 4294967296 → i ≤ l.length → l.length - i = d → d < k →
    impl_setOf.l0 k (s : Int) l (l.length : Int) i = some (((l.drop i).foldl (fun s p => s ||| 2 ^ p.toNat) s : Nat) : Int) := by
  induction d with
  | zero =>
    intro k i s hs hi hd hk
    obtain ⟨k, rfl, _⟩ := fuel hk
    simp only [impl_setOf.l0]
    rw [if_neg (by omega), List.drop_eq_nil_of_le (by omega)]
    rfl
  | succ d ih =>
    intro k i s hs hi hd hk
    obtain ⟨k, rfl, _⟩ := fuel hk
    obtain ⟨b0, b1⟩ := hb (l[i]'(by omega)) (List.getElem_mem _)
    have hp : 2 ^ (l[i]'(by omega)).toNat < 2 ^ 32 := Nat.pow_lt_pow_right (by omega) (by omega)
    simp only [impl_setOf.l0]
    rw [if_pos (by omega), if_pos (by omega), if_pos (by omega), wrap_one (n := l.length) (by omega) (by omega), rd_get l i (by omega), if_pos b0, shl_one _ b0 b1, or_cast _ _ hs hp]
    rw [ih k (i + 1) _ (Nat.or_lt_two_pow (n := 32) hs hp) (by omega) (by omega) (by omega), List.drop_eq_getElem_cons (l := l) (i := i) (by omega)]
    rfl
theorem impl_setOf_eq (l : List Int) (hl : l.length ≤ 1048576) (hb : ∀ x ∈ l, 0 ≤ x ∧ x < 32) (k : Nat) (hk : l.length < k) : impl_setOf.f k l = some ((setN l : Nat) : Int) :=
  impl_setOf_l0 l hl hb l.length k 0 0 (by omega) (by omega) (by omega) hk

/-! ### impl_count -/
theorem impl_set_count_eq (s : Nat) (hs : s < 4294967296) : impl_set_count.f (s : Int) = some ((Lib.onesCount s : Nat) : Int) := by
  unfold impl_set_count.f bits_OnesCount32.f
  rw [if_pos (by omega)]
  rfl

/-! ### impl_sets -/


/-! ### order -/
/-- A list of n numbers that has each number below n has no others. -/
theorem order_within (l : List Int) (h : ∀ i : Nat, i < l.length → (i : Int) ∈ l) : ∀ x ∈ l, 0 ≤ x ∧ x < l.length := by
  intro x hx
  rcases Classical.em (0 ≤ x ∧ x < l.length) with e | e
  · exact e
  · exfalso
    have hn : ((List.range l.length).map fun i : Nat => (i : Int)).Nodup := by
      refine List.Pairwise.map _ ?_ List.nodup_range
      intro a b hab he
      exact hab (by omega)
    have hs : ((List.range l.length).map fun i : Nat => (i : Int)) ⊆ l.erase x := by
      intro y hy
      obtain ⟨i, hi, rfl⟩ := List.mem_map.1 hy
      have hi := List.mem_range.1 hi
      exact (List.mem_erase_of_ne (fun z => e (by omega))).2 (h i hi)
    have := List.Nodup.length_le_of_subset hn hs
    rw [List.length_erase_of_mem hx] at this
    have hp := List.length_pos_of_mem hx
    simp at this
    omega
theorem spec_l4Order_l0 (l : List Int) (n : Nat) (hl : l.length ≤ 1048576) (hn : n ≤ 1048576) (d : Nat) : ∀ (k i : Nat), i ≤ n → n - i = d → d + l.length < k → (∀ j : Nat, j < i → (j : Int) ∈ l) →
    spec_l4Order.l0 k l (n : Int) i = some (decide ((∀ j : Nat, j < n → (j : Int) ∈ l) ∧ l.length = n)) := by
  induction d with
  | zero =>
    intro k i hi hd hk hp
    obtain ⟨k, rfl, _⟩ := fuel hk
    simp only [spec_l4Order.l0]
    rw [if_neg (by omega)]
    refine congrArg some ?_
    rw [Bool.eq_iff_iff, beq_iff_eq, decide_eq_true_eq]
    exact ⟨fun e => ⟨fun j hj => hp j (by omega), by omega⟩, fun e => by omega⟩
  | succ d ih =>
    intro k i hi hd hk hp
    obtain ⟨k, rfl, _⟩ := fuel hk
    simp only [spec_l4Order.l0]
    rw [if_pos (by omega), spec_l1Has_eq l i hl k (by omega)]
    rw [Option.bind_some]
    simp only [decide_eq_true_eq]
    by_cases h : (i : Int) ∈ l
    · rw [if_pos h, wrap_one (n := n) (by omega) (by omega), ih k (i + 1) (by omega) (by omega) (by omega)]
      intro j hj
      by_cases e : j = i
      · rw [e]; exact h
      · exact hp j (by omega)
    · rw [if_neg h]
      refine congrArg some ?_
      symm
      rw [decide_eq_false_iff_not]
      exact fun e => h (e.1 i (by omega))
theorem spec_l4Order_eq (l : List Int) (n k : Nat) (hl : l.length ≤ 1048576) (hn : n ≤ 1048576) (hk : n + l.length < k) : spec_l4Order.f k l (n : Int) = some (decide ((∀ j : Nat, j < n → (j : Int) ∈ l) ∧ l.length = n)) :=
  spec_l4Order_l0 l n hl hn n k 0 (by omega) (by omega) (by omega) (fun j h => by omega)
theorem order_count (l : List Int) (n : Nat) (hn : n ≤ 32) (hl : l.length = n) (hw : ∀ x ∈ l, 0 ≤ x ∧ x < n) : Lib.onesCount (setN l) = n ↔ ∀ j : Nat, j < n → (j : Int) ∈ l := by
  rcases Nat.eq_zero_or_pos n with h0 | h0
  · subst h0
    obtain rfl := List.eq_nil_of_length_eq_zero hl
    exact ⟨fun _ j h => by omega, fun _ => rfl⟩
  rw [onesCount_below (setN l) n (setN_lt l n (fun p hp => (hw p hp).2) h0) (by omega)]
  have := List.length_filter_eq_length_iff (l := List.range n) (p := fun i => (setN l).testBit i)
  rw [List.length_range] at this
  rw [this]
  constructor
  · intro e j hj
    have := e j (List.mem_range.2 hj)
    rw [testBit_setN, decide_eq_true_eq] at this
    obtain ⟨p, hp, e⟩ := this
    have := hw p hp
    rw [show (j : Int) = p from by omega]
    exact hp
  · intro e j hj
    rw [testBit_setN, decide_eq_true_eq]
    exact ⟨j, e j (List.mem_range.1 hj), by omega⟩
theorem order_answer (l : List Int) (n : Nat) (hn : n ≤ 32) (hl : l.length = n) (hw : ∀ x ∈ l, 0 ≤ x ∧ x < (n : Int)) :
    ((some ((Lib.onesCount (setN l) : Nat) : Int)).bind fun t => some (t == (n : Int))) = some (decide ((∀ j : Nat, j < n → (j : Int) ∈ l) ∧ l.length = n)) := by
  have h := order_count l n hn hl hw
  generalize Lib.onesCount (setN l) = c at h ⊢
  rw [Option.bind_some]
  refine congrArg some ?_
  rw [Bool.eq_iff_iff, beq_iff_eq, decide_eq_true_eq]
  constructor
  · intro e
    exact ⟨h.1 (by omega), hl⟩
  · intro e
    have := h.2 e.1
    omega
theorem impl_isOrder_eq (l : List Int) (n k : Nat) (hn : n ≤ 32) (hk : l.length < k) (hl : l.length ≤ 1048576) : impl_isOrder.f k l (n : Int) = some (decide ((∀ j : Nat, j < n → (j : Int) ∈ l) ∧ l.length = n)) := by
  unfold impl_isOrder.f
  by_cases h : l.length = n
  · rw [if_pos (by omega), wrap_id (by omega) (by omega), impl_allWithin_eq l _ _ hl k hk]
    rw [Option.bind_some]
    simp only [decide_eq_true_eq]
    by_cases hw : ∀ x ∈ l, 0 ≤ x ∧ x ≤ (n : Int) - 1
    · have hw' : ∀ x ∈ l, 0 ≤ x ∧ x < (n : Int) := fun x hx => ⟨(hw x hx).1, by have := (hw x hx).2; omega⟩
      rw [if_pos hw, impl_setOf_eq l hl (fun x hx => ⟨(hw' x hx).1, by have := (hw' x hx).2; omega⟩) k hk]
      rw [Option.bind_some]
      have hs : setN l < 4294967296 := setN_u32 l (fun p hp => by have := (hw' p hp).2; omega)
      rw [impl_set_count_eq _ hs]
      exact order_answer l n hn h hw'
    · rw [if_neg hw]
      refine congrArg some ?_
      symm
      rw [decide_eq_false_iff_not]
      intro e
      refine hw fun x hx => ?_
      have := order_within l (fun i hi => e.1 i (by omega)) x hx
      omega
  · rw [if_neg (by omega)]
    refine congrArg some ?_
    symm
    rw [decide_eq_false_iff_not]
    exact fun e => h e.2
/-- A change: each number below its length, of which there are 1 to 10. -/
def Change (l : List Int) : Prop := (1 ≤ l.length ∧ l.length ≤ 10) ∧ ∀ j : Nat, j < l.length → (j : Int) ∈ l
instance (l : List Int) : Decidable (Change l) := inferInstanceAs (Decidable (_ ∧ _))
theorem spec_l10Change_eq (l : List Int) (k : Nat) (hl : l.length ≤ 1048576) (hk : l.length + l.length < k) : spec_l10Change.f k l = some (decide (Change l)) := by
  unfold spec_l10Change.f
  rw [spec_l1In_eq]
  rw [Option.bind_some]
  simp only [decide_eq_true_eq]
  by_cases h : (1 : Int) ≤ l.length ∧ (l.length : Int) ≤ 10
  · rw [if_pos h, spec_l4Order_eq l l.length k hl hl hk]
    rw [Option.bind_some]
    refine congrArg some ?_
    rw [decide_eq_decide]
    unfold Change
    constructor
    · intro e; exact ⟨by omega, e.1⟩
    · intro e; exact ⟨e.2, by simp⟩
  · rw [if_neg h]
    refine congrArg some ?_
    symm
    rw [decide_eq_false_iff_not]
    intro e
    have := e.1
    omega
theorem impl_isChange_eq (l : List Int) (k : Nat) (hl : l.length ≤ 1048576) (hk : l.length < k) : impl_isChange.f k l = some (decide (Change l)) := by
  unfold impl_isChange.f impl_isPeople.f
  rw [impl_within_eq, Option.bind_some, Option.bind_some]
  simp only [decide_eq_true_eq]
  by_cases h : (1 : Int) ≤ l.length ∧ (l.length : Int) ≤ 10
  · rw [if_pos h, impl_isOrder_eq l l.length k (by omega) hk hl]
    rw [Option.bind_some]
    refine congrArg some ?_
    rw [decide_eq_decide]
    unfold Change
    constructor
    · intro e; exact ⟨by omega, e.1⟩
    · intro e; exact ⟨e.2, by simp⟩
  · rw [if_neg h]
    refine congrArg some ?_
    symm
    rw [decide_eq_false_iff_not]
    intro e
    have := e.1
    omega

/-! ### inv -/
/-- How many pairs stand out of order: the left one is the greater one. -/
def inv : List Int → Nat
  | [] => 0
  | a :: l => l.countP (fun b => decide (b < a)) + inv l
theorem inv_snoc (l : List Int) (b : Int) : inv (l ++ [b]) = inv l + l.countP (fun a => decide (b < a)) := by
  induction l with
  | nil => rfl
  | cons a l ih =>
    rw [List.cons_append, inv, inv, ih, List.countP_append, List.countP_cons (a := a)]
    simp only [List.countP_singleton]
    omega
theorem inv_le (l : List Int) : inv l ≤ l.length * l.length := by
  induction l with
  | nil => exact Nat.le_refl _
  | cons a l ih =>
    rw [inv, List.length_cons, Nat.mul_add, Nat.add_mul]
    have := List.countP_le_length (p := fun b => decide (b < a)) (l := l)
    omega
theorem spec_l10Pairs_both (l : List Int) (hl : l.length ≤ 1000) (e : Nat) : ∀ k : Nat, e < k →
    (∀ i : Nat, i ≤ l.length → (l.length - i) * (l.length + 2) ≤ e → spec_l10Pairs.l0 k l ((inv (l.take i) : Nat) : Int) i = some ((inv l : Nat) : Int)) ∧
    (∀ i j : Nat, (h : i < l.length) → j ≤ i → (l.length - (i + 1)) * (l.length + 2) + 1 + (i - j) ≤ e → spec_l10Pairs.l1 k l ((inv (l.take i) + (l.take j).countP (fun a => decide (l[i] < a)) : Nat) : Int) i j = some ((inv l : Nat) : Int)) := by
  induction e with
  | zero =>
    intro k hk
    obtain ⟨k, rfl, _⟩ := fuel hk
    refine ⟨fun i hi he => ?_, fun i j h hj he => by omega⟩
    have hi : i = l.length := by
      rcases Nat.eq_or_lt_of_le hi with e | e
      · exact e
      · have : 1 * 1 ≤ (l.length - i) * (l.length + 2) := Nat.mul_le_mul (by omega) (by omega)
        omega
    simp only [spec_l10Pairs.l0]
    rw [if_neg (by omega), List.take_of_length_le (by omega)]
  | succ e ih =>
    intro k hk
    obtain ⟨k, rfl, _⟩ := fuel hk
    have hb : ∀ i, inv (l.take i) ≤ 1000 * 1000 := fun i => Nat.le_trans (inv_le _) (Nat.mul_le_mul (by simp; omega) (by simp; omega))
    refine ⟨fun i hi he => ?_, fun i j h hj he => ?_⟩
    · simp only [spec_l10Pairs.l0]
      by_cases h : i < l.length
      · rw [if_pos (by omega)]
        have := (ih k (by omega)).2 i 0 h (by omega) (by
          have e1 : (l.length - i) * (l.length + 2) = (l.length - (i + 1)) * (l.length + 2) + (l.length + 2) := by
            rw [show l.length - i = l.length - (i + 1) + 1 from by omega, Nat.add_mul, Nat.one_mul]
          omega)
        simpa using this
      · rw [if_neg (by omega), List.take_of_length_le (by omega)]
    · simp only [spec_l10Pairs.l1]
      have hc : (l.take j).countP (fun a => decide (l[i] < a)) ≤ 1000 := Nat.le_trans List.countP_le_length (by simp; omega)
      have hbi := hb i
      by_cases hji : j < i
      · rw [if_pos (by omega), if_pos (by omega), if_pos (by omega), if_pos (by omega), if_pos (by omega), rd_get l j (by omega), rd_get l i h, wrap_one (n := l.length) (i := j) (by omega) (by omega)]
        have h1 := (ih k (by omega)).2 i (j + 1) h (by omega) (by omega)
        rw [List.take_add_one, List.getElem?_eq_getElem (by omega), List.countP_append, Option.toList_some, List.countP_singleton] at h1
        by_cases g : l[j] > l[i]
        · rw [if_pos g, wrap_one (n := 2000000) (by omega) (by omega)]
          rw [if_pos (by simpa using g)] at h1
          rw [← h1]
          rfl
        · rw [if_neg g]
          rw [if_neg (by simpa using g)] at h1
          rw [← h1]
          rfl
      · rw [if_neg (by omega), wrap_one (n := l.length) (by omega) (by omega)]
        have h1 := (ih k (by omega)).1 (i + 1) (by omega) (by omega)
        rw [List.take_add_one, List.getElem?_eq_getElem h, Option.toList_some, inv_snoc] at h1
        rw [show j = i from by omega, ← h1]
theorem spec_l10Pairs_eq (l : List Int) (hl : l.length ≤ 1000) (k : Nat) (hk : l.length * (l.length + 2) < k) : spec_l10Pairs.f k l = some ((inv l : Nat) : Int) := by
  exact (spec_l10Pairs_both l hl _ k hk).1 0 (by omega) (by simp)

/-! ### law_FnExactSideSwaps -/
theorem impl_swaps_both (l : List Int) (hl : l.length ≤ 1000) (e : Nat) : ∀ k : Nat, e < k →
    (∀ i : Nat, i ≤ l.length → (l.length - i) * (l.length + 2) ≤ e → impl_SideSwaps.l0 k l ((inv (l.take i) : Nat) : Int) l (l.length : Int) i = some (((inv l : Nat) : Int), true)) ∧
    (∀ i j : Nat, (h : i < l.length) → j ≤ i → (l.length - (i + 1)) * (l.length + 2) + 1 + (i - j) ≤ e → impl_SideSwaps.l1 k l ((inv (l.take i) + (l.take j).countP (fun a => decide (l[i] < a)) : Nat) : Int) (l[i]) l (l.length : Int) i (l.take i) ((l.take i).length : Int) j = some (((inv l : Nat) : Int), true)) := by
  induction e with
  | zero =>
    intro k hk
    obtain ⟨k, rfl, _⟩ := fuel hk
    refine ⟨fun i hi he => ?_, fun i j h hj he => by omega⟩
    have hi : i = l.length := by
      rcases Nat.eq_or_lt_of_le hi with e | e
      · exact e
      · have : 1 * 1 ≤ (l.length - i) * (l.length + 2) := Nat.mul_le_mul (by omega) (by omega)
        omega
    simp only [impl_SideSwaps.l0]
    rw [if_neg (by omega), List.take_of_length_le (by omega)]
  | succ e ih =>
    intro k hk
    obtain ⟨k, rfl, _⟩ := fuel hk
    have hb : ∀ i, inv (l.take i) ≤ 1000 * 1000 := fun i => Nat.le_trans (inv_le _) (Nat.mul_le_mul (by simp; omega) (by simp; omega))
    refine ⟨fun i hi he => ?_, fun i j h hj he => ?_⟩
    · simp only [impl_SideSwaps.l0]
      by_cases h : i < l.length
      · rw [if_pos (by omega), if_pos (by omega), if_pos (by omega), if_pos (by omega), rd_get l i h, Int.toNat_natCast]
        have := (ih k (by omega)).2 i 0 h (by omega) (by
          have e1 : (l.length - i) * (l.length + 2) = (l.length - (i + 1)) * (l.length + 2) + (l.length + 2) := by
            rw [show l.length - i = l.length - (i + 1) + 1 from by omega, Nat.add_mul, Nat.one_mul]
          omega)
        rw [List.take_zero, List.countP_nil, Nat.add_zero] at this
        exact this
      · rw [if_neg (by omega), List.take_of_length_le (by omega)]
    · simp only [impl_SideSwaps.l1]
      have hc : (l.take j).countP (fun a => decide (l[i] < a)) ≤ 1000 := Nat.le_trans List.countP_le_length (by simp; omega)
      have hbi := hb i
      have ht : (l.take i).length = i := by rw [List.length_take]; omega
      by_cases hji : j < i
      · rw [if_pos (by omega), if_pos (by omega), if_pos (by omega), rd_get _ j (by omega), List.getElem_take, wrap_one (n := l.length) (i := j) (by omega) (by omega)]
        have h1 := (ih k (by omega)).2 i (j + 1) h (by omega) (by omega)
        rw [List.take_add_one (i := j), List.getElem?_eq_getElem (by omega), List.countP_append, Option.toList_some, List.countP_singleton] at h1
        by_cases g : l[j] > l[i]
        · rw [if_pos g, wrap_one (n := 2000000) (by omega) (by omega)]
          rw [if_pos (by simpa using g)] at h1
          rw [← h1]
          rfl
        · rw [if_neg g]
          rw [if_neg (by simpa using g)] at h1
          rw [← h1]
          rfl
      · rw [if_neg (by omega), wrap_one (n := l.length) (by omega) (by omega)]
        have h1 := (ih k (by omega)).1 (i + 1) (by omega) (by omega)
        rw [List.take_add_one, List.getElem?_eq_getElem h, Option.toList_some, inv_snoc] at h1
        rw [show j = i from by omega, ← h1]
theorem swaps_both (l : List Int) (hl : l.length ≤ 1048576) : ∃ (r : Int) (b : Bool), ∀ k, 2 * l.length + 200 < k → spec_SideSwaps.f k l = some (r, b) ∧ impl_SideSwaps.f k l = some (r, b) := by
  by_cases h : Change l
  · have h10 := h.1
    refine ⟨((inv l : Nat) : Int), true, fun k hk => ?_⟩
    have hm : l.length * (l.length + 2) ≤ 10 * 12 := Nat.mul_le_mul (by omega) (by omega)
    unfold spec_SideSwaps.f impl_SideSwaps.f
    rw [spec_l10Change_eq l k hl (by omega), impl_isChange_eq l k hl (by omega), Option.bind_some, Option.bind_some]
    simp only [decide_eq_true_eq]
    rw [if_pos h, if_pos h, spec_l10Pairs_eq l (by omega) k (by omega), Option.bind_some]
    refine ⟨rfl, ?_⟩
    exact (impl_swaps_both l (by omega) (l.length * (l.length + 2)) k (by omega)).1 0 (by omega) (by simp)
  · refine ⟨0, false, fun k hk => ?_⟩
    unfold spec_SideSwaps.f impl_SideSwaps.f
    rw [spec_l10Change_eq l k hl (by omega), impl_isChange_eq l k hl (by omega), Option.bind_some, Option.bind_some]
    simp only [decide_eq_true_eq]
    rw [if_neg h, if_neg h]
    exact ⟨rfl, rfl⟩

/-! ### changes -/
theorem nodup_of_cover : ∀ (r l : List Int), r.Nodup → r ⊆ l → l.length ≤ r.length → l.Nodup
  | [], l, _, _, hl => by
    have : l = [] := List.eq_nil_of_length_eq_zero (by simpa using hl)
    subst this
    exact List.nodup_nil
  | a :: t, l, hn, hs, hl => by
    have ha : a ∈ l := hs List.mem_cons_self
    have hc := List.nodup_cons.1 hn
    have hlen := List.length_erase_of_mem ha
    have hpos := List.length_pos_of_mem ha
    have ht : t ⊆ l.erase a := fun x hx => (List.mem_erase_of_ne (by rintro rfl; exact hc.1 hx)).2 (hs (List.mem_cons_of_mem _ hx))
    have hl' : l.length ≤ t.length + 1 := by simpa using hl
    have ih := nodup_of_cover t (l.erase a) hc.2 ht (by omega)
    refine (List.perm_cons_erase ha).nodup_iff.2 (List.nodup_cons.2 ⟨fun hin => ?_, ih⟩)
    have hs' : (a :: t) ⊆ l.erase a := by
      intro x hx
      rcases List.mem_cons.1 hx with e | e
      · exact e ▸ hin
      · exact ht e
    have := List.Nodup.length_le_of_subset hn hs'
    simp at this
    omega
theorem range_nodup (n : Nat) : ((List.range n).map fun i : Nat => (i : Int)).Nodup := by
  refine List.Pairwise.map _ ?_ List.nodup_range
  intro a b hab he
  exact hab (by omega)
theorem change_nodup (l : List Int) (h : Change l) : l.Nodup := by
  refine nodup_of_cover _ l (range_nodup l.length) ?_ (by simp)
  intro y hy
  obtain ⟨i, hi, rfl⟩ := List.mem_map.1 hy
  exact h.2 i (List.mem_range.1 hi)

/-! ### cycles -/
def iter (f : Nat → Nat) : Nat → Nat → Nat
  | 0, p => p
  | k + 1, p => f (iter f k p)
theorem iter_add (f : Nat → Nat) (a b p : Nat) : iter f (a + b) p = iter f a (iter f b p) := by
  induction a with
  | zero => rw [Nat.zero_add]; rfl
  | succ a ih => rw [show a + 1 + b = (a + b) + 1 from by omega, iter, ih, iter]
/-- A permutation of the numbers below n. -/
structure Per (n : Nat) (f : Nat → Nat) : Prop where
  lt : ∀ p, p < n → f p < n
  inj : ∀ p q, p < n → q < n → f p = f q → p = q
section
variable {n : Nat} {f : Nat → Nat} (h : Per n f)
include h
theorem iter_lt (k p : Nat) (hp : p < n) : iter f k p < n := by
  induction k with
  | zero => exact hp
  | succ k ih => exact h.lt _ ih
theorem iter_inj (k p q : Nat) (hp : p < n) (hq : q < n) (e : iter f k p = iter f k q) : p = q := by
  induction k with
  | zero => exact e
  | succ k ih => exact ih (h.inj _ _ (iter_lt h k p hp) (iter_lt h k q hq) e)
theorem period_exists (p : Nat) (hp : p < n) : ∃ m, 1 ≤ m ∧ m ≤ n ∧ iter f m p = p := by
  refine Classical.byContradiction fun hno => ?_
  have hn : ((List.range (n + 1)).map fun k => iter f k p).Nodup := by
    refine List.pairwise_iff_getElem.2 fun i j hi hj hij => ?_
    simp only [List.length_map, List.length_range] at hi hj
    simp only [List.getElem_map, List.getElem_range]
    intro e
    refine hno ⟨j - i, by omega, by omega, ?_⟩
    rw [show j = i + (j - i) from by omega, iter_add] at e
    exact (iter_inj h i _ _ (iter_lt h _ p hp) hp e.symm)
  have hs : ((List.range (n + 1)).map fun k => iter f k p) ⊆ List.range n := by
    intro x hx
    obtain ⟨k, _, rfl⟩ := List.mem_map.1 hx
    exact List.mem_range.2 (iter_lt h k p hp)
  have := List.Nodup.length_le_of_subset hn hs
  simp at this
  omega
end
def IsPer (f : Nat → Nat) (p m : Nat) : Prop := 1 ≤ m ∧ iter f m p = p ∧ ∀ k, 1 ≤ k → k < m → iter f k p ≠ p
theorem isPer_unique {f : Nat → Nat} {p m m' : Nat} (a : IsPer f p m) (b : IsPer f p m') : m = m' := by
  rcases Nat.lt_trichotomy m m' with e | e | e
  · exact absurd a.2.1 (b.2.2 m a.1 e)
  · exact e
  · exact absurd b.2.1 (a.2.2 m' b.1 e)
theorem isPer_least (f : Nat → Nat) (p : Nat) : ∀ m, 1 ≤ m → iter f m p = p → ∃ m', m' ≤ m ∧ IsPer f p m' := by
  intro m
  induction m using Nat.strongRecOn with
  | ind m ih =>
    intro h1 h2
    by_cases hk : ∃ k, 1 ≤ k ∧ k < m ∧ iter f k p = p
    · obtain ⟨k, a, b, c⟩ := hk
      obtain ⟨m', hm, e⟩ := ih k b a c
      exact ⟨m', by omega, e⟩
    · exact ⟨m, Nat.le_refl _, h1, h2, fun k a b c => hk ⟨k, a, b, c⟩⟩
open Classical in
/-- How many steps lead back. -/
noncomputable def per (f : Nat → Nat) (p : Nat) : Nat := if hx : ∃ m, IsPer f p m then Classical.choose hx else 0
theorem per_eq {f : Nat → Nat} {p m : Nat} (a : IsPer f p m) : per f p = m := by
  have hx : ∃ m, IsPer f p m := ⟨m, a⟩
  unfold per
  rw [dif_pos hx]
  exact isPer_unique (Classical.choose_spec hx) a
section
variable {n : Nat} {f : Nat → Nat} (h : Per n f)
include h
theorem per_spec (p : Nat) (hp : p < n) : IsPer f p (per f p) ∧ per f p ≤ n := by
  obtain ⟨m, h1, h2, h3⟩ := period_exists h p hp
  obtain ⟨m', h4, h5⟩ := isPer_least f p m h1 h3
  rw [per_eq h5]
  exact ⟨h5, by omega⟩
theorem per_step (p : Nat) (hp : p < n) : per f (f p) = per f p := by
  obtain ⟨⟨h1, h2, h3⟩, _⟩ := per_spec h p hp
  refine per_eq ⟨h1, ?_, fun k a b e => h3 k a b ?_⟩
  · rw [show f p = iter f 1 p from rfl, ← iter_add, Nat.add_comm, iter_add, h2]
  · refine iter_inj h 1 _ _ (iter_lt h k p hp) hp ?_
    rw [← iter_add, Nat.add_comm, iter_add]
    exact e
theorem per_iter (k p : Nat) (hp : p < n) : per f (iter f k p) = per f p := by
  induction k with
  | zero => rfl
  | succ k ih => rw [iter, per_step h _ (iter_lt h k p hp), ih]
end
def Orb (f : Nat → Nat) (i q : Nat) : Prop := ∃ a, iter f a i = q
/-- Cycles are met one after another, each from a place that no cycle before it has. -/
inductive Trav (n : Nat) (f : Nat → Nat) : (Nat → Bool) → List Nat → Prop
  | nil : Trav n f (fun _ => false) []
  | snoc (V V' : Nat → Bool) (reps : List Nat) (i : Nat) : Trav n f V reps → i < n → V i = false → (∀ q, V' q = true ↔ (V q = true ∨ Orb f i q)) → Trav n f V' (reps ++ [i])
/-- What has been met behind j steps from i. -/
def vis (f : Nat → Nat) (V : Nat → Bool) (i : Nat) : Nat → Nat → Bool
  | 0 => V
  | j + 1 => fun q => vis f V i j q || (iter f j i == q)
theorem vis_spec (f : Nat → Nat) (V : Nat → Bool) (i : Nat) : ∀ j q, vis f V i j q = true ↔ (V q = true ∨ ∃ a, a < j ∧ iter f a i = q)
  | 0, q => by simp [vis]
  | j + 1, q => by
    rw [vis, Bool.or_eq_true, vis_spec f V i j q, beq_iff_eq]
    constructor
    · rintro ((e | ⟨a, ha, e⟩) | e)
      · exact .inl e
      · exact .inr ⟨a, by omega, e⟩
      · exact .inr ⟨j, by omega, e⟩
    · rintro (e | ⟨a, ha, e⟩)
      · exact .inl (.inl e)
      · by_cases g : a = j
        · subst g; exact .inr e
        · exact .inl (.inr ⟨a, by omega, e⟩)
section
variable {n : Nat} {f : Nat → Nat} (h : Per n f)
include h
theorem orb_short (i q : Nat) (hi : i < n) : Orb f i q ↔ ∃ a, a < per f i ∧ iter f a i = q := by
  constructor
  · rintro ⟨a, e⟩
    obtain ⟨⟨h1, h2, _⟩, _⟩ := per_spec h i hi
    refine ⟨a % per f i, Nat.mod_lt _ h1, ?_⟩
    have hm : ∀ c, iter f (per f i * c) i = i := by
      intro c
      induction c with
      | zero => rfl
      | succ c ih => rw [Nat.mul_succ, iter_add, h2, ih]
    rw [← e]
    conv => rhs; rw [← Nat.mod_add_div a (per f i), iter_add, hm]
  · rintro ⟨a, _, e⟩
    exact ⟨a, e⟩
theorem trav_back {V : Nat → Bool} {reps : List Nat} (t : Trav n f V reps) : ∀ q, q < n → V (f q) = true → V q = true := by
  induction t with
  | nil => intro q _ e; cases e
  | snoc V V' reps i t hi hv hV ih =>
    intro q hq e
    rw [hV] at e ⊢
    rcases e with e | ⟨a, e⟩
    · exact .inl (ih q hq e)
    · refine .inr ?_
      cases a with
      | zero =>
        obtain ⟨⟨h1, h2, _⟩, _⟩ := per_spec h i hi
        refine ⟨per f i - 1, h.inj _ _ (iter_lt h _ i hi) hq ?_⟩
        rw [show f (iter f (per f i - 1) i) = iter f (per f i - 1 + 1) i from rfl, show per f i - 1 + 1 = per f i from by omega, h2]
        exact e
      | succ a => exact ⟨a, h.inj _ _ (iter_lt h _ i hi) hq e⟩
theorem trav_backs {V : Nat → Bool} {reps : List Nat} (t : Trav n f V reps) (k q : Nat) (hq : q < n) (e : V (iter f k q) = true) : V q = true := by
  induction k with
  | zero => exact e
  | succ k ih => exact ih (trav_back h t _ (iter_lt h k q hq) e)
theorem vis_not {V : Nat → Bool} {reps : List Nat} (t : Trav n f V reps) (i : Nat) (hi : i < n) (hv : V i = false) (j : Nat) (hj : j < per f i) : vis f V i j (iter f j i) = false := by
  rw [Bool.eq_false_iff]
  intro e
  rw [vis_spec] at e
  rcases e with e | ⟨a, ha, e⟩
  · rw [trav_backs h t j i hi e] at hv
    cases hv
  · rw [show j = a + (j - a) from by omega, iter_add] at e
    have := iter_inj h a _ _ hi (iter_lt h _ i hi) e
    exact (per_spec h i hi).1.2.2 (j - a) (by omega) (by omega) this.symm
theorem vis_full {V : Nat → Bool} (i : Nat) (hi : i < n) : vis f V i (per f i) (iter f (per f i) i) = true := by
  obtain ⟨⟨h1, h2, _⟩, _⟩ := per_spec h i hi
  rw [vis_spec]
  exact .inr ⟨0, h1, h2.symm⟩
theorem vis_trav {V : Nat → Bool} {reps : List Nat} (t : Trav n f V reps) (i : Nat) (hi : i < n) (hv : V i = false) : Trav n f (vis f V i (per f i)) (reps ++ [i]) := by
  refine .snoc V _ reps i t hi hv fun q => ?_
  rw [vis_spec, orb_short h i q hi]
end
theorem trav_orb {n : Nat} {f : Nat → Nat} {V : Nat → Bool} {reps : List Nat} (t : Trav n f V reps) : ∀ q, V q = true ↔ ∃ i, i ∈ reps ∧ Orb f i q := by
  induction t with
  | nil => simp
  | snoc V V' reps i t hi hv hV ih =>
    intro q
    rw [hV, ih]
    simp only [List.mem_append, List.mem_singleton]
    constructor
    · rintro (⟨r, hr, e⟩ | e)
      · exact ⟨r, .inl hr, e⟩
      · exact ⟨i, .inr rfl, e⟩
    · rintro ⟨r, hr | rfl, e⟩
      · exact .inl ⟨r, hr, e⟩
      · exact .inr e
theorem trav_reps_lt {n : Nat} {f : Nat → Nat} {V : Nat → Bool} {reps : List Nat} (t : Trav n f V reps) : ∀ i ∈ reps, i < n := by
  induction t with
  | nil => simp
  | snoc V V' reps i t hi hv hV ih =>
    intro r hr
    rcases List.mem_append.1 hr with e | e
    · exact ih r e
    · rw [List.mem_singleton.1 e]; exact hi
theorem sum_zero (l : List Nat) : (l.map fun _ => 0).sum = 0 := by
  induction l with
  | nil => rfl
  | cons a l ih => simpa using ih
theorem sum_change (n p : Nat) (g g' : Nat → Nat) (hp : p < n) (he : ∀ q, q ≠ p → g' q = g q) : ((List.range n).map g').sum + g p = ((List.range n).map g).sum + g' p := by
  induction n with
  | zero => omega
  | succ n ih =>
    rw [List.range_succ, List.map_append, List.map_append, List.sum_append, List.sum_append]
    simp only [List.map_cons, List.map_nil, List.sum_cons, List.sum_nil]
    by_cases e : p = n
    · subst e
      have : (List.range p).map g' = (List.range p).map g := List.map_congr_left fun q hq => he q (by have := List.mem_range.1 hq; omega)
      rw [this]
      omega
    · have := ih (by omega)
      rw [he n (fun z => e z.symm)]
      omega
/-- Each place bears a part of 2520 of its cycle's worth: as many parts as the cycle has places. -/
noncomputable def part (f : Nat → Nat) (w : Nat → Nat) (p : Nat) : Nat := 2520 / per f p * w p
noncomputable def worth (n : Nat) (f : Nat → Nat) (w : Nat → Nat) (V : Nat → Bool) : Nat := ((List.range n).map fun p => if V p = true then part f w p else 0).sum
section
variable {n : Nat} {f : Nat → Nat} (h : Per n f) (w : Nat → Nat) (hw : ∀ p, p < n → w (f p) = w p) (h10 : n ≤ 10)
include h hw
theorem w_iter (k p : Nat) (hp : p < n) : w (iter f k p) = w p := by
  induction k with
  | zero => rfl
  | succ k ih => rw [iter, hw _ (iter_lt h k p hp), ih]
theorem part_iter (k p : Nat) (hp : p < n) : part f w (iter f k p) = part f w p := by
  unfold part
  rw [per_iter h k p hp, w_iter h w hw k p hp]
theorem worth_vis {V : Nat → Bool} {reps : List Nat} (t : Trav n f V reps) (i : Nat) (hi : i < n) (hv : V i = false) (j : Nat) (hj : j ≤ per f i) : worth n f w (vis f V i j) = worth n f w V + j * part f w i := by
  induction j with
  | zero => simp [vis]
  | succ j ih =>
    have ih := ih (by omega)
    have hn := vis_not h t i hi hv j (by omega)
    have hlt := iter_lt h j i hi
    have := sum_change n (iter f j i) (fun p => if vis f V i j p = true then part f w p else 0) (fun p => if vis f V i (j + 1) p = true then part f w p else 0) hlt (by
      intro q hq
      have e1 : vis f V i (j + 1) q = vis f V i j q := by
        show (vis f V i j q || iter f j i == q) = _
        rw [show (iter f j i == q) = false from beq_eq_false_iff_ne.2 (fun e => hq e.symm), Bool.or_false]
      rw [e1])
    have e2 : vis f V i (j + 1) (iter f j i) = true := by
      show (vis f V i j (iter f j i) || iter f j i == iter f j i) = true
      rw [beq_self_eq_true, Bool.or_true]
    rw [e2, hn, if_pos rfl, if_neg (by simp)] at this
    unfold worth at ih ⊢
    rw [Nat.add_mul, Nat.one_mul, ← part_iter h w hw j i hi]
    rw [part_iter h w hw j i hi] at this ⊢
    omega
include h10
theorem worth_trav {V : Nat → Bool} {reps : List Nat} (t : Trav n f V reps) : worth n f w V = 2520 * (reps.map w).sum := by
  induction t with
  | nil =>
    unfold worth
    have e : ((List.range n).map fun p => if false = true then part f w p else 0) = (List.range n).map fun _ => 0 := List.map_congr_left fun _ _ => by rw [if_neg (by simp)]
    rw [e, sum_zero]
    rfl
  | snoc V V' reps i t hi hv hV ih =>
    obtain ⟨⟨h1, _, _⟩, h2⟩ := per_spec h i hi
    have e : V' = vis f V i (per f i) := by
      funext q
      rw [Bool.eq_iff_iff, hV, vis_spec, orb_short h i q hi]
    rw [e, worth_vis h w hw t i hi hv _ (Nat.le_refl _), ih, List.map_append, List.sum_append]
    have hd : per f i * (2520 / per f i) = 2520 := by
      have : ∀ m, m ≤ 10 → 1 ≤ m → m * (2520 / m) = 2520 := by decide
      exact this _ (by omega) h1
    unfold part
    rw [← Nat.mul_assoc, hd]
    simp
    omega
/-- Whatever the order in which cycles are met, their worths have one sum. -/
theorem trav_sum {V V' : Nat → Bool} {reps reps' : List Nat} (t : Trav n f V reps) (t' : Trav n f V' reps') (hV : ∀ q, q < n → V q = true) (hV' : ∀ q, q < n → V' q = true) : (reps.map w).sum = (reps'.map w).sum := by
  have e : worth n f w V = worth n f w V' := by
    unfold worth
    congr 1
    refine List.map_congr_left fun q hq => ?_
    rw [hV q (List.mem_range.1 hq), hV' q (List.mem_range.1 hq)]
  rw [worth_trav h w hw h10 t, worth_trav h w hw h10 t'] at e
  omega
end

/-! ### cycles_loops -/
def fun_of (l : List Int) (p : Nat) : Nat := (l.getD p 0).toNat
theorem change_per (l : List Int) (h : Change l) : Per l.length (fun_of l) := by
  have hw := order_within l h.2
  have hg : ∀ p, (hp : p < l.length) → l.getD p 0 = l[p] := fun p hp => by simp [List.getD, hp]
  refine ⟨fun p hp => ?_, fun p q hp hq e => ?_⟩
  · unfold fun_of
    rw [hg p hp]
    have := hw _ (List.getElem_mem hp)
    omega
  · unfold fun_of at e
    rw [hg p hp, hg q hq] at e
    have h1 := hw _ (List.getElem_mem hp)
    have h2 := hw _ (List.getElem_mem hq)
    have hn := List.pairwise_iff_getElem.1 (change_nodup l h)
    rcases Nat.lt_trichotomy p q with g | g | g
    · exact absurd (by omega) (hn p q hp hq g)
    · exact g
    · exact absurd (by omega) (hn q p hq hp g)
theorem rd_fun (l : List Int) (h : Change l) (p : Nat) (hp : p < l.length) : rd l (p : Int) = ((fun_of l p : Nat) : Int) := by
  have := order_within l h.2 _ (List.getElem_mem hp)
  rw [rd_get l p hp]
  unfold fun_of
  rw [show l.getD p 0 = l[p] from by simp [List.getD, hp]]
  omega
theorem shr_bit (s p : Nat) (hp : p < 32) (hs : s < 4294967296) : impl_set_has.f (s : Int) (p : Int) = some (s.testBit p) := by
  unfold impl_set_has.f
  rw [if_pos (by omega)]
  refine congrArg some ?_
  have e1 : shr .u32 (s : Int) (p : Int) = ((s / 2 ^ p : Nat) : Int) := by
    unfold shr
    rw [show min (p : Int).toNat IntKind.u32.bits = p from Nat.min_eq_left (by show p ≤ 32; omega)]
    simp
  have e2 : s / 2 ^ p ≤ s := Nat.div_le_self _ _
  rw [e1, show (1 : Int) = ((1 : Nat) : Int) from rfl, and_cast _ _ (by omega) (by omega), Nat.and_one_is_mod, Nat.testBit_eq_decide_div_mod_eq, Bool.eq_iff_iff, beq_iff_eq, decide_eq_true_eq]
  omega
section
variable {l : List Int} (h : Change l)
include h
theorem impl_walk (V : Nat → Bool) (reps : List Nat) (t : Trav l.length (fun_of l) V reps) (out : List Int) (i : Nat) (hi : i < l.length) (hv : V i = false) (ho : out.length ≤ 1000) (d : Nat) :
    ∀ (k j s : Nat), j ≤ per (fun_of l) i → per (fun_of l) i - j = d → s < 2 ^ 10 → (∀ q, q < l.length → s.testBit q = vis (fun_of l) V i j q) → ∃ s' : Nat, s' < 2 ^ 10 ∧ (∀ q, q < l.length → s'.testBit q = vis (fun_of l) V i (per (fun_of l) i) q) ∧
      impl_cycles.l1 (k + d + 1) l out (s : Int) (i : Int) (j : Int) ((iter (fun_of l) j i : Nat) : Int) = impl_cycles.l0 k l (out ++ [((per (fun_of l) i : Nat) : Int)]) (s' : Int) (wrap64 ((i : Int) - 1)) := by
  have hP := change_per l h
  have h10 := h.1
  obtain ⟨⟨p1, p2, _⟩, p3⟩ := per_spec hP i hi
  induction d with
  | zero =>
    intro k j s hj he hs hr
    have hj' : j = per (fun_of l) i := by omega
    subst hj'
    refine ⟨s, hs, hr, ?_⟩
    have hlt := iter_lt hP (per (fun_of l) i) i hi
    simp only [impl_cycles.l1]
    rw [shr_bit s _ (by omega) (by omega), hr _ hlt, vis_full hP i hi, Option.bind_some, if_pos rfl, if_pos (by omega), if_pos (by omega)]
  | succ d ih =>
    intro k j s hj he hs hr
    have hlt := iter_lt hP j i hi
    have hb : 2 ^ iter (fun_of l) j i < 2 ^ 10 := Nat.pow_lt_pow_right (by omega) (by omega)
    obtain ⟨s', h1, h2, h3⟩ := ih k (j + 1) (s ||| 2 ^ iter (fun_of l) j i) (by omega) (by omega) (Nat.or_lt_two_pow hs hb) (fun q hq => by
      rw [Nat.testBit_or, hr q hq, Nat.testBit_two_pow]
      show _ = (vis (fun_of l) V i j q || iter (fun_of l) j i == q)
      congr 1)
    refine ⟨s', h1, h2, ?_⟩
    rw [show k + (d + 1) + 1 = (k + d + 1) + 1 from by clear h3; omega]
    generalize k + d + 1 = K at h3 ⊢
    rw [← h3]
    conv => lhs; simp only [impl_cycles.l1]
    rw [shr_bit s _ (by omega) (by omega), hr _ hlt, vis_not hP t i hi hv j (by omega), Option.bind_some, if_neg (by simp), if_pos (by omega), if_pos (by omega), shl_one _ (by omega) (by omega), Int.toNat_natCast, or_cast _ _ (by omega) (by omega), wrap_one (n := 20) (by omega) (by omega), rd_fun l h _ hlt]
    rfl
theorem spec_walk (V : Nat → Bool) (reps : List Nat) (t : Trav l.length (fun_of l) V reps) (out : List Int) (i : Nat) (hi : i < l.length) (hv : V i = false) (ho : out.length ≤ 1000) (at0 : Int) (d : Nat) :
    ∀ (k j : Nat) (x : List Bool) (a : Int), j ≤ per (fun_of l) i → per (fun_of l) i - j = d → x.length = l.length → (∀ q, q < l.length → rdOf false x (q : Int) = vis (fun_of l) V i j q) → a = (if ∃ b, b < j ∧ fun_of l (iter (fun_of l) b i) = l.length - 1 then (out.length : Int) else at0) →
      ∃ x' : List Bool, x'.length = l.length ∧ (∀ q, q < l.length → rdOf false x' (q : Int) = vis (fun_of l) V i (per (fun_of l) i) q) ∧
      spec_l10Cycles.l1 (k + d + 1) l out x a (i : Int) (j : Int) ((iter (fun_of l) j i : Nat) : Int) = spec_l10Cycles.l0 k l (out ++ [((per (fun_of l) i : Nat) : Int)]) x' (if ∃ b, b < per (fun_of l) i ∧ fun_of l (iter (fun_of l) b i) = l.length - 1 then (out.length : Int) else at0) (wrap64 ((i : Int) + 1)) := by
  have hP := change_per l h
  have h10 := h.1
  obtain ⟨⟨p1, p2, _⟩, p3⟩ := per_spec hP i hi
  induction d with
  | zero =>
    intro k j x a hj he hx hr ha
    have hj' : j = per (fun_of l) i := by omega
    subst hj'
    refine ⟨x, hx, hr, ?_⟩
    have hlt := iter_lt hP (per (fun_of l) i) i hi
    simp only [spec_l10Cycles.l1]
    rw [if_pos (by omega), if_pos (by omega), hr _ hlt, vis_full hP i hi, if_pos rfl, if_pos (by omega), ha]
  | succ d ih =>
    intro k j x a hj he hx hr ha
    have hlt := iter_lt hP j i hi
    obtain ⟨x', h1, h2, h3⟩ := ih k (j + 1) (x.set (iter (fun_of l) j i) true) (if fun_of l (iter (fun_of l) j i) = l.length - 1 then (out.length : Int) else a) (by clear ha; omega) (by clear ha; omega) (by simp [hx]) (fun q hq => by
      show _ = (vis (fun_of l) V i j q || iter (fun_of l) j i == q)
      rw [← hr q hq]
      unfold rdOf
      rw [Int.toNat_natCast, List.getD_eq_getElem?_getD, List.getD_eq_getElem?_getD]
      by_cases g : iter (fun_of l) j i = q
      · subst g
        rw [List.getElem?_set_self (by omega)]
        simp
      · rw [List.getElem?_set_ne g, beq_eq_false_iff_ne.2 g, Bool.or_false]) (by
      rw [ha]
      by_cases g : fun_of l (iter (fun_of l) j i) = l.length - 1
      · rw [if_pos g, if_pos ⟨j, by omega, g⟩]
      · rw [if_neg g]
        by_cases g2 : ∃ b, b < j ∧ fun_of l (iter (fun_of l) b i) = l.length - 1
        · obtain ⟨b, hb, e⟩ := g2
          rw [if_pos ⟨b, hb, e⟩, if_pos ⟨b, by omega, e⟩]
        · rw [if_neg g2, if_neg]
          rintro ⟨b, hb, e⟩
          by_cases z : b = j
          · subst z; exact g e
          · exact g2 ⟨b, by omega, e⟩)
    refine ⟨x', h1, h2, ?_⟩
    clear ha
    rw [show k + (d + 1) + 1 = (k + d + 1) + 1 from by clear h3; omega]
    generalize k + d + 1 = K at h3 ⊢
    rw [← h3]
    clear h3
    conv => lhs; simp only [spec_l10Cycles.l1]
    rw [if_pos (by omega), if_pos (by omega), hr _ hlt, vis_not hP t i hi hv j (by omega), if_neg (by simp), Option.bind_some, if_pos (by omega), rd_fun l h _ hlt, Int.toNat_natCast, wrap_id (by omega) (by omega), wrap_one (n := 20) (by omega) (by omega)]
    by_cases g : fun_of l (iter (fun_of l) j i) = l.length - 1
    · rw [if_pos (by omega), if_pos g]
      rfl
    · rw [if_neg (by have := hP.lt _ hlt; omega), if_neg g]
      rfl
end

/-! ### cycles_all -/
noncomputable def perI (l : List Int) (reps : List Nat) : List Int := reps.map fun i => ((per (fun_of l) i : Nat) : Int)
theorem perI_snoc (l : List Int) (reps : List Nat) (i : Nat) : perI l (reps ++ [i]) = perI l reps ++ [((per (fun_of l) i : Nat) : Int)] := by
  unfold perI
  rw [List.map_append]
  rfl
theorem perI_length (l : List Int) (reps : List Nat) : (perI l reps).length = reps.length := by simp [perI]
section
variable {l : List Int} (h : Change l)
include h
theorem impl_outer (m : Nat) : ∀ (k : Nat) (V : Nat → Bool) (reps : List Nat) (s : Nat), Trav l.length (fun_of l) V reps → m ≤ l.length → (∀ q, q < l.length → m ≤ q → V q = true) → s < 2 ^ 10 → (∀ q, q < l.length → s.testBit q = V q) → reps.length + m ≤ 20 → 13 * m < k →
    ∃ (more : List Nat) (V' : Nat → Bool), Trav l.length (fun_of l) V' (reps ++ more) ∧ (∀ q, q < l.length → V' q = true) ∧ impl_cycles.l0 k l (perI l reps) (s : Int) ((m : Int) - 1) = some (perI l (reps ++ more)) := by
  have hP := change_per l h
  have h10 := h.1
  induction m with
  | zero =>
    intro k V reps s t hm hV hs hr hlen hk
    obtain ⟨k, rfl, _⟩ := fuel hk
    refine ⟨[], V, by rw [List.append_nil]; exact t, fun q hq => hV q hq (Nat.zero_le _), ?_⟩
    simp only [impl_cycles.l0]
    rw [if_neg (by omega), List.append_nil]
  | succ m ih =>
    intro k V reps s t hm hV hs hr hlen hk
    obtain ⟨k, rfl, _⟩ := fuel (show 13 * m + 12 < k by omega)
    have e0 : ((m + 1 : Nat) : Int) - 1 = (m : Int) := by omega
    rw [e0]
    conv => enter [1, more, 1, V', 2, 2, 1]; simp only [impl_cycles.l0]
    rw [if_pos (by omega)]
    cases hv : V m with
    | true =>
      obtain ⟨more, V', h1, h2, h3⟩ := ih (k - 1) V reps s t (by omega) (fun q hq hmq => by
        by_cases e : q = m
        · rw [e]; exact hv
        · exact hV q hq (by omega)) hs hr (by omega) (by omega)
      refine ⟨more, V', h1, h2, ?_⟩
      rw [← h3]
      obtain ⟨k, rfl, _⟩ := fuel (show 13 * m + 11 < k by omega)
      conv => lhs; simp only [impl_cycles.l1]
      rw [shr_bit s m (by omega) (by omega), hr m (by omega), hv, Option.bind_some, if_pos rfl, if_neg (by omega), wrap_id (by omega) (by omega)]
      rfl
    | false =>
      obtain ⟨⟨p1, _, _⟩, p3⟩ := per_spec hP m (by omega)
      obtain ⟨k', hk'⟩ : ∃ k', k = k' + per (fun_of l) m + 1 := ⟨k - per (fun_of l) m - 1, by omega⟩
      obtain ⟨s', g1, g2, g3⟩ := impl_walk h V reps t (perI l reps) m (by omega) hv (by rw [perI_length]; omega) (per (fun_of l) m) k' 0 s (by omega) (by omega) hs hr
      obtain ⟨more, V', h1, h2, h3⟩ := ih k' _ _ s' (vis_trav hP t m (by omega) hv) (by omega) (fun q hq hmq => by
        by_cases e : q = m
        · rw [e, vis_spec]; exact .inr ⟨0, p1, rfl⟩
        · rw [vis_spec]; exact .inl (hV q hq (by omega))) g1 g2 (by simp; omega) (by omega)
      rw [List.append_assoc] at h1 h3
      refine ⟨[m] ++ more, V', h1, h2, ?_⟩
      rw [hk', ← h3, perI_snoc]
      rw [show (0 : Int) = ((0 : Nat) : Int) from rfl]
      refine g3.trans ?_
      rw [wrap_id (by omega) (by omega)]
theorem impl_cycles_all : ∃ (more : List Nat) (V : Nat → Bool), Trav l.length (fun_of l) V ((l.length - 1) :: more) ∧ (∀ q, q < l.length → V q = true) ∧ ∀ k, 200 < k → impl_cycles.f k l = some (perI l ((l.length - 1) :: more)) := by
  have hP := change_per l h
  have h10 := h.1
  obtain ⟨⟨p1, _, _⟩, p3⟩ := per_spec hP (l.length - 1) (by omega)
  obtain ⟨s', g1, g2, g3⟩ := impl_walk h _ [] .nil (perI l []) (l.length - 1) (by omega) rfl (by simp [perI]) (per (fun_of l) (l.length - 1)) 150 0 0 (by omega) (by omega) (by decide) (fun q hq => by rw [Nat.zero_testBit]; rfl)
  obtain ⟨more, V', h1, h2, h3⟩ := impl_outer h (l.length - 1) 150 _ _ s' (vis_trav hP .nil (l.length - 1) (by omega) rfl) (by omega) (fun q hq hmq => by
    rw [show q = l.length - 1 from by omega, vis_spec]; exact .inr ⟨0, p1, rfl⟩) g1 g2 (by simp; omega) (by omega)
  refine ⟨more, V', h1, h2, fun k hk => ?_⟩
  have e : impl_cycles.f (150 + per (fun_of l) (l.length - 1) + 1 + 1) l = some (perI l ((l.length - 1) :: more)) := by
    unfold impl_cycles.f
    rw [wrap_id (by omega) (by omega), show (l.length : Int) - 1 = ((l.length - 1 : Nat) : Int) from by omega]
    conv => lhs; simp only [impl_cycles.l0]
    rw [if_pos (by omega)]
    refine g3.trans ?_
    rw [wrap_id (by omega) (by omega)]
    exact h3
  exact at_rounds (g := fun k => impl_cycles.f k l) (impl_cycles.mono l) (by omega) e
theorem spec_outer (m : Nat) : ∀ (k i : Nat) (V : Nat → Bool) (reps : List Nat) (x : List Bool) (a : Int), i + m = l.length → Trav l.length (fun_of l) V reps → (∀ q, q < l.length → q < i → V q = true) → x.length = l.length → (∀ q, q < l.length → rdOf false x (q : Int) = V q) → reps.length ≤ i → (∀ (j : Nat) (hj : j < reps.length), Orb (fun_of l) (reps[j]) (l.length - 1) → a = (j : Int)) → 13 * m < k →
    ∃ (more : List Nat) (V' : Nat → Bool) (a' : Int), Trav l.length (fun_of l) V' (reps ++ more) ∧ (∀ q, q < l.length → V' q = true) ∧ (∀ (j : Nat) (hj : j < (reps ++ more).length), Orb (fun_of l) ((reps ++ more)[j]) (l.length - 1) → a' = (j : Int)) ∧ spec_l10Cycles.l0 k l (perI l reps) x a (i : Int) = some (perI l (reps ++ more), a') := by
  have hP := change_per l h
  have h10 := h.1
  induction m with
  | zero =>
    intro k i V reps x a hm t hV hx hr hlen ha hk
    obtain ⟨k, rfl, _⟩ := fuel hk
    refine ⟨[], V, a, by rw [List.append_nil]; exact t, fun q hq => hV q hq (by omega), fun j hj e => ?_, ?_⟩
    · simp only [List.append_nil] at hj e
      exact ha j hj e
    · simp only [spec_l10Cycles.l0]
      rw [if_neg (by omega), List.append_nil]
  | succ m ih =>
    intro k i V reps x a hm t hV hx hr hlen ha hk
    obtain ⟨k, rfl, _⟩ := fuel (show 13 * m + 12 < k by omega)
    conv => enter [1, more, 1, V', 1, a', 2, 2, 2, 1]; simp only [spec_l10Cycles.l0]
    rw [if_pos (by omega), if_pos (by omega), if_pos (by omega), hr i (by omega)]
    cases hv : V i with
    | true =>
      obtain ⟨more, V', a', h1, h2, h3, h4⟩ := ih k (i + 1) V reps x a (by omega) t (fun q hq hmq => by
        by_cases e : q = i
        · rw [e]; exact hv
        · exact hV q hq (by omega)) hx hr (by omega) ha (by omega)
      refine ⟨more, V', a', h1, h2, h3, ?_⟩
      rw [if_pos rfl, wrap_one (n := l.length) (by omega) (by omega)]
      exact h4
    | false =>
      obtain ⟨⟨p1, _, _⟩, p3⟩ := per_spec hP i (by omega)
      obtain ⟨k', hk'⟩ : ∃ k', k = k' + per (fun_of l) i + 1 := ⟨k - per (fun_of l) i - 1, by omega⟩
      obtain ⟨x', g1, g2, g3⟩ := spec_walk h V reps t (perI l reps) i (by omega) hv (by rw [perI_length]; omega) a (per (fun_of l) i) k' 0 x a (by omega) (by omega) hx hr (by
        rw [if_neg]
        rintro ⟨b, hb, _⟩
        omega)
      have hlast : Orb (fun_of l) i (l.length - 1) ↔ ∃ b, b < per (fun_of l) i ∧ fun_of l (iter (fun_of l) b i) = l.length - 1 := by
        rw [orb_short hP i _ (by omega)]
        constructor
        · rintro ⟨b, hb, e⟩
          cases b with
          | zero =>
            refine ⟨per (fun_of l) i - 1, by omega, ?_⟩
            rw [← e, show fun_of l (iter (fun_of l) (per (fun_of l) i - 1) i) = iter (fun_of l) (per (fun_of l) i - 1 + 1) i from rfl, show per (fun_of l) i - 1 + 1 = per (fun_of l) i from by omega]
            exact (per_spec hP i (by omega)).1.2.1
          | succ b => exact ⟨b, by omega, e⟩
        · rintro ⟨b, hb, e⟩
          exact (orb_short hP i _ (by omega)).1 ⟨b + 1, e⟩
      obtain ⟨more, V', a', h1, h2, h3, h4⟩ := ih k' (i + 1) _ _ x' (by omega) (vis_trav hP t i (by omega) hv) (fun q hq hmq => by
        by_cases e : q = i
        · rw [e, vis_spec]; exact .inr ⟨0, p1, rfl⟩
        · rw [vis_spec]; exact .inl (hV q hq (by omega))) g1 g2 (by simp; omega) (a := if ∃ b, b < per (fun_of l) i ∧ fun_of l (iter (fun_of l) b i) = l.length - 1 then ((perI l reps).length : Int) else a) (by
        intro j hj e
        by_cases z : j < reps.length
        · rw [List.getElem_append_left z] at e
          rw [if_neg, ha j z e]
          intro e2
          obtain ⟨c, hc⟩ := hlast.2 e2
          have v1 : V (l.length - 1) = true := (trav_orb t _).2 ⟨_, List.getElem_mem z, e⟩
          have v2 := trav_backs hP t c i (by omega) (by rw [hc]; exact v1)
          rw [hv] at v2
          cases v2
        · have hj' : j = reps.length := by simp at hj; omega
          subst hj'
          rw [List.getElem_append_right (by omega)] at e
          simp only [Nat.sub_self, List.getElem_cons_zero] at e
          rw [if_pos (hlast.1 e), perI_length]) (by omega)
      have ea : reps ++ [i] ++ more = reps ++ ([i] ++ more) := List.append_assoc _ _ _
      refine ⟨[i] ++ more, V', a', ea ▸ h1, h2, ?_, ?_⟩
      · rw [← ea]
        exact h3
      · rw [← ea, ← h4, hk', perI_snoc, if_neg (by simp)]
        rw [show (0 : Int) = ((0 : Nat) : Int) from rfl]
        refine g3.trans ?_
        rw [wrap_one (n := l.length) (by omega) (by omega)]
theorem spec_cycles_all : ∃ (reps : List Nat) (V : Nat → Bool) (a : Int), Trav l.length (fun_of l) V reps ∧ (∀ q, q < l.length → V q = true) ∧ (∀ (j : Nat) (hj : j < reps.length), Orb (fun_of l) (reps[j]) (l.length - 1) → a = (j : Int)) ∧ ∀ k, 200 < k → spec_l10Cycles.f k l = some (perI l reps, a) := by
  have h10 := h.1
  obtain ⟨more, V', a', h1, h2, h3, h4⟩ := spec_outer h l.length 190 0 _ [] (List.replicate l.length false) 0 (by omega) .nil (fun q _ hq => by omega) (by simp) (fun q hq => by
    unfold rdOf
    rw [Int.toNat_natCast, List.getD_eq_getElem?_getD, List.getElem?_replicate_of_lt hq]
    rfl) (by simp) (fun j hj => by simp at hj) (by omega)
  refine ⟨more, V', a', h1, h2, h3, fun k hk => ?_⟩
  have e : spec_l10Cycles.f 190 l = some (perI l more, a') := by
    unfold spec_l10Cycles.f
    rw [if_pos (by omega), if_pos (by omega), Int.toNat_natCast]
    exact h4
  exact at_rounds (g := fun k => spec_l10Cycles.f k l) (spec_l10Cycles.mono l) (by omega) e
end

/-! ### cycles_sum -/
section
variable {n : Nat} {f : Nat → Nat} (h : Per n f)
include h
theorem trav_apart {V : Nat → Bool} {reps : List Nat} (t : Trav n f V reps) : ∀ (j j' : Nat) (hj : j < reps.length) (hj' : j' < reps.length) (q : Nat), j < j' → Orb f reps[j] q → ¬ Orb f reps[j'] q := by
  induction t with
  | nil => intro j j' hj; simp at hj
  | snoc V V' reps i t hi hv hV ih =>
    intro j j' hj hj' q hlt e
    simp only [List.length_append, List.length_cons, List.length_nil] at hj hj'
    rw [List.getElem_append_left (by omega)] at e
    by_cases z : j' < reps.length
    · rw [List.getElem_append_left z]
      exact ih j j' _ z q hlt e
    · rw [List.getElem_append_right (by omega)]
      simp only [show j' - reps.length = 0 from by omega, List.getElem_cons_zero]
      rintro ⟨c, hc⟩
      have v1 : V q = true := (trav_orb t _).2 ⟨_, List.getElem_mem (by omega), e⟩
      rw [← hc] at v1
      rw [trav_backs h t c i hi v1] at hv
      cases hv
theorem trav_len {V : Nat → Bool} {reps : List Nat} (t : Trav n f V reps) : reps.length ≤ n := by
  have hn : reps.Nodup := by
    refine List.pairwise_iff_getElem.2 fun i j hi hj hij e => ?_
    exact trav_apart h t i j hi hj (reps[i]) hij ⟨0, rfl⟩ ⟨0, e.symm⟩
  have := List.Nodup.length_le_of_subset hn (l₂ := List.range n) (fun i hi => List.mem_range.2 (trav_reps_lt t i hi))
  simpa using this
theorem orb_step (p q : Nat) (hp : p < n) : Orb f (f p) q ↔ Orb f p q := by
  constructor
  · rintro ⟨a, e⟩
    exact ⟨a + 1, by rw [iter_add]; exact e⟩
  · rintro ⟨a, e⟩
    obtain ⟨⟨h1, h2, _⟩, _⟩ := per_spec h p hp
    refine ⟨a + (per f p - 1), ?_⟩
    rw [show f p = iter f 1 p from rfl, ← iter_add, show a + (per f p - 1) + 1 = a + per f p from by omega, iter_add, h2, e]
end
theorem cycles_count {l : List Int} (h : Change l) : ∃ c : Nat, c ≤ 10 ∧ ∃ (xs ys : List Int) (a : Int), xs.length = c ∧ ys.length = c ∧ (∀ k, 200 < k → spec_l10Cycles.f k l = some (xs, a)) ∧ ∀ k, 200 < k → impl_cycles.f k l = some ys := by
  have hP := change_per l h
  have h10 := h.1
  obtain ⟨reps, V, a, t, hv, _, hs⟩ := spec_cycles_all h
  obtain ⟨more, V', t', hv', hi⟩ := impl_cycles_all h
  have e := trav_sum hP (fun _ => 1) (fun _ _ => rfl) h10.2 t t' hv hv'
  have hl := trav_len hP t
  have one : ∀ z : List Nat, (z.map fun _ => 1).sum = z.length := fun z => by
    induction z with
    | nil => rfl
    | cons b z ih => simp at ih ⊢; omega
  rw [one, one] at e
  exact ⟨reps.length, by omega, perI l reps, perI l ((l.length - 1) :: more), a, perI_length l _, by rw [perI_length]; exact e.symm, hs, hi⟩

/-! ### law_FnExactFreeSwaps -/
theorem free_both (l : List Int) (hl : l.length ≤ 1048576) : ∃ (r : Int) (b : Bool), ∀ k, 2 * l.length + 300 < k → spec_FreeSwaps.f k l = some (r, b) ∧ impl_FreeSwaps.f k l = some (r, b) := by
  by_cases h : Change l
  · have h10 := h.1
    obtain ⟨c, hc, xs, ys, a, hx, hy, hs, hi⟩ := cycles_count h
    refine ⟨(l.length : Int) - c, true, fun k hk => ?_⟩
    unfold spec_FreeSwaps.f impl_FreeSwaps.f
    rw [spec_l10Change_eq l k hl (by omega), impl_isChange_eq l k hl (by omega), Option.bind_some, Option.bind_some]
    simp only [decide_eq_true_eq]
    rw [if_pos h, if_pos h, hs k (by omega), hi k (by omega), Option.bind_some, Option.bind_some]
    dsimp only
    rw [hx, hy, wrap_id (by omega) (by omega)]
    exact ⟨rfl, rfl⟩
  · refine ⟨0, false, fun k hk => ?_⟩
    unfold spec_FreeSwaps.f impl_FreeSwaps.f
    rw [spec_l10Change_eq l k hl (by omega), impl_isChange_eq l k hl (by omega), Option.bind_some, Option.bind_some]
    simp only [decide_eq_true_eq]
    rw [if_neg h, if_neg h]
    exact ⟨rfl, rfl⟩

/-! ### law_FnExactHoleMoves -/
open Classical in
/-- The moves that a cycle costs: that of the free seat goes around, another one is opened by it. -/
noncomputable def holeW (n : Nat) (f : Nat → Nat) (p : Nat) : Nat := if Orb f p (n - 1) then per f p - 1 else if per f p > 1 then per f p + 1 else 0
theorem holeW_step {n : Nat} {f : Nat → Nat} (h : Per n f) (p : Nat) (hp : p < n) : holeW n f (f p) = holeW n f p := by
  unfold holeW
  rw [per_step h p hp]
  by_cases g : Orb f p (n - 1)
  · rw [if_pos g, if_pos ((orb_step h p _ hp).2 g)]
  · rw [if_neg g, if_neg (fun e => g ((orb_step h p _ hp).1 e))]
theorem spec_hole_l0 (xs : List Int) (vs : List Nat) (a : Int) (hl : xs.length = vs.length) (hn : xs.length ≤ 10) (hx : ∀ x ∈ xs, 1 ≤ x ∧ x ≤ 10)
    (hv : ∀ j, (hj : j < xs.length) → (vs[j]'(by omega) : Int) = if (j : Int) = a then xs[j] - 1 else if xs[j] > 1 then xs[j] + 1 else 0) (d : Nat) :
    ∀ (k i : Nat) (acc : Int), i ≤ xs.length → xs.length - i = d → d < k → 0 ≤ acc → acc ≤ 1000 * i → spec_HoleMoves.l0 k acc xs a (i : Int) = some (acc + ((vs.drop i).sum : Nat), true) := by
  induction d with
  | zero =>
    intro k i acc hi hd hk h0 h1
    obtain ⟨k, rfl, _⟩ := fuel hk
    simp only [spec_HoleMoves.l0]
    rw [if_neg (by omega), List.drop_eq_nil_of_le (by omega)]
    simp
  | succ d ih =>
    intro k i acc hi hd hk h0 h1
    obtain ⟨k, rfl, _⟩ := fuel hk
    have hb := hx (xs[i]'(by omega)) (List.getElem_mem _)
    have hvi := hv i (by omega)
    simp only [spec_HoleMoves.l0]
    rw [if_pos (by omega), rd_get xs i (by omega), wrap_one (n := xs.length) (by omega) (by omega), List.drop_eq_getElem_cons (l := vs) (i := i) (by omega), List.sum_cons]
    by_cases g : (i : Int) = a
    · rw [if_pos g, if_pos (by omega), wrap_id (x := acc + xs[i]'(by omega)) (by omega) (by omega), wrap_id (by omega) (by omega)]
      rw [if_pos g] at hvi
      rw [ih k (i + 1) _ (by omega) (by omega) (by omega) (by omega) (by omega)]
      refine congrArg some (Prod.ext ?_ rfl)
      dsimp only
      omega
    · rw [if_neg g, if_pos (by omega)]
      rw [if_neg g] at hvi
      by_cases g2 : xs[i]'(by omega) > 1
      · rw [if_pos g2, wrap_id (x := acc + xs[i]'(by omega)) (by omega) (by omega), wrap_id (by omega) (by omega)]
        rw [if_pos g2] at hvi
        rw [ih k (i + 1) _ (by omega) (by omega) (by omega) (by omega) (by omega)]
        refine congrArg some (Prod.ext ?_ rfl)
        dsimp only
        omega
      · rw [if_neg g2]
        rw [if_neg g2] at hvi
        rw [ih k (i + 1) _ (by omega) (by omega) (by omega) (by omega) (by omega)]
        refine congrArg some (Prod.ext ?_ rfl)
        dsimp only
        omega
theorem impl_hole_l0 (xs : List Int) (vs : List Nat) (hl : xs.length = vs.length) (hn : xs.length ≤ 10) (hx : ∀ x ∈ xs, 1 ≤ x ∧ x ≤ 10)
    (hv : ∀ j, (hj : j < xs.length) → (vs[j]'(by omega) : Int) = if (j : Int) = 0 then xs[j] - 1 else if xs[j] > 1 then xs[j] + 1 else 0) (d : Nat) :
    ∀ (k i : Nat) (acc : Int), i ≤ xs.length → xs.length - i = d → d < k → 0 ≤ acc → acc ≤ 1000 * i → impl_HoleMoves.l0 k acc xs (xs.length : Int) (i : Int) = some (acc + ((vs.drop i).sum : Nat), true) := by
  induction d with
  | zero =>
    intro k i acc hi hd hk h0 h1
    obtain ⟨k, rfl, _⟩ := fuel hk
    simp only [impl_HoleMoves.l0]
    rw [if_neg (by omega), List.drop_eq_nil_of_le (by omega)]
    simp
  | succ d ih =>
    intro k i acc hi hd hk h0 h1
    obtain ⟨k, rfl, _⟩ := fuel hk
    have hb := hx (xs[i]'(by omega)) (List.getElem_mem _)
    have hvi := hv i (by omega)
    simp only [impl_HoleMoves.l0]
    rw [if_pos (by omega), if_pos (by omega), if_pos (by omega), rd_get xs i (by omega), wrap_one (n := xs.length) (by omega) (by omega), List.drop_eq_getElem_cons (l := vs) (i := i) (by omega), List.sum_cons]
    by_cases g : (i : Int) = 0
    · rw [if_pos g, wrap_id (x := xs[i]'(by omega) - 1) (by omega) (by omega), wrap_id (by omega) (by omega)]
      rw [if_pos g] at hvi
      rw [ih k (i + 1) _ (by omega) (by omega) (by omega) (by omega) (by omega)]
      refine congrArg some (Prod.ext ?_ rfl)
      dsimp only
      omega
    · rw [if_neg g]
      rw [if_neg g] at hvi
      by_cases g2 : xs[i]'(by omega) > 1
      · rw [if_pos g2, wrap_id (x := xs[i]'(by omega) + 1) (by omega) (by omega), wrap_id (by omega) (by omega)]
        rw [if_pos g2] at hvi
        rw [ih k (i + 1) _ (by omega) (by omega) (by omega) (by omega) (by omega)]
        refine congrArg some (Prod.ext ?_ rfl)
        dsimp only
        omega
      · rw [if_neg g2]
        rw [if_neg g2] at hvi
        rw [ih k (i + 1) _ (by omega) (by omega) (by omega) (by omega) (by omega)]
        refine congrArg some (Prod.ext ?_ rfl)
        dsimp only
        omega
theorem perI_range {l : List Int} (h : Change l) (reps : List Nat) (hr : ∀ i ∈ reps, i < l.length) : ∀ x ∈ perI l reps, 1 ≤ x ∧ x ≤ 10 := by
  intro x hx
  obtain ⟨i, hi, rfl⟩ := List.mem_map.1 hx
  obtain ⟨⟨p1, _, _⟩, p3⟩ := per_spec (change_per l h) i (hr i hi)
  have := h.1
  omega
theorem hole_value {l : List Int} (h : Change l) (reps : List Nat) (hr : ∀ i ∈ reps, i < l.length) (a : Int) (ha : ∀ j, (hj : j < reps.length) → (Orb (fun_of l) reps[j] (l.length - 1) ↔ (j : Int) = a)) (j : Nat) (hj : j < (perI l reps).length) :
    (((reps.map (holeW l.length (fun_of l)))[j]'(by simp [perI_length] at hj; simpa using hj) : Nat) : Int) = if (j : Int) = a then (perI l reps)[j] - 1 else if (perI l reps)[j] > 1 then (perI l reps)[j] + 1 else 0 := by
  have hj' : j < reps.length := by rw [perI_length] at hj; exact hj
  obtain ⟨⟨p1, _, _⟩, p3⟩ := per_spec (change_per l h) reps[j] (hr _ (List.getElem_mem hj'))
  have e1 : (perI l reps)[j] = ((per (fun_of l) reps[j] : Nat) : Int) := by simp [perI]
  rw [e1, List.getElem_map]
  unfold holeW
  by_cases g : Orb (fun_of l) reps[j] (l.length - 1)
  · rw [if_pos g, if_pos ((ha j hj').1 g)]
    omega
  · rw [if_neg g, if_neg (fun e => g ((ha j hj').2 e))]
    by_cases g2 : per (fun_of l) reps[j] > 1
    · rw [if_pos g2, if_pos (by omega)]
      omega
    · rw [if_neg g2, if_neg (by omega)]
      rfl
theorem hole_both (l : List Int) (hl : l.length ≤ 1048576) : ∃ (r : Int) (b : Bool), ∀ k, 2 * l.length + 300 < k → spec_HoleMoves.f k l = some (r, b) ∧ impl_HoleMoves.f k l = some (r, b) := by
  by_cases h : Change l
  · have h10 := h.1
    have hP := change_per l h
    obtain ⟨reps, V, a, t, hv, ha, hs⟩ := spec_cycles_all h
    obtain ⟨more, V', t', hv', hi⟩ := impl_cycles_all h
    have e := trav_sum hP (holeW l.length (fun_of l)) (holeW_step hP) h10.2 t t' hv hv'
    have ha2 : ∀ j, (hj : j < reps.length) → (Orb (fun_of l) reps[j] (l.length - 1) ↔ (j : Int) = a) := by
      intro j hj
      refine ⟨fun o => (ha j hj o).symm, fun z => ?_⟩
      obtain ⟨i, hin, o⟩ := (trav_orb t (l.length - 1)).1 (hv _ (by omega))
      obtain ⟨j2, hj2, rfl⟩ := List.getElem_of_mem hin
      have := ha j2 hj2 o
      have : j = j2 := by omega
      subst this
      exact o
    have hb2 : ∀ j, (hj : j < ((l.length - 1) :: more).length) → (Orb (fun_of l) ((l.length - 1) :: more)[j] (l.length - 1) ↔ (j : Int) = 0) := by
      intro j hj
      cases j with
      | zero => exact ⟨fun _ => rfl, fun _ => ⟨0, rfl⟩⟩
      | succ j =>
        refine ⟨fun o => ?_, fun z => by omega⟩
        exact absurd o (trav_apart hP t' 0 (j + 1) (by simp) hj (l.length - 1) (by omega) ⟨0, rfl⟩)
    have l1 := trav_len hP t
    have l2 := trav_len hP t'
    refine ⟨(((reps.map (holeW l.length (fun_of l))).sum : Nat) : Int), true, fun k hk => ?_⟩
    unfold spec_HoleMoves.f impl_HoleMoves.f
    rw [spec_l10Change_eq l k hl (by omega), impl_isChange_eq l k hl (by omega), Option.bind_some, Option.bind_some]
    simp only [decide_eq_true_eq]
    rw [if_pos h, if_pos h, hs k (by omega), hi k (by omega), Option.bind_some, Option.bind_some]
    dsimp only
    have s1 := spec_hole_l0 (perI l reps) (reps.map (holeW l.length (fun_of l))) a (by simp [perI_length]) (by rw [perI_length]; omega) (perI_range h reps (trav_reps_lt t)) (hole_value h reps (trav_reps_lt t) a ha2) (perI l reps).length k 0 0 (by omega) (by omega) (by rw [perI_length]; omega) (by omega) (by omega)
    have s2 := impl_hole_l0 (perI l ((l.length - 1) :: more)) (((l.length - 1) :: more).map (holeW l.length (fun_of l))) (by simp [perI_length]) (by rw [perI_length]; omega) (perI_range h _ (trav_reps_lt t')) (hole_value h _ (trav_reps_lt t') 0 hb2) (perI l ((l.length - 1) :: more)).length k 0 0 (by omega) (by omega) (by rw [perI_length]; omega) (by omega) (by omega)
    rw [List.drop_zero, Int.zero_add] at s1 s2
    rw [← e] at s2
    exact ⟨s1, s2⟩
  · refine ⟨0, false, fun k hk => ?_⟩
    unfold spec_HoleMoves.f impl_HoleMoves.f
    rw [spec_l10Change_eq l k hl (by omega), impl_isChange_eq l k hl (by omega), Option.bind_some, Option.bind_some]
    simp only [decide_eq_true_eq]
    rw [if_neg h, if_neg h]
    exact ⟨rfl, rfl⟩

/-! ### own -/
theorem spec_l1Own_eq (l : List Int) (h : l.length < 17592186044416) : spec_l1Own.f l = some l := by
  unfold spec_l1Own.f
  rw [Option.bind_some, if_pos (by simpa using h)]
  rfl

/-! ### clone -/
theorem impl_Clone_eq (l : List Int) (h : l.length < 17592186044416) : slices_Clone_int_int.f l = some l := by
  unfold slices_Clone_int_int.f
  rw [if_pos h]

/-! ### swap -/
/-- A list with two neighbors exchanged. -/
def swapL (l : List Int) (p : Nat) : List Int := (l.set p (l.getD (p + 1) 0)).set (p + 1) (l.getD p 0)
theorem swapL_length (l : List Int) (p : Nat) : (swapL l p).length = l.length := by simp [swapL]
theorem spec_l10Swap_eq (l : List Int) (p : Nat) (hl : l.length ≤ 1048576) (h : p + 1 < l.length) : spec_l10Swap.f l (p : Int) = some (swapL l p) := by
  unfold spec_l10Swap.f
  rw [spec_l1Own_eq l (by omega), Option.bind_some, wrap_one (n := l.length) (by omega) (by omega), if_pos (by omega), if_pos (by omega), if_pos (by omega), if_pos (by omega), if_pos (by omega), if_pos (by omega), rd_nat, rd_nat, Int.toNat_natCast, Int.toNat_natCast]
  rfl

/-! ### descents -/
theorem inv_append (A X : List Int) : inv (A ++ X) = inv A + inv X + (A.map fun a => X.countP fun b => decide (b < a)).sum := by
  induction A with
  | nil => simp [inv]
  | cons a A ih =>
    rw [List.cons_append, inv, inv, ih, List.countP_append, List.map_cons, List.sum_cons]
    omega
theorem swapL_split (A C : List Int) (a b : Int) : swapL (A ++ a :: b :: C) A.length = A ++ b :: a :: C := by
  unfold swapL
  rw [List.getD_eq_getElem?_getD, List.getD_eq_getElem?_getD, List.getElem?_append_right (by omega), List.getElem?_append_right (by omega), List.set_append_right _ _ (by omega), List.set_append_right _ _ (by omega)]
  simp
theorem split_at (l : List Int) (p : Nat) (h : p + 1 < l.length) : ∃ A C, A.length = p ∧ l = A ++ l.getD p 0 :: l.getD (p + 1) 0 :: C := by
  refine ⟨l.take p, l.drop (p + 2), by rw [List.length_take]; omega, ?_⟩
  have e1 := (List.take_append_drop p l).symm
  rw [List.drop_eq_getElem_cons (i := p) (by omega), List.drop_eq_getElem_cons (i := p + 1) (by omega)] at e1
  have g1 : l.getD p 0 = l[p] := by simp [List.getD, show p < l.length by omega]
  have g2 : l.getD (p + 1) 0 = l[p + 1] := by simp [List.getD, h]
  rw [g1, g2]
  exact e1
theorem swapL_perm (l : List Int) (p : Nat) (h : p + 1 < l.length) : (swapL l p).Perm l := by
  obtain ⟨A, C, hA, e⟩ := split_at l p h
  generalize l.getD p 0 = a at e
  generalize l.getD (p + 1) 0 = b at e
  subst hA
  rw [e, swapL_split]
  exact (List.Perm.swap a b C).append_left A
theorem inv_swap (l : List Int) (p : Nat) (h : p + 1 < l.length) (hd : l.getD (p + 1) 0 < l.getD p 0) : inv (swapL l p) + 1 = inv l := by
  obtain ⟨A, C, hA, e⟩ := split_at l p h
  generalize l.getD p 0 = a at e hd
  generalize l.getD (p + 1) 0 = b at e hd
  subst hA
  rw [e, swapL_split, inv_append, inv_append]
  have hp : (A.map fun x => (b :: a :: C).countP fun y => decide (y < x)) = A.map fun x => (a :: b :: C).countP fun y => decide (y < x) := by
    refine List.map_congr_left fun x _ => ?_
    exact (List.Perm.swap a b C).countP_eq _
  rw [hp]
  simp only [inv, List.countP_cons]
  have h1 : decide (a < b) = false := decide_eq_false (by omega)
  have h2 : decide (b < a) = true := decide_eq_true hd
  rw [h1, h2]
  simp
  omega
theorem getD_cons (a : Int) (l : List Int) (j : Nat) : (a :: l).getD (j + 1) 0 = l.getD j 0 := by simp [List.getD]
/-- A list that ascends step by step has no pair out of order. -/
theorem inv_of_asc (l : List Int) : (∀ j, j + 1 < l.length → l.getD j 0 < l.getD (j + 1) 0) → inv l = 0 ∧ ∀ x ∈ l, l.getD 0 0 ≤ x := by
  induction l with
  | nil => intro _; exact ⟨rfl, fun x hx => by cases hx⟩
  | cons a l ih =>
    intro h
    cases l with
    | nil => exact ⟨rfl, fun x hx => by simp at hx; simp [hx]⟩
    | cons b l =>
      have ih := ih fun j hj => by
        have := h (j + 1) (by simpa using hj)
        rw [getD_cons, getD_cons] at this
        exact this
      have hab : a < b := by simpa [List.getD] using h 0 (by simp)
      have hall : ∀ x ∈ b :: l, a < x := fun x hx => by
        have := ih.2 x hx
        simp [List.getD] at this
        omega
      constructor
      · rw [inv, ih.1, List.countP_eq_zero.2]
        intro x hx
        have := hall x hx
        simp
        omega
      · intro x hx
        rcases List.mem_cons.1 hx with e | e
        · subst e; simp [List.getD]
        · have := hall x e
          simp [List.getD]
          omega
/-- The first place at which a list doesn't ascend. -/
theorem first_descent (l : List Int) : (∀ j, j + 1 < l.length → l.getD j 0 < l.getD (j + 1) 0) ∨ ∃ p, p + 1 < l.length ∧ (∀ j, j < p → l.getD j 0 < l.getD (j + 1) 0) ∧ ¬ l.getD p 0 < l.getD (p + 1) 0 := by
  induction l with
  | nil => exact .inl fun j hj => by simp at hj
  | cons a l ih =>
    by_cases hab : 1 < (a :: l).length ∧ ¬ (a :: l).getD 0 0 < (a :: l).getD 1 0
    · exact .inr ⟨0, hab.1, fun j hj => by omega, hab.2⟩
    · rcases ih with ih | ⟨p, hp, h1, h2⟩
      · refine .inl fun j hj => ?_
        cases j with
        | zero => exact Classical.byContradiction fun e => hab ⟨hj, e⟩
        | succ j =>
          rw [getD_cons, getD_cons]
          exact ih j (by simpa using hj)
      · refine .inr ⟨p + 1, by simpa using hp, fun j hj => ?_, by rw [getD_cons, getD_cons]; exact h2⟩
        cases j with
        | zero => exact Classical.byContradiction fun e => hab ⟨by simp; omega, e⟩
        | succ j =>
          rw [getD_cons, getD_cons]
          exact h1 j (by omega)
theorem getD_ne (l : List Int) (hn : l.Nodup) (p : Nat) (h : p + 1 < l.length) : l.getD p 0 ≠ l.getD (p + 1) 0 := by
  have g1 : l.getD p 0 = l[p] := by simp [List.getD, show p < l.length by omega]
  have g2 : l.getD (p + 1) 0 = l[p + 1] := by simp [List.getD, h]
  rw [g1, g2]
  intro e
  have := (List.pairwise_iff_getElem.1 hn) p (p + 1) (by omega) h (by omega)
  exact this e
theorem swapL_before (l : List Int) (p j : Nat) (hj : j < p) : (swapL l p).getD j 0 = l.getD j 0 := by
  unfold swapL
  rw [List.getD_eq_getElem?_getD, List.getElem?_set_ne (by omega), List.getElem?_set_ne (by omega), List.getD_eq_getElem?_getD]

/-! ### law_FnExactFirstSideSwaps -/
theorem spec_first_scan (l out : List Int) (hl : l.length ≤ 10) (p : Nat) (hp : p + 1 < l.length) (ho : out.length ≤ 1000) (ha : ∀ j, j < p → l.getD j 0 < l.getD (j + 1) 0) (hd : ¬ l.getD p 0 < l.getD (p + 1) 0) (d : Nat) :
    ∀ k i, i ≤ p → p - i = d → spec_FirstSideSwaps.l1 (k + d + 1) out l (i : Int) = spec_FirstSideSwaps.l0 k (out ++ [(p : Int)]) (swapL l p) := by
  induction d with
  | zero =>
    intro k i hi he
    have : i = p := by omega
    subst this
    simp only [spec_FirstSideSwaps.l1]
    rw [wrap_one (n := l.length) (by omega) (by omega), if_pos (by omega), if_pos (by omega), if_pos (by omega), if_pos (by omega), rd_nat, rd_nat, if_neg hd, if_pos (by omega), spec_l10Swap_eq l i (by omega) hp, Option.bind_some]
  | succ d ih =>
    intro k i hi he
    rw [show k + (d + 1) + 1 = (k + d + 1) + 1 from by omega]
    simp only [spec_FirstSideSwaps.l1]
    rw [wrap_one (n := l.length) (by omega) (by omega), if_pos (by omega), if_pos (by omega), if_pos (by omega), if_pos (by omega), rd_nat, rd_nat, if_pos (ha i (by omega))]
    exact ih k (i + 1) (by omega) (by omega)
theorem impl_first_scan (l out : List Int) (hl : l.length ≤ 10) (p : Nat) (hp : p + 1 < l.length) (ho : out.length ≤ 1000) (ha : ∀ j, j < p → l.getD j 0 < l.getD (j + 1) 0) (hd : ¬ l.getD p 0 < l.getD (p + 1) 0) (d : Nat) :
    ∀ k i, i ≤ p → p - i = d → impl_FirstSideSwaps.l0 (k + d + 1) out l (i : Int) = impl_FirstSideSwaps.l0 k (out ++ [(p : Int)]) (swapL l p) ((p - 1 : Nat) : Int) := by
  induction d with
  | zero =>
    intro k i hi he
    have : i = p := by omega
    subst this
    conv => lhs; simp only [impl_FirstSideSwaps.l0]
    have hm : mx 0 (wrap64 ((i : Int) - 1)) = ((i - 1 : Nat) : Int) := by
      rw [wrap_id (by omega) (by omega)]
      unfold mx
      split <;> omega
    rw [wrap_one (n := l.length) (by omega) (by omega), if_pos (by omega), if_pos (by omega), if_pos (by omega), if_pos (by omega), rd_nat, rd_nat, if_neg hd, if_pos (by omega), hm, Int.toNat_natCast, Int.toNat_natCast]
    rfl
  | succ d ih =>
    intro k i hi he
    rw [show k + (d + 1) + 1 = (k + d + 1) + 1 from by omega]
    conv => lhs; simp only [impl_FirstSideSwaps.l0]
    rw [wrap_one (n := l.length) (by omega) (by omega), if_pos (by omega), if_pos (by omega), if_pos (by omega), if_pos (by omega), rd_nat, rd_nat, if_pos (ha i (by omega))]
    exact ih k (i + 1) (by omega) (by omega)
theorem impl_first_end (l out : List Int) (hl : l.length ≤ 10) (ha : ∀ j, j + 1 < l.length → l.getD j 0 < l.getD (j + 1) 0) (d : Nat) :
    ∀ k i, i < l.length → l.length - i = d → d < k → impl_FirstSideSwaps.l0 k out l (i : Int) = some (out, true) := by
  induction d with
  | zero => intro k i hi he; omega
  | succ d ih =>
    intro k i hi he hk
    obtain ⟨k, rfl, _⟩ := fuel hk
    simp only [impl_FirstSideSwaps.l0]
    rw [wrap_one (n := l.length) (by omega) (by omega)]
    by_cases h : i + 1 < l.length
    · rw [if_pos (by omega), if_pos (by omega), if_pos (by omega), if_pos (by omega), rd_nat, rd_nat, if_pos (ha i h)]
      exact ih k (i + 1) h (by omega) (by omega)
    · rw [if_neg (by omega)]
theorem first_both (m : Nat) : ∀ l : List Int, inv l = m → l.Nodup → 1 ≤ l.length → l.length ≤ 10 → m ≤ 100 → ∃ r : List Int, r.length = m ∧
    (∀ (out : List Int) (k : Nat), out.length + m ≤ 1000 → 200 * m + 200 ≤ k → spec_FirstSideSwaps.l0 k out l = some (out ++ r, true)) ∧
    (∀ (out : List Int) (k i : Nat), out.length + m ≤ 1000 → 200 * m + 200 ≤ k → i < l.length → (∀ j, j < i → l.getD j 0 < l.getD (j + 1) 0) → impl_FirstSideSwaps.l0 k out l (i : Int) = some (out ++ r, true)) := by
  induction m with
  | zero =>
    intro l hm hn h1 h2 _
    have ha : ∀ j, j + 1 < l.length → l.getD j 0 < l.getD (j + 1) 0 := by
      rcases first_descent l with h | ⟨p, hp, _, hd⟩
      · exact h
      · have := inv_swap l p hp (by have := getD_ne l hn p hp; omega)
        omega
    refine ⟨[], rfl, fun out k _ hk => ?_, fun out k i _ hk hi _ => ?_⟩
    · obtain ⟨k, rfl, _⟩ := fuel (show 199 < k by omega)
      have hq : l.length * (l.length + 2) ≤ 10 * 12 := Nat.mul_le_mul (by omega) (by omega)
      simp only [spec_FirstSideSwaps.l0]
      rw [spec_l10Pairs_eq l (by omega) k (by omega), Option.bind_some, if_neg (by omega), List.append_nil]
    · rw [List.append_nil]
      exact impl_first_end l out h2 ha (l.length - i) k i hi rfl (by omega)
  | succ m ih =>
    intro l hm hn h1 h2 h100
    rcases first_descent l with h | ⟨p, hp, ha, hd⟩
    · have := (inv_of_asc l h).1
      omega
    have hlt : l.getD (p + 1) 0 < l.getD p 0 := by have := getD_ne l hn p hp; omega
    obtain ⟨r, hr, hs, hi⟩ := ih (swapL l p) (by have := inv_swap l p hp hlt; omega) ((swapL_perm l p hp).nodup_iff.2 hn) (by rw [swapL_length]; exact h1) (by rw [swapL_length]; exact h2) (by omega)
    refine ⟨(p : Int) :: r, by simp [hr], fun out k ho hk => ?_, fun out k i ho hk hil hai => ?_⟩
    · obtain ⟨k, rfl, _⟩ := fuel (show 0 < k by omega)
      have hq : l.length * (l.length + 2) ≤ 10 * 12 := Nat.mul_le_mul (by omega) (by omega)
      simp only [spec_FirstSideSwaps.l0]
      rw [spec_l10Pairs_eq l (by omega) k (by omega), Option.bind_some, if_pos (by omega)]
      obtain ⟨k', rfl⟩ : ∃ k', k = k' + p + 1 := ⟨k - p - 1, by omega⟩
      have e := spec_first_scan l out h2 p hp (by omega) ha hd p k' 0 (by omega) (by omega)
      rw [show (0 : Int) = ((0 : Nat) : Int) from rfl, e, hs (out ++ [(p : Int)]) k' (by simp; omega) (by omega), List.append_assoc]
      rfl
    · have hip : i ≤ p := by
        rcases Nat.lt_or_ge p i with g | g
        · exact absurd (hai p g) hd
        · exact g
      obtain ⟨k', hk'⟩ : ∃ k', k = k' + (p - i) + 1 := ⟨k - (p - i) - 1, by omega⟩
      rw [hk', impl_first_scan l out h2 p hp (by omega) ha hd (p - i) k' i hip rfl]
      rw [hi (out ++ [(p : Int)]) k' (p - 1) (by simp; omega) (by omega) (by rw [swapL_length]; omega), List.append_assoc]
      · rfl
      · intro j hj
        rw [swapL_before l p j (by omega), swapL_before l p (j + 1) (by omega)]
        exact ha j (by omega)
theorem first_swaps (l : List Int) (hl : l.length ≤ 1048576) : ∃ (r : List Int) (b : Bool), r.length ≤ 1048576 ∧ ∀ k, 2 * l.length + 30000 < k → spec_FirstSideSwaps.f k l = some (r, b) ∧ impl_FirstSideSwaps.f k l = some (r, b) := by
  by_cases h : Change l
  · have h10 := h.1
    have hq : l.length * l.length ≤ 10 * 10 := Nat.mul_le_mul (by omega) (by omega)
    have hi := inv_le l
    obtain ⟨r, hr, hs, hm⟩ := first_both (inv l) l rfl (change_nodup l h) h10.1 h10.2 (by omega)
    refine ⟨r, true, by omega, fun k hk => ?_⟩
    unfold spec_FirstSideSwaps.f impl_FirstSideSwaps.f
    rw [Option.bind_some, spec_l10Change_eq l k hl (by omega), impl_isChange_eq l k hl (by omega), Option.bind_some, Option.bind_some]
    simp only [decide_eq_true_eq]
    rw [if_pos h, if_pos h, spec_l1Own_eq l (by omega), impl_Clone_eq l (by omega), Option.bind_some, Option.bind_some]
    exact ⟨hs [] k (by simp; omega) (by omega), hm [] k 0 (by simp; omega) (by omega) (by omega) (fun j hj => by omega)⟩
  · refine ⟨[], false, by simp, fun k hk => ?_⟩
    unfold spec_FirstSideSwaps.f impl_FirstSideSwaps.f
    rw [Option.bind_some, spec_l10Change_eq l k hl (by omega), impl_isChange_eq l k hl (by omega), Option.bind_some, Option.bind_some]
    simp only [decide_eq_true_eq]
    rw [if_neg h, if_neg h]
    exact ⟨rfl, rfl⟩

/-! ### law_FnExactBackChange -/
theorem back_same (l : List Int) : ∀ (k : Nat) (x : List Int) (i : Int), impl_BackChange.l0 k x l (l.length : Int) i = spec_BackChange.l0 k l x i
  | 0, x, i => rfl
  | k + 1, x, i => by
    simp only [impl_BackChange.l0, spec_BackChange.l0, back_same l k]
    by_cases h : i < (l.length : Int)
    · simp only [if_pos h]
    · simp only [if_neg h]
theorem back_ends (l : List Int) (hl : l.length ≤ 1048576) (hb : ∀ x ∈ l, 0 ≤ x ∧ x < l.length) (d : Nat) : ∀ (k i : Nat) (x : List Int), x.length = l.length → i ≤ l.length → l.length - i = d → d < k →
    ∃ r : List Int, r.length = l.length ∧ spec_BackChange.l0 k l x i = some (r, true) := by
  induction d with
  | zero =>
    intro k i x hx hi hd hk
    obtain ⟨k, rfl, _⟩ := fuel hk
    refine ⟨x, hx, ?_⟩
    simp only [spec_BackChange.l0]
    rw [if_neg (by omega)]
  | succ d ih =>
    intro k i x hx hi hd hk
    obtain ⟨k, rfl, _⟩ := fuel hk
    obtain ⟨b0, b1⟩ := hb (l[i]'(by omega)) (List.getElem_mem _)
    simp only [spec_BackChange.l0]
    rw [if_pos (by omega), if_pos (by omega), rd_get l i (by omega), if_pos b0, if_pos (by omega), wrap_one (n := l.length) (by omega) (by omega)]
    exact ih k (i + 1) _ (by simp [hx]) (by omega) (by omega) (by omega)
theorem back_both (l : List Int) (hl : l.length ≤ 1048576) : ∃ (r : List Int) (b : Bool), r.length ≤ 1048576 ∧ ∀ k, 2 * l.length < k → spec_BackChange.f k l = some (r, b) ∧ impl_BackChange.f k l = some (r, b) := by
  by_cases h : Change l
  · have hb : ∀ x ∈ l, 0 ≤ x ∧ x < l.length := order_within l h.2
    obtain ⟨r, hr, e⟩ := back_ends l hl hb l.length (l.length + 1) 0 (List.replicate l.length 0) (by simp) (by omega) (by omega) (by omega)
    refine ⟨r, true, by omega, fun k hk => ?_⟩
    have e' : spec_BackChange.l0 k l (List.replicate l.length 0) 0 = some (r, true) := by
      obtain ⟨r', hr', e2⟩ := back_ends l hl hb l.length k 0 (List.replicate l.length 0) (by simp) (by omega) (by omega) (by omega)
      have := at_rounds (g := fun k => spec_BackChange.l0 k l (List.replicate l.length 0) 0) (fun k => (spec_BackChange.mono_l k) _ _ _) (k := l.length + 1) (k' := k) (by omega) e
      exact this
    unfold spec_BackChange.f impl_BackChange.f
    rw [spec_l10Change_eq l k hl (by omega), impl_isChange_eq l k hl (by omega), Option.bind_some, Option.bind_some]
    simp only [decide_eq_true_eq]
    rw [if_pos h, if_pos h, if_pos (by omega), if_pos (by omega), if_pos (by omega), if_pos (by omega), back_same, Int.toNat_natCast]
    exact ⟨e', e'⟩
  · refine ⟨[], false, by simp, fun k hk => ?_⟩
    unfold spec_BackChange.f impl_BackChange.f
    rw [spec_l10Change_eq l k hl (by omega), impl_isChange_eq l k hl (by omega), Option.bind_some, Option.bind_some]
    simp only [decide_eq_true_eq]
    rw [if_neg h, if_neg h]
    exact ⟨rfl, rfl⟩

/-! ### law_FnExactAfterSwaps -/
def afterL (l : List Int) (ps : List Int) : List Int := ps.foldl (fun x p => swapL x p.toNat) l
theorem afterL_length (ps : List Int) : ∀ l : List Int, (afterL l ps).length = l.length := by
  induction ps with
  | nil => intro l; rfl
  | cons p ps ih => intro l; exact (ih _).trans (swapL_length l _)
theorem spec_after_l0 (a ps : List Int) (ha : 1 ≤ a.length ∧ a.length ≤ 10) (hl : ps.length ≤ 1048576) (d : Nat) : ∀ (k i : Nat) (x : List Int), x.length = a.length → i ≤ ps.length → ps.length - i = d → d < k →
    spec_AfterSwaps.l0 k a ps x i = some (if ∀ p ∈ ps.drop i, 0 ≤ p ∧ p ≤ (a.length : Int) - 2 then (afterL x (ps.drop i), true) else ([], false)) := by
  induction d with
  | zero =>
    intro k i x hx hi hd hk
    obtain ⟨k, rfl, _⟩ := fuel hk
    simp only [spec_AfterSwaps.l0]
    rw [if_neg (by omega), List.drop_eq_nil_of_le (by omega), if_pos (by simp)]
    rfl
  | succ d ih =>
    intro k i x hx hi hd hk
    obtain ⟨k, rfl, _⟩ := fuel hk
    simp only [spec_AfterSwaps.l0]
    rw [if_pos (by omega), if_pos (by omega), rd_get ps i (by omega), spec_l1In_eq, Option.bind_some, wrap_id (x := (a.length : Int) - 2) (by omega) (by omega), wrap_one (n := ps.length) (i := i) (by omega) (by omega)]
    rw [List.drop_eq_getElem_cons (l := ps) (i := i) (by omega)]
    simp only [decide_eq_true_eq]
    by_cases h : 0 ≤ ps[i]'(by omega) ∧ ps[i]'(by omega) ≤ (a.length : Int) - 2
    · rw [if_pos h]
      obtain ⟨p, hp⟩ : ∃ p : Nat, ps[i]'(by omega) = p := ⟨(ps[i]'(by omega)).toNat, by omega⟩
      rw [hp] at h ⊢
      rw [spec_l10Swap_eq x p (by omega) (by omega), Option.bind_some, ih k (i + 1) _ (by rw [swapL_length]; exact hx) (by omega) (by omega) (by omega)]
      refine congrArg some ?_
      by_cases g : ∀ q ∈ ps.drop (i + 1), 0 ≤ q ∧ q ≤ (a.length : Int) - 2
      · rw [if_pos g, if_pos (fun q hq => (List.mem_cons.1 hq).elim (fun e => e ▸ h) (g q))]
        rfl
      · rw [if_neg g, if_neg (fun e => g fun q hq => e q (List.mem_cons_of_mem _ hq))]
    · rw [if_neg h, if_neg (fun e => h (e _ List.mem_cons_self))]
theorem impl_after_l0 (a ps : List Int) (ha : 1 ≤ a.length ∧ a.length ≤ 10) (hl : ps.length ≤ 1048576) (hw : ∀ p ∈ ps, 0 ≤ p ∧ p ≤ (a.length : Int) - 2) (d : Nat) : ∀ (k i : Nat) (x : List Int), x.length = a.length → i ≤ ps.length → ps.length - i = d → d < k →
    impl_AfterSwaps.l0 k x ps (ps.length : Int) i = some (afterL x (ps.drop i), true) := by
  induction d with
  | zero =>
    intro k i x hx hi hd hk
    obtain ⟨k, rfl, _⟩ := fuel hk
    simp only [impl_AfterSwaps.l0]
    rw [if_neg (by omega), List.drop_eq_nil_of_le (by omega)]
    rfl
  | succ d ih =>
    intro k i x hx hi hd hk
    obtain ⟨k, rfl, _⟩ := fuel hk
    have h := hw (ps[i]'(by omega)) (List.getElem_mem _)
    simp only [impl_AfterSwaps.l0]
    rw [if_pos (by omega), if_pos (by omega), if_pos (by omega), rd_get ps i (by omega), wrap_one (n := ps.length) (i := i) (by omega) (by omega)]
    rw [List.drop_eq_getElem_cons (l := ps) (i := i) (by omega)]
    obtain ⟨p, hp⟩ : ∃ p : Nat, ps[i]'(by omega) = p := ⟨(ps[i]'(by omega)).toNat, by omega⟩
    rw [hp] at h ⊢
    rw [wrap_one (n := a.length) (i := p) (by omega) (by omega), if_pos (by omega), if_pos (by omega), if_pos (by omega), if_pos (by omega), rd_nat, rd_nat, Int.toNat_natCast, Int.toNat_natCast]
    have := ih k (i + 1) (swapL x p) (by rw [swapL_length]; exact hx) (by omega) (by omega) (by omega)
    exact this
theorem after_both (a ps : List Int) (ha : a.length ≤ 1048576) (hps : ps.length ≤ 1048576) : ∃ (r : List Int) (b : Bool), r.length ≤ 1048576 ∧ ∀ k, 2 * a.length + ps.length + 2 < k → spec_AfterSwaps.f k a ps = some (r, b) ∧ impl_AfterSwaps.f k a ps = some (r, b) := by
  have fails : (¬ Change a ∨ 99 < ps.length ∨ ¬ ∀ p ∈ ps, 0 ≤ p ∧ p ≤ (a.length : Int) - 2) → ∀ k, 2 * a.length + ps.length + 2 < k → spec_AfterSwaps.f k a ps = some ([], false) ∧ impl_AfterSwaps.f k a ps = some ([], false) := by
    intro h k hk
    obtain ⟨k, rfl, _⟩ := fuel (show 0 < k by omega)
    unfold spec_AfterSwaps.f impl_AfterSwaps.f
    rw [spec_l10Change_eq a _ ha (by omega), impl_isChange_eq a _ ha (by omega), Option.bind_some, Option.bind_some]
    simp only [decide_eq_true_eq]
    by_cases hc : Change a
    · rw [if_pos hc, if_pos hc]
      by_cases hn : 99 < ps.length
      · rw [if_pos (by omega)]
        simp only [spec_AfterSwaps.j0, impl_AfterSwaps.j0]
        rw [if_pos (by simp; omega)]
        simp
      · have hw : ¬ ∀ p ∈ ps, 0 ≤ p ∧ p ≤ (a.length : Int) - 2 := (h.resolve_left (fun e => e hc)).resolve_left hn
        have h10 := hc.1
        rw [if_neg (by omega), wrap_id (by omega) (by omega), impl_allWithin_eq ps _ _ hps _ (by omega), Option.bind_some]
        simp only [spec_AfterSwaps.j0, impl_AfterSwaps.j0]
        rw [if_neg (by simp; omega), spec_l1Own_eq a (by omega), Option.bind_some]
        have := spec_after_l0 a ps hc.1 hps ps.length k 0 a rfl (by omega) (by omega) (by omega)
        rw [List.drop_zero, if_neg hw] at this
        refine ⟨this, ?_⟩
        rw [if_pos (by rw [decide_eq_false hw]; rfl)]
    · rw [if_neg hc, if_neg hc]
      simp only [spec_AfterSwaps.j0, impl_AfterSwaps.j0]
      simp
  by_cases h : ¬ Change a ∨ 99 < ps.length ∨ ¬ ∀ p ∈ ps, 0 ≤ p ∧ p ≤ (a.length : Int) - 2
  · exact ⟨[], false, by simp, fails h⟩
  · have hc : Change a := Classical.byContradiction fun e => h (.inl e)
    have hn : ¬ 99 < ps.length := fun e => h (.inr (.inl e))
    have hw : ∀ p ∈ ps, 0 ≤ p ∧ p ≤ (a.length : Int) - 2 := Classical.byContradiction fun e => h (.inr (.inr e))
    have h10 := hc.1
    refine ⟨afterL a ps, true, by rw [afterL_length]; omega, fun k hk => ?_⟩
    obtain ⟨k, rfl, _⟩ := fuel (show 0 < k by omega)
    unfold spec_AfterSwaps.f impl_AfterSwaps.f
    rw [spec_l10Change_eq a _ ha (by omega), impl_isChange_eq a _ ha (by omega), Option.bind_some, Option.bind_some]
    simp only [decide_eq_true_eq]
    rw [if_pos hc, if_pos hc, if_neg (by omega), wrap_id (by omega) (by omega), impl_allWithin_eq ps _ _ hps _ (by omega), Option.bind_some]
    simp only [spec_AfterSwaps.j0, impl_AfterSwaps.j0]
    rw [if_neg (by simp; omega), spec_l1Own_eq a (by omega), Option.bind_some, if_neg (by rw [decide_eq_true hw]; simp), impl_Clone_eq a (by omega), Option.bind_some]
    have e1 := spec_after_l0 a ps hc.1 hps ps.length k 0 a rfl (by omega) (by omega) (by omega)
    have e2 := impl_after_l0 a ps hc.1 hps hw ps.length k 0 a rfl (by omega) (by omega) (by omega)
    rw [List.drop_zero, if_pos hw] at e1
    rw [List.drop_zero] at e2
    exact ⟨e1, e2⟩

/-! ### cuts -/
/-- The first k entries are all below k. -/
def cutB (l : List Int) (k : Nat) : Bool := (l.take k).all fun x => decide (x < (k : Int))
theorem asc_is (l : List Int) (hw : ∀ x ∈ l, 0 ≤ x ∧ x < (l.length : Int)) (h : ∀ j, j + 1 < l.length → l.getD j 0 < l.getD (j + 1) 0) (j : Nat) (hj : j < l.length) : l.getD j 0 = (j : Int) := by
  have hg : ∀ p, (hp : p < l.length) → l.getD p 0 = l[p] := fun p hp => by simp [List.getD, hp]
  have low : ∀ j, j < l.length → (j : Int) ≤ l.getD j 0 := by
    intro j
    induction j with
    | zero => intro hj; have := hw _ (List.getElem_mem hj); rw [hg 0 hj]; omega
    | succ j ih => intro hj; have := ih (by omega); have := h j hj; omega
  have high : ∀ d j, j + 1 + d = l.length → l.getD j 0 ≤ (j : Int) := by
    intro d
    induction d with
    | zero => intro j hj; have := hw _ (List.getElem_mem (show j < l.length by omega)); rw [hg j (by omega)]; omega
    | succ d ih => intro j hj; have := ih (j + 1) (by omega); have := h j (by omega); omega
  have := low j hj
  have := high (l.length - 1 - j) j (by omega)
  omega
theorem countP_one (P Q : Nat → Bool) (c : Nat) (n : Nat) (h : ∀ k, k < n → k ≠ c → P k = true → Q k = true) : (List.range n).countP P ≤ (List.range n).countP Q + (if c < n then 1 else 0) := by
  induction n with
  | zero => simp
  | succ n ih =>
    have ih := ih fun k hk => h k (by omega)
    rw [List.range_succ, List.countP_append, List.countP_append, List.countP_singleton, List.countP_singleton]
    by_cases g : n = c
    · subst g
      rw [if_neg (by omega)] at ih
      rw [if_pos (show n < n + 1 by omega)]
      split <;> split <;> omega
    · have hn := h n (by omega) g
      by_cases e : P n = true
      · rw [if_pos e, if_pos (hn e)]
        split at ih <;> split <;> omega
      · rw [if_neg e]
        split at ih <;> split <;> split <;> omega
theorem cut_swap (l : List Int) (p : Nat) (h : p + 1 < l.length) (k : Nat) (hk : k ≠ p + 1) : cutB (swapL l p) k = cutB l k := by
  obtain ⟨A, C, hA, e⟩ := split_at l p h
  generalize l.getD p 0 = a at e
  generalize l.getD (p + 1) 0 = b at e
  subst hA
  rw [e, swapL_split]
  unfold cutB
  rw [List.take_append, List.take_append]
  by_cases g : k ≤ A.length
  · rw [show k - A.length = 0 from by omega]
    simp
  · obtain ⟨d, hd⟩ : ∃ d, k - A.length = d + 2 := ⟨k - A.length - 2, by omega⟩
    rw [hd]
    simp only [List.take_succ_cons, List.all_append, List.all_cons]
    cases decide (a < (k : Int)) <;> cases decide (b < (k : Int)) <;> simp
theorem noncuts_le (m : Nat) : ∀ l : List Int, inv l = m → l.Nodup → (∀ x ∈ l, 0 ≤ x ∧ x < (l.length : Int)) → (List.range l.length).countP (fun k => !cutB l k) ≤ m := by
  induction m with
  | zero =>
    intro l hm hn hw
    have ha : ∀ j, j + 1 < l.length → l.getD j 0 < l.getD (j + 1) 0 := by
      rcases first_descent l with h | ⟨p, hp, _, hd⟩
      · exact h
      · have := inv_swap l p hp (by have := getD_ne l hn p hp; omega)
        omega
    rw [Nat.le_zero, List.countP_eq_zero]
    intro k hk
    have hk := List.mem_range.1 hk
    have : cutB l k = true := by
      unfold cutB
      rw [List.all_eq_true]
      intro x hx
      obtain ⟨j, hj, rfl⟩ := List.getElem_of_mem hx
      have hj' : j < k := by rw [List.length_take] at hj; omega
      have := asc_is l hw ha j (by omega)
      rw [List.getElem_take]
      have hg : l.getD j 0 = l[j] := by simp [List.getD, show j < l.length by omega]
      rw [decide_eq_true_eq]
      omega
    rw [this]
    simp
  | succ m ih =>
    intro l hm hn hw
    rcases first_descent l with h | ⟨p, hp, ha, hd⟩
    · have := (inv_of_asc l h).1
      omega
    have hlt : l.getD (p + 1) 0 < l.getD p 0 := by have := getD_ne l hn p hp; omega
    have hperm := swapL_perm l p hp
    have := ih (swapL l p) (by have := inv_swap l p hp hlt; omega) (hperm.nodup_iff.2 hn) (fun x hx => by rw [swapL_length]; exact hw x (hperm.mem_iff.1 hx))
    rw [swapL_length] at this
    have c := countP_one (fun k => !cutB l k) (fun k => !cutB (swapL l p) k) (p + 1) l.length (fun k _ hk e => by
      rw [cut_swap l p hp k hk]; exact e)
    rw [if_pos (by omega)] at c
    omega
theorem orb_iter {n : Nat} {f : Nat → Nat} (h : Per n f) (a p q : Nat) (hp : p < n) : Orb f (iter f a p) q ↔ Orb f p q := by
  induction a with
  | zero => exact Iff.rfl
  | succ a ih => exact (orb_step h _ q (iter_lt h a p hp)).trans ih
theorem cuts_le {l : List Int} (h : Change l) {V : Nat → Bool} {reps : List Nat} (t : Trav l.length (fun_of l) V reps) (hV : ∀ q, q < l.length → V q = true) : (List.range l.length).countP (cutB l) ≤ reps.length := by
  have hP := change_per l h
  have hex : ∀ k, k < l.length → ∃ i, i ∈ reps ∧ Orb (fun_of l) i k := fun k hk => (trav_orb t k).1 (hV k hk)
  have hlt := trav_reps_lt t
  rw [List.countP_eq_length_filter]
  have key : ∀ K : List Nat, K.Nodup → (∀ k ∈ K, k < l.length ∧ cutB l k = true) → K.length ≤ reps.length := by
    intro K hK hk
    have hch : ∃ g : Nat → Nat, ∀ k, k < l.length → g k ∈ reps ∧ Orb (fun_of l) (g k) k := by
      refine ⟨fun k => if hk : k < l.length then Classical.choose (hex k hk) else 0, fun k hk => ?_⟩
      simp only [dif_pos hk]
      exact Classical.choose_spec (hex k hk)
    obtain ⟨g, hg⟩ := hch
    have apart : ∀ k k', k < k' → k < l.length → k' < l.length → cutB l k' = true → g k = g k' → False := by
      intro k k' hkk hk hk' hc e
      obtain ⟨g1, a, ha⟩ := hg k hk
      obtain ⟨g2, o⟩ := hg k' hk'
      rw [← e] at o
      have o2 : Orb (fun_of l) k k' := by
        have := (orb_iter hP a (g k) k' (hlt _ g1)).2 o
        rwa [ha] at this
      obtain ⟨b, hb⟩ := o2
      have stay : ∀ b, iter (fun_of l) b k < k' := by
        intro b
        induction b with
        | zero => exact hkk
        | succ b ih =>
          show fun_of l (iter (fun_of l) b k) < k'
          generalize iter (fun_of l) b k = q at ih
          unfold cutB at hc
          rw [List.all_eq_true] at hc
          have hq : q < (l.take k').length := by rw [List.length_take]; omega
          have := hc _ (List.getElem_mem hq)
          rw [List.getElem_take, decide_eq_true_eq] at this
          unfold fun_of
          rw [show l.getD q 0 = l[q]'(by omega) from by simp [List.getD, show q < l.length by omega]]
          omega
      have := stay b
      omega
    have hn : (K.map g).Nodup := by
      refine List.pairwise_iff_getElem.2 fun i j hi hj hij e => ?_
      simp only [List.length_map] at hi hj
      simp only [List.getElem_map] at e
      have n1 := List.pairwise_iff_getElem.1 hK i j hi hj hij
      have k1 := hk _ (List.getElem_mem hi)
      have k2 := hk _ (List.getElem_mem hj)
      rcases Nat.lt_trichotomy K[i] K[j] with z | z | z
      · exact apart _ _ z k1.1 k2.1 k2.2 e
      · exact n1 z
      · exact apart _ _ z k2.1 k1.1 k1.2 e.symm
    have := List.Nodup.length_le_of_subset hn (l₂ := reps) (fun x hx => by
      obtain ⟨k, hk', rfl⟩ := List.mem_map.1 hx
      exact (hg k (hk k hk').1).1)
    simpa using this
  refine key _ (List.nodup_range.filter _) fun k hk => ?_
  have := List.mem_filter.1 hk
  exact ⟨List.mem_range.1 this.1, this.2⟩
/-- A change needs no more free swaps than side swaps. -/
theorem free_le {l : List Int} (h : Change l) {V : Nat → Bool} {reps : List Nat} (t : Trav l.length (fun_of l) V reps) (hV : ∀ q, q < l.length → V q = true) : l.length ≤ reps.length + inv l := by
  have h1 := cuts_le h t hV
  have h2 := noncuts_le (inv l) l rfl (change_nodup l h) (order_within l h.2)
  have h3 := List.length_eq_countP_add_countP (cutB l) (l := List.range l.length)
  rw [List.length_range] at h3
  have e : (List.range l.length).countP (fun k => decide ¬cutB l k = true) = (List.range l.length).countP (fun k => !cutB l k) := by
    refine List.countP_congr fun k _ => ?_
    simp
  rw [e] at h3
  omega
theorem part_per {n : Nat} {f : Nat → Nat} (h : Per n f) (h10 : n ≤ 10) (p : Nat) (hp : p < n) : part f (per f) p = 2520 := by
  obtain ⟨⟨h1, _, _⟩, h2⟩ := per_spec h p hp
  have : ∀ m, m ≤ 10 → 1 ≤ m → 2520 / m * m = 2520 := by decide
  exact this _ (by omega) h1
theorem sum_const (n c : Nat) (g : Nat → Nat) (hg : ∀ p, p < n → g p = c) : ((List.range n).map g).sum = n * c := by
  induction n with
  | zero => simp
  | succ n ih =>
    rw [List.range_succ, List.map_append, List.sum_append, ih fun p hp => hg p (by omega)]
    simp only [List.map_cons, List.map_nil, List.sum_cons, List.sum_nil]
    rw [hg n (by omega), Nat.succ_mul]
    omega
theorem per_sum {n : Nat} {f : Nat → Nat} (h : Per n f) (h10 : n ≤ 10) {V : Nat → Bool} {reps : List Nat} (t : Trav n f V reps) (hV : ∀ q, q < n → V q = true) : (reps.map (per f)).sum = n := by
  have e := worth_trav h (per f) (per_step h) h10 t
  unfold worth at e
  rw [sum_const n 2520 _ (fun p hp => by rw [hV p hp, if_pos rfl, part_per h h10 p hp])] at e
  omega

/-! ### backs -/
def sumR (n : Nat) (F : Nat → Nat) : Nat := ((List.range n).map F).sum
theorem sumR_succ (n : Nat) (F : Nat → Nat) : sumR (n + 1) F = sumR n F + F n := by
  unfold sumR
  rw [List.range_succ, List.map_append, List.sum_append]
  simp
theorem sumR_front (n : Nat) (F : Nat → Nat) : sumR (n + 1) F = F 0 + sumR n (fun i => F (i + 1)) := by
  induction n with
  | zero => simp [sumR]
  | succ n ih => rw [sumR_succ, ih, sumR_succ]; omega
theorem sumR_congr (n : Nat) (F G : Nat → Nat) (h : ∀ i, i < n → F i = G i) : sumR n F = sumR n G := by
  induction n with
  | zero => rfl
  | succ n ih => rw [sumR_succ, sumR_succ, ih fun i hi => h i (by omega), h n (by omega)]
theorem sumR_add (n : Nat) (F G : Nat → Nat) : sumR n (fun i => F i + G i) = sumR n F + sumR n G := by
  induction n with
  | zero => rfl
  | succ n ih => rw [sumR_succ, sumR_succ, sumR_succ, ih]; omega
theorem sumR_zero (n : Nat) : sumR n (fun _ => 0) = 0 := by
  induction n with
  | zero => rfl
  | succ n ih => rw [sumR_succ, ih]
theorem sumR_swap (n m : Nat) (F : Nat → Nat → Nat) : sumR n (fun i => sumR m (F i)) = sumR m (fun j => sumR n fun i => F i j) := by
  induction n with
  | zero => exact (sumR_zero m).symm
  | succ n ih =>
    rw [sumR_succ, ih, ← sumR_add]
    exact sumR_congr m _ _ fun j _ => (sumR_succ n fun i => F i j).symm
theorem perm_of_cover : ∀ (r l : List Nat), r.Nodup → r ⊆ l → l.length ≤ r.length → l.Perm r
  | [], l, _, _, hl => by
    have : l = [] := List.eq_nil_of_length_eq_zero (by simpa using hl)
    subst this
    exact List.Perm.refl _
  | a :: t, l, hn, hs, hl => by
    have ha : a ∈ l := hs List.mem_cons_self
    have hc := List.nodup_cons.1 hn
    have hlen := List.length_erase_of_mem ha
    have hpos := List.length_pos_of_mem ha
    have ht : t ⊆ l.erase a := fun x hx => (List.mem_erase_of_ne (by rintro rfl; exact hc.1 hx)).2 (hs (List.mem_cons_of_mem _ hx))
    have hl' : l.length ≤ t.length + 1 := by simpa using hl
    exact (List.perm_cons_erase ha).trans ((perm_of_cover t (l.erase a) hc.2 ht (by omega)).cons a)
theorem sum_perm {a b : List Nat} (h : a.Perm b) : a.sum = b.sum := by
  induction h with
  | nil => rfl
  | cons x _ ih => simp [ih]
  | swap x y l => simp; omega
  | trans _ _ i1 i2 => exact i1.trans i2
theorem sumR_per {n : Nat} {f : Nat → Nat} (h : Per n f) (F : Nat → Nat) : sumR n (fun i => F (f i)) = sumR n F := by
  have hn : ((List.range n).map f).Nodup := by
    refine List.pairwise_iff_getElem.2 fun i j hi hj hij e => ?_
    simp only [List.length_map, List.length_range] at hi hj
    simp only [List.getElem_map, List.getElem_range] at e
    have := h.inj i j hi hj e
    omega
  have hp := perm_of_cover ((List.range n).map f) (List.range n) hn (fun x hx => by
    obtain ⟨k, hk, rfl⟩ := List.mem_map.1 hx
    exact List.mem_range.2 (h.lt k (List.mem_range.1 hk))) (by simp)
  have := sum_perm (hp.map F)
  rw [List.map_map] at this
  exact this.symm
theorem countP_sumR (P : Int → Bool) (l : List Int) : l.countP P = sumR l.length fun j => if P (l.getD j 0) = true then 1 else 0 := by
  induction l with
  | nil => rfl
  | cons a l ih =>
    rw [List.countP_cons, List.length_cons, sumR_front, ih, Nat.add_comm]
    rfl
theorem inv_sumR (l : List Int) : inv l = sumR l.length fun i => sumR l.length fun j => if i < j ∧ l.getD j 0 < l.getD i 0 then 1 else 0 := by
  induction l with
  | nil => rfl
  | cons a l ih =>
    rw [inv, List.length_cons, sumR_front, sumR_front, if_neg (by omega), Nat.zero_add, ih, countP_sumR]
    congr 1
    · refine sumR_congr _ _ _ fun j _ => ?_
      rw [getD_cons]
      simp
    · refine sumR_congr _ _ _ fun i _ => ?_
      rw [sumR_front, if_neg (by omega), Nat.zero_add]
      refine sumR_congr _ _ _ fun j _ => ?_
      rw [getD_cons, getD_cons]
      by_cases g : i < j ∧ l.getD j 0 < l.getD i 0
      · rw [if_pos g, if_pos ⟨by omega, g.2⟩]
      · rw [if_neg g, if_neg (fun e => g ⟨by omega, e.2⟩)]
/-- r leads back from l. -/
def Leads (l r : List Int) : Prop := r.length = l.length ∧ ∀ i, i < l.length → r.getD (fun_of l i) 0 = (i : Int)
theorem fun_rd (l : List Int) (h : Change l) (p : Nat) (hp : p < l.length) : l.getD p 0 = ((fun_of l p : Nat) : Int) := by
  have := order_within l h.2 _ (List.getElem_mem hp)
  unfold fun_of
  rw [show l.getD p 0 = l[p] from by simp [List.getD, hp]]
  omega
section
variable {l r : List Int} (h : Change l) (b : Leads l r)
include h b
omit h in
theorem leads_fun (i : Nat) (hi : i < l.length) : fun_of r (fun_of l i) = i := by
  have := b.2 i hi
  show (r.getD (fun_of l i) 0).toNat = i
  rw [this]
  exact Int.toNat_natCast i
theorem leads_change : Change r := by
  refine ⟨by rw [b.1]; exact h.1, fun j hj => ?_⟩
  rw [b.1] at hj
  have h1 := (change_per l h).lt j hj
  have := b.2 j hj
  rw [show r.getD (fun_of l j) 0 = r[fun_of l j]'(by rw [b.1]; exact h1) from by simp [List.getD, show fun_of l j < r.length by rw [b.1]; exact h1]] at this
  rw [← this]
  exact List.getElem_mem _
theorem leads_back : Leads r l := by
  have hr := leads_change h b
  have pr := change_per r hr
  refine ⟨b.1.symm, fun j hj => ?_⟩
  have h1 : fun_of r j < r.length := pr.lt j hj
  have h2 := leads_fun b (fun_of r j) (by rw [← b.1]; exact h1)
  have h3 := pr.inj _ _ (by rw [b.1]; exact (change_per l h).lt _ (by rw [← b.1]; exact h1)) hj h2
  rw [fun_rd l h _ (by rw [← b.1]; exact h1), h3]
theorem leads_iter (m p : Nat) (hp : p < l.length) : iter (fun_of r) m (iter (fun_of l) m p) = p := by
  induction m generalizing p with
  | zero => rfl
  | succ m ih =>
    have hP := change_per l h
    rw [iter_add (fun_of r) m 1]
    show iter (fun_of r) m (fun_of r (fun_of l (iter (fun_of l) m p))) = p
    rw [leads_fun b _ (iter_lt hP m p hp)]
    exact ih p hp
theorem leads_isper (m p : Nat) (hp : p < l.length) (e : iter (fun_of l) m p = p) : iter (fun_of r) m p = p := by
  have := leads_iter h b m p hp
  rwa [e] at this
theorem leads_per (p : Nat) (hp : p < l.length) : per (fun_of r) p = per (fun_of l) p := by
  obtain ⟨⟨h1, h2, h3⟩, _⟩ := per_spec (change_per l h) p hp
  refine per_eq ⟨h1, leads_isper h b _ p hp h2, fun k a c e => h3 k a c ?_⟩
  exact leads_isper (leads_change h b) (leads_back h b) k p (by rw [b.1]; exact hp) e
/-- A change and that which leads back have as many cycles, -/
theorem leads_cycles {V V' : Nat → Bool} {reps reps' : List Nat} (t : Trav l.length (fun_of l) V reps) (hV : ∀ q, q < l.length → V q = true) (t' : Trav r.length (fun_of r) V' reps') (hV' : ∀ q, q < r.length → V' q = true) : reps.length = reps'.length := by
  have hr := leads_change h b
  have e1 := worth_trav (change_per l h) (fun _ => 1) (fun _ _ => rfl) h.1.2 t
  have e2 := worth_trav (change_per r hr) (fun _ => 1) (fun _ _ => rfl) hr.1.2 t'
  have e : worth l.length (fun_of l) (fun _ => 1) V = worth r.length (fun_of r) (fun _ => 1) V' := by
    unfold worth
    rw [b.1]
    congr 1
    refine List.map_congr_left fun q hq => ?_
    have hq := List.mem_range.1 hq
    rw [hV q hq, hV' q (by rw [b.1]; exact hq)]
    unfold part
    rw [leads_per h b q hq]
  have one : ∀ z : List Nat, (z.map fun _ => 1).sum = z.length := fun z => by
    induction z with
    | nil => rfl
    | cons b z ih => simp at ih ⊢; omega
  rw [one] at e1 e2
  omega
/-- and as many pairs out of order. -/
theorem leads_inv : inv r = inv l := by
  have hP := change_per l h
  rw [inv_sumR, inv_sumR, b.1]
  have s1 := sumR_per hP fun a => sumR l.length fun c => if a < c ∧ r.getD c 0 < r.getD a 0 then 1 else 0
  rw [← s1]
  have s2 : ∀ i, i < l.length → (sumR l.length fun c => if fun_of l i < c ∧ r.getD c 0 < r.getD (fun_of l i) 0 then 1 else 0) = sumR l.length fun j => if j < i ∧ l.getD i 0 < l.getD j 0 then 1 else 0 := by
    intro i hi
    have s3 := sumR_per hP fun c => if fun_of l i < c ∧ r.getD c 0 < r.getD (fun_of l i) 0 then 1 else 0
    rw [← s3]
    refine sumR_congr _ _ _ fun j hj => ?_
    have e1 := b.2 i hi
    have e2 := b.2 j hj
    have e3 := fun_rd l h i hi
    have e4 := fun_rd l h j hj
    by_cases g : j < i ∧ l.getD i 0 < l.getD j 0
    · rw [if_pos g, if_pos ⟨by omega, by omega⟩]
    · rw [if_neg g, if_neg (fun e => g ⟨by omega, by omega⟩)]
  rw [sumR_congr _ _ _ s2, sumR_swap]
end

/-! ### vals -/
theorem inv_le2 (l : List Int) : 2 * inv l + l.length ≤ l.length * l.length := by
  induction l with
  | nil => exact Nat.le_refl _
  | cons a l ih =>
    rw [inv, List.length_cons, Nat.mul_add, Nat.add_mul, Nat.mul_add]
    have := List.countP_le_length (p := fun b => decide (b < a)) (l := l)
    omega
theorem side_val {l : List Int} (h : Change l) (k : Nat) (hk : 300 < k) : spec_SideSwaps.f k l = some (((inv l : Nat) : Int), true) ∧ impl_SideSwaps.f k l = some (((inv l : Nat) : Int), true) := by
  have h10 := h.1
  have hm : l.length * (l.length + 2) ≤ 10 * 12 := Nat.mul_le_mul (by omega) (by omega)
  unfold spec_SideSwaps.f impl_SideSwaps.f
  rw [spec_l10Change_eq l k (by omega) (by omega), impl_isChange_eq l k (by omega) (by omega), Option.bind_some, Option.bind_some]
  simp only [decide_eq_true_eq]
  rw [if_pos h, if_pos h, spec_l10Pairs_eq l (by omega) k (by omega), Option.bind_some]
  exact ⟨rfl, (impl_swaps_both l (by omega) (l.length * (l.length + 2)) k (by omega)).1 0 (by omega) (by simp)⟩
theorem cyc_val {l : List Int} (h : Change l) : ∃ (reps : List Nat) (V : Nat → Bool), Trav l.length (fun_of l) V reps ∧ (∀ q, q < l.length → V q = true) ∧
    ∀ k, 400 < k → (spec_FreeSwaps.f k l = some ((l.length : Int) - reps.length, true) ∧ impl_FreeSwaps.f k l = some ((l.length : Int) - reps.length, true)) ∧
      spec_HoleMoves.f k l = some ((((reps.map (holeW l.length (fun_of l))).sum : Nat) : Int), true) ∧ impl_HoleMoves.f k l = some ((((reps.map (holeW l.length (fun_of l))).sum : Nat) : Int), true) := by
  have h10 := h.1
  have hP := change_per l h
  obtain ⟨reps, V, a, t, hv, ha, hs⟩ := spec_cycles_all h
  obtain ⟨more, V', t', hv', hi⟩ := impl_cycles_all h
  have e := trav_sum hP (holeW l.length (fun_of l)) (holeW_step hP) h10.2 t t' hv hv'
  have e1 := trav_sum hP (fun _ => 1) (fun _ _ => rfl) h10.2 t t' hv hv'
  have one : ∀ z : List Nat, (z.map fun _ => 1).sum = z.length := fun z => by
    induction z with
    | nil => rfl
    | cons b z ih => simp at ih ⊢; omega
  rw [one, one] at e1
  have ha2 : ∀ j, (hj : j < reps.length) → (Orb (fun_of l) reps[j] (l.length - 1) ↔ (j : Int) = a) := by
    intro j hj
    refine ⟨fun o => (ha j hj o).symm, fun z => ?_⟩
    obtain ⟨i, hin, o⟩ := (trav_orb t (l.length - 1)).1 (hv _ (by omega))
    obtain ⟨j2, hj2, rfl⟩ := List.getElem_of_mem hin
    have := ha j2 hj2 o
    have : j = j2 := by omega
    subst this
    exact o
  have hb2 : ∀ j, (hj : j < ((l.length - 1) :: more).length) → (Orb (fun_of l) ((l.length - 1) :: more)[j] (l.length - 1) ↔ (j : Int) = 0) := by
    intro j hj
    cases j with
    | zero => exact ⟨fun _ => rfl, fun _ => ⟨0, rfl⟩⟩
    | succ j =>
      refine ⟨fun o => ?_, fun z => by omega⟩
      exact absurd o (trav_apart hP t' 0 (j + 1) (by simp) hj (l.length - 1) (by omega) ⟨0, rfl⟩)
  have l1 := trav_len hP t
  have l2 := trav_len hP t'
  refine ⟨reps, V, t, hv, fun k hk => ⟨?_, ?_⟩⟩
  · unfold spec_FreeSwaps.f impl_FreeSwaps.f
    rw [spec_l10Change_eq l k (by omega) (by omega), impl_isChange_eq l k (by omega) (by omega), Option.bind_some, Option.bind_some]
    simp only [decide_eq_true_eq]
    rw [if_pos h, if_pos h, hs k (by omega), hi k (by omega), Option.bind_some, Option.bind_some]
    dsimp only
    rw [perI_length, perI_length, ← e1, wrap_id (by omega) (by omega)]
    exact ⟨rfl, rfl⟩
  · unfold spec_HoleMoves.f impl_HoleMoves.f
    rw [spec_l10Change_eq l k (by omega) (by omega), impl_isChange_eq l k (by omega) (by omega), Option.bind_some, Option.bind_some]
    simp only [decide_eq_true_eq]
    rw [if_pos h, if_pos h, hs k (by omega), hi k (by omega), Option.bind_some, Option.bind_some]
    dsimp only
    have s1 := spec_hole_l0 (perI l reps) (reps.map (holeW l.length (fun_of l))) a (by simp [perI_length]) (by rw [perI_length]; omega) (perI_range h reps (trav_reps_lt t)) (hole_value h reps (trav_reps_lt t) a ha2) (perI l reps).length k 0 0 (by omega) (by omega) (by rw [perI_length]; omega) (by omega) (by omega)
    have s2 := impl_hole_l0 (perI l ((l.length - 1) :: more)) (((l.length - 1) :: more).map (holeW l.length (fun_of l))) (by simp [perI_length]) (by rw [perI_length]; omega) (perI_range h _ (trav_reps_lt t')) (hole_value h _ (trav_reps_lt t') 0 hb2) (perI l ((l.length - 1) :: more)).length k 0 0 (by omega) (by omega) (by rw [perI_length]; omega) (by omega) (by omega)
    rw [List.drop_zero, Int.zero_add] at s1 s2
    rw [← e] at s2
    exact ⟨s1, s2⟩
/-- Each cycle costs at most three hole moves for each free swap. -/
theorem hole_le {l : List Int} (h : Change l) {V : Nat → Bool} {reps : List Nat} (t : Trav l.length (fun_of l) V reps) (hV : ∀ q, q < l.length → V q = true) : (reps.map (holeW l.length (fun_of l))).sum + 3 * reps.length ≤ 3 * l.length := by
  have hP := change_per l h
  have e := per_sum hP h.1.2 t hV
  have key : ∀ z : List Nat, (∀ i ∈ z, i < l.length) → (z.map (holeW l.length (fun_of l))).sum + 3 * z.length ≤ 3 * (z.map (per (fun_of l))).sum := by
    intro z
    induction z with
    | nil => intro _; simp
    | cons a z ih =>
      intro hz
      have ih := ih fun i hi => hz i (List.mem_cons_of_mem _ hi)
      obtain ⟨⟨h1, _, _⟩, _⟩ := per_spec hP a (hz a List.mem_cons_self)
      have ha : holeW l.length (fun_of l) a + 3 ≤ 3 * per (fun_of l) a := by
        unfold holeW
        split
        · omega
        · split <;> omega
      simp only [List.map_cons, List.sum_cons, List.length_cons]
      omega
  have := key reps (trav_reps_lt t)
  omega
theorem first_path (m : Nat) : ∀ l : List Int, inv l = m → l.Nodup → 1 ≤ l.length → l.length ≤ 10 → m ≤ 100 → ∃ r : List Int, (r.length = m ∧ (∀ x ∈ r, 0 ≤ x ∧ x ≤ (l.length : Int) - 2) ∧ (∀ j, j + 1 < l.length → (afterL l r).getD j 0 < (afterL l r).getD (j + 1) 0) ∧ (afterL l r).Perm l) ∧
    (∀ (out : List Int) (k : Nat), out.length + m ≤ 1000 → 200 * m + 200 ≤ k → spec_FirstSideSwaps.l0 k out l = some (out ++ r, true)) ∧
    (∀ (out : List Int) (k i : Nat), out.length + m ≤ 1000 → 200 * m + 200 ≤ k → i < l.length → (∀ j, j < i → l.getD j 0 < l.getD (j + 1) 0) → impl_FirstSideSwaps.l0 k out l (i : Int) = some (out ++ r, true)) := by
  induction m with
  | zero =>
    intro l hm hn h1 h2 _
    have ha : ∀ j, j + 1 < l.length → l.getD j 0 < l.getD (j + 1) 0 := by
      rcases first_descent l with h | ⟨p, hp, _, hd⟩
      · exact h
      · have := inv_swap l p hp (by have := getD_ne l hn p hp; omega)
        omega
    refine ⟨[], ⟨rfl, fun x hx => absurd hx (by simp), ha, List.Perm.refl _⟩, fun out k _ hk => ?_, fun out k i _ hk hi _ => ?_⟩
    · obtain ⟨k, rfl, _⟩ := fuel (show 199 < k by omega)
      have hq : l.length * (l.length + 2) ≤ 10 * 12 := Nat.mul_le_mul (by omega) (by omega)
      simp only [spec_FirstSideSwaps.l0]
      rw [spec_l10Pairs_eq l (by omega) k (by omega), Option.bind_some, if_neg (by omega), List.append_nil]
    · rw [List.append_nil]
      exact impl_first_end l out h2 ha (l.length - i) k i hi rfl (by omega)
  | succ m ih =>
    intro l hm hn h1 h2 h100
    rcases first_descent l with h | ⟨p, hp, ha, hd⟩
    · have := (inv_of_asc l h).1
      omega
    have hlt : l.getD (p + 1) 0 < l.getD p 0 := by have := getD_ne l hn p hp; omega
    obtain ⟨r, ⟨hr, hrw, hra, hrp⟩, hs, hi⟩ := ih (swapL l p) (by have := inv_swap l p hp hlt; omega) ((swapL_perm l p hp).nodup_iff.2 hn) (by rw [swapL_length]; exact h1) (by rw [swapL_length]; exact h2) (by omega)
    rw [swapL_length] at hrw hra
    refine ⟨(p : Int) :: r, ⟨by simp [hr], fun x hx => ?_, hra, hrp.trans (swapL_perm l p hp)⟩, fun out k ho hk => ?_, fun out k i ho hk hil hai => ?_⟩
    · rcases List.mem_cons.1 hx with e | e
      · subst e; omega
      · exact hrw x e
    · obtain ⟨k, rfl, _⟩ := fuel (show 0 < k by omega)
      have hq : l.length * (l.length + 2) ≤ 10 * 12 := Nat.mul_le_mul (by omega) (by omega)
      simp only [spec_FirstSideSwaps.l0]
      rw [spec_l10Pairs_eq l (by omega) k (by omega), Option.bind_some, if_pos (by omega)]
      obtain ⟨k', rfl⟩ : ∃ k', k = k' + p + 1 := ⟨k - p - 1, by omega⟩
      have e := spec_first_scan l out h2 p hp (by omega) ha hd p k' 0 (by omega) (by omega)
      rw [show (0 : Int) = ((0 : Nat) : Int) from rfl, e, hs (out ++ [(p : Int)]) k' (by simp; omega) (by omega), List.append_assoc]
      rfl
    · have hip : i ≤ p := by
        rcases Nat.lt_or_ge p i with g | g
        · exact absurd (hai p g) hd
        · exact g
      obtain ⟨k', hk'⟩ : ∃ k', k = k' + (p - i) + 1 := ⟨k - (p - i) - 1, by omega⟩
      rw [hk', impl_first_scan l out h2 p hp (by omega) ha hd (p - i) k' i hip rfl]
      rw [hi (out ++ [(p : Int)]) k' (p - 1) (by simp; omega) (by omega) (by rw [swapL_length]; omega), List.append_assoc]
      · rfl
      · intro j hj
        rw [swapL_before l p j (by omega), swapL_before l p (j + 1) (by omega)]
        exact ha j (by omega)
theorem first_val {l : List Int} (h : Change l) : ∃ r : List Int, (r.length = inv l ∧ (∀ x ∈ r, 0 ≤ x ∧ x ≤ (l.length : Int) - 2) ∧ ∀ j, j < l.length → (afterL l r).getD j 0 = (j : Int)) ∧ ∀ k, 30000 < k → spec_FirstSideSwaps.f k l = some (r, true) ∧ impl_FirstSideSwaps.f k l = some (r, true) := by
  have h10 := h.1
  have hq : l.length * l.length ≤ 10 * 10 := Nat.mul_le_mul (by omega) (by omega)
  have hi := inv_le2 l
  obtain ⟨r, ⟨hr, hw, ha, hp⟩, hs, hm⟩ := first_path (inv l) l rfl (change_nodup l h) h10.1 h10.2 (by omega)
  refine ⟨r, ⟨hr, hw, fun j hj => ?_⟩, fun k hk => ?_⟩
  · refine asc_is (afterL l r) (fun x hx => ?_) (fun j hj => ha j (by rwa [afterL_length] at hj)) j (by rw [afterL_length]; exact hj)
    rw [afterL_length]
    exact order_within l h.2 x (hp.mem_iff.1 hx)
  · unfold spec_FirstSideSwaps.f impl_FirstSideSwaps.f
    rw [Option.bind_some, spec_l10Change_eq l k (by omega) (by omega), impl_isChange_eq l k (by omega) (by omega), Option.bind_some, Option.bind_some]
    simp only [decide_eq_true_eq]
    rw [if_pos h, if_pos h, spec_l1Own_eq l (by omega), impl_Clone_eq l (by omega), Option.bind_some, Option.bind_some]
    exact ⟨hs [] k (by simp; omega) (by omega), hm [] k 0 (by simp; omega) (by omega) (by omega) (fun j hj => by omega)⟩
theorem after_val {a ps : List Int} (hc : Change a) (hn : ps.length ≤ 99) (hw : ∀ p ∈ ps, 0 ≤ p ∧ p ≤ (a.length : Int) - 2) (k : Nat) (hk : 300 < k) : impl_AfterSwaps.f k a ps = some (afterL a ps, true) := by
  have h10 := hc.1
  obtain ⟨k, rfl, _⟩ := fuel (show 0 < k by omega)
  unfold impl_AfterSwaps.f
  rw [impl_isChange_eq a _ (by omega) (by omega), Option.bind_some]
  simp only [decide_eq_true_eq]
  rw [if_pos hc, if_neg (by omega), wrap_id (by omega) (by omega), impl_allWithin_eq ps _ _ (by omega) _ (by omega), Option.bind_some]
  simp only [impl_AfterSwaps.j0]
  rw [if_neg (by rw [decide_eq_true hw]; simp), impl_Clone_eq a (by omega), Option.bind_some]
  have e2 := impl_after_l0 a ps hc.1 (by omega) hw ps.length k 0 a rfl (by omega) (by omega) (by omega)
  rw [List.drop_zero] at e2
  exact e2
theorem back_leads {l : List Int} (h : Change l) (d : Nat) : ∀ (k i : Nat) (x : List Int), x.length = l.length → i ≤ l.length → l.length - i = d → d < k → (∀ j, j < i → x.getD (fun_of l j) 0 = (j : Int)) →
    ∃ r : List Int, Leads l r ∧ ∀ k', d < k' → spec_BackChange.l0 k' l x i = some (r, true) := by
  have h10 := h.1
  have hP := change_per l h
  induction d with
  | zero =>
    intro k i x hx hi hd hk hj
    refine ⟨x, ⟨hx, fun j hj' => hj j (by omega)⟩, fun k' hk' => ?_⟩
    obtain ⟨k', rfl, _⟩ := fuel hk'
    simp only [spec_BackChange.l0]
    rw [if_neg (by omega)]
  | succ d ih =>
    intro k i x hx hi hd hk hj
    have hlt := hP.lt i (by omega)
    obtain ⟨r, hr, hs⟩ := ih k (i + 1) (x.set (fun_of l i) (i : Int)) (by simp [hx]) (by omega) (by omega) (by omega) (by
      intro j hj2
      by_cases g : j = i
      · subst g
        simp [List.getD, List.getElem?_set, hx, hlt]
      · have hne : fun_of l i ≠ fun_of l j := fun e => g (hP.inj j i (by omega) (by omega) e.symm)
        have := hj j (by omega)
        rw [List.getD_eq_getElem?_getD, List.getElem?_set_ne hne, ← List.getD_eq_getElem?_getD]
        exact this)
    refine ⟨r, hr, fun k' hk' => ?_⟩
    obtain ⟨k', rfl, _⟩ := fuel hk'
    have e := rd_fun l h i (by omega)
    simp only [spec_BackChange.l0]
    rw [if_pos (by omega), if_pos (by omega), e, if_pos (by omega), if_pos (by omega), wrap_one (n := l.length) (by omega) (by omega), Int.toNat_natCast]
    exact hs k' (by omega)
theorem back_val {l : List Int} (h : Change l) : ∃ r : List Int, Leads l r ∧ ∀ k, 300 < k → spec_BackChange.f k l = some (r, true) ∧ impl_BackChange.f k l = some (r, true) := by
  have h10 := h.1
  obtain ⟨r, hr, e⟩ := back_leads h l.length (l.length + 1) 0 (List.replicate l.length 0) (by simp) (by omega) (by omega) (by omega) (fun j hj => by omega)
  refine ⟨r, hr, fun k hk => ?_⟩
  have e' := e k (by omega)
  unfold spec_BackChange.f impl_BackChange.f
  rw [spec_l10Change_eq l k (by omega) (by omega), impl_isChange_eq l k (by omega) (by omega), Option.bind_some, Option.bind_some]
  simp only [decide_eq_true_eq]
  rw [if_pos h, if_pos h, if_pos (by omega), if_pos (by omega), if_pos (by omega), if_pos (by omega), back_same, Int.toNat_natCast]
  exact ⟨e', e'⟩
theorem after_no (a ps : List Int) (ha : a.length ≤ 1048576) (hps : ps.length ≤ 1048576) (hno : ¬ (Change a ∧ ps.length ≤ 99 ∧ ∀ p ∈ ps, 0 ≤ p ∧ p ≤ (a.length : Int) - 2)) (k : Nat) (hk : 2 * a.length + ps.length + 2 < k) : impl_AfterSwaps.f k a ps = some ([], false) := by
  have h : (¬ Change a ∨ 99 < ps.length ∨ ¬ ∀ p ∈ ps, 0 ≤ p ∧ p ≤ (a.length : Int) - 2) := by
    refine Classical.byContradiction fun e => hno ⟨Classical.byContradiction fun e2 => e (.inl e2), ?_, Classical.byContradiction fun e2 => e (.inr (.inr e2))⟩
    exact Nat.le_of_not_lt fun e2 => e (.inr (.inl e2))
  refine (?_ : spec_AfterSwaps.f k a ps = some ([], false) ∧ impl_AfterSwaps.f k a ps = some ([], false)).2
  obtain ⟨k, rfl, _⟩ := fuel (show 0 < k by omega)
  unfold spec_AfterSwaps.f impl_AfterSwaps.f
  rw [spec_l10Change_eq a _ ha (by omega), impl_isChange_eq a _ ha (by omega), Option.bind_some, Option.bind_some]
  simp only [decide_eq_true_eq]
  by_cases hc : Change a
  · rw [if_pos hc, if_pos hc]
    by_cases hn : 99 < ps.length
    · rw [if_pos (by omega)]
      simp only [spec_AfterSwaps.j0, impl_AfterSwaps.j0]
      rw [if_pos (by simp; omega)]
      simp
    · have hw : ¬ ∀ p ∈ ps, 0 ≤ p ∧ p ≤ (a.length : Int) - 2 := (h.resolve_left (fun e => e hc)).resolve_left hn
      have h10 := hc.1
      rw [if_neg (by omega), wrap_id (by omega) (by omega), impl_allWithin_eq ps _ _ hps _ (by omega), Option.bind_some]
      simp only [spec_AfterSwaps.j0, impl_AfterSwaps.j0]
      rw [if_neg (by simp; omega), spec_l1Own_eq a (by omega), Option.bind_some]
      have := spec_after_l0 a ps hc.1 hps ps.length k 0 a rfl (by omega) (by omega) (by omega)
      rw [List.drop_zero, if_neg hw] at this
      refine ⟨this, ?_⟩
      rw [if_pos (by rw [decide_eq_false hw]; rfl)]
  · rw [if_neg hc, if_neg hc]
    simp only [spec_AfterSwaps.j0, impl_AfterSwaps.j0]
    simp

/-! ### draws -/
theorem u8_bounds {x : Int} (h : (Lit.int .u8 x).wf = true) : 0 ≤ x ∧ x ≤ 255 := by
  have h := h
  simp [Lit.wf, IntKind.min, IntKind.max, IntKind.signed, IntKind.bits] at h
  omega
theorem rd_bounds (l : List Int) (hb : ∀ x ∈ l, 0 ≤ x ∧ x ≤ 255) (i : Int) : 0 ≤ rd l i ∧ rd l i ≤ 255 := by
  unfold rd
  cases h : l[i.toNat]? with
  | none => simp [List.getD, h]
  | some x =>
    simp only [List.getD, h, Option.getD_some]
    exact hb x (List.mem_of_getElem? h)
theorem and255 (x : Int) : 0 ≤ Go.bits .and .u64 (IntKind.u64.wrap x / 1099511627776) 255 ∧ Go.bits .and .u64 (IntKind.u64.wrap x / 1099511627776) 255 ≤ 255 := by
  have h : 0 ≤ IntKind.u64.wrap x ∧ IntKind.u64.wrap x < 18446744073709551616 := by
    rw [IntKind.wrap_u64]
    omega
  generalize IntKind.u64.wrap x = y at h
  have e : y / 1099511627776 = ((y / 1099511627776).toNat : Int) := by omega
  rw [e, show (255 : Int) = ((255 : Nat) : Int) from rfl, (bits_nat .u64 64 (by decide) (fun n h h' => by rw [IntKind.wrap_u64]; omega) _ 255 (by omega) (by omega)).1]
  have := Nat.and_le_right (n := (y / 1099511627776).toNat) (m := 255)
  omega
theorem next_ok (code : List Int) (hb : ∀ x ∈ code, 0 ≤ x ∧ x ≤ 255) (a : Nat) (ha : a ≤ 1000) (seed : Int) : ∃ (b s : Int), spec_l1Cur_next.f code a seed = some (b, ((a + 1 : Nat) : Int), s) ∧ 0 ≤ b ∧ b ≤ 255 := by
  have h1 := rd_bounds code hb a
  unfold spec_l1Cur_next.f
  rw [wrap_id (x := rd code a) (by omega) (by omega), wrap_one (n := 2000) (by omega) (by omega)]
  have small : ∀ y : Int, 0 ≤ wrap64 (Go.bits .and .u64 (IntKind.u64.wrap y / 1099511627776) 255) ∧ wrap64 (Go.bits .and .u64 (IntKind.u64.wrap y / 1099511627776) 255) ≤ 255 := fun y => by
    have := and255 y
    rw [wrap_id (by omega) (by omega)]
    exact this
  split
  · rw [if_pos (by omega)]
    split
    · exact ⟨_, _, rfl, h1.1, h1.2⟩
    · exact ⟨_, _, rfl, (small _).1, (small _).2⟩
  · split
    · exact ⟨_, _, rfl, by omega, by omega⟩
    · exact ⟨_, _, rfl, (small _).1, (small _).2⟩
theorem pick_ok (code : List Int) (hb : ∀ x ∈ code, 0 ≤ x ∧ x ≤ 255) (a : Nat) (ha : a ≤ 900) (seed n : Int) (h1 : 1 < n) (h2 : n ≤ 200) : ∃ (r s : Int), spec_l1Cur_pick.f code a seed n = some (r, ((a + 1 : Nat) : Int), s) ∧ 0 ≤ r ∧ r < n := by
  obtain ⟨b, s, e, b0, b1⟩ := next_ok code hb a (by omega) seed
  unfold spec_l1Cur_pick.f
  rw [if_neg (by omega), e, Option.bind_some, if_neg (by omega), if_neg (by omega)]
  exact ⟨_, _, rfl, Int.tmod_nonneg _ b0, Int.tmod_lt_of_pos _ (by omega)⟩
theorem one_ok (code : List Int) (hb : ∀ x ∈ code, 0 ≤ x ∧ x ≤ 255) (a : Nat) (ha : a ≤ 900) (seed n : Int) (h1 : 1 < n) (h2 : n ≤ 200) : ∃ (r : Bool) (s : Int), spec_l1Cur_one.f code a seed n = some (r, ((a + 1 : Nat) : Int), s) := by
  obtain ⟨b, s, e, _⟩ := pick_ok code hb a ha seed n h1 h2
  unfold spec_l1Cur_one.f
  rw [e]
  exact ⟨_, _, rfl⟩
theorem among_ok (code : List Int) (hb : ∀ x ∈ code, 0 ≤ x ∧ x ≤ 255) (a : Nat) (ha : a ≤ 900) (seed : Int) (l : List Int) (h1 : 1 < l.length) (h2 : l.length ≤ 200) : ∃ (r s : Int), spec_l1Cur_among.f code a seed l = some (r, ((a + 1 : Nat) : Int), s) := by
  obtain ⟨b, s, e, b0, b1⟩ := pick_ok code hb a ha seed (l.length : Int) (by omega) (by omega)
  unfold spec_l1Cur_among.f
  rw [e, Option.bind_some, if_pos b0, if_pos b1]
  exact ⟨_, _, rfl⟩

/-! ### ev -/
theorem bne_self {α : Type} [BEq α] [LawfulBEq α] (a : α) : ¬ (a != a) = true := by simp
theorem Ev.succ {α : Type} {g : Nat → Option α} {r : α} (h : Ev (fun k => g (k + 1)) r) : Ev g r := by
  obtain ⟨K, h⟩ := h
  refine ⟨K + 1, fun k hk => ?_⟩
  obtain ⟨k, rfl, hk'⟩ := fuel (show K < k by omega)
  exact h k hk'
theorem Ev.pos {α : Type} {g f : Nat → Option α} {r : α} {c : Prop} [Decidable c] (hc : c) (h : Ev g r) : Ev (fun k => if c then g k else f k) r := by
  obtain ⟨K, h⟩ := h
  exact ⟨K, fun k hk => by show (if c then g k else f k) = some r; rw [if_pos hc]; exact h k hk⟩
theorem Ev.neg {α : Type} {g f : Nat → Option α} {r : α} {c : Prop} [Decidable c] (hc : ¬ c) (h : Ev f r) : Ev (fun k => if c then g k else f k) r := by
  obtain ⟨K, h⟩ := h
  exact ⟨K, fun k hk => by show (if c then g k else f k) = some r; rw [if_neg hc]; exact h k hk⟩
theorem Ev.have {α β : Type} {x : Option α} {a : α} {f : Nat → α → Option β} {r : β} (e : x = some a) (h : Ev (fun k => f k a) r) : Ev (fun k => x.bind (f k)) r := by
  obtain ⟨K, h⟩ := h
  exact ⟨K, fun k hk => by show x.bind (f k) = some r; rw [e, Option.bind_some]; exact h k hk⟩
theorem Ev.bound {α : Type} {g : Nat → Option α} {r : α} (K : Nat) (h : ∀ k, K < k → g k = some r) : Ev g r := ⟨K + 1, fun k hk => h k (by omega)⟩
theorem Ev.same {α : Type} {g : Nat → Option α} {r r' : α} (h : Ev g r) (e : r = r') : Ev g r' := e ▸ h

/-! ### drawchange -/
theorem pick_any (code : List Int) (hb : ∀ x ∈ code, 0 ≤ x ∧ x ≤ 255) (a : Nat) (ha : a ≤ 900) (seed n : Int) (h1 : 1 ≤ n) (h2 : n ≤ 200) : ∃ (r : Int) (a' : Nat) (s : Int), spec_l1Cur_pick.f code a seed n = some (r, (a' : Int), s) ∧ (0 ≤ r ∧ r < n) ∧ a' ≤ a + 1 := by
  by_cases h : n = 1
  · subst h
    refine ⟨0, a, seed, ?_, ⟨by omega, by omega⟩, by omega⟩
    unfold spec_l1Cur_pick.f
    rw [if_pos (by omega)]
  · obtain ⟨r, s, e, r0, r1⟩ := pick_ok code hb a ha seed n (by omega) h2
    exact ⟨r, a + 1, s, e, ⟨r0, r1⟩, by omega⟩
theorem among_in (code : List Int) (hb : ∀ x ∈ code, 0 ≤ x ∧ x ≤ 255) (a : Nat) (ha : a ≤ 900) (seed : Int) (l : List Int) (h1 : 1 < l.length) (h2 : l.length ≤ 200) : ∃ (r s : Int), spec_l1Cur_among.f code a seed l = some (r, ((a + 1 : Nat) : Int), s) ∧ r ∈ l := by
  obtain ⟨b, s, e, b0, b1⟩ := pick_ok code hb a ha seed (l.length : Int) (by omega) (by omega)
  unfold spec_l1Cur_among.f
  rw [e, Option.bind_some, if_pos b0, if_pos b1]
  refine ⟨_, _, rfl, ?_⟩
  obtain ⟨c, rfl⟩ : ∃ c : Nat, b = c := ⟨b.toNat, by omega⟩
  dsimp only
  rw [rd_get l c (by omega)]
  exact List.getElem_mem _
theorem change_loop (code : List Int) (hb : ∀ x ∈ code, 0 ≤ x ∧ x ≤ 255) (n : Nat) (hn : n ≤ 11) (d : Nat) : ∀ (i a : Nat) (x : List Int) (seed : Int), x.length = i → i + d = n → a ≤ 50 + i →
    ∃ (r : List Int) (a' : Nat) (s : Int), r.length = n ∧ a' ≤ 100 ∧ Ev (fun k => spec_l1Cur_change.l0 k x (n : Int) (i : Int) code (a : Int) seed) (r, (a' : Int), s) := by
  induction d with
  | zero =>
    intro i a x seed hx hi ha
    by_cases h : n = 0
    · refine ⟨x, a, seed, by omega, by omega, Ev.succ ?_⟩
      simp only [spec_l1Cur_change.l0]
      exact Ev.neg (by omega) (Ev.neg (by omega) (Ev.now _))
    · obtain ⟨b, s, e⟩ := one_ok code hb a (by omega) seed 20 (by omega) (by omega)
      cases b with
      | true =>
        obtain ⟨v, s2, e2⟩ := among_ok code hb (a + 1) (by omega) s [0, 1, -1, (n : Int)] (by simp) (by simp)
        refine ⟨x.set 0 v, a + 2, s2, by simp; omega, by omega, Ev.succ ?_⟩
        simp only [spec_l1Cur_change.l0]
        refine Ev.neg (by omega) (Ev.pos (by omega) (Ev.have e ?_))
        dsimp only
        refine Ev.pos rfl (Ev.have e2 ?_)
        exact Ev.pos (by omega) (Ev.now _)
      | false =>
        refine ⟨x, a + 1, s, by omega, by omega, Ev.succ ?_⟩
        simp only [spec_l1Cur_change.l0]
        refine Ev.neg (by omega) (Ev.pos (by omega) (Ev.have e ?_))
        dsimp only
        exact Ev.neg (by simp) (Ev.now _)
  | succ d ih =>
    intro i a x seed hx hi ha
    obtain ⟨p, a', s, e, ⟨p0, p1⟩, ha'⟩ := pick_any code hb a (by omega) seed ((i + 1 : Nat) : Int) (by omega) (by omega)
    obtain ⟨q, rfl⟩ : ∃ q : Nat, p = q := ⟨p.toNat, by omega⟩
    obtain ⟨r, a2, s2, h1, h2, h3⟩ := ih (i + 1) a' (([] ++ x.take q) ++ [(i : Int)] ++ x.drop q) s (by simp; omega) (by omega) (by omega)
    refine ⟨r, a2, s2, h1, h2, Ev.succ ?_⟩
    simp only [spec_l1Cur_change.l0]
    rw [hx, wrap_one (n := 20) (by omega) (by omega)]
    refine Ev.pos (by omega) (Ev.have e ?_)
    dsimp only
    refine Ev.have rfl (Ev.pos (by omega) (Ev.pos (by omega) (Ev.have rfl (Ev.pos (by simp; omega) (Ev.have rfl (Ev.have rfl (Ev.pos (by simp; omega) (Ev.have rfl (Ev.have rfl (Ev.pos (by simp; omega) ?_))))))))))
    rw [Int.toNat_natCast]
    exact h3
theorem change_draw (code : List Int) (hb : ∀ x ∈ code, 0 ≤ x ∧ x ≤ 255) : ∃ (r : List Int) (a' : Nat) (s : Int), r.length ≤ 11 ∧ a' ≤ 100 ∧ Ev (fun k => spec_l1Cur_change.f k code 0 0) (r, (a' : Int), s) := by
  obtain ⟨v, s, e, hv⟩ := among_in code hb 0 (by omega) 0 [4, 5, 3, 6, 2, 1, 8, 10, 11, 0] (by simp) (by simp)
  have hv2 : 0 ≤ v ∧ v ≤ 11 := by
    simp only [List.mem_cons, List.not_mem_nil, or_false] at hv
    omega
  obtain ⟨n, rfl⟩ : ∃ n : Nat, v = n := ⟨v.toNat, by omega⟩
  obtain ⟨r, a', s2, h1, h2, h3⟩ := change_loop code hb n (by omega) n 0 1 [] s rfl (by omega) (by omega)
  refine ⟨r, a', s2, by omega, h2, ?_⟩
  unfold spec_l1Cur_change.f
  have e' : spec_l1Cur_among.f code 0 0 [4, 5, 3, 6, 2, 1, 8, 10, 11, 0] = some ((n : Int), ((0 + 1 : Nat) : Int), s) := e
  exact Ev.have e' h3
theorem drawSide_ev (code : List Int) (hb : ∀ x ∈ code, 0 ≤ x ∧ x ≤ 255) : ∃ r : List Int, r.length ≤ 11 ∧ Ev (fun k => spec_DrawSideSwaps.f k code) r := by
  obtain ⟨r, a', s, h1, _, h3⟩ := change_draw code hb
  refine ⟨r, h1, ?_⟩
  unfold spec_DrawSideSwaps.f spec_DrawSideSwaps_m.f
  exact Ev.bind (Ev.bind h3 (Ev.now _)) (Ev.now _)
theorem after_loop (code : List Int) (hb : ∀ x ∈ code, 0 ≤ x ∧ x ≤ 255) (c : List Int) (hc : c.length ≤ 11) (d : Nat) : ∀ (a : Nat) (x : List Int) (seed : Int), d + x.length ≤ 100 → a + d ≤ 300 →
    ∃ (r : List Int) (a' : Nat) (s : Int), r.length ≤ 100 ∧ Ev (fun k => spec_DrawAfterSwaps_m.l0 k c x (d : Int) code (a : Int) seed) (c, r, (a' : Int), s) := by
  induction d with
  | zero =>
    intro a x seed hx ha
    by_cases h : x.length = 0
    · refine ⟨x, a, seed, by omega, Ev.succ ?_⟩
      simp only [spec_DrawAfterSwaps_m.l0]
      exact Ev.neg (by omega) (Ev.neg (by omega) (Ev.now _))
    · obtain ⟨b, s, e⟩ := one_ok code hb a (by omega) seed 20 (by omega) (by omega)
      cases b with
      | true =>
        obtain ⟨v, s2, e2⟩ := among_ok code hb (a + 1) (by omega) s [-1, wrap64 ((c.length : Int) - 1)] (by simp) (by simp)
        refine ⟨x.set 0 v, a + 2, s2, by simp; omega, Ev.succ ?_⟩
        simp only [spec_DrawAfterSwaps_m.l0]
        refine Ev.neg (by omega) (Ev.pos (by omega) (Ev.have e ?_))
        dsimp only
        refine Ev.pos rfl (Ev.have e2 ?_)
        exact Ev.pos (by omega) (Ev.now _)
      | false =>
        refine ⟨x, a + 1, s, by omega, Ev.succ ?_⟩
        simp only [spec_DrawAfterSwaps_m.l0]
        refine Ev.neg (by omega) (Ev.pos (by omega) (Ev.have e ?_))
        dsimp only
        exact Ev.neg (by simp) (Ev.now _)
  | succ d ih =>
    intro a x seed hx ha
    have hm : ∃ v : Int, spec_l1Most.f (wrap64 ((c.length : Int) - 1)) 1 = some v ∧ 1 ≤ v ∧ v ≤ 20 := by
      unfold spec_l1Most.f
      rw [wrap_id (by omega) (by omega)]
      split
      · exact ⟨_, rfl, by omega, by omega⟩
      · exact ⟨_, rfl, by omega, by omega⟩
    obtain ⟨v, ev, v1, v2⟩ := hm
    obtain ⟨p, a', s, e, _, ha'⟩ := pick_any code hb a (by omega) seed v v1 (by omega)
    obtain ⟨r, a2, s2, h1, h3⟩ := ih a' (x ++ [p]) s (by simp; omega) (by omega)
    refine ⟨r, a2, s2, h1, Ev.succ ?_⟩
    simp only [spec_DrawAfterSwaps_m.l0]
    refine Ev.pos (by omega) (Ev.have ev (Ev.have e ?_))
    dsimp only
    refine Ev.pos (by omega) ?_
    rw [show wrap64 (((d + 1 : Nat) : Int) - 1) = (d : Int) from by rw [wrap_id (by omega) (by omega)]; omega]
    exact h3
theorem drawAfter_ev (code : List Int) (hb : ∀ x ∈ code, 0 ≤ x ∧ x ≤ 255) : ∃ c r : List Int, c.length ≤ 11 ∧ r.length ≤ 100 ∧ Ev (fun k => spec_DrawAfterSwaps.f k code) (c, r) := by
  obtain ⟨c, a, s, h1, h2, h3⟩ := change_draw code hb
  obtain ⟨v, s1, e, hv⟩ := among_in code hb a (by omega) s [2, 3, 1, 5, 0, 99, 100] (by simp) (by simp)
  have hv2 : 0 ≤ v ∧ v ≤ 100 := by
    simp only [List.mem_cons, List.not_mem_nil, or_false] at hv
    omega
  obtain ⟨n, rfl⟩ : ∃ n : Nat, v = n := ⟨v.toNat, by omega⟩
  obtain ⟨r, a2, s2, h4, h5⟩ := after_loop code hb c h1 n (a + 1) [] s1 (by simp; omega) (by omega)
  refine ⟨c, r, h1, h4, ?_⟩
  unfold spec_DrawAfterSwaps.f spec_DrawAfterSwaps_m.f
  exact Ev.bind (Ev.bind h3 (Ev.have e h5)) (Ev.now _)
theorem drawCount_eq (code : List Int) (hb : ∀ x ∈ code, 0 ≤ x ∧ x ≤ 255) : ∃ n : Int, spec_DrawChangeCounts.f code = some n ∧ -1 ≤ n ∧ n ≤ 11 := by
  obtain ⟨v, s, e, hv⟩ := among_in code hb 0 (by omega) 0 [3, 4, 2, 5, 1, 8, 10, 11, 0, -1] (by simp) (by simp)
  refine ⟨v, ?_, ?_⟩
  · unfold spec_DrawChangeCounts.f spec_DrawCountStands.f
    have e' : spec_l1Cur_among.f code 0 0 [3, 4, 2, 5, 1, 8, 10, 11, 0, -1] = some (v, ((0 + 1 : Nat) : Int), s) := e
    rw [e', Option.bind_some, Option.bind_some]
  · simp only [List.mem_cons, List.not_mem_nil, or_false] at hv
    omega

/-! ### rints -/
theorem rints_ev (L : List Int) (hL : L.length ≤ 1000) : Ev (fun k => laws_rInts.f k L L) true := by
  have main : ∀ d i, i + d = L.length → Ev (fun k => laws_rInts.l0 k L L i) true := by
    intro d
    induction d with
    | zero =>
      intro i hi
      refine Ev.succ ?_
      simp only [laws_rInts.l0]
      exact Ev.neg (by omega) (Ev.now _)
    | succ d ih =>
      intro i hi
      have go := ih (i + 1) (by omega)
      refine Ev.succ ?_
      simp only [laws_rInts.l0]
      rw [wrap_one (n := 2000) (by omega) (by omega)]
      exact Ev.pos (by omega) (Ev.pos (by omega) (Ev.pos (by omega) (Ev.pos True.intro go)))
  unfold laws_rInts.f
  exact Ev.pos rfl (main _ 0 (Nat.zero_add _))

/-! ### evmono -/
theorem ev_mono {α : Type} {g : Nat → Option α} {r : α} (hm : ∀ k, LeO (g k) (g (k + 1))) (K : Nat) (h : g K = some r) : Ev g r := by
  have : ∀ d, g (K + d) = some r := by
    intro d
    induction d with
    | zero => exact h
    | succ d ih => exact hm (K + d) r ih
  exact ⟨K, fun k hk => by rw [show k = K + (k - K) from by omega]; exact this _⟩

/-! ### law_FnChanges -/
theorem not_val {l : List Int} (hl : l.length ≤ 11) (h : ¬ Change l) (k : Nat) (hk : 300 < k) :
    (spec_SideSwaps.f k l = some (0, false) ∧ impl_SideSwaps.f k l = some (0, false)) ∧ (spec_FreeSwaps.f k l = some (0, false) ∧ impl_FreeSwaps.f k l = some (0, false)) ∧
    (spec_HoleMoves.f k l = some (0, false) ∧ impl_HoleMoves.f k l = some (0, false)) ∧ (spec_FirstSideSwaps.f k l = some ([], false) ∧ impl_FirstSideSwaps.f k l = some ([], false)) ∧
    spec_BackChange.f k l = some ([], false) ∧ impl_BackChange.f k l = some ([], false) := by
  have e1 := spec_l10Change_eq l k (by omega) (by omega)
  have e2 := impl_isChange_eq l k (by omega) (by omega)
  rw [decide_eq_false h] at e1 e2
  refine ⟨⟨?_, ?_⟩, ⟨?_, ?_⟩, ⟨?_, ?_⟩, ⟨?_, ?_⟩, ?_, ?_⟩
  · unfold spec_SideSwaps.f; rw [e1]; rfl
  · unfold impl_SideSwaps.f; rw [e2]; rfl
  · unfold spec_FreeSwaps.f; rw [e1]; rfl
  · unfold impl_FreeSwaps.f; rw [e2]; rfl
  · unfold spec_HoleMoves.f; rw [e1]; rfl
  · unfold impl_HoleMoves.f; rw [e2]; rfl
  · unfold spec_FirstSideSwaps.f; rw [e1]; rfl
  · unfold impl_FirstSideSwaps.f; rw [e2]; rfl
  · unfold spec_BackChange.f; rw [e1]; rfl
  · unfold impl_BackChange.f; rw [e2]; rfl
def fct : Nat → Nat
  | 0 => 1
  | n + 1 => fct n * (n + 1)
theorem fct_le : ∀ n, n ≤ 10 → fct n ≤ 3628800 := by decide
/-- The ten counts: as many numbers as people, one change that needs nothing, all changes in all. -/
def chk (n : Nat) : Bool :=
  match impl_ChangeCounts.f 300 (n : Int), spec_ChangeCounts.f 300 (n : Int) with
  | some (L, true), some (L', true) => (L == L') && (L.length == n) && (rd L 0 == 1) && (laws_rSum.f 100 L == some (fct n : Int))
  | _, _ => false
theorem chk_all : ∀ n, n < 10 → chk (n + 1) = true := by decide +kernel
theorem counts_ten (n : Nat) (h1 : 1 ≤ n) (h2 : n ≤ 10) : ∃ L : List Int, Ev (fun k => impl_ChangeCounts.f k (n : Int)) (L, true) ∧ Ev (fun k => spec_ChangeCounts.f k (n : Int)) (L, true) ∧ L.length = n ∧ rd L 0 = 1 ∧ Ev (fun k => laws_rSum.f k L) (fct n : Int) := by
  have c := chk_all (n - 1) (by omega)
  rw [show n - 1 + 1 = n from by omega] at c
  unfold chk at c
  split at c
  · rename_i L L' e1 e2
    simp only [Bool.and_eq_true, beq_iff_eq] at c
    obtain ⟨⟨⟨c1, c2⟩, c3⟩, c4⟩ := c
    subst c1
    exact ⟨L, ev_mono (fun k => impl_ChangeCounts.mono _ _) 300 e1, ev_mono (fun k => spec_ChangeCounts.mono _ _) 300 e2, c2, c3, ev_mono (fun k => laws_rSum.mono _ _) 100 c4⟩
  · cases c
theorem counts_out (n : Int) (h : ¬ (1 ≤ n ∧ n ≤ 10)) : Ev (fun k => impl_ChangeCounts.f k n) ([], false) ∧ Ev (fun k => spec_ChangeCounts.f k n) ([], false) := by
  constructor
  · unfold impl_ChangeCounts.f impl_isPeople.f
    refine Ev.have (a := decide (1 ≤ n ∧ n ≤ 10)) (by rw [impl_within_eq, Option.bind_some]) (Ev.neg (by rw [decide_eq_true_eq]; exact h) (Ev.now _))
  · unfold spec_ChangeCounts.f
    exact Ev.have (spec_l1In_eq _ _ _) (Ev.neg (by rw [decide_eq_true_eq]; exact h) (Ev.now _))
section
variable (c : List Int) (side : Int) (ok : Bool) (free : Int) (swaps back : List Int) (H8 : Ev (fun k => laws_FnChanges.j8 k c side ok free swaps back) true)
include H8
theorem j6_loop (L : List Int) (n : Nat) (h1 : 1 ≤ n) (h10 : n ≤ 10) (hL : L.length = n) (hr : rd L 0 = 1) (hs : Ev (fun k => laws_rSum.f k L) (fct n : Int)) (d : Nat) : ∀ i : Nat, 2 ≤ i → i + d = n + 1 →
    Ev (fun k => laws_FnChanges.l0 k c side ok free swaps back (n : Int) L (fct (i - 1) : Int) (i : Int)) true := by
  induction d with
  | zero =>
    intro i h2 hi
    refine Ev.succ ?_
    simp only [laws_FnChanges.l0]
    rw [show i - 1 = n from by omega]
    refine Ev.neg (by omega) (Ev.bind hs (Ev.pos (by first | rfl | exact True.intro) (Ev.pos (by first | omega | simp) (Ev.pos (by omega) (Ev.pos hr H8)))))
  | succ d ih =>
    intro i h2 hi
    have go := ih (i + 1) (by omega) (by omega)
    have hf := fct_le (i - 1) (by omega)
    have hm : fct (i - 1) * i ≤ 3628800 * 10 := Nat.mul_le_mul hf (by omega)
    have e : fct (i + 1 - 1) = fct (i - 1) * i := by
      obtain ⟨j, rfl⟩ : ∃ j, i = j + 1 := ⟨i - 1, by omega⟩
      rfl
    rw [e] at go
    refine Ev.succ ?_
    simp only [laws_FnChanges.l0]
    rw [wrap_one (n := 20) (by omega) (by omega), show wrap64 ((fct (i - 1) : Int) * (i : Int)) = ((fct (i - 1) * i : Nat) : Int) from by rw [← Int.natCast_mul]; exact wrap_id (by omega) (by omega)]
    exact Ev.pos (by omega) go
theorem j5_ev (code : List Int) (hb : ∀ x ∈ code, 0 ≤ x ∧ x ≤ 255) : Ev (fun k => laws_FnChanges.j5 k code c side ok free swaps back false) true := by
  obtain ⟨n, hd, n0, n1⟩ := drawCount_eq code hb
  refine Ev.succ ?_
  simp only [laws_FnChanges.j5]
  refine Ev.neg (by simp) (Ev.have hd ?_)
  by_cases h : 1 ≤ n ∧ n ≤ 10
  · obtain ⟨m, rfl⟩ : ∃ m : Nat, n = m := ⟨n.toNat, by omega⟩
    obtain ⟨L, e1, e2, hL, hr, hs⟩ := counts_ten m (by omega) (by omega)
    refine Ev.bind e1 (Ev.bind e2 (Ev.neg (bne_self _) (Ev.bind (rints_ev L (by omega)) (Ev.succ ?_))))
    simp only [laws_FnChanges.j6]
    refine Ev.neg (by simp) (Ev.pos (by first | rfl | exact True.intro) ?_)
    by_cases g : m = 1
    · subst g
      refine Ev.succ ?_
      simp only [laws_FnChanges.l0]
      exact Ev.neg (by omega) (Ev.bind hs (Ev.pos (by first | rfl | exact True.intro) (Ev.pos (by first | omega | simp) (Ev.pos (by omega) (Ev.pos hr H8)))))
    · exact j6_loop c side ok free swaps back H8 L m (by omega) (by omega) hL hr hs (m - 1) 2 (by omega) (by omega)
  · obtain ⟨e1, e2⟩ := counts_out n h
    refine Ev.bind e1 (Ev.bind e2 (Ev.neg (bne_self _) (Ev.bind (rints_ev [] (by simp)) (Ev.succ ?_))))
    simp only [laws_FnChanges.j6]
    exact Ev.neg (by simp) (Ev.neg (by simp) H8)
theorem j4_ev (code : List Int) (hb : ∀ x ∈ code, 0 ≤ x ∧ x ≤ 255) : Ev (fun k => laws_FnChanges.j4 k code c side ok free swaps back false) true := by
  obtain ⟨a, ps, ha, hps, hd⟩ := drawAfter_ev code hb
  obtain ⟨r, b, hr, h⟩ := after_both a ps (by omega) (by omega)
  have e0 := (h (2 * a.length + ps.length + 300) (by omega)).2
  have hr2 : r.length ≤ 1000 := by
    by_cases hch : Change a ∧ ps.length ≤ 99 ∧ ∀ p ∈ ps, 0 ≤ p ∧ p ≤ (a.length : Int) - 2
    · have h10 := hch.1.1
      rw [after_val hch.1 hch.2.1 hch.2.2 (2 * a.length + ps.length + 300) (by omega)] at e0
      have e4 : afterL a ps = r := congrArg Prod.fst (Option.some.inj e0)
      rw [← e4, afterL_length]
      omega
    · rw [after_no a ps (by omega) (by omega) hch (2 * a.length + ps.length + 300) (by omega)] at e0
      have e4 : [] = r := congrArg Prod.fst (Option.some.inj e0)
      rw [← e4]
      simp
  refine Ev.succ ?_
  simp only [laws_FnChanges.j4]
  refine Ev.neg (by simp) (Ev.bind hd ?_)
  dsimp only
  refine Ev.bind (Ev.bound _ fun k hk => (h k hk).2) (Ev.bind (Ev.bound _ fun k hk => (h k hk).1) (Ev.neg (bne_self _) (Ev.bind (rints_ev r hr2) ?_)))
  exact j5_ev c side ok free swaps back H8 code hb
end
theorem home_loop (c back : List Int) (side free : Int) (home : List Int) (h10 : home.length ≤ 10) (hh : ∀ j, j < home.length → home.getD j 0 = (j : Int))
    (e1 : Ev (fun k => impl_SideSwaps.f k back) (side, true)) (e2 : Ev (fun k => impl_FreeSwaps.f k back) (free, true)) (e3 : Ev (fun k => impl_BackChange.f k back) (c, true)) (hc : c.length ≤ 10) (d : Nat) :
    ∀ i : Nat, i + d = home.length → Ev (fun k => laws_FnChanges.l1 k c side free back home (i : Int)) true := by
  induction d with
  | zero =>
    intro i hi
    refine Ev.succ ?_
    simp only [laws_FnChanges.l1]
    exact Ev.neg (by omega) (Ev.bind e1 (Ev.bind e2 (Ev.bind e3 (Ev.pos rfl (Ev.pos rfl (Ev.pos rfl (Ev.pos rfl (Ev.pos rfl (Ev.bind (rints_ev c (by omega)) (Ev.now _))))))))))
  | succ d ih =>
    intro i hi
    have go := ih (i + 1) (by omega)
    refine Ev.succ ?_
    simp only [laws_FnChanges.l1]
    rw [wrap_one (n := 20) (by omega) (by omega), rd_nat]
    exact Ev.pos (by omega) (Ev.pos (by omega) (Ev.pos (hh i (by omega)) go))
theorem leads_unique {l r r' : List Int} (h : Change l) (a : Leads l r) (b : Leads l r') : r = r' := by
  have hP := change_per l h
  refine List.ext_getElem (by rw [a.1, b.1]) fun j h1 h2 => ?_
  have ca := leads_back h a
  have hj : j < r.length := h1
  have e := ca.2 j hj
  have hP2 := change_per r (leads_change h a)
  have hl : fun_of r j < l.length := by have := hP2.lt j hj; rwa [a.1] at this
  have e1 := a.2 _ hl
  have e2 := b.2 _ hl
  have e3 : fun_of l (fun_of r j) = j := by
    show (l.getD (fun_of r j) 0).toNat = j
    rw [e]
    exact Int.toNat_natCast j
  rw [e3] at e1 e2
  have g1 : r.getD j 0 = r[j] := by simp [List.getD, h1]
  have g2 : r'.getD j 0 = r'[j] := by simp [List.getD, h2]
  rw [g1] at e1
  rw [g2] at e2
  rw [e1, e2]
theorem FnChanges : laws_FnChanges.Pure := by
  intro code _ hlen hwf
  have hb : ∀ x ∈ code, 0 ≤ x ∧ x ≤ 255 := fun x hx => u8_bounds (hwf x hx)
  suffices H : Ev (fun k => laws_FnChanges.f k code) true from by
    obtain ⟨K, h⟩ := H
    exact ⟨K, h K (Nat.le_refl K)⟩
  unfold laws_FnChanges.f
  refine Ev.have rfl ?_
  by_cases big : (code.length : Int) > 65536
  · exact Ev.pos (decide_eq_true big) (Ev.now _)
  · obtain ⟨c, hc, hd⟩ := drawSide_ev code hb
    refine Ev.neg (by rw [decide_eq_true_eq]; exact big) (Ev.bind hd ?_)
    by_cases h : Change c
    · have h10 := h.1
      have hi2 := inv_le2 c
      have hq : c.length * c.length ≤ 10 * 10 := Nat.mul_le_mul (by omega) (by omega)
      obtain ⟨reps, V, t, hV, hcyc⟩ := cyc_val h
      obtain ⟨swaps, ⟨hs1, hs2, hs3⟩, hs4⟩ := first_val h
      obtain ⟨back, hlead, hback⟩ := back_val h
      have hbc := leads_change h hlead
      obtain ⟨reps', V', t', hV', hcyc'⟩ := cyc_val hbc
      obtain ⟨again, hlead', hback'⟩ := back_val hbc
      have hag : again = c := leads_unique hbc hlead' (leads_back h hlead)
      subst hag
      have hinv := leads_inv h hlead
      have hcy := leads_cycles h hlead t hV t' hV'
      have hfree := free_le h t hV
      have hhole := hole_le h t hV
      have hlen' := trav_len (change_per again h) t
      have H8 : Ev (fun k => laws_FnChanges.j8 k again ((inv again : Nat) : Int) true ((again.length : Int) - reps.length) swaps back) true := by
        refine Ev.succ ?_
        simp only [laws_FnChanges.j8]
        refine Ev.pos True.intro (Ev.bind (Ev.bound 300 fun k hk => after_val h (by omega) hs2 k hk) (Ev.pos rfl (Ev.succ ?_)))
        simp only [laws_FnChanges.j9]
        refine Ev.neg (by rw [hs1]; exact bne_self _) ?_
        refine home_loop again back _ _ (afterL again swaps) (by rw [afterL_length]; omega) (fun j hj => hs3 j (by rwa [afterL_length] at hj)) ?_ ?_ ?_ (by omega) (afterL again swaps).length 0 (Nat.zero_add _)
        · refine Ev.bound 300 fun k hk => ?_
          rw [(side_val hbc k hk).2, hinv]
        · refine Ev.bound 400 fun k hk => ?_
          rw [(hcyc' k hk).1.2, hlead.1, hcy]
        · exact Ev.bound 300 fun k hk => (hback' k hk).2
      refine Ev.bind (Ev.bound 300 fun k hk => (side_val h k hk).2) (Ev.bind (Ev.bound 300 fun k hk => (side_val h k hk).1) (Ev.pos rfl (Ev.succ ?_)))
      simp only [laws_FnChanges.j0]
      refine Ev.neg (bne_self _) (Ev.bind (Ev.bound 400 fun k hk => (hcyc k hk).1.2) (Ev.bind (Ev.bound 400 fun k hk => (hcyc k hk).1.1) (Ev.pos rfl (Ev.neg (bne_self _) (Ev.neg (bne_self _) ?_)))))
      rw [show decide ((again.length : Int) - reps.length > ((inv again : Nat) : Int)) = false from decide_eq_false (by omega)]
      refine Ev.succ ?_
      simp only [laws_FnChanges.j1]
      refine Ev.neg (by simp) (Ev.bind (Ev.bound 400 fun k hk => (hcyc k hk).2.2) (Ev.bind (Ev.bound 400 fun k hk => (hcyc k hk).2.1) (Ev.pos rfl (Ev.neg (bne_self _) (Ev.neg (bne_self _) ?_)))))
      rw [wrap_id (x := 3 * ((again.length : Int) - reps.length)) (by omega) (by omega), show decide (((((reps.map (holeW again.length (fun_of again))).sum : Nat)) : Int) > 3 * ((again.length : Int) - reps.length)) = false from decide_eq_false (by omega)]
      refine Ev.succ ?_
      simp only [laws_FnChanges.j2]
      refine Ev.neg (by simp) (Ev.bind (Ev.bound 30000 fun k hk => (hs4 k hk).2) (Ev.bind (Ev.bound 30000 fun k hk => (hs4 k hk).1) (Ev.neg (bne_self _) (Ev.neg (bne_self _) (Ev.bind (rints_ev swaps (by omega)) (Ev.succ ?_))))))
      simp only [laws_FnChanges.j3]
      refine Ev.neg (by simp) (Ev.bind (Ev.bound 300 fun k hk => (hback k hk).2) (Ev.bind (Ev.bound 300 fun k hk => (hback k hk).1) (Ev.neg (bne_self _) (Ev.neg (bne_self _) (Ev.bind (rints_ev back (by have := hlead.1; omega)) ?_)))))
      exact j4_ev again _ _ _ swaps back H8 code hb
    · have no := fun k hk => not_val hc h k hk
      have H8 : Ev (fun k => laws_FnChanges.j8 k c 0 false 0 [] []) true := by
        refine Ev.succ ?_
        simp only [laws_FnChanges.j8]
        exact Ev.neg (by simp) (Ev.now _)
      refine Ev.bind (Ev.bound 300 fun k hk => (no k hk).1.2) (Ev.bind (Ev.bound 300 fun k hk => (no k hk).1.1) (Ev.pos rfl (Ev.succ ?_)))
      simp only [laws_FnChanges.j0]
      refine Ev.neg (bne_self _) (Ev.bind (Ev.bound 300 fun k hk => (no k hk).2.1.2) (Ev.bind (Ev.bound 300 fun k hk => (no k hk).2.1.1) (Ev.pos rfl (Ev.neg (bne_self _) (Ev.neg (bne_self _) ?_)))))
      refine Ev.succ ?_
      simp only [laws_FnChanges.j1]
      refine Ev.neg (by simp) (Ev.bind (Ev.bound 300 fun k hk => (no k hk).2.2.1.2) (Ev.bind (Ev.bound 300 fun k hk => (no k hk).2.2.1.1) (Ev.pos rfl (Ev.neg (bne_self _) (Ev.neg (bne_self _) ?_)))))
      refine Ev.succ ?_
      simp only [laws_FnChanges.j2]
      refine Ev.neg (by rw [wrap_id (by omega) (by omega)]; decide) (Ev.bind (Ev.bound 300 fun k hk => (no k hk).2.2.2.1.2) (Ev.bind (Ev.bound 300 fun k hk => (no k hk).2.2.2.1.1) (Ev.neg (bne_self _) (Ev.neg (bne_self _) (Ev.bind (rints_ev [] (by simp)) (Ev.succ ?_))))))
      simp only [laws_FnChanges.j3]
      refine Ev.neg (by simp) (Ev.bind (Ev.bound 300 fun k hk => (no k hk).2.2.2.2.2) (Ev.bind (Ev.bound 300 fun k hk => (no k hk).2.2.2.2.1) (Ev.neg (bne_self _) (Ev.neg (bne_self _) (Ev.bind (rints_ev [] (by simp)) ?_)))))
      exact j4_ev c _ _ _ [] [] H8 code hb

end Go.Proofs.Ytohmonfaabofaaa.Pure
