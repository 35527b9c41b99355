/- HoleMoves of the program returns what the reference's returns, for every list. No conditions. -/
import Derived.Test.YtmcgamhipilbpaaQFnExactHoleMovesx
namespace Go.Proofs.Ytmcgamhipilbpaa.Pure
open Go.RowKit Go.Proofs.Ytmcgamhipilbpaa.QFnExactHoleMoves Go.Proofs.YtmcgamhipilbpaaW.PrintWords Go.Proofs.YtmcgamhipilbpaaW.PrintLast Go.Proofs.YtmcgamhipilbpaaW.PrintMore
set_option linter.unusedVariables false
set_option linter.unusedSimpArgs false

/-! ### base -/
theorem wrap_id {x : Int} (h0 : -9223372036854775808 ≤ x) (h1 : x ≤ 9223372036854775807) : wrap64 x = x := by
  unfold wrap64
  omega
theorem wrap_one {i n : Nat} (h : i < n) (hn : n ≤ 4611686018427387904) : wrap64 ((i : Int) + 1) = ((i + 1 : Nat) : Int) := by
  unfold wrap64
  omega
theorem rd_nat (l : List Int) (i : Nat) : rd l (i : Int) = l.getD i 0 := by unfold rd; simp
theorem rd_get (l : List Int) (i : Nat) (h : i < l.length) : rd l (i : Int) = l[i] := by rw [rd_nat]; simp [List.getD, h]
theorem fuel {k d : Nat} (h : d < k) : ∃ m, k = m + 1 ∧ d ≤ m := ⟨k - 1, by omega, by omega⟩

/-! ### laws_toIntS -/
theorem laws_toIntS_l0 (l : List Int) (hl : l.length ≤ 1048576) (d : Nat) : ∀ (k i : Nat) (x : List Int), x.length = l.length → i ≤ l.length → l.length - i = d → d < k → (∀ j (h : j < i) (h' : j < x.length) (h'' : j < l.length), x[j] = l[j]) → laws_toIntS.l0 k l x i = some l := by
  induction d with
  | zero =>
    intro k i x hx hi hd hk hp
    obtain ⟨k, rfl, _⟩ := fuel hk
    simp only [laws_toIntS.l0]
    rw [if_neg (by omega)]
    refine congrArg some ?_
    apply List.ext_getElem hx
    intro j h1 h2
    exact hp j (by omega) h1 h2
  | succ d ih =>
    intro k i x hx hi hd hk hp
    obtain ⟨k, rfl, _⟩ := fuel hk
    simp only [laws_toIntS.l0]
    rw [if_pos (by omega), if_pos (by omega), if_pos (by omega), wrap_one (n := l.length) (by omega) (by omega)]
    rw [rd_get l i (by omega), Int.toNat_natCast, ih k (i + 1) _ (by simp [hx]) (by omega) (by omega) (by omega)]
    intro j h h' h''
    rw [List.getElem_set]
    split
    · rename_i e
      subst e
      rfl
    · rename_i e
      exact hp j (by omega) (by simpa using h') h''
theorem laws_toIntS_eq (l : List Int) (hl : l.length ≤ 1048576) (k : Nat) (hk : l.length < k) : laws_toIntS.f k l = some l := by
  unfold laws_toIntS.f
  rw [if_pos (by omega), if_pos (by omega)]
  exact laws_toIntS_l0 l hl l.length k 0 _ (by simp) (by omega) (by omega) hk (fun j h => by omega)

/-! ### laws_eqIntS -/
theorem laws_eqIntS_l0 (a b : List Int) (hl : a.length ≤ 1048576) (he : a.length = b.length) (d : Nat) : ∀ (k i : Nat), i ≤ a.length → a.length - i = d → d < k → laws_eqIntS.l0 k a b i = some (decide (a.drop i = b.drop i)) := by
  induction d with
  | zero =>
    intro k i hi hd hk
    obtain ⟨k, rfl, _⟩ := fuel hk
    simp only [laws_eqIntS.l0]
    rw [if_neg (by omega), List.drop_eq_nil_of_le (by omega), List.drop_eq_nil_of_le (by omega)]
    simp
  | succ d ih =>
    intro k i hi hd hk
    obtain ⟨k, rfl, _⟩ := fuel hk
    simp only [laws_eqIntS.l0]
    rw [if_pos (by omega), if_pos (by omega), if_pos (by omega), wrap_one (n := a.length) (by omega) (by omega), rd_get a i (by omega), rd_get b i (by omega), ih k (i + 1) (by omega) (by omega) (by omega)]
    rw [List.drop_eq_getElem_cons (l := a) (i := i) (by omega), List.drop_eq_getElem_cons (l := b) (i := i) (by omega)]
    by_cases h : a[i]'(by omega) = b[i]'(by omega)
    · rw [if_pos h]
      refine congrArg some ?_
      rw [decide_eq_decide, List.cons.injEq]
      exact ⟨fun e => ⟨h, e⟩, fun e => e.2⟩
    · rw [if_neg h]
      refine congrArg some ?_
      symm
      rw [decide_eq_false_iff_not, List.cons.injEq]
      exact fun e => h e.1
theorem laws_eqIntS_eq (a b : List Int) (hl : a.length ≤ 1048576) (k : Nat) (hk : a.length < k) : laws_eqIntS.f k a b = some (decide (a = b)) := by
  unfold laws_eqIntS.f
  by_cases h : a.length = b.length
  · rw [if_pos (by omega)]
    have := laws_eqIntS_l0 a b hl h a.length k 0 (by omega) (by omega) hk
    simpa using this
  · rw [if_neg (by omega)]
    refine congrArg some ?_
    symm
    rw [decide_eq_false_iff_not]
    intro e
    exact h (by rw [e])
theorem laws_eqIntS_self (a : List Int) (hl : a.length ≤ 1048576) (k : Nat) (hk : a.length < k) : laws_eqIntS.f k a a = some true := by
  rw [laws_eqIntS_eq a a hl k hk]
  simp

/-! ### within -/
theorem spec_l1In_eq (n a b : Int) : spec_l1In.f n a b = some (decide (a ≤ n ∧ n ≤ b)) := by
  unfold spec_l1In.f
  by_cases h : n ≥ a
  · rw [if_pos h]
    simp [show a ≤ n from h]
  · rw [if_neg h]
    simp [show ¬ a ≤ n from h]
theorem impl_within_eq (n a b : Int) : impl_within.f n a b = some (decide (a ≤ n ∧ n ≤ b)) := by
  unfold impl_within.f
  by_cases h : n ≥ a
  · rw [if_pos h]
    simp [show a ≤ n from h]
  · rw [if_neg h]
    simp [show ¬ a ≤ n from h]

/-! ### spec_l1Has -/
theorem spec_l1Has_l0 (l : List Int) (n : Int) (hl : l.length ≤ 1048576) (d : Nat) : ∀ (k i : Nat), i ≤ l.length → l.length - i = d → d < k → spec_l1Has.l0 k l n i = some (decide (n ∈ l.drop i)) := by
  induction d with
  | zero =>
    intro k i hi hd hk
    obtain ⟨k, rfl, _⟩ := fuel hk
    simp only [spec_l1Has.l0]
    rw [if_neg (by omega), List.drop_eq_nil_of_le (by omega)]
    simp
  | succ d ih =>
    intro k i hi hd hk
    obtain ⟨k, rfl, _⟩ := fuel hk
    simp only [spec_l1Has.l0]
    rw [if_pos (by omega), if_pos (by omega), wrap_one (n := l.length) (by omega) (by omega), rd_get l i (by omega), ih k (i + 1) (by omega) (by omega) (by omega)]
    rw [List.drop_eq_getElem_cons (l := l) (i := i) (by omega)]
    by_cases h : l[i]'(by omega) = n
    · rw [if_pos h, h]
      simp
    · rw [if_neg h]
      refine congrArg some ?_
      rw [decide_eq_decide, List.mem_cons]
      exact ⟨.inr, fun e => e.resolve_left fun e => h e.symm⟩
theorem spec_l1Has_eq (l : List Int) (n : Int) (hl : l.length ≤ 1048576) (k : Nat) (hk : l.length < k) : spec_l1Has.f k l n = some (decide (n ∈ l)) := by
  have := spec_l1Has_l0 l n hl l.length k 0 (by omega) (by omega) hk
  exact this

/-! ### sets -/
/-- A list of numbers as a set of bits. -/
def setN (l : List Int) : Nat := l.foldl (fun s p => s ||| 2 ^ p.toNat) 0
theorem testBit_foldl (l : List Int) : ∀ (s i : Nat), (l.foldl (fun s p => s ||| 2 ^ p.toNat) s).testBit i = (s.testBit i || decide (∃ p ∈ l, p.toNat = i)) := by
  induction l with
  | nil => intro s i; simp
  | cons a l ih =>
    intro s i
    rw [List.foldl_cons, ih, Nat.testBit_or, Nat.testBit_two_pow, Bool.or_assoc]
    congr 1
    rw [Bool.eq_iff_iff]
    simp
theorem testBit_setN (l : List Int) (i : Nat) : (setN l).testBit i = decide (∃ p ∈ l, p.toNat = i) := by
  unfold setN
  rw [testBit_foldl]
  simp
theorem foldl_lt (l : List Int) (n : Nat) (hl : ∀ p ∈ l, p < n) (hn : 0 < n) : ∀ s, s < 2 ^ n → l.foldl (fun s p => s ||| 2 ^ p.toNat) s < 2 ^ n := by
  induction l with
  | nil => intro s h; exact h
  | cons a l ih =>
    intro s h
    rw [List.foldl_cons]
    have := hl a (by simp)
    exact ih (fun p hp => hl p (by simp [hp])) _ (Nat.or_lt_two_pow h (Nat.pow_lt_pow_right (by omega) (by omega)))
theorem setN_lt (l : List Int) (n : Nat) (hl : ∀ p ∈ l, p < n) (hn : 0 < n) : setN l < 2 ^ n := foldl_lt l n hl hn 0 (Nat.two_pow_pos n)
theorem setN_u32 (l : List Int) (hl : ∀ p ∈ l, p < 32) : setN l < 4294967296 := setN_lt l 32 hl (by omega)
theorem or_cast (a b : Nat) (ha : a < 4294967296) (hb : b < 4294967296) : Go.bits .or .u32 (a : Int) (b : Int) = ((a ||| b : Nat) : Int) :=
  (bits_nat .u32 32 (by decide) (fun n h h' => by rw [IntKind.wrap_u32]; omega) a b ha hb).2
theorem and_cast (a b : Nat) (ha : a < 4294967296) (hb : b < 4294967296) : Go.bits .and .u32 (a : Int) (b : Int) = ((a &&& b : Nat) : Int) :=
  (bits_nat .u32 32 (by decide) (fun n h h' => by rw [IntKind.wrap_u32]; omega) a b ha hb).1
theorem shl_one (p : Int) (h0 : 0 ≤ p) (h1 : p < 32) : shl .u32 1 p = ((2 ^ p.toNat : Nat) : Int) := by
  unfold shl
  rw [Int.one_mul, IntKind.wrap_u32, show min p.toNat IntKind.u32.bits = p.toNat from Nat.min_eq_left (by show p.toNat ≤ 32; omega)]
  have : 2 ^ p.toNat < 2 ^ 32 := Nat.pow_lt_pow_right (by omega) (by omega)
  have e : ((2 ^ p.toNat : Nat) : Int) = (2 : Int) ^ p.toNat := by simp
  rw [← e]
  generalize 2 ^ p.toNat = y at *
  omega
theorem popAux_filter : ∀ (n x : Nat), Lib.popAux n x = ((List.range n).filter fun i => x.testBit i).length
  | 0, x => by simp [Lib.popAux]
  | n + 1, x => by
    rw [Lib.popAux, popAux_filter n, List.range_succ_eq_map, List.filter_cons, List.filter_map, Nat.testBit_zero]
    have e : ((fun i => x.testBit i) ∘ Nat.succ) = fun i => (x / 2).testBit i := by
      funext i
      simp [Nat.testBit_succ]
    rw [e]
    by_cases h : x % 2 = 1
    · simp [h]
      omega
    · simp [h]
      omega
theorem onesCount_filter (x : Nat) : Lib.onesCount x = ((List.range 64).filter fun i => x.testBit i).length := popAux_filter 64 x
/-- A set whose members are below n: their number. -/
theorem onesCount_below (x n : Nat) (hx : x < 2 ^ n) (hn : n ≤ 64) : Lib.onesCount x = ((List.range n).filter fun i => x.testBit i).length := by
  rw [onesCount_filter, show 64 = n + (64 - n) from by omega, List.range_add, List.filter_append, List.length_append]
  have z : List.filter (fun i => x.testBit i) (List.map (fun x => n + x) (List.range (64 - n))) = [] := by
    rw [List.filter_eq_nil_iff]
    intro i hi
    obtain ⟨j, _, rfl⟩ := List.mem_map.1 hi
    rw [Nat.testBit_lt_two_pow (Nat.lt_of_lt_of_le hx (Nat.pow_le_pow_right (by omega) (by omega)))]
    simp
  rw [z, List.length_nil, Nat.add_zero]

/-! ### impl_sets -/
theorem impl_allWithin_l0 (l : List Int) (a b : Int) (hl : l.length ≤ 1048576) (d : Nat) : ∀ (k i : Nat), i ≤ l.length → l.length - i = d → d < k → impl_allWithin.l0 k a b l (l.length : Int) i = some (decide (∀ x ∈ l.drop i, a ≤ x ∧ x ≤ b)) := by
  induction d with
  | zero =>
    intro k i hi hd hk
    obtain ⟨k, rfl, _⟩ := fuel hk
    simp only [impl_allWithin.l0]
    rw [if_neg (by omega), List.drop_eq_nil_of_le (by omega)]
    simp
  | succ d ih =>
    intro k i hi hd hk
    obtain ⟨k, rfl, _⟩ := fuel hk
    simp only [impl_allWithin.l0]
    rw [if_pos (by omega), if_pos (by omega), if_pos (by omega), wrap_one (n := l.length) (by omega) (by omega), rd_get l i (by omega), impl_within_eq, ih k (i + 1) (by omega) (by omega) (by omega)]
    rw [List.drop_eq_getElem_cons (l := l) (i := i) (by omega)]
    rw [Option.bind_some]
    by_cases h : a ≤ l[i]'(by omega) ∧ l[i]'(by omega) ≤ b
    · rw [if_pos (by simp only [h]; simp)]
      refine congrArg some ?_
      rw [decide_eq_decide]
      simp only [List.mem_cons]
      exact ⟨fun e x hx => hx.elim (fun z => z ▸ h) (e x), fun e x hx => e x (.inr hx)⟩
    · rw [if_neg (by rw [decide_eq_true_eq]; exact h)]
      refine congrArg some ?_
      symm
      rw [decide_eq_false_iff_not]
      exact fun e => h (e _ List.mem_cons_self)
theorem impl_allWithin_eq (l : List Int) (a b : Int) (hl : l.length ≤ 1048576) (k : Nat) (hk : l.length < k) : impl_allWithin.f k l a b = some (decide (∀ x ∈ l, a ≤ x ∧ x ≤ b)) :=
  impl_allWithin_l0 l a b hl l.length k 0 (by omega) (by omega) hk
theorem impl_setOf_l0 (l : List Int) (hl : l.length ≤ 1048576) (hb : ∀ x ∈ l, 0 ≤ x ∧ x < 32) (d : Nat) : ∀ (k i s : Nat), s < 4294967296 → i ≤ l.length → l.length - i = d → d < k →
    impl_setOf.l0 k (s : Int) l (l.length : Int) i = some (((l.drop i).foldl (fun s p => s ||| 2 ^ p.toNat) s : Nat) : Int) := by
  induction d with
  | zero =>
    intro k i s hs hi hd hk
    obtain ⟨k, rfl, _⟩ := fuel hk
    simp only [impl_setOf.l0]
    rw [if_neg (by omega), List.drop_eq_nil_of_le (by omega)]
    rfl
  | succ d ih =>
    intro k i s hs hi hd hk
    obtain ⟨k, rfl, _⟩ := fuel hk
    obtain ⟨b0, b1⟩ := hb (l[i]'(by omega)) (List.getElem_mem _)
    have hp : 2 ^ (l[i]'(by omega)).toNat < 2 ^ 32 := Nat.pow_lt_pow_right (by omega) (by omega)
    simp only [impl_setOf.l0]
    rw [if_pos (by omega), if_pos (by omega), if_pos (by omega), wrap_one (n := l.length) (by omega) (by omega), rd_get l i (by omega), if_pos b0, shl_one _ b0 b1, or_cast _ _ hs hp]
    rw [ih k (i + 1) _ (Nat.or_lt_two_pow (n := 32) hs hp) (by omega) (by omega) (by omega), List.drop_eq_getElem_cons (l := l) (i := i) (by omega)]
    rfl
theorem impl_setOf_eq (l : List Int) (hl : l.length ≤ 1048576) (hb : ∀ x ∈ l, 0 ≤ x ∧ x < 32) (k : Nat) (hk : l.length < k) : impl_setOf.f k l = some ((setN l : Nat) : Int) :=
  impl_setOf_l0 l hl hb l.length k 0 0 (by omega) (by omega) (by omega) hk
theorem impl_set_count_eq (s : Nat) (hs : s < 4294967296) : impl_set_count.f (s : Int) = some ((Lib.onesCount s : Nat) : Int) := by
  unfold impl_set_count.f bits_OnesCount32.f
  rw [if_pos (by omega)]
  rfl

/-! ### order -/
/-- A list of n numbers that has each number below n has no others. -/
theorem order_within (l : List Int) (h : ∀ i : Nat, i < l.length → (i : Int) ∈ l) : ∀ x ∈ l, 0 ≤ x ∧ x < l.length := by
  intro x hx
  rcases Classical.em (0 ≤ x ∧ x < l.length) with e | e
  · exact e
  · exfalso
    have hn : ((List.range l.length).map fun i : Nat => (i : Int)).Nodup := by
      refine List.Pairwise.map _ ?_ List.nodup_range
      intro a b hab he
      exact hab (by omega)
    have hs : ((List.range l.length).map fun i : Nat => (i : Int)) ⊆ l.erase x := by
      intro y hy
      obtain ⟨i, hi, rfl⟩ := List.mem_map.1 hy
      have hi := List.mem_range.1 hi
      exact (List.mem_erase_of_ne (fun z => e (by omega))).2 (h i hi)
    have := List.Nodup.length_le_of_subset hn hs
    rw [List.length_erase_of_mem hx] at this
    have hp := List.length_pos_of_mem hx
    simp at this
    omega
theorem spec_l4Order_l0 (l : List Int) (n : Nat) (hl : l.length ≤ 1048576) (hn : n ≤ 1048576) (d : Nat) : ∀ (k i : Nat), i ≤ n → n - i = d → d + l.length < k → (∀ j : Nat, j < i → (j : Int) ∈ l) →
    spec_l4Order.l0 k l (n : Int) i = some (decide ((∀ j : Nat, j < n → (j : Int) ∈ l) ∧ l.length = n)) := by
  induction d with
  | zero =>
    intro k i hi hd hk hp
    obtain ⟨k, rfl, _⟩ := fuel hk
    simp only [spec_l4Order.l0]
    rw [if_neg (by omega)]
    refine congrArg some ?_
    rw [Bool.eq_iff_iff, beq_iff_eq, decide_eq_true_eq]
    exact ⟨fun e => ⟨fun j hj => hp j (by omega), by omega⟩, fun e => by omega⟩
  | succ d ih =>
    intro k i hi hd hk hp
    obtain ⟨k, rfl, _⟩ := fuel hk
    simp only [spec_l4Order.l0]
    rw [if_pos (by omega), spec_l1Has_eq l i hl k (by omega)]
    rw [Option.bind_some]
    simp only [decide_eq_true_eq]
    by_cases h : (i : Int) ∈ l
    · rw [if_pos h, wrap_one (n := n) (by omega) (by omega), ih k (i + 1) (by omega) (by omega) (by omega)]
      intro j hj
      by_cases e : j = i
      · rw [e]; exact h
      · exact hp j (by omega)
    · rw [if_neg h]
      refine congrArg some ?_
      symm
      rw [decide_eq_false_iff_not]
      exact fun e => h (e.1 i (by omega))
theorem spec_l4Order_eq (l : List Int) (n k : Nat) (hl : l.length ≤ 1048576) (hn : n ≤ 1048576) (hk : n + l.length < k) : spec_l4Order.f k l (n : Int) = some (decide ((∀ j : Nat, j < n → (j : Int) ∈ l) ∧ l.length = n)) :=
  spec_l4Order_l0 l n hl hn n k 0 (by omega) (by omega) (by omega) (fun j h => by omega)
theorem order_count (l : List Int) (n : Nat) (hn : n ≤ 32) (hl : l.length = n) (hw : ∀ x ∈ l, 0 ≤ x ∧ x < n) : Lib.onesCount (setN l) = n ↔ ∀ j : Nat, j < n → (j : Int) ∈ l := by
  rcases Nat.eq_zero_or_pos n with h0 | h0
  · subst h0
    obtain rfl := List.eq_nil_of_length_eq_zero hl
    exact ⟨fun _ j h => by omega, fun _ => rfl⟩
  rw [onesCount_below (setN l) n (setN_lt l n (fun p hp => (hw p hp).2) h0) (by omega)]
  have := List.length_filter_eq_length_iff (l := List.range n) (p := fun i => (setN l).testBit i)
  rw [List.length_range] at this
  rw [this]
  constructor
  · intro e j hj
    have := e j (List.mem_range.2 hj)
    rw [testBit_setN, decide_eq_true_eq] at this
    obtain ⟨p, hp, e⟩ := this
    have := hw p hp
    rw [show (j : Int) = p from by omega]
    exact hp
  · intro e j hj
    rw [testBit_setN, decide_eq_true_eq]
    exact ⟨j, e j (List.mem_range.1 hj), by omega⟩
theorem order_answer (l : List Int) (n : Nat) (hn : n ≤ 32) (hl : l.length = n) (hw : ∀ x ∈ l, 0 ≤ x ∧ x < (n : Int)) :
    ((some ((Lib.onesCount (setN l) : Nat) : Int)).bind fun t => some (t == (n : Int))) = some (decide ((∀ j : Nat, j < n → (j : Int) ∈ l) ∧ l.length = n)) := by
  have h := order_count l n hn hl hw
  generalize Lib.onesCount (setN l) = c at h ⊢
  rw [Option.bind_some]
  refine congrArg some ?_
  rw [Bool.eq_iff_iff, beq_iff_eq, decide_eq_true_eq]
  constructor
  · intro e
    exact ⟨h.1 (by omega), hl⟩
  · intro e
    have := h.2 e.1
    omega
theorem impl_isOrder_eq (l : List Int) (n k : Nat) (hn : n ≤ 32) (hk : l.length < k) (hl : l.length ≤ 1048576) : impl_isOrder.f k l (n : Int) = some (decide ((∀ j : Nat, j < n → (j : Int) ∈ l) ∧ l.length = n)) := by
  unfold impl_isOrder.f
  by_cases h : l.length = n
  · rw [if_pos (by omega), wrap_id (by omega) (by omega), impl_allWithin_eq l _ _ hl k hk]
    rw [Option.bind_some]
    simp only [decide_eq_true_eq]
    by_cases hw : ∀ x ∈ l, 0 ≤ x ∧ x ≤ (n : Int) - 1
    · have hw' : ∀ x ∈ l, 0 ≤ x ∧ x < (n : Int) := fun x hx => ⟨(hw x hx).1, by have := (hw x hx).2; omega⟩
      rw [if_pos hw, impl_setOf_eq l hl (fun x hx => ⟨(hw' x hx).1, by have := (hw' x hx).2; omega⟩) k hk]
      rw [Option.bind_some]
      have hs : setN l < 4294967296 := setN_u32 l (fun p hp => by have := (hw' p hp).2; omega)
      rw [impl_set_count_eq _ hs]
      exact order_answer l n hn h hw'
    · rw [if_neg hw]
      refine congrArg some ?_
      symm
      rw [decide_eq_false_iff_not]
      intro e
      refine hw fun x hx => ?_
      have := order_within l (fun i hi => e.1 i (by omega)) x hx
      omega
  · rw [if_neg (by omega)]
    refine congrArg some ?_
    symm
    rw [decide_eq_false_iff_not]
    exact fun e => h e.2
/-- A change: each number below its length, of which there are 1 to 10. -/
def Change (l : List Int) : Prop := (1 ≤ l.length ∧ l.length ≤ 10) ∧ ∀ j : Nat, j < l.length → (j : Int) ∈ l
instance (l : List Int) : Decidable (Change l) := inferInstanceAs (Decidable (_ ∧ _))
theorem spec_l10Change_eq (l : List Int) (k : Nat) (hl : l.length ≤ 1048576) (hk : l.length + l.length < k) : spec_l10Change.f k l = some (decide (Change l)) := by
  unfold spec_l10Change.f
  rw [spec_l1In_eq]
  rw [Option.bind_some]
  simp only [decide_eq_true_eq]
  by_cases h : (1 : Int) ≤ l.length ∧ (l.length : Int) ≤ 10
  · rw [if_pos h, spec_l4Order_eq l l.length k hl hl hk]
    rw [Option.bind_some]
    refine congrArg some ?_
    rw [decide_eq_decide]
    unfold Change
    constructor
    · intro e; exact ⟨by omega, e.1⟩
    · intro e; exact ⟨e.2, by simp⟩
  · rw [if_neg h]
    refine congrArg some ?_
    symm
    rw [decide_eq_false_iff_not]
    intro e
    have := e.1
    omega
theorem impl_isChange_eq (l : List Int) (k : Nat) (hl : l.length ≤ 1048576) (hk : l.length < k) : impl_isChange.f k l = some (decide (Change l)) := by
  unfold impl_isChange.f impl_isPeople.f
  rw [impl_within_eq, Option.bind_some, Option.bind_some]
  simp only [decide_eq_true_eq]
  by_cases h : (1 : Int) ≤ l.length ∧ (l.length : Int) ≤ 10
  · rw [if_pos h, impl_isOrder_eq l l.length k (by omega) hk hl]
    rw [Option.bind_some]
    refine congrArg some ?_
    rw [decide_eq_decide]
    unfold Change
    constructor
    · intro e; exact ⟨by omega, e.1⟩
    · intro e; exact ⟨e.2, by simp⟩
  · rw [if_neg h]
    refine congrArg some ?_
    symm
    rw [decide_eq_false_iff_not]
    intro e
    have := e.1
    omega

/-! ### changes -/
theorem nodup_of_cover : ∀ (r l : List Int), r.Nodup → r ⊆ l → l.length ≤ r.length → l.Nodup
  | [], l, _, _, hl => by
    have : l = [] := List.eq_nil_of_length_eq_zero (by simpa using hl)
    subst this
    exact List.nodup_nil
  | a :: t, l, hn, hs, hl => by
    have ha : a ∈ l := hs List.mem_cons_self
    have hc := List.nodup_cons.1 hn
    have hlen := List.length_erase_of_mem ha
    have hpos := List.length_pos_of_mem ha
    have ht : t ⊆ l.erase a := fun x hx => (List.mem_erase_of_ne (by rintro rfl; exact hc.1 hx)).2 (hs (List.mem_cons_of_mem _ hx))
    have hl' : l.length ≤ t.length + 1 := by simpa using hl
    have ih := nodup_of_cover t (l.erase a) hc.2 ht (by omega)
    refine (List.perm_cons_erase ha).nodup_iff.2 (List.nodup_cons.2 ⟨fun hin => ?_, ih⟩)
    have hs' : (a :: t) ⊆ l.erase a := by
      intro x hx
      rcases List.mem_cons.1 hx with e | e
      · exact e ▸ hin
      · exact ht e
    have := List.Nodup.length_le_of_subset hn hs'
    simp at this
    omega
theorem range_nodup (n : Nat) : ((List.range n).map fun i : Nat => (i : Int)).Nodup := by
  refine List.Pairwise.map _ ?_ List.nodup_range
  intro a b hab he
  exact hab (by omega)
theorem change_nodup (l : List Int) (h : Change l) : l.Nodup := by
  refine nodup_of_cover _ l (range_nodup l.length) ?_ (by simp)
  intro y hy
  obtain ⟨i, hi, rfl⟩ := List.mem_map.1 hy
  exact h.2 i (List.mem_range.1 hi)

/-! ### cycles -/
def iter (f : Nat → Nat) : Nat → Nat → Nat
  | 0, p => p
  | k + 1, p => f (iter f k p)
theorem iter_add (f : Nat → Nat) (a b p : Nat) : iter f (a + b) p = iter f a (iter f b p) := by
  induction a with
  | zero => rw [Nat.zero_add]; rfl
  | succ a ih => rw [show a + 1 + b = (a + b) + 1 from by omega, iter, ih, iter]
/-- A permutation of the numbers below n. -/
structure Per (n : Nat) (f : Nat → Nat) : Prop where
  lt : ∀ p, p < n → f p < n
  inj : ∀ p q, p < n → q < n → f p = f q → p = q
section
variable {n : Nat} {f : Nat → Nat} (h : Per n f)
include h
theorem iter_lt (k p : Nat) (hp : p < n) : iter f k p < n := by
  induction k with
  | zero => exact hp
  | succ k ih => exact h.lt _ ih
theorem iter_inj (k p q : Nat) (hp : p < n) (hq : q < n) (e : iter f k p = iter f k q) : p = q := by
  induction k with
  | zero => exact e
  | succ k ih => exact ih (h.inj _ _ (iter_lt h k p hp) (iter_lt h k q hq) e)
theorem period_exists (p : Nat) (hp : p < n) : ∃ m, 1 ≤ m ∧ m ≤ n ∧ iter f m p = p := by
  refine Classical.byContradiction fun hno => ?_
  have hn : ((List.range (n + 1)).map fun k => iter f k p).Nodup := by
    refine List.pairwise_iff_getElem.2 fun i j hi hj hij => ?_
    simp only [List.length_map, List.length_range] at hi hj
    simp only [List.getElem_map, List.getElem_range]
    intro e
    refine hno ⟨j - i, by omega, by omega, ?_⟩
    rw [show j = i + (j - i) from by omega, iter_add] at e
    exact (iter_inj h i _ _ (iter_lt h _ p hp) hp e.symm)
  have hs : ((List.range (n + 1)).map fun k => iter f k p) ⊆ List.range n := by
    intro x hx
    obtain ⟨k, _, rfl⟩ := List.mem_map.1 hx
    exact List.mem_range.2 (iter_lt h k p hp)
  have := List.Nodup.length_le_of_subset hn hs
  simp at this
  omega
end
def IsPer (f : Nat → Nat) (p m : Nat) : Prop := 1 ≤ m ∧ iter f m p = p ∧ ∀ k, 1 ≤ k → k < m → iter f k p ≠ p
theorem isPer_unique {f : Nat → Nat} {p m m' : Nat} (a : IsPer f p m) (b : IsPer f p m') : m = m' := by
  rcases Nat.lt_trichotomy m m' with e | e | e
  · exact absurd a.2.1 (b.2.2 m a.1 e)
  · exact e
  · exact absurd b.2.1 (a.2.2 m' b.1 e)
theorem isPer_least (f : Nat → Nat) (p : Nat) : ∀ m, 1 ≤ m → iter f m p = p → ∃ m', m' ≤ m ∧ IsPer f p m' := by
  intro m
  induction m using Nat.strongRecOn with
  | ind m ih =>
    intro h1 h2
    by_cases hk : ∃ k, 1 ≤ k ∧ k < m ∧ iter f k p = p
    · obtain ⟨k, a, b, c⟩ := hk
      obtain ⟨m', hm, e⟩ := ih k b a c
      exact ⟨m', by omega, e⟩
    · exact ⟨m, Nat.le_refl _, h1, h2, fun k a b c => hk ⟨k, a, b, c⟩⟩
open Classical in
/-- How many steps lead back. -/
noncomputable def per (f : Nat → Nat) (p : Nat) : Nat := if hx : ∃ m, IsPer f p m then Classical.choose hx else 0
theorem per_eq {f : Nat → Nat} {p m : Nat} (a : IsPer f p m) : per f p = m := by
  have hx : ∃ m, IsPer f p m := ⟨m, a⟩
  unfold per
  rw [dif_pos hx]
  exact isPer_unique (Classical.choose_spec hx) a
section
variable {n : Nat} {f : Nat → Nat} (h : Per n f)
include h
theorem per_spec (p : Nat) (hp : p < n) : IsPer f p (per f p) ∧ per f p ≤ n := by
  obtain ⟨m, h1, h2, h3⟩ := period_exists h p hp
  obtain ⟨m', h4, h5⟩ := isPer_least f p m h1 h3
  rw [per_eq h5]
  exact ⟨h5, by omega⟩
theorem per_step (p : Nat) (hp : p < n) : per f (f p) = per f p := by
  obtain ⟨⟨h1, h2, h3⟩, _⟩ := per_spec h p hp
  refine per_eq ⟨h1, ?_, fun k a b e => h3 k a b ?_⟩
  · rw [show f p = iter f 1 p from rfl, ← iter_add, Nat.add_comm, iter_add, h2]
  · refine iter_inj h 1 _ _ (iter_lt h k p hp) hp ?_
    rw [← iter_add, Nat.add_comm, iter_add]
    exact e
theorem per_iter (k p : Nat) (hp : p < n) : per f (iter f k p) = per f p := by
  induction k with
  | zero => rfl
  | succ k ih => rw [iter, per_step h _ (iter_lt h k p hp), ih]
end
def Orb (f : Nat → Nat) (i q : Nat) : Prop := ∃ a, iter f a i = q
/-- Cycles are met one after another, each from a place that no cycle before it has. -/
inductive Trav (n : Nat) (f : Nat → Nat) : (Nat → Bool) → List Nat → Prop
  | nil : Trav n f (fun _ => false) []
  | snoc (V V' : Nat → Bool) (reps : List Nat) (i : Nat) : Trav n f V reps → i < n → V i = false → (∀ q, V' q = true ↔ (V q = true ∨ Orb f i q)) → Trav n f V' (reps ++ [i])
/-- What has been met behind j steps from i. -/
def vis (f : Nat → Nat) (V : Nat → Bool) (i : Nat) : Nat → Nat → Bool
  | 0 => V
  | j + 1 => fun q => vis f V i j q || (iter f j i == q)
theorem vis_spec (f : Nat → Nat) (V : Nat → Bool) (i : Nat) : ∀ j q, vis f V i j q = true ↔ (V q = true ∨ ∃ a, a < j ∧ iter f a i = q)
  | 0, q => by simp [vis]
  | j + 1, q => by
    rw [vis, Bool.or_eq_true, vis_spec f V i j q, beq_iff_eq]
    constructor
    · rintro ((e | ⟨a, ha, e⟩) | e)
      · exact .inl e
      · exact .inr ⟨a, by omega, e⟩
      · exact .inr ⟨j, by omega, e⟩
    · rintro (e | ⟨a, ha, e⟩)
      · exact .inl (.inl e)
      · by_cases g : a = j
        · subst g; exact .inr e
        · exact .inl (.inr ⟨a, by omega, e⟩)
section
variable {n : Nat} {f : Nat → Nat} (h : Per n f)
include h
theorem orb_short (i q : Nat) (hi : i < n) : Orb f i q ↔ ∃ a, a < per f i ∧ iter f a i = q := by
  constructor
  · rintro ⟨a, e⟩
    obtain ⟨⟨h1, h2, _⟩, _⟩ := per_spec h i hi
    refine ⟨a % per f i, Nat.mod_lt _ h1, ?_⟩
    have hm : ∀ c, iter f (per f i * c) i = i := by
      intro c
      induction c with
      | zero => rfl
      | succ c ih => rw [Nat.mul_succ, iter_add, h2, ih]
    rw [← e]
    conv => rhs; rw [← Nat.mod_add_div a (per f i), iter_add, hm]
  · rintro ⟨a, _, e⟩
    exact ⟨a, e⟩
theorem trav_back {V : Nat → Bool} {reps : List Nat} (t : Trav n f V reps) : ∀ q, q < n → V (f q) = true → V q = true := by
  induction t with
  | nil => intro q _ e; cases e
  | snoc V V' reps i t hi hv hV ih =>
    intro q hq e
    rw [hV] at e ⊢
    rcases e with e | ⟨a, e⟩
    · exact .inl (ih q hq e)
    · refine .inr ?_
      cases a with
      | zero =>
        obtain ⟨⟨h1, h2, _⟩, _⟩ := per_spec h i hi
        refine ⟨per f i - 1, h.inj _ _ (iter_lt h _ i hi) hq ?_⟩
        rw [show f (iter f (per f i - 1) i) = iter f (per f i - 1 + 1) i from rfl, show per f i - 1 + 1 = per f i from by omega, h2]
        exact e
      | succ a => exact ⟨a, h.inj _ _ (iter_lt h _ i hi) hq e⟩
theorem trav_backs {V : Nat → Bool} {reps : List Nat} (t : Trav n f V reps) (k q : Nat) (hq : q < n) (e : V (iter f k q) = true) : V q = true := by
  induction k with
  | zero => exact e
  | succ k ih => exact ih (trav_back h t _ (iter_lt h k q hq) e)
theorem vis_not {V : Nat → Bool} {reps : List Nat} (t : Trav n f V reps) (i : Nat) (hi : i < n) (hv : V i = false) (j : Nat) (hj : j < per f i) : vis f V i j (iter f j i) = false := by
  rw [Bool.eq_false_iff]
  intro e
  rw [vis_spec] at e
  rcases e with e | ⟨a, ha, e⟩
  · rw [trav_backs h t j i hi e] at hv
    cases hv
  · rw [show j = a + (j - a) from by omega, iter_add] at e
    have := iter_inj h a _ _ hi (iter_lt h _ i hi) e
    exact (per_spec h i hi).1.2.2 (j - a) (by omega) (by omega) this.symm
theorem vis_full {V : Nat → Bool} (i : Nat) (hi : i < n) : vis f V i (per f i) (iter f (per f i) i) = true := by
  obtain ⟨⟨h1, h2, _⟩, _⟩ := per_spec h i hi
  rw [vis_spec]
  exact .inr ⟨0, h1, h2.symm⟩
theorem vis_trav {V : Nat → Bool} {reps : List Nat} (t : Trav n f V reps) (i : Nat) (hi : i < n) (hv : V i = false) : Trav n f (vis f V i (per f i)) (reps ++ [i]) := by
  refine .snoc V _ reps i t hi hv fun q => ?_
  rw [vis_spec, orb_short h i q hi]
end
theorem trav_orb {n : Nat} {f : Nat → Nat} {V : Nat → Bool} {reps : List Nat} (t : Trav n f V reps) : ∀ q, V q = true ↔ ∃ i, i ∈ reps ∧ Orb f i q := by
  induction t with
  | nil => simp
  | snoc V V' reps i t hi hv hV ih =>
    intro q
    rw [hV, ih]
    simp only [List.mem_append, List.mem_singleton]
    constructor
    · rintro (⟨r, hr, e⟩ | e)
      · exact ⟨r, .inl hr, e⟩
      · exact ⟨i, .inr rfl, e⟩
    · rintro ⟨r, hr | rfl, e⟩
      · exact .inl ⟨r, hr, e⟩
      · exact .inr e
theorem trav_reps_lt {n : Nat} {f : Nat → Nat} {V : Nat → Bool} {reps : List Nat} (t : Trav n f V reps) : ∀ i ∈ reps, i < n := by
  induction t with
  | nil => simp
  | snoc V V' reps i t hi hv hV ih =>
    intro r hr
    rcases List.mem_append.1 hr with e | e
    · exact ih r e
    · rw [List.mem_singleton.1 e]; exact hi
theorem sum_zero (l : List Nat) : (l.map fun _ => 0).sum = 0 := by
  induction l with
  | nil => rfl
  | cons a l ih => simpa using ih
theorem sum_change (n p : Nat) (g g' : Nat → Nat) (hp : p < n) (he : ∀ q, q ≠ p → g' q = g q) : ((List.range n).map g').sum + g p = ((List.range n).map g).sum + g' p := by
  induction n with
  | zero => omega
  | succ n ih =>
    rw [List.range_succ, List.map_append, List.map_append, List.sum_append, List.sum_append]
    simp only [List.map_cons, List.map_nil, List.sum_cons, List.sum_nil]
    by_cases e : p = n
    · subst e
      have : (List.range p).map g' = (List.range p).map g := List.map_congr_left fun q hq => he q (by have := List.mem_range.1 hq; omega)
      rw [this]
      omega
    · have := ih (by omega)
      rw [he n (fun z => e z.symm)]
      omega
/-- Each place bears a part of 2520 of its cycle's worth: as many parts as the cycle has places. -/
noncomputable def part (f : Nat → Nat) (w : Nat → Nat) (p : Nat) : Nat := 2520 / per f p * w p
noncomputable def worth (n : Nat) (f : Nat → Nat) (w : Nat → Nat) (V : Nat → Bool) : Nat := ((List.range n).map fun p => if V p = true then part f w p else 0).sum
section
variable {n : Nat} {f : Nat → Nat} (h : Per n f) (w : Nat → Nat) (hw : ∀ p, p < n → w (f p) = w p) (h10 : n ≤ 10)
include h hw
theorem w_iter (k p : Nat) (hp : p < n) : w (iter f k p) = w p := by
  induction k with
  | zero => rfl
  | succ k ih => rw [iter, hw _ (iter_lt h k p hp), ih]
theorem part_iter (k p : Nat) (hp : p < n) : part f w (iter f k p) = part f w p := by
  unfold part
  rw [per_iter h k p hp, w_iter h w hw k p hp]
theorem worth_vis {V : Nat → Bool} {reps : List Nat} (t : Trav n f V reps) (i : Nat) (hi : i < n) (hv : V i = false) (j : Nat) (hj : j ≤ per f i) : worth n f w (vis f V i j) = worth n f w V + j * part f w i := by
  induction j with
  | zero => simp [vis]
  | succ j ih =>
    have ih := ih (by omega)
    have hn := vis_not h t i hi hv j (by omega)
    have hlt := iter_lt h j i hi
    have := sum_change n (iter f j i) (fun p => if vis f V i j p = true then part f w p else 0) (fun p => if vis f V i (j + 1) p = true then part f w p else 0) hlt (by
      intro q hq
      have e1 : vis f V i (j + 1) q = vis f V i j q := by
        show (vis f V i j q || iter f j i == q) = _
        rw [show (iter f j i == q) = false from beq_eq_false_iff_ne.2 (fun e => hq e.symm), Bool.or_false]
      rw [e1])
    have e2 : vis f V i (j + 1) (iter f j i) = true := by
      show (vis f V i j (iter f j i) || iter f j i == iter f j i) = true
      rw [beq_self_eq_true, Bool.or_true]
    rw [e2, hn, if_pos rfl, if_neg (by simp)] at this
    unfold worth at ih ⊢
    rw [Nat.add_mul, Nat.one_mul, ← part_iter h w hw j i hi]
    rw [part_iter h w hw j i hi] at this ⊢
    omega
include h10
theorem worth_trav {V : Nat → Bool} {reps : List Nat} (t : Trav n f V reps) : worth n f w V = 2520 * (reps.map w).sum := by
  induction t with
  | nil =>
    unfold worth
    have e : ((List.range n).map fun p => if false = true then part f w p else 0) = (List.range n).map fun _ => 0 := List.map_congr_left fun _ _ => by rw [if_neg (by simp)]
    rw [e, sum_zero]
    rfl
  | snoc V V' reps i t hi hv hV ih =>
    obtain ⟨⟨h1, _, _⟩, h2⟩ := per_spec h i hi
    have e : V' = vis f V i (per f i) := by
      funext q
      rw [Bool.eq_iff_iff, hV, vis_spec, orb_short h i q hi]
    rw [e, worth_vis h w hw t i hi hv _ (Nat.le_refl _), ih, List.map_append, List.sum_append]
    have hd : per f i * (2520 / per f i) = 2520 := by
      have : ∀ m, m ≤ 10 → 1 ≤ m → m * (2520 / m) = 2520 := by decide
      exact this _ (by omega) h1
    unfold part
    rw [← Nat.mul_assoc, hd]
    simp
    omega
/-- Whatever the order in which cycles are met, their worths have one sum. -/
theorem trav_sum {V V' : Nat → Bool} {reps reps' : List Nat} (t : Trav n f V reps) (t' : Trav n f V' reps') (hV : ∀ q, q < n → V q = true) (hV' : ∀ q, q < n → V' q = true) : (reps.map w).sum = (reps'.map w).sum := by
  have e : worth n f w V = worth n f w V' := by
    unfold worth
    congr 1
    refine List.map_congr_left fun q hq => ?_
    rw [hV q (List.mem_range.1 hq), hV' q (List.mem_range.1 hq)]
  rw [worth_trav h w hw h10 t, worth_trav h w hw h10 t'] at e
  omega
end

/-! ### cycles_loops -/
def fun_of (l : List Int) (p : Nat) : Nat := (l.getD p 0).toNat
theorem change_per (l : List Int) (h : Change l) : Per l.length (fun_of l) := by
  have hw := order_within l h.2
  have hg : ∀ p, (hp : p < l.length) → l.getD p 0 = l[p] := fun p hp => by simp [List.getD, hp]
  refine ⟨fun p hp => ?_, fun p q hp hq e => ?_⟩
  · unfold fun_of
    rw [hg p hp]
    have := hw _ (List.getElem_mem hp)
    omega
  · unfold fun_of at e
    rw [hg p hp, hg q hq] at e
    have h1 := hw _ (List.getElem_mem hp)
    have h2 := hw _ (List.getElem_mem hq)
    have hn := List.pairwise_iff_getElem.1 (change_nodup l h)
    rcases Nat.lt_trichotomy p q with g | g | g
    · exact absurd (by omega) (hn p q hp hq g)
    · exact g
    · exact absurd (by omega) (hn q p hq hp g)
theorem rd_fun (l : List Int) (h : Change l) (p : Nat) (hp : p < l.length) : rd l (p : Int) = ((fun_of l p : Nat) : Int) := by
  have := order_within l h.2 _ (List.getElem_mem hp)
  rw [rd_get l p hp]
  unfold fun_of
  rw [show l.getD p 0 = l[p] from by simp [List.getD, hp]]
  omega
theorem shr_bit (s p : Nat) (hp : p < 32) (hs : s < 4294967296) : impl_set_has.f (s : Int) (p : Int) = some (s.testBit p) := by
  unfold impl_set_has.f
  rw [if_pos (by omega)]
  refine congrArg some ?_
  have e1 : shr .u32 (s : Int) (p : Int) = ((s / 2 ^ p : Nat) : Int) := by
    unfold shr
    rw [show min (p : Int).toNat IntKind.u32.bits = p from Nat.min_eq_left (by show p ≤ 32; omega)]
    simp
  have e2 : s / 2 ^ p ≤ s := Nat.div_le_self _ _
  rw [e1, show (1 : Int) = ((1 : Nat) : Int) from rfl, and_cast _ _ (by omega) (by omega), Nat.and_one_is_mod, Nat.testBit_eq_decide_div_mod_eq, Bool.eq_iff_iff, beq_iff_eq, decide_eq_true_eq]
  omega
section
variable {l : List Int} (h : Change l)
include h
theorem impl_walk (V : Nat → Bool) (reps : List Nat) (t : Trav l.length (fun_of l) V reps) (out : List Int) (i : Nat) (hi : i < l.length) (hv : V i = false) (ho : out.length ≤ 1000) (d : Nat) :
    ∀ (k j s : Nat), j ≤ per (fun_of l) i → per (fun_of l) i - j = d → s < 2 ^ 10 → (∀ q, q < l.length → s.testBit q = vis (fun_of l) V i j q) → ∃ s' : Nat, s' < 2 ^ 10 ∧ (∀ q, q < l.length → s'.testBit q = vis (fun_of l) V i (per (fun_of l) i) q) ∧
      impl_cycles.l1 (k + d + 1) l out (s : Int) (i : Int) (j : Int) ((iter (fun_of l) j i : Nat) : Int) = impl_cycles.l0 k l (out ++ [((per (fun_of l) i : Nat) : Int)]) (s' : Int) (wrap64 ((i : Int) - 1)) := by
  have hP := change_per l h
  have h10 := h.1
  obtain ⟨⟨p1, p2, _⟩, p3⟩ := per_spec hP i hi
  induction d with
  | zero =>
    intro k j s hj he hs hr
    have hj' : j = per (fun_of l) i := by omega
    subst hj'
    refine ⟨s, hs, hr, ?_⟩
    have hlt := iter_lt hP (per (fun_of l) i) i hi
    simp only [impl_cycles.l1]
    rw [shr_bit s _ (by omega) (by omega), hr _ hlt, vis_full hP i hi, Option.bind_some, if_pos rfl, if_pos (by omega), if_pos (by omega)]
  | succ d ih =>
    intro k j s hj he hs hr
    have hlt := iter_lt hP j i hi
    have hb : 2 ^ iter (fun_of l) j i < 2 ^ 10 := Nat.pow_lt_pow_right (by omega) (by omega)
    obtain ⟨s', h1, h2, h3⟩ := ih k (j + 1) (s ||| 2 ^ iter (fun_of l) j i) (by omega) (by omega) (Nat.or_lt_two_pow hs hb) (fun q hq => by
      rw [Nat.testBit_or, hr q hq, Nat.testBit_two_pow]
      show _ = (vis (fun_of l) V i j q || iter (fun_of l) j i == q)
      congr 1)
    refine ⟨s', h1, h2, ?_⟩
    rw [show k + (d + 1) + 1 = (k + d + 1) + 1 from by clear h3; omega]
    generalize k + d + 1 = K at h3 ⊢
    rw [← h3]
    conv => lhs; simp only [impl_cycles.l1]
    rw [shr_bit s _ (by omega) (by omega), hr _ hlt, vis_not hP t i hi hv j (by omega), Option.bind_some, if_neg (by simp), if_pos (by omega), if_pos (by omega), shl_one _ (by omega) (by omega), Int.toNat_natCast, or_cast _ _ (by omega) (by omega), wrap_one (n := 20) (by omega) (by omega), rd_fun l h _ hlt]
    rfl
theorem spec_walk (V : Nat → Bool) (reps : List Nat) (t : Trav l.length (fun_of l) V reps) (out : List Int) (i : Nat) (hi : i < l.length) (hv : V i = false) (ho : out.length ≤ 1000) (at0 : Int) (d : Nat) :
    ∀ (k j : Nat) (x : List Bool) (a : Int), j ≤ per (fun_of l) i → per (fun_of l) i - j = d → x.length = l.length → (∀ q, q < l.length → rdOf false x (q : Int) = vis (fun_of l) V i j q) → a = (if ∃ b, b < j ∧ fun_of l (iter (fun_of l) b i) = l.length - 1 then (out.length : Int) else at0) →
      ∃ x' : List Bool, x'.length = l.length ∧ (∀ q, q < l.length → rdOf false x' (q : Int) = vis (fun_of l) V i (per (fun_of l) i) q) ∧
      spec_l10Cycles.l1 (k + d + 1) l out x a (i : Int) (j : Int) ((iter (fun_of l) j i : Nat) : Int) = spec_l10Cycles.l0 k l (out ++ [((per (fun_of l) i : Nat) : Int)]) x' (if ∃ b, b < per (fun_of l) i ∧ fun_of l (iter (fun_of l) b i) = l.length - 1 then (out.length : Int) else at0) (wrap64 ((i : Int) + 1)) := by
  have hP := change_per l h
  have h10 := h.1
  obtain ⟨⟨p1, p2, _⟩, p3⟩ := per_spec hP i hi
  induction d with
  | zero =>
    intro k j x a hj he hx hr ha
    have hj' : j = per (fun_of l) i := by omega
    subst hj'
    refine ⟨x, hx, hr, ?_⟩
    have hlt := iter_lt hP (per (fun_of l) i) i hi
    simp only [spec_l10Cycles.l1]
    rw [if_pos (by omega), if_pos (by omega), hr _ hlt, vis_full hP i hi, if_pos rfl, if_pos (by omega), ha]
  | succ d ih =>
    intro k j x a hj he hx hr ha
    have hlt := iter_lt hP j i hi
    obtain ⟨x', h1, h2, h3⟩ := ih k (j + 1) (x.set (iter (fun_of l) j i) true) (if fun_of l (iter (fun_of l) j i) = l.length - 1 then (out.length : Int) else a) (by clear ha; omega) (by clear ha; omega) (by simp [hx]) (fun q hq => by
      show _ = (vis (fun_of l) V i j q || iter (fun_of l) j i == q)
      rw [← hr q hq]
      unfold rdOf
      rw [Int.toNat_natCast, List.getD_eq_getElem?_getD, List.getD_eq_getElem?_getD]
      by_cases g : iter (fun_of l) j i = q
      · subst g
        rw [List.getElem?_set_self (by omega)]
        simp
      · rw [List.getElem?_set_ne g, beq_eq_false_iff_ne.2 g, Bool.or_false]) (by
      rw [ha]
      by_cases g : fun_of l (iter (fun_of l) j i) = l.length - 1
      · rw [if_pos g, if_pos ⟨j, by omega, g⟩]
      · rw [if_neg g]
        by_cases g2 : ∃ b, b < j ∧ fun_of l (iter (fun_of l) b i) = l.length - 1
        · obtain ⟨b, hb, e⟩ := g2
          rw [if_pos ⟨b, hb, e⟩, if_pos ⟨b, by omega, e⟩]
        · rw [if_neg g2, if_neg]
          rintro ⟨b, hb, e⟩
          by_cases z : b = j
          · subst z; exact g e
          · exact g2 ⟨b, by omega, e⟩)
    refine ⟨x', h1, h2, ?_⟩
    clear ha
    rw [show k + (d + 1) + 1 = (k + d + 1) + 1 from by clear h3; omega]
    generalize k + d + 1 = K at h3 ⊢
    rw [← h3]
    clear h3
    conv => lhs; simp only [spec_l10Cycles.l1]
    rw [if_pos (by omega), if_pos (by omega), hr _ hlt, vis_not hP t i hi hv j (by omega), if_neg (by simp), Option.bind_some, if_pos (by omega), rd_fun l h _ hlt, Int.toNat_natCast, wrap_id (by omega) (by omega), wrap_one (n := 20) (by omega) (by omega)]
    by_cases g : fun_of l (iter (fun_of l) j i) = l.length - 1
    · rw [if_pos (by omega), if_pos g]
      rfl
    · rw [if_neg (by have := hP.lt _ hlt; omega), if_neg g]
      rfl
end

/-! ### cycles_all -/
noncomputable def perI (l : List Int) (reps : List Nat) : List Int := reps.map fun i => ((per (fun_of l) i : Nat) : Int)
theorem perI_snoc (l : List Int) (reps : List Nat) (i : Nat) : perI l (reps ++ [i]) = perI l reps ++ [((per (fun_of l) i : Nat) : Int)] := by
  unfold perI
  rw [List.map_append]
  rfl
theorem perI_length (l : List Int) (reps : List Nat) : (perI l reps).length = reps.length := by simp [perI]
section
variable {l : List Int} (h : Change l)
include h
theorem impl_outer (m : Nat) : ∀ (k : Nat) (V : Nat → Bool) (reps : List Nat) (s : Nat), Trav l.length (fun_of l) V reps → m ≤ l.length → (∀ q, q < l.length → m ≤ q → V q = true) → s < 2 ^ 10 → (∀ q, q < l.length → s.testBit q = V q) → reps.length + m ≤ 20 → 13 * m < k →
    ∃ (more : List Nat) (V' : Nat → Bool), Trav l.length (fun_of l) V' (reps ++ more) ∧ (∀ q, q < l.length → V' q = true) ∧ impl_cycles.l0 k l (perI l reps) (s : Int) ((m : Int) - 1) = some (perI l (reps ++ more)) := by
  have hP := change_per l h
  have h10 := h.1
  induction m with
  | zero =>
    intro k V reps s t hm hV hs hr hlen hk
    obtain ⟨k, rfl, _⟩ := fuel hk
    refine ⟨[], V, by rw [List.append_nil]; exact t, fun q hq => hV q hq (Nat.zero_le _), ?_⟩
    simp only [impl_cycles.l0]
    rw [if_neg (by omega), List.append_nil]
  | succ m ih =>
    intro k V reps s t hm hV hs hr hlen hk
    obtain ⟨k, rfl, _⟩ := fuel (show 13 * m + 12 < k by omega)
    have e0 : ((m + 1 : Nat) : Int) - 1 = (m : Int) := by omega
    rw [e0]
    conv => enter [1, more, 1, V', 2, 2, 1]; simp only [impl_cycles.l0]
    rw [if_pos (by omega)]
    cases hv : V m with
    | true =>
      obtain ⟨more, V', h1, h2, h3⟩ := ih (k - 1) V reps s t (by omega) (fun q hq hmq => by
        by_cases e : q = m
        · rw [e]; exact hv
        · exact hV q hq (by omega)) hs hr (by omega) (by omega)
      refine ⟨more, V', h1, h2, ?_⟩
      rw [← h3]
      obtain ⟨k, rfl, _⟩ := fuel (show 13 * m + 11 < k by omega)
      conv => lhs; simp only [impl_cycles.l1]
      rw [shr_bit s m (by omega) (by omega), hr m (by omega), hv, Option.bind_some, if_pos rfl, if_neg (by omega), wrap_id (by omega) (by omega)]
      rfl
    | false =>
      obtain ⟨⟨p1, _, _⟩, p3⟩ := per_spec hP m (by omega)
      obtain ⟨k', hk'⟩ : ∃ k', k = k' + per (fun_of l) m + 1 := ⟨k - per (fun_of l) m - 1, by omega⟩
      obtain ⟨s', g1, g2, g3⟩ := impl_walk h V reps t (perI l reps) m (by omega) hv (by rw [perI_length]; omega) (per (fun_of l) m) k' 0 s (by omega) (by omega) hs hr
      obtain ⟨more, V', h1, h2, h3⟩ := ih k' _ _ s' (vis_trav hP t m (by omega) hv) (by omega) (fun q hq hmq => by
        by_cases e : q = m
        · rw [e, vis_spec]; exact .inr ⟨0, p1, rfl⟩
        · rw [vis_spec]; exact .inl (hV q hq (by omega))) g1 g2 (by simp; omega) (by omega)
      rw [List.append_assoc] at h1 h3
      refine ⟨[m] ++ more, V', h1, h2, ?_⟩
      rw [hk', ← h3, perI_snoc]
      rw [show (0 : Int) = ((0 : Nat) : Int) from rfl]
      refine g3.trans ?_
      rw [wrap_id (by omega) (by omega)]
theorem impl_cycles_all : ∃ (more : List Nat) (V : Nat → Bool), Trav l.length (fun_of l) V ((l.length - 1) :: more) ∧ (∀ q, q < l.length → V q = true) ∧ ∀ k, 200 < k → impl_cycles.f k l = some (perI l ((l.length - 1) :: more)) := by
  have hP := change_per l h
  have h10 := h.1
  obtain ⟨⟨p1, _, _⟩, p3⟩ := per_spec hP (l.length - 1) (by omega)
  obtain ⟨s', g1, g2, g3⟩ := impl_walk h _ [] .nil (perI l []) (l.length - 1) (by omega) rfl (by simp [perI]) (per (fun_of l) (l.length - 1)) 150 0 0 (by omega) (by omega) (by decide) (fun q hq => by rw [Nat.zero_testBit]; rfl)
  obtain ⟨more, V', h1, h2, h3⟩ := impl_outer h (l.length - 1) 150 _ _ s' (vis_trav hP .nil (l.length - 1) (by omega) rfl) (by omega) (fun q hq hmq => by
    rw [show q = l.length - 1 from by omega, vis_spec]; exact .inr ⟨0, p1, rfl⟩) g1 g2 (by simp; omega) (by omega)
  refine ⟨more, V', h1, h2, fun k hk => ?_⟩
  have e : impl_cycles.f (150 + per (fun_of l) (l.length - 1) + 1 + 1) l = some (perI l ((l.length - 1) :: more)) := by
    unfold impl_cycles.f
    rw [wrap_id (by omega) (by omega), show (l.length : Int) - 1 = ((l.length - 1 : Nat) : Int) from by omega]
    conv => lhs; simp only [impl_cycles.l0]
    rw [if_pos (by omega)]
    refine g3.trans ?_
    rw [wrap_id (by omega) (by omega)]
    exact h3
  exact at_rounds (g := fun k => impl_cycles.f k l) (impl_cycles.mono l) (by omega) e
theorem spec_outer (m : Nat) : ∀ (k i : Nat) (V : Nat → Bool) (reps : List Nat) (x : List Bool) (a : Int), i + m = l.length → Trav l.length (fun_of l) V reps → (∀ q, q < l.length → q < i → V q = true) → x.length = l.length → (∀ q, q < l.length → rdOf false x (q : Int) = V q) → reps.length ≤ i → (∀ (j : Nat) (hj : j < reps.length), Orb (fun_of l) (reps[j]) (l.length - 1) → a = (j : Int)) → 13 * m < k →
    ∃ (more : List Nat) (V' : Nat → Bool) (a' : Int), Trav l.length (fun_of l) V' (reps ++ more) ∧ (∀ q, q < l.length → V' q = true) ∧ (∀ (j : Nat) (hj : j < (reps ++ more).length), Orb (fun_of l) ((reps ++ more)[j]) (l.length - 1) → a' = (j : Int)) ∧ spec_l10Cycles.l0 k l (perI l reps) x a (i : Int) = some (perI l (reps ++ more), a') := by
  have hP := change_per l h
  have h10 := h.1
  induction m with
  | zero =>
    intro k i V reps x a hm t hV hx hr hlen ha hk
    obtain ⟨k, rfl, _⟩ := fuel hk
    refine ⟨[], V, a, by rw [List.append_nil]; exact t, fun q hq => hV q hq (by omega), fun j hj e => ?_, ?_⟩
    · simp only [List.append_nil] at hj e
      exact ha j hj e
    · simp only [spec_l10Cycles.l0]
      rw [if_neg (by omega), List.append_nil]
  | succ m ih =>
    intro k i V reps x a hm t hV hx hr hlen ha hk
    obtain ⟨k, rfl, _⟩ := fuel (show 13 * m + 12 < k by omega)
    conv => enter [1, more, 1, V', 1, a', 2, 2, 2, 1]; simp only [spec_l10Cycles.l0]
    rw [if_pos (by omega), if_pos (by omega), if_pos (by omega), hr i (by omega)]
    cases hv : V i with
    | true =>
      obtain ⟨more, V', a', h1, h2, h3, h4⟩ := ih k (i + 1) V reps x a (by omega) t (fun q hq hmq => by
        by_cases e : q = i
        · rw [e]; exact hv
        · exact hV q hq (by omega)) hx hr (by omega) ha (by omega)
      refine ⟨more, V', a', h1, h2, h3, ?_⟩
      rw [if_pos rfl, wrap_one (n := l.length) (by omega) (by omega)]
      exact h4
    | false =>
      obtain ⟨⟨p1, _, _⟩, p3⟩ := per_spec hP i (by omega)
      obtain ⟨k', hk'⟩ : ∃ k', k = k' + per (fun_of l) i + 1 := ⟨k - per (fun_of l) i - 1, by omega⟩
      obtain ⟨x', g1, g2, g3⟩ := spec_walk h V reps t (perI l reps) i (by omega) hv (by rw [perI_length]; omega) a (per (fun_of l) i) k' 0 x a (by omega) (by omega) hx hr (by
        rw [if_neg]
        rintro ⟨b, hb, _⟩
        omega)
      have hlast : Orb (fun_of l) i (l.length - 1) ↔ ∃ b, b < per (fun_of l) i ∧ fun_of l (iter (fun_of l) b i) = l.length - 1 := by
        rw [orb_short hP i _ (by omega)]
        constructor
        · rintro ⟨b, hb, e⟩
          cases b with
          | zero =>
            refine ⟨per (fun_of l) i - 1, by omega, ?_⟩
            rw [← e, show fun_of l (iter (fun_of l) (per (fun_of l) i - 1) i) = iter (fun_of l) (per (fun_of l) i - 1 + 1) i from rfl, show per (fun_of l) i - 1 + 1 = per (fun_of l) i from by omega]
            exact (per_spec hP i (by omega)).1.2.1
          | succ b => exact ⟨b, by omega, e⟩
        · rintro ⟨b, hb, e⟩
          exact (orb_short hP i _ (by omega)).1 ⟨b + 1, e⟩
      obtain ⟨more, V', a', h1, h2, h3, h4⟩ := ih k' (i + 1) _ _ x' (by omega) (vis_trav hP t i (by omega) hv) (fun q hq hmq => by
        by_cases e : q = i
        · rw [e, vis_spec]; exact .inr ⟨0, p1, rfl⟩
        · rw [vis_spec]; exact .inl (hV q hq (by omega))) g1 g2 (by simp; omega) (a := if ∃ b, b < per (fun_of l) i ∧ fun_of l (iter (fun_of l) b i) = l.length - 1 then ((perI l reps).length : Int) else a) (by
        intro j hj e
        by_cases z : j < reps.length
        · rw [List.getElem_append_left z] at e
          rw [if_neg, ha j z e]
          intro e2
          obtain ⟨c, hc⟩ := hlast.2 e2
          have v1 : V (l.length - 1) = true := (trav_orb t _).2 ⟨_, List.getElem_mem z, e⟩
          have v2 := trav_backs hP t c i (by omega) (by rw [hc]; exact v1)
          rw [hv] at v2
          cases v2
        · have hj' : j = reps.length := by simp at hj; omega
          subst hj'
          rw [List.getElem_append_right (by omega)] at e
          simp only [Nat.sub_self, List.getElem_cons_zero] at e
          rw [if_pos (hlast.1 e), perI_length]) (by omega)
      have ea : reps ++ [i] ++ more = reps ++ ([i] ++ more) := List.append_assoc _ _ _
      refine ⟨[i] ++ more, V', a', ea ▸ h1, h2, ?_, ?_⟩
      · rw [← ea]
        exact h3
      · rw [← ea, ← h4, hk', perI_snoc, if_neg (by simp)]
        rw [show (0 : Int) = ((0 : Nat) : Int) from rfl]
        refine g3.trans ?_
        rw [wrap_one (n := l.length) (by omega) (by omega)]
theorem spec_cycles_all : ∃ (reps : List Nat) (V : Nat → Bool) (a : Int), Trav l.length (fun_of l) V reps ∧ (∀ q, q < l.length → V q = true) ∧ (∀ (j : Nat) (hj : j < reps.length), Orb (fun_of l) (reps[j]) (l.length - 1) → a = (j : Int)) ∧ ∀ k, 200 < k → spec_l10Cycles.f k l = some (perI l reps, a) := by
  have h10 := h.1
  obtain ⟨more, V', a', h1, h2, h3, h4⟩ := spec_outer h l.length 190 0 _ [] (List.replicate l.length false) 0 (by omega) .nil (fun q _ hq => by omega) (by simp) (fun q hq => by
    unfold rdOf
    rw [Int.toNat_natCast, List.getD_eq_getElem?_getD, List.getElem?_replicate_of_lt hq]
    rfl) (by simp) (fun j hj => by simp at hj) (by omega)
  refine ⟨more, V', a', h1, h2, h3, fun k hk => ?_⟩
  have e : spec_l10Cycles.f 190 l = some (perI l more, a') := by
    unfold spec_l10Cycles.f
    rw [if_pos (by omega), if_pos (by omega), Int.toNat_natCast]
    exact h4
  exact at_rounds (g := fun k => spec_l10Cycles.f k l) (spec_l10Cycles.mono l) (by omega) e
end

/-! ### cycles_sum -/
section
variable {n : Nat} {f : Nat → Nat} (h : Per n f)
include h
theorem trav_apart {V : Nat → Bool} {reps : List Nat} (t : Trav n f V reps) : ∀ (j j' : Nat) (hj : j < reps.length) (hj' : j' < reps.length) (q : Nat), j < j' → Orb f reps[j] q → ¬ Orb f reps[j'] q := by
  induction t with
  | nil => intro j j' hj; simp at hj
  | snoc V V' reps i t hi hv hV ih =>
    intro j j' hj hj' q hlt e
    simp only [List.length_append, List.length_cons, List.length_nil] at hj hj'
    rw [List.getElem_append_left (by omega)] at e
    by_cases z : j' < reps.length
    · rw [List.getElem_append_left z]
      exact ih j j' _ z q hlt e
    · rw [List.getElem_append_right (by omega)]
      simp only [show j' - reps.length = 0 from by omega, List.getElem_cons_zero]
      rintro ⟨c, hc⟩
      have v1 : V q = true := (trav_orb t _).2 ⟨_, List.getElem_mem (by omega), e⟩
      rw [← hc] at v1
      rw [trav_backs h t c i hi v1] at hv
      cases hv
theorem trav_len {V : Nat → Bool} {reps : List Nat} (t : Trav n f V reps) : reps.length ≤ n := by
  have hn : reps.Nodup := by
    refine List.pairwise_iff_getElem.2 fun i j hi hj hij e => ?_
    exact trav_apart h t i j hi hj (reps[i]) hij ⟨0, rfl⟩ ⟨0, e.symm⟩
  have := List.Nodup.length_le_of_subset hn (l₂ := List.range n) (fun i hi => List.mem_range.2 (trav_reps_lt t i hi))
  simpa using this
theorem orb_step (p q : Nat) (hp : p < n) : Orb f (f p) q ↔ Orb f p q := by
  constructor
  · rintro ⟨a, e⟩
    exact ⟨a + 1, by rw [iter_add]; exact e⟩
  · rintro ⟨a, e⟩
    obtain ⟨⟨h1, h2, _⟩, _⟩ := per_spec h p hp
    refine ⟨a + (per f p - 1), ?_⟩
    rw [show f p = iter f 1 p from rfl, ← iter_add, show a + (per f p - 1) + 1 = a + per f p from by omega, iter_add, h2, e]
end
theorem cycles_count {l : List Int} (h : Change l) : ∃ c : Nat, c ≤ 10 ∧ ∃ (xs ys : List Int) (a : Int), xs.length = c ∧ ys.length = c ∧ (∀ k, 200 < k → spec_l10Cycles.f k l = some (xs, a)) ∧ ∀ k, 200 < k → impl_cycles.f k l = some ys := by
  have hP := change_per l h
  have h10 := h.1
  obtain ⟨reps, V, a, t, hv, _, hs⟩ := spec_cycles_all h
  obtain ⟨more, V', t', hv', hi⟩ := impl_cycles_all h
  have e := trav_sum hP (fun _ => 1) (fun _ _ => rfl) h10.2 t t' hv hv'
  have hl := trav_len hP t
  have one : ∀ z : List Nat, (z.map fun _ => 1).sum = z.length := fun z => by
    induction z with
    | nil => rfl
    | cons b z ih => simp at ih ⊢; omega
  rw [one, one] at e
  exact ⟨reps.length, by omega, perI l reps, perI l ((l.length - 1) :: more), a, perI_length l _, by rw [perI_length]; exact e.symm, hs, hi⟩

/-! ### law_FnExactHoleMoves -/
open Classical in
/-- The moves that a cycle costs: that of the free seat goes around, another one is opened by it. -/
noncomputable def holeW (n : Nat) (f : Nat → Nat) (p : Nat) : Nat := if Orb f p (n - 1) then per f p - 1 else if per f p > 1 then per f p + 1 else 0
theorem holeW_step {n : Nat} {f : Nat → Nat} (h : Per n f) (p : Nat) (hp : p < n) : holeW n f (f p) = holeW n f p := by
  unfold holeW
  rw [per_step h p hp]
  by_cases g : Orb f p (n - 1)
  · rw [if_pos g, if_pos ((orb_step h p _ hp).2 g)]
  · rw [if_neg g, if_neg (fun e => g ((orb_step h p _ hp).1 e))]
theorem spec_hole_l0 (xs : List Int) (vs : List Nat) (a : Int) (hl : xs.length = vs.length) (hn : xs.length ≤ 10) (hx : ∀ x ∈ xs, 1 ≤ x ∧ x ≤ 10)
    (hv : ∀ j, (hj : j < xs.length) → (vs[j]'(by omega) : Int) = if (j : Int) = a then xs[j] - 1 else if xs[j] > 1 then xs[j] + 1 else 0) (d : Nat) :
    ∀ (k i : Nat) (acc : Int), i ≤ xs.length → xs.length - i = d → d < k → 0 ≤ acc → acc ≤ 1000 * i → spec_HoleMoves.l0 k acc xs a (i : Int) = some (acc + ((vs.drop i).sum : Nat), true) := by
  induction d with
  | zero =>
    intro k i acc hi hd hk h0 h1
    obtain ⟨k, rfl, _⟩ := fuel hk
    simp only [spec_HoleMoves.l0]
    rw [if_neg (by omega), List.drop_eq_nil_of_le (by omega)]
    simp
  | succ d ih =>
    intro k i acc hi hd hk h0 h1
    obtain ⟨k, rfl, _⟩ := fuel hk
    have hb := hx (xs[i]'(by omega)) (List.getElem_mem _)
    have hvi := hv i (by omega)
    simp only [spec_HoleMoves.l0]
    rw [if_pos (by omega), rd_get xs i (by omega), wrap_one (n := xs.length) (by omega) (by omega), List.drop_eq_getElem_cons (l := vs) (i := i) (by omega), List.sum_cons]
    by_cases g : (i : Int) = a
    · rw [if_pos g, if_pos (by omega), wrap_id (x := acc + xs[i]'(by omega)) (by omega) (by omega), wrap_id (by omega) (by omega)]
      rw [if_pos g] at hvi
      rw [ih k (i + 1) _ (by omega) (by omega) (by omega) (by omega) (by omega)]
      refine congrArg some (Prod.ext ?_ rfl)
      dsimp only
      omega
    · rw [if_neg g, if_pos (by omega)]
      rw [if_neg g] at hvi
      by_cases g2 : xs[i]'(by omega) > 1
      · rw [if_pos g2, wrap_id (x := acc + xs[i]'(by omega)) (by omega) (by omega), wrap_id (by omega) (by omega)]
        rw [if_pos g2] at hvi
        rw [ih k (i + 1) _ (by omega) (by omega) (by omega) (by omega) (by omega)]
        refine congrArg some (Prod.ext ?_ rfl)
        dsimp only
        omega
      · rw [if_neg g2]
        rw [if_neg g2] at hvi
        rw [ih k (i + 1) _ (by omega) (by omega) (by omega) (by omega) (by omega)]
        refine congrArg some (Prod.ext ?_ rfl)
        dsimp only
        omega
theorem impl_hole_l0 (xs : List Int) (vs : List Nat) (hl : xs.length = vs.length) (hn : xs.length ≤ 10) (hx : ∀ x ∈ xs, 1 ≤ x ∧ x ≤ 10)
    (hv : ∀ j, (hj : j < xs.length) → (vs[j]'(by omega) : Int) = if (j : Int) = 0 then xs[j] - 1 else if xs[j] > 1 then xs[j] + 1 else 0) (d : Nat) :
    ∀ (k i : Nat) (acc : Int), i ≤ xs.length → xs.length - i = d → d < k → 0 ≤ acc → acc ≤ 1000 * i → impl_HoleMoves.l0 k acc xs (xs.length : Int) (i : Int) = some (acc + ((vs.drop i).sum : Nat), true) := by
  induction d with
  | zero =>
    intro k i acc hi hd hk h0 h1
    obtain ⟨k, rfl, _⟩ := fuel hk
    simp only [impl_HoleMoves.l0]
    rw [if_neg (by omega), List.drop_eq_nil_of_le (by omega)]
    simp
  | succ d ih =>
    intro k i acc hi hd hk h0 h1
    obtain ⟨k, rfl, _⟩ := fuel hk
    have hb := hx (xs[i]'(by omega)) (List.getElem_mem _)
    have hvi := hv i (by omega)
    simp only [impl_HoleMoves.l0]
    rw [if_pos (by omega), if_pos (by omega), if_pos (by omega), rd_get xs i (by omega), wrap_one (n := xs.length) (by omega) (by omega), List.drop_eq_getElem_cons (l := vs) (i := i) (by omega), List.sum_cons]
    by_cases g : (i : Int) = 0
    · rw [if_pos g, wrap_id (x := xs[i]'(by omega) - 1) (by omega) (by omega), wrap_id (by omega) (by omega)]
      rw [if_pos g] at hvi
      rw [ih k (i + 1) _ (by omega) (by omega) (by omega) (by omega) (by omega)]
      refine congrArg some (Prod.ext ?_ rfl)
      dsimp only
      omega
    · rw [if_neg g]
      rw [if_neg g] at hvi
      by_cases g2 : xs[i]'(by omega) > 1
      · rw [if_pos g2, wrap_id (x := xs[i]'(by omega) + 1) (by omega) (by omega), wrap_id (by omega) (by omega)]
        rw [if_pos g2] at hvi
        rw [ih k (i + 1) _ (by omega) (by omega) (by omega) (by omega) (by omega)]
        refine congrArg some (Prod.ext ?_ rfl)
        dsimp only
        omega
      · rw [if_neg g2]
        rw [if_neg g2] at hvi
        rw [ih k (i + 1) _ (by omega) (by omega) (by omega) (by omega) (by omega)]
        refine congrArg some (Prod.ext ?_ rfl)
        dsimp only
        omega
theorem perI_range {l : List Int} (h : Change l) (reps : List Nat) (hr : ∀ i ∈ reps, i < l.length) : ∀ x ∈ perI l reps, 1 ≤ x ∧ x ≤ 10 := by
  intro x hx
  obtain ⟨i, hi, rfl⟩ := List.mem_map.1 hx
  obtain ⟨⟨p1, _, _⟩, p3⟩ := per_spec (change_per l h) i (hr i hi)
  have := h.1
  omega
theorem hole_value {l : List Int} (h : Change l) (reps : List Nat) (hr : ∀ i ∈ reps, i < l.length) (a : Int) (ha : ∀ j, (hj : j < reps.length) → (Orb (fun_of l) reps[j] (l.length - 1) ↔ (j : Int) = a)) (j : Nat) (hj : j < (perI l reps).length) :
    (((reps.map (holeW l.length (fun_of l)))[j]'(by simp [perI_length] at hj; simpa using hj) : Nat) : Int) = if (j : Int) = a then (perI l reps)[j] - 1 else if (perI l reps)[j] > 1 then (perI l reps)[j] + 1 else 0 := by
  have hj' : j < reps.length := by rw [perI_length] at hj; exact hj
  obtain ⟨⟨p1, _, _⟩, p3⟩ := per_spec (change_per l h) reps[j] (hr _ (List.getElem_mem hj'))
  have e1 : (perI l reps)[j] = ((per (fun_of l) reps[j] : Nat) : Int) := by simp [perI]
  rw [e1, List.getElem_map]
  unfold holeW
  by_cases g : Orb (fun_of l) reps[j] (l.length - 1)
  · rw [if_pos g, if_pos ((ha j hj').1 g)]
    omega
  · rw [if_neg g, if_neg (fun e => g ((ha j hj').2 e))]
    by_cases g2 : per (fun_of l) reps[j] > 1
    · rw [if_pos g2, if_pos (by omega)]
      omega
    · rw [if_neg g2, if_neg (by omega)]
      rfl
theorem hole_both (l : List Int) (hl : l.length ≤ 1048576) : ∃ (r : Int) (b : Bool), ∀ k, 2 * l.length + 300 < k → spec_HoleMoves.f k l = some (r, b) ∧ impl_HoleMoves.f k l = some (r, b) := by
  by_cases h : Change l
  · have h10 := h.1
    have hP := change_per l h
    obtain ⟨reps, V, a, t, hv, ha, hs⟩ := spec_cycles_all h
    obtain ⟨more, V', t', hv', hi⟩ := impl_cycles_all h
    have e := trav_sum hP (holeW l.length (fun_of l)) (holeW_step hP) h10.2 t t' hv hv'
    have ha2 : ∀ j, (hj : j < reps.length) → (Orb (fun_of l) reps[j] (l.length - 1) ↔ (j : Int) = a) := by
      intro j hj
      refine ⟨fun o => (ha j hj o).symm, fun z => ?_⟩
      obtain ⟨i, hin, o⟩ := (trav_orb t (l.length - 1)).1 (hv _ (by omega))
      obtain ⟨j2, hj2, rfl⟩ := List.getElem_of_mem hin
      have := ha j2 hj2 o
      have : j = j2 := by omega
      subst this
      exact o
    have hb2 : ∀ j, (hj : j < ((l.length - 1) :: more).length) → (Orb (fun_of l) ((l.length - 1) :: more)[j] (l.length - 1) ↔ (j : Int) = 0) := by
      intro j hj
      cases j with
      | zero => exact ⟨fun _ => rfl, fun _ => ⟨0, rfl⟩⟩
      | succ j =>
        refine ⟨fun o => ?_, fun z => by omega⟩
        exact absurd o (trav_apart hP t' 0 (j + 1) (by simp) hj (l.length - 1) (by omega) ⟨0, rfl⟩)
    have l1 := trav_len hP t
    have l2 := trav_len hP t'
    refine ⟨(((reps.map (holeW l.length (fun_of l))).sum : Nat) : Int), true, fun k hk => ?_⟩
    unfold spec_HoleMoves.f impl_HoleMoves.f
    rw [spec_l10Change_eq l k hl (by omega), impl_isChange_eq l k hl (by omega), Option.bind_some, Option.bind_some]
    simp only [decide_eq_true_eq]
    rw [if_pos h, if_pos h, hs k (by omega), hi k (by omega), Option.bind_some, Option.bind_some]
    dsimp only
    have s1 := spec_hole_l0 (perI l reps) (reps.map (holeW l.length (fun_of l))) a (by simp [perI_length]) (by rw [perI_length]; omega) (perI_range h reps (trav_reps_lt t)) (hole_value h reps (trav_reps_lt t) a ha2) (perI l reps).length k 0 0 (by omega) (by omega) (by rw [perI_length]; omega) (by omega) (by omega)
    have s2 := impl_hole_l0 (perI l ((l.length - 1) :: more)) (((l.length - 1) :: more).map (holeW l.length (fun_of l))) (by simp [perI_length]) (by rw [perI_length]; omega) (perI_range h _ (trav_reps_lt t')) (hole_value h _ (trav_reps_lt t') 0 hb2) (perI l ((l.length - 1) :: more)).length k 0 0 (by omega) (by omega) (by rw [perI_length]; omega) (by omega) (by omega)
    rw [List.drop_zero, Int.zero_add] at s1 s2
    rw [← e] at s2
    exact ⟨s1, s2⟩
  · refine ⟨0, false, fun k hk => ?_⟩
    unfold spec_HoleMoves.f impl_HoleMoves.f
    rw [spec_l10Change_eq l k hl (by omega), impl_isChange_eq l k hl (by omega), Option.bind_some, Option.bind_some]
    simp only [decide_eq_true_eq]
    rw [if_neg h, if_neg h]
    exact ⟨rfl, rfl⟩
theorem FnExactHoleMoves : laws_FnExactHoleMoves.Pure := by
  intro l _ _ _
  by_cases hl : l.length ≤ 1048576
  · obtain ⟨r, b, h⟩ := hole_both l hl
    refine ⟨2 * l.length + 303, ?_⟩
    generalize hk : 2 * l.length + 302 = k
    rw [show 2 * l.length + 303 = k + 1 from by omega]
    unfold laws_FnExactHoleMoves.f
    rw [if_neg (by omega), laws_toIntS_eq l hl _ (by omega), Option.bind_some, (h (k + 1) (by omega)).1, Option.bind_some, Option.bind_some, (h (k + 1) (by omega)).2, Option.bind_some]
    dsimp only
    rw [if_pos rfl]
    simp only [laws_FnExactHoleMoves.j0]
    rw [if_neg (by simp), laws_toIntS_eq l hl _ (by omega), Option.bind_some, laws_eqIntS_self l hl _ (by omega), Option.bind_some, if_pos rfl]
  · refine ⟨1, ?_⟩
    unfold laws_FnExactHoleMoves.f
    rw [if_pos (by omega)]

end Go.Proofs.Ytmcgamhipilbpaa.Pure
