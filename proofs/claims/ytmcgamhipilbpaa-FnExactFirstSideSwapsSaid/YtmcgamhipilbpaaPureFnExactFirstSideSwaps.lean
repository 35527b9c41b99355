/- FirstSideSwaps of the program returns what the reference's returns, for every list. No conditions. -/
import Derived.Test.YtmcgamhipilbpaaQFnExactFirstSideSwapsx
namespace Go.Proofs.Ytmcgamhipilbpaa.Pure
open Go.RowKit Go.Proofs.Ytmcgamhipilbpaa.QFnExactFirstSideSwaps Go.Proofs.YtmcgamhipilbpaaW.PrintWords Go.Proofs.YtmcgamhipilbpaaW.PrintLast Go.Proofs.YtmcgamhipilbpaaW.PrintMore
set_option linter.unusedVariables false
set_option linter.unusedSimpArgs false

/-! ### base -/
theorem wrap_id {x : Int} (h0 : -9223372036854775808 ≤ x) (h1 : x ≤ 9223372036854775807) : wrap64 x = x := by
  unfold wrap64
  omega
theorem wrap_one {i n : Nat} (h : i < n) (hn : n ≤ 4611686018427387904) : wrap64 ((i : Int) + 1) = ((i + 1 : Nat) : Int) := by
  unfold wrap64
  omega
theorem rd_nat (l : List Int) (i : Nat) : rd l (i : Int) = l.getD i 0 := by unfold rd; simp
theorem rd_get (l : List Int) (i : Nat) (h : i < l.length) : rd l (i : Int) = l[i] := by rw [rd_nat]; simp [List.getD, h]
theorem fuel {k d : Nat} (h : d < k) : ∃ m, k = m + 1 ∧ d ≤ m := ⟨k - 1, by omega, by omega⟩

/-! ### laws_toIntS -/
theorem laws_toIntS_l0 (l : List Int) (hl : l.length ≤ 1048576) (d : Nat) : ∀ (k i : Nat) (x : List Int), x.length = l.length → i ≤ l.length → l.length - i = d → d < k → (∀ j (h : j < i) (h' : j < x.length) (h'' : j < l.length), x[j] = l[j]) → laws_toIntS.l0 k l x i = some l := by
  induction d with
  | zero =>
    intro k i x hx hi hd hk hp
    obtain ⟨k, rfl, _⟩ := fuel hk
    simp only [laws_toIntS.l0]
    rw [if_neg (by omega)]
    refine congrArg some ?_
    apply List.ext_getElem hx
    intro j h1 h2
    exact hp j (by omega) h1 h2
  | succ d ih =>
    intro k i x hx hi hd hk hp
    obtain ⟨k, rfl, _⟩ := fuel hk
    simp only [laws_toIntS.l0]
    rw [if_pos (by omega), if_pos (by omega), if_pos (by omega), wrap_one (n := l.length) (by omega) (by omega)]
    rw [rd_get l i (by omega), Int.toNat_natCast, ih k (i + 1) _ (by simp [hx]) (by omega) (by omega) (by omega)]
    intro j h h' h''
    rw [List.getElem_set]
    split
    · rename_i e
      subst e
      rfl
    · rename_i e
      exact hp j (by omega) (by simpa using h') h''
theorem laws_toIntS_eq (l : List Int) (hl : l.length ≤ 1048576) (k : Nat) (hk : l.length < k) : laws_toIntS.f k l = some l := by
  unfold laws_toIntS.f
  rw [if_pos (by omega), if_pos (by omega)]
  exact laws_toIntS_l0 l hl l.length k 0 _ (by simp) (by omega) (by omega) hk (fun j h => by omega)

/-! ### laws_eqIntS -/
theorem laws_eqIntS_l0 (a b : List Int) (hl : a.length ≤ 1048576) (he : a.length = b.length) (d : Nat) : ∀ (k i : Nat), i ≤ a.length → a.length - i = d → d < k → laws_eqIntS.l0 k a b i = some (decide (a.drop i = b.drop i)) := by
  induction d with
  | zero =>
    intro k i hi hd hk
    obtain ⟨k, rfl, _⟩ := fuel hk
    simp only [laws_eqIntS.l0]
    rw [if_neg (by omega), List.drop_eq_nil_of_le (by omega), List.drop_eq_nil_of_le (by omega)]
    simp
  | succ d ih =>
    intro k i hi hd hk
    obtain ⟨k, rfl, _⟩ := fuel hk
    simp only [laws_eqIntS.l0]
    rw [if_pos (by omega), if_pos (by omega), if_pos (by omega), wrap_one (n := a.length) (by omega) (by omega), rd_get a i (by omega), rd_get b i (by omega), ih k (i + 1) (by omega) (by omega) (by omega)]
    rw [List.drop_eq_getElem_cons (l := a) (i := i) (by omega), List.drop_eq_getElem_cons (l := b) (i := i) (by omega)]
    by_cases h : a[i]'(by omega) = b[i]'(by omega)
    · rw [if_pos h]
      refine congrArg some ?_
      rw [decide_eq_decide, List.cons.injEq]
      exact ⟨fun e => ⟨h, e⟩, fun e => e.2⟩
    · rw [if_neg h]
      refine congrArg some ?_
      symm
      rw [decide_eq_false_iff_not, List.cons.injEq]
      exact fun e => h e.1
theorem laws_eqIntS_eq (a b : List Int) (hl : a.length ≤ 1048576) (k : Nat) (hk : a.length < k) : laws_eqIntS.f k a b = some (decide (a = b)) := by
  unfold laws_eqIntS.f
  by_cases h : a.length = b.length
  · rw [if_pos (by omega)]
    have := laws_eqIntS_l0 a b hl h a.length k 0 (by omega) (by omega) hk
    simpa using this
  · rw [if_neg (by omega)]
    refine congrArg some ?_
    symm
    rw [decide_eq_false_iff_not]
    intro e
    exact h (by rw [e])
theorem laws_eqIntS_self (a : List Int) (hl : a.length ≤ 1048576) (k : Nat) (hk : a.length < k) : laws_eqIntS.f k a a = some true := by
  rw [laws_eqIntS_eq a a hl k hk]
  simp

/-! ### laws_marks -/
theorem laws_markIntS_l0 (d : Nat) : ∀ (k i : Nat) (x : List Int) (m : Nat), x.length ≤ 1048576 → m ≤ 1000000000 + i → i ≤ x.length → x.length - i = d → d < k →
    laws_markIntS.l0 k x m i = some (((m + (x.length - i) : Nat) : Int), x.take i ++ (List.range (x.length - i)).map fun j => ((m + j : Nat) : Int)) := by
  induction d with
  | zero =>
    intro k i x m hx hm hi hd hk
    obtain ⟨k, rfl, _⟩ := fuel hk
    simp only [laws_markIntS.l0]
    rw [if_neg (by omega), hd]
    simp [List.take_of_length_le (show x.length ≤ i by omega)]
  | succ d ih =>
    intro k i x m hx hm hi hd hk
    obtain ⟨k, rfl, _⟩ := fuel hk
    simp only [laws_markIntS.l0]
    rw [if_pos (by omega), if_pos (by omega), wrap_one (n := x.length) (i := i) (by omega) (by omega), wrap_one (n := m + 1) (i := m) (by omega) (by omega), Int.toNat_natCast]
    rw [ih k (i + 1) (x.set i m) (m + 1) (by simp; omega) (by omega) (by simp; omega) (by simp; omega) (by omega)]
    simp only [List.length_set, Option.some.injEq, Prod.mk.injEq]
    refine ⟨by omega, ?_⟩
    rw [hd, show x.length - (i + 1) = d from by omega, List.range_succ_eq_map, List.map_cons, List.map_map]
    rw [List.take_set, List.take_add_one, List.set_append_right _ _ (by simp; omega)]
    simp [List.length_take, show min i x.length = i from by omega, List.getElem?_eq_getElem (show i < x.length by omega)]
    intro a _
    omega
theorem laws_markIntS_eq (x : List Int) (m k : Nat) (hx : x.length ≤ 1048576) (hm : m ≤ 1000000000) (hk : x.length < k) :
    laws_markIntS.f k x m = some (((m + x.length : Nat) : Int), (List.range x.length).map fun j => ((m + j : Nat) : Int)) := by
  unfold laws_markIntS.f
  have := laws_markIntS_l0 x.length k 0 x m hx (by omega) (by omega) (by omega) hk
  simpa using this
theorem laws_heldIntS_l0 (n m : Nat) (hx : n ≤ 1048576) (hm : m ≤ 1000000000) (d : Nat) : ∀ (k i : Nat), i ≤ n → n - i = d → d < k →
    laws_heldIntS.l0 k ((List.range n).map fun j => ((m + j : Nat) : Int)) ((m + i : Nat) : Int) i = some (((m + n : Nat) : Int)) := by
  induction d with
  | zero =>
    intro k i hi hd hk
    obtain ⟨k, rfl, _⟩ := fuel hk
    simp only [laws_heldIntS.l0]
    rw [if_neg (by simp; omega), show i = n from by omega]
  | succ d ih =>
    intro k i hi hd hk
    obtain ⟨k, rfl, _⟩ := fuel hk
    simp only [laws_heldIntS.l0]
    rw [if_pos (by simp; omega), if_pos (by omega), rd_get _ i (by simp; omega)]
    simp only [List.getElem_map, List.getElem_range, if_true]
    rw [wrap_one (n := n) (i := i) (by omega) (by omega), wrap_one (n := m + i + 1) (i := m + i) (by omega) (by omega), show m + i + 1 = m + (i + 1) from by omega]
    exact ih k (i + 1) (by omega) (by omega) (by omega)
theorem laws_heldIntS_eq (n m k : Nat) (hx : n ≤ 1048576) (hm : m ≤ 1000000000) (hk : n < k) :
    laws_heldIntS.f k ((List.range n).map fun j => ((m + j : Nat) : Int)) m = some (((m + n : Nat) : Int)) :=
  laws_heldIntS_l0 n m hx hm n k 0 (by omega) (by omega) hk

/-! ### within -/
theorem spec_l1In_eq (n a b : Int) : spec_l1In.f n a b = some (decide (a ≤ n ∧ n ≤ b)) := by
  unfold spec_l1In.f
  by_cases h : n ≥ a
  · rw [if_pos h]
    simp [show a ≤ n from h]
  · rw [if_neg h]
    simp [show ¬ a ≤ n from h]
theorem impl_within_eq (n a b : Int) : impl_within.f n a b = some (decide (a ≤ n ∧ n ≤ b)) := by
  unfold impl_within.f
  by_cases h : n ≥ a
  · rw [if_pos h]
    simp [show a ≤ n from h]
  · rw [if_neg h]
    simp [show ¬ a ≤ n from h]

/-! ### spec_l1Has -/
theorem spec_l1Has_l0 (l : List Int) (n : Int) (hl : l.length ≤ 1048576) (d : Nat) : ∀ (k i : Nat), i ≤ l.length → l.length - i = d → d < k → spec_l1Has.l0 k l n i = some (decide (n ∈ l.drop i)) := by
  induction d with
  | zero =>
    intro k i hi hd hk
    obtain ⟨k, rfl, _⟩ := fuel hk
    simp only [spec_l1Has.l0]
    rw [if_neg (by omega), List.drop_eq_nil_of_le (by omega)]
    simp
  | succ d ih =>
    intro k i hi hd hk
    obtain ⟨k, rfl, _⟩ := fuel hk
    simp only [spec_l1Has.l0]
    rw [if_pos (by omega), if_pos (by omega), wrap_one (n := l.length) (by omega) (by omega), rd_get l i (by omega), ih k (i + 1) (by omega) (by omega) (by omega)]
    rw [List.drop_eq_getElem_cons (l := l) (i := i) (by omega)]
    by_cases h : l[i]'(by omega) = n
    · rw [if_pos h, h]
      simp
    · rw [if_neg h]
      refine congrArg some ?_
      rw [decide_eq_decide, List.mem_cons]
      exact ⟨.inr, fun e => e.resolve_left fun e => h e.symm⟩
theorem spec_l1Has_eq (l : List Int) (n : Int) (hl : l.length ≤ 1048576) (k : Nat) (hk : l.length < k) : spec_l1Has.f k l n = some (decide (n ∈ l)) := by
  have := spec_l1Has_l0 l n hl l.length k 0 (by omega) (by omega) hk
  exact this

/-! ### sets -/
/-- A list of numbers as a set of bits. -/
def setN (l : List Int) : Nat := l.foldl (fun s p => s ||| 2 ^ p.toNat) 0
theorem testBit_foldl (l : List Int) : ∀ (s i : Nat), (l.foldl (fun s p => s ||| 2 ^ p.toNat) s).testBit i = (s.testBit i || decide (∃ p ∈ l, p.toNat = i)) := by
  induction l with
  | nil => intro s i; simp
  | cons a l ih =>
    intro s i
    rw [List.foldl_cons, ih, Nat.testBit_or, Nat.testBit_two_pow, Bool.or_assoc]
    congr 1
    rw [Bool.eq_iff_iff]
    simp
theorem testBit_setN (l : List Int) (i : Nat) : (setN l).testBit i = decide (∃ p ∈ l, p.toNat = i) := by
  unfold setN
  rw [testBit_foldl]
  simp
theorem foldl_lt (l : List Int) (n : Nat) (hl : ∀ p ∈ l, p < n) (hn : 0 < n) : ∀ s, s < 2 ^ n → l.foldl (fun s p => s ||| 2 ^ p.toNat) s < 2 ^ n := by
  induction l with
  | nil => intro s h; exact h
  | cons a l ih =>
    intro s h
    rw [List.foldl_cons]
    have := hl a (by simp)
    exact ih (fun p hp => hl p (by simp [hp])) _ (Nat.or_lt_two_pow h (Nat.pow_lt_pow_right (by omega) (by omega)))
theorem setN_lt (l : List Int) (n : Nat) (hl : ∀ p ∈ l, p < n) (hn : 0 < n) : setN l < 2 ^ n := foldl_lt l n hl hn 0 (Nat.two_pow_pos n)
theorem setN_u32 (l : List Int) (hl : ∀ p ∈ l, p < 32) : setN l < 4294967296 := setN_lt l 32 hl (by omega)
theorem or_cast (a b : Nat) (ha : a < 4294967296) (hb : b < 4294967296) : Go.bits .or .u32 (a : Int) (b : Int) = ((a ||| b : Nat) : Int) :=
  (bits_nat .u32 32 (by decide) (fun n h h' => by rw [IntKind.wrap_u32]; omega) a b ha hb).2
theorem and_cast (a b : Nat) (ha : a < 4294967296) (hb : b < 4294967296) : Go.bits .and .u32 (a : Int) (b : Int) = ((a &&& b : Nat) : Int) :=
  (bits_nat .u32 32 (by decide) (fun n h h' => by rw [IntKind.wrap_u32]; omega) a b ha hb).1
theorem shl_one (p : Int) (h0 : 0 ≤ p) (h1 : p < 32) : shl .u32 1 p = ((2 ^ p.toNat : Nat) : Int) := by
  unfold shl
  rw [Int.one_mul, IntKind.wrap_u32, show min p.toNat IntKind.u32.bits = p.toNat from Nat.min_eq_left (by show p.toNat ≤ 32; omega)]
  have : 2 ^ p.toNat < 2 ^ 32 := Nat.pow_lt_pow_right (by omega) (by omega)
  have e : ((2 ^ p.toNat : Nat) : Int) = (2 : Int) ^ p.toNat := by simp
  rw [← e]
  generalize 2 ^ p.toNat = y at *
  omega
theorem popAux_filter : ∀ (n x : Nat), Lib.popAux n x = ((List.range n).filter fun i => x.testBit i).length
  | 0, x => by simp [Lib.popAux]
  | n + 1, x => by
    rw [Lib.popAux, popAux_filter n, List.range_succ_eq_map, List.filter_cons, List.filter_map, Nat.testBit_zero]
    have e : ((fun i => x.testBit i) ∘ Nat.succ) = fun i => (x / 2).testBit i := by
      funext i
      simp [Nat.testBit_succ]
    rw [e]
    by_cases h : x % 2 = 1
    · simp [h]
      omega
    · simp [h]
      omega
theorem onesCount_filter (x : Nat) : Lib.onesCount x = ((List.range 64).filter fun i => x.testBit i).length := popAux_filter 64 x
/-- A set whose members are below n: their number. -/
theorem onesCount_below (x n : Nat) (hx : x < 2 ^ n) (hn : n ≤ 64) : Lib.onesCount x = ((List.range n).filter fun i => x.testBit i).length := by
  rw [onesCount_filter, show 64 = n + (64 - n) from by omega, List.range_add, List.filter_append, List.length_append]
  have z : List.filter (fun i => x.testBit i) (List.map (fun x => n + x) (List.range (64 - n))) = [] := by
    rw [List.filter_eq_nil_iff]
    intro i hi
    obtain ⟨j, _, rfl⟩ := List.mem_map.1 hi
    rw [Nat.testBit_lt_two_pow (Nat.lt_of_lt_of_le hx (Nat.pow_le_pow_right (by omega) (by omega)))]
    simp
  rw [z, List.length_nil, Nat.add_zero]

/-! ### impl_sets -/
theorem impl_allWithin_l0 (l : List Int) (a b : Int) (hl : l.length ≤ 1048576) (d : Nat) : ∀ (k i : Nat), i ≤ l.length → l.length - i = d → d < k → impl_allWithin.l0 k a b l (l.length : Int) i = some (decide (∀ x ∈ l.drop i, a ≤ x ∧ x ≤ b)) := by
  induction d with
  | zero =>
    intro k i hi hd hk
    obtain ⟨k, rfl, _⟩ := fuel hk
    simp only [impl_allWithin.l0]
    rw [if_neg (by omega), List.drop_eq_nil_of_le (by omega)]
    simp
  | succ d ih =>
    intro k i hi hd hk
    obtain ⟨k, rfl, _⟩ := fuel hk
    simp only [impl_allWithin.l0]
    rw [if_pos (by omega), if_pos (by omega), if_pos (by omega), wrap_one (n := l.length) (by omega) (by omega), rd_get l i (by omega), impl_within_eq, ih k (i + 1) (by omega) (by omega) (by omega)]
    rw [List.drop_eq_getElem_cons (l := l) (i := i) (by omega)]
    rw [Option.bind_some]
    by_cases h : a ≤ l[i]'(by omega) ∧ l[i]'(by omega) ≤ b
    · rw [if_pos (by simp only [h]; simp)]
      refine congrArg some ?_
      rw [decide_eq_decide]
      simp only [List.mem_cons]
      exact ⟨fun e x hx => hx.elim (fun z => z ▸ h) (e x), fun e x hx => e x (.inr hx)⟩
    · rw [if_neg (by rw [decide_eq_true_eq]; exact h)]
      refine congrArg some ?_
      symm
      rw [decide_eq_false_iff_not]
      exact fun e => h (e _ List.mem_cons_self)
theorem impl_allWithin_eq (l : List Int) (a b : Int) (hl : l.length ≤ 1048576) (k : Nat) (hk : l.length < k) : impl_allWithin.f k l a b = some (decide (∀ x ∈ l, a ≤ x ∧ x ≤ b)) :=
  impl_allWithin_l0 l a b hl l.length k 0 (by omega) (by omega) hk
theorem impl_setOf_l0 (l : List Int) (hl : l.length ≤ 1048576) (hb : ∀ x ∈ l, 0 ≤ x ∧ x < 32) (d : Nat) : ∀ (k i s : Nat), s < 4294967296 → i ≤ l.length → l.length - i = d → d < k →
    impl_setOf.l0 k (s : Int) l (l.length : Int) i = some (((l.drop i).foldl (fun s p => s ||| 2 ^ p.toNat) s : Nat) : Int) := by
  induction d with
  | zero =>
    intro k i s hs hi hd hk
    obtain ⟨k, rfl, _⟩ := fuel hk
    simp only [impl_setOf.l0]
    rw [if_neg (by omega), List.drop_eq_nil_of_le (by omega)]
    rfl
  | succ d ih =>
    intro k i s hs hi hd hk
    obtain ⟨k, rfl, _⟩ := fuel hk
    obtain ⟨b0, b1⟩ := hb (l[i]'(by omega)) (List.getElem_mem _)
    have hp : 2 ^ (l[i]'(by omega)).toNat < 2 ^ 32 := Nat.pow_lt_pow_right (by omega) (by omega)
    simp only [impl_setOf.l0]
    rw [if_pos (by omega), if_pos (by omega), if_pos (by omega), wrap_one (n := l.length) (by omega) (by omega), rd_get l i (by omega), if_pos b0, shl_one _ b0 b1, or_cast _ _ hs hp]
    rw [ih k (i + 1) _ (Nat.or_lt_two_pow (n := 32) hs hp) (by omega) (by omega) (by omega), List.drop_eq_getElem_cons (l := l) (i := i) (by omega)]
    rfl
theorem impl_setOf_eq (l : List Int) (hl : l.length ≤ 1048576) (hb : ∀ x ∈ l, 0 ≤ x ∧ x < 32) (k : Nat) (hk : l.length < k) : impl_setOf.f k l = some ((setN l : Nat) : Int) :=
  impl_setOf_l0 l hl hb l.length k 0 0 (by omega) (by omega) (by omega) hk
theorem impl_set_count_eq (s : Nat) (hs : s < 4294967296) : impl_set_count.f (s : Int) = some ((Lib.onesCount s : Nat) : Int) := by
  unfold impl_set_count.f bits_OnesCount32.f
  rw [if_pos (by omega)]
  rfl

/-! ### order -/
/-- A list of n numbers that has each number below n has no others. -/
theorem order_within (l : List Int) (h : ∀ i : Nat, i < l.length → (i : Int) ∈ l) : ∀ x ∈ l, 0 ≤ x ∧ x < l.length := by
  intro x hx
  rcases Classical.em (0 ≤ x ∧ x < l.length) with e | e
  · exact e
  · exfalso
    have hn : ((List.range l.length).map fun i : Nat => (i : Int)).Nodup := by
      refine List.Pairwise.map _ ?_ List.nodup_range
      intro a b hab he
      exact hab (by omega)
    have hs : ((List.range l.length).map fun i : Nat => (i : Int)) ⊆ l.erase x := by
      intro y hy
      obtain ⟨i, hi, rfl⟩ := List.mem_map.1 hy
      have hi := List.mem_range.1 hi
      exact (List.mem_erase_of_ne (fun z => e (by omega))).2 (h i hi)
    have := List.Nodup.length_le_of_subset hn hs
    rw [List.length_erase_of_mem hx] at this
    have hp := List.length_pos_of_mem hx
    simp at this
    omega
theorem spec_l4Order_l0 (l : List Int) (n : Nat) (hl : l.length ≤ 1048576) (hn : n ≤ 1048576) (d : Nat) : ∀ (k i : Nat), i ≤ n → n - i = d → d + l.length < k → (∀ j : Nat, j < i → (j : Int) ∈ l) →
    spec_l4Order.l0 k l (n : Int) i = some (decide ((∀ j : Nat, j < n → (j : Int) ∈ l) ∧ l.length = n)) := by
  induction d with
  | zero =>
    intro k i hi hd hk hp
    obtain ⟨k, rfl, _⟩ := fuel hk
    simp only [spec_l4Order.l0]
    rw [if_neg (by omega)]
    refine congrArg some ?_
    rw [Bool.eq_iff_iff, beq_iff_eq, decide_eq_true_eq]
    exact ⟨fun e => ⟨fun j hj => hp j (by omega), by omega⟩, fun e => by omega⟩
  | succ d ih =>
    intro k i hi hd hk hp
    obtain ⟨k, rfl, _⟩ := fuel hk
    simp only [spec_l4Order.l0]
    rw [if_pos (by omega), spec_l1Has_eq l i hl k (by omega)]
    rw [Option.bind_some]
    simp only [decide_eq_true_eq]
    by_cases h : (i : Int) ∈ l
    · rw [if_pos h, wrap_one (n := n) (by omega) (by omega), ih k (i + 1) (by omega) (by omega) (by omega)]
      intro j hj
      by_cases e : j = i
      · rw [e]; exact h
      · exact hp j (by omega)
    · rw [if_neg h]
      refine congrArg some ?_
      symm
      rw [decide_eq_false_iff_not]
      exact fun e => h (e.1 i (by omega))
theorem spec_l4Order_eq (l : List Int) (n k : Nat) (hl : l.length ≤ 1048576) (hn : n ≤ 1048576) (hk : n + l.length < k) : spec_l4Order.f k l (n : Int) = some (decide ((∀ j : Nat, j < n → (j : Int) ∈ l) ∧ l.length = n)) :=
  spec_l4Order_l0 l n hl hn n k 0 (by omega) (by omega) (by omega) (fun j h => by omega)
theorem order_count (l : List Int) (n : Nat) (hn : n ≤ 32) (hl : l.length = n) (hw : ∀ x ∈ l, 0 ≤ x ∧ x < n) : Lib.onesCount (setN l) = n ↔ ∀ j : Nat, j < n → (j : Int) ∈ l := by
  rcases Nat.eq_zero_or_pos n with h0 | h0
  · subst h0
    obtain rfl := List.eq_nil_of_length_eq_zero hl
    exact ⟨fun _ j h => by omega, fun _ => rfl⟩
  rw [onesCount_below (setN l) n (setN_lt l n (fun p hp => (hw p hp).2) h0) (by omega)]
  have := List.length_filter_eq_length_iff (l := List.range n) (p := fun i => (setN l).testBit i)
  rw [List.length_range] at this
  rw [this]
  constructor
  · intro e j hj
    have := e j (List.mem_range.2 hj)
    rw [testBit_setN, decide_eq_true_eq] at this
    obtain ⟨p, hp, e⟩ := this
    have := hw p hp
    rw [show (j : Int) = p from by omega]
    exact hp
  · intro e j hj
    rw [testBit_setN, decide_eq_true_eq]
    exact ⟨j, e j (List.mem_range.1 hj), by omega⟩
theorem order_answer (l : List Int) (n : Nat) (hn : n ≤ 32) (hl : l.length = n) (hw : ∀ x ∈ l, 0 ≤ x ∧ x < (n : Int)) :
    ((some ((Lib.onesCount (setN l) : Nat) : Int)).bind fun t => some (t == (n : Int))) = some (decide ((∀ j : Nat, j < n → (j : Int) ∈ l) ∧ l.length = n)) := by
  have h := order_count l n hn hl hw
  generalize Lib.onesCount (setN l) = c at h ⊢
  rw [Option.bind_some]
  refine congrArg some ?_
  rw [Bool.eq_iff_iff, beq_iff_eq, decide_eq_true_eq]
  constructor
  · intro e
    exact ⟨h.1 (by omega), hl⟩
  · intro e
    have := h.2 e.1
    omega
theorem impl_isOrder_eq (l : List Int) (n k : Nat) (hn : n ≤ 32) (hk : l.length < k) (hl : l.length ≤ 1048576) : impl_isOrder.f k l (n : Int) = some (decide ((∀ j : Nat, j < n → (j : Int) ∈ l) ∧ l.length = n)) := by
  unfold impl_isOrder.f
  by_cases h : l.length = n
  · rw [if_pos (by omega), wrap_id (by omega) (by omega), impl_allWithin_eq l _ _ hl k hk]
    rw [Option.bind_some]
    simp only [decide_eq_true_eq]
    by_cases hw : ∀ x ∈ l, 0 ≤ x ∧ x ≤ (n : Int) - 1
    · have hw' : ∀ x ∈ l, 0 ≤ x ∧ x < (n : Int) := fun x hx => ⟨(hw x hx).1, by have := (hw x hx).2; omega⟩
      rw [if_pos hw, impl_setOf_eq l hl (fun x hx => ⟨(hw' x hx).1, by have := (hw' x hx).2; omega⟩) k hk]
      rw [Option.bind_some]
      have hs : setN l < 4294967296 := setN_u32 l (fun p hp => by have := (hw' p hp).2; omega)
      rw [impl_set_count_eq _ hs]
      exact order_answer l n hn h hw'
    · rw [if_neg hw]
      refine congrArg some ?_
      symm
      rw [decide_eq_false_iff_not]
      intro e
      refine hw fun x hx => ?_
      have := order_within l (fun i hi => e.1 i (by omega)) x hx
      omega
  · rw [if_neg (by omega)]
    refine congrArg some ?_
    symm
    rw [decide_eq_false_iff_not]
    exact fun e => h e.2
/-- A change: each number below its length, of which there are 1 to 10. -/
def Change (l : List Int) : Prop := (1 ≤ l.length ∧ l.length ≤ 10) ∧ ∀ j : Nat, j < l.length → (j : Int) ∈ l
instance (l : List Int) : Decidable (Change l) := inferInstanceAs (Decidable (_ ∧ _))
theorem spec_l10Change_eq (l : List Int) (k : Nat) (hl : l.length ≤ 1048576) (hk : l.length + l.length < k) : spec_l10Change.f k l = some (decide (Change l)) := by
  unfold spec_l10Change.f
  rw [spec_l1In_eq]
  rw [Option.bind_some]
  simp only [decide_eq_true_eq]
  by_cases h : (1 : Int) ≤ l.length ∧ (l.length : Int) ≤ 10
  · rw [if_pos h, spec_l4Order_eq l l.length k hl hl hk]
    rw [Option.bind_some]
    refine congrArg some ?_
    rw [decide_eq_decide]
    unfold Change
    constructor
    · intro e; exact ⟨by omega, e.1⟩
    · intro e; exact ⟨e.2, by simp⟩
  · rw [if_neg h]
    refine congrArg some ?_
    symm
    rw [decide_eq_false_iff_not]
    intro e
    have := e.1
    omega
theorem impl_isChange_eq (l : List Int) (k : Nat) (hl : l.length ≤ 1048576) (hk : l.length < k) : impl_isChange.f k l = some (decide (Change l)) := by
  unfold impl_isChange.f impl_isPeople.f
  rw [impl_within_eq, Option.bind_some, Option.bind_some]
  simp only [decide_eq_true_eq]
  by_cases h : (1 : Int) ≤ l.length ∧ (l.length : Int) ≤ 10
  · rw [if_pos h, impl_isOrder_eq l l.length k (by omega) hk hl]
    rw [Option.bind_some]
    refine congrArg some ?_
    rw [decide_eq_decide]
    unfold Change
    constructor
    · intro e; exact ⟨by omega, e.1⟩
    · intro e; exact ⟨e.2, by simp⟩
  · rw [if_neg h]
    refine congrArg some ?_
    symm
    rw [decide_eq_false_iff_not]
    intro e
    have := e.1
    omega

/-! ### inv -/
/-- How many pairs stand out of order: the left one is the greater one. -/
def inv : List Int → Nat
  | [] => 0
  | a :: l => l.countP (fun b => decide (b < a)) + inv l
theorem inv_snoc (l : List Int) (b : Int) : inv (l ++ [b]) = inv l + l.countP (fun a => decide (b < a)) := by
  induction l with
  | nil => rfl
  | cons a l ih =>
    rw [List.cons_append, inv, inv, ih, List.countP_append, List.countP_cons (a := a)]
    simp only [List.countP_singleton]
    omega
theorem inv_le (l : List Int) : inv l ≤ l.length * l.length := by
  induction l with
  | nil => exact Nat.le_refl _
  | cons a l ih =>
    rw [inv, List.length_cons, Nat.mul_add, Nat.add_mul]
    have := List.countP_le_length (p := fun b => decide (b < a)) (l := l)
    omega
theorem spec_l10Pairs_both (l : List Int) (hl : l.length ≤ 1000) (e : Nat) : ∀ k : Nat, e < k →
    (∀ i : Nat, i ≤ l.length → (l.length - i) * (l.length + 2) ≤ e → spec_l10Pairs.l0 k l ((inv (l.take i) : Nat) : Int) i = some ((inv l : Nat) : Int)) ∧
    (∀ i j : Nat, (h : i < l.length) → j ≤ i → (l.length - (i + 1)) * (l.length + 2) + 1 + (i - j) ≤ e → spec_l10Pairs.l1 k l ((inv (l.take i) + (l.take j).countP (fun a => decide (l[i] < a)) : Nat) : Int) i j = some ((inv l : Nat) : Int)) := by
  induction e with
  | zero =>
    intro k hk
    obtain ⟨k, rfl, _⟩ := fuel hk
    refine ⟨fun i hi he => ?_, fun i j h hj he => by omega⟩
    have hi : i = l.length := by
      rcases Nat.eq_or_lt_of_le hi with e | e
      · exact e
      · have : 1 * 1 ≤ (l.length - i) * (l.length + 2) := Nat.mul_le_mul (by omega) (by omega)
        omega
    simp only [spec_l10Pairs.l0]
    rw [if_neg (by omega), List.take_of_length_le (by omega)]
  | succ e ih =>
    intro k hk
    obtain ⟨k, rfl, _⟩ := fuel hk
    have hb : ∀ i, inv (l.take i) ≤ 1000 * 1000 := fun i => Nat.le_trans (inv_le _) (Nat.mul_le_mul (by simp; omega) (by simp; omega))
    refine ⟨fun i hi he => ?_, fun i j h hj he => ?_⟩
    · simp only [spec_l10Pairs.l0]
      by_cases h : i < l.length
      · rw [if_pos (by omega)]
        have := (ih k (by omega)).2 i 0 h (by omega) (by
          have e1 : (l.length - i) * (l.length + 2) = (l.length - (i + 1)) * (l.length + 2) + (l.length + 2) := by
            rw [show l.length - i = l.length - (i + 1) + 1 from by omega, Nat.add_mul, Nat.one_mul]
          omega)
        simpa using this
      · rw [if_neg (by omega), List.take_of_length_le (by omega)]
    · simp only [spec_l10Pairs.l1]
      have hc : (l.take j).countP (fun a => decide (l[i] < a)) ≤ 1000 := Nat.le_trans List.countP_le_length (by simp; omega)
      have hbi := hb i
      by_cases hji : j < i
      · rw [if_pos (by omega), if_pos (by omega), if_pos (by omega), if_pos (by omega), if_pos (by omega), rd_get l j (by omega), rd_get l i h, wrap_one (n := l.length) (i := j) (by omega) (by omega)]
        have h1 := (ih k (by omega)).2 i (j + 1) h (by omega) (by omega)
        rw [List.take_add_one, List.getElem?_eq_getElem (by omega), List.countP_append, Option.toList_some, List.countP_singleton] at h1
        by_cases g : l[j] > l[i]
        · rw [if_pos g, wrap_one (n := 2000000) (by omega) (by omega)]
          rw [if_pos (by simpa using g)] at h1
          rw [← h1]
          rfl
        · rw [if_neg g]
          rw [if_neg (by simpa using g)] at h1
          rw [← h1]
          rfl
      · rw [if_neg (by omega), wrap_one (n := l.length) (by omega) (by omega)]
        have h1 := (ih k (by omega)).1 (i + 1) (by omega) (by omega)
        rw [List.take_add_one, List.getElem?_eq_getElem h, Option.toList_some, inv_snoc] at h1
        rw [show j = i from by omega, ← h1]
theorem spec_l10Pairs_eq (l : List Int) (hl : l.length ≤ 1000) (k : Nat) (hk : l.length * (l.length + 2) < k) : spec_l10Pairs.f k l = some ((inv l : Nat) : Int) := by
  exact (spec_l10Pairs_both l hl _ k hk).1 0 (by omega) (by simp)

/-! ### clone -/
theorem spec_l1Own_eq (l : List Int) (h : l.length < 17592186044416) : spec_l1Own.f l = some l := by
  unfold spec_l1Own.f
  rw [Option.bind_some, if_pos (by simpa using h)]
  rfl
theorem impl_Clone_eq (l : List Int) (h : l.length < 17592186044416) : slices_Clone_int_int.f l = some l := by
  unfold slices_Clone_int_int.f
  rw [if_pos h]

/-! ### swap -/
/-- A list with two neighbors exchanged. -/
def swapL (l : List Int) (p : Nat) : List Int := (l.set p (l.getD (p + 1) 0)).set (p + 1) (l.getD p 0)
theorem swapL_length (l : List Int) (p : Nat) : (swapL l p).length = l.length := by simp [swapL]
theorem spec_l10Swap_eq (l : List Int) (p : Nat) (hl : l.length ≤ 1048576) (h : p + 1 < l.length) : spec_l10Swap.f l (p : Int) = some (swapL l p) := by
  unfold spec_l10Swap.f
  rw [spec_l1Own_eq l (by omega), Option.bind_some, wrap_one (n := l.length) (by omega) (by omega), if_pos (by omega), if_pos (by omega), if_pos (by omega), if_pos (by omega), if_pos (by omega), if_pos (by omega), rd_nat, rd_nat, Int.toNat_natCast, Int.toNat_natCast]
  rfl

/-! ### descents -/
theorem inv_append (A X : List Int) : inv (A ++ X) = inv A + inv X + (A.map fun a => X.countP fun b => decide (b < a)).sum := by
  induction A with
  | nil => simp [inv]
  | cons a A ih =>
    rw [List.cons_append, inv, inv, ih, List.countP_append, List.map_cons, List.sum_cons]
    omega
theorem swapL_split (A C : List Int) (a b : Int) : swapL (A ++ a :: b :: C) A.length = A ++ b :: a :: C := by
  unfold swapL
  rw [List.getD_eq_getElem?_getD, List.getD_eq_getElem?_getD, List.getElem?_append_right (by omega), List.getElem?_append_right (by omega), List.set_append_right _ _ (by omega), List.set_append_right _ _ (by omega)]
  simp
theorem split_at (l : List Int) (p : Nat) (h : p + 1 < l.length) : ∃ A C, A.length = p ∧ l = A ++ l.getD p 0 :: l.getD (p + 1) 0 :: C := by
  refine ⟨l.take p, l.drop (p + 2), by rw [List.length_take]; omega, ?_⟩
  have e1 := (List.take_append_drop p l).symm
  rw [List.drop_eq_getElem_cons (i := p) (by omega), List.drop_eq_getElem_cons (i := p + 1) (by omega)] at e1
  have g1 : l.getD p 0 = l[p] := by simp [List.getD, show p < l.length by omega]
  have g2 : l.getD (p + 1) 0 = l[p + 1] := by simp [List.getD, h]
  rw [g1, g2]
  exact e1
theorem swapL_perm (l : List Int) (p : Nat) (h : p + 1 < l.length) : (swapL l p).Perm l := by
  obtain ⟨A, C, hA, e⟩ := split_at l p h
  generalize l.getD p 0 = a at e
  generalize l.getD (p + 1) 0 = b at e
  subst hA
  rw [e, swapL_split]
  exact (List.Perm.swap a b C).append_left A
theorem inv_swap (l : List Int) (p : Nat) (h : p + 1 < l.length) (hd : l.getD (p + 1) 0 < l.getD p 0) : inv (swapL l p) + 1 = inv l := by
  obtain ⟨A, C, hA, e⟩ := split_at l p h
  generalize l.getD p 0 = a at e hd
  generalize l.getD (p + 1) 0 = b at e hd
  subst hA
  rw [e, swapL_split, inv_append, inv_append]
  have hp : (A.map fun x => (b :: a :: C).countP fun y => decide (y < x)) = A.map fun x => (a :: b :: C).countP fun y => decide (y < x) := by
    refine List.map_congr_left fun x _ => ?_
    exact (List.Perm.swap a b C).countP_eq _
  rw [hp]
  simp only [inv, List.countP_cons]
  have h1 : decide (a < b) = false := decide_eq_false (by omega)
  have h2 : decide (b < a) = true := decide_eq_true hd
  rw [h1, h2]
  simp
  omega
theorem getD_cons (a : Int) (l : List Int) (j : Nat) : (a :: l).getD (j + 1) 0 = l.getD j 0 := by simp [List.getD]
/-- A list that ascends step by step has no pair out of order. -/
theorem inv_of_asc (l : List Int) : (∀ j, j + 1 < l.length → l.getD j 0 < l.getD (j + 1) 0) → inv l = 0 ∧ ∀ x ∈ l, l.getD 0 0 ≤ x := by
  induction l with
  | nil => intro _; exact ⟨rfl, fun x hx => by cases hx⟩
  | cons a l ih =>
    intro h
    cases l with
    | nil => exact ⟨rfl, fun x hx => by simp at hx; simp [hx]⟩
    | cons b l =>
      have ih := ih fun j hj => by
        have := h (j + 1) (by simpa using hj)
        rw [getD_cons, getD_cons] at this
        exact this
      have hab : a < b := by simpa [List.getD] using h 0 (by simp)
      have hall : ∀ x ∈ b :: l, a < x := fun x hx => by
        have := ih.2 x hx
        simp [List.getD] at this
        omega
      constructor
      · rw [inv, ih.1, List.countP_eq_zero.2]
        intro x hx
        have := hall x hx
        simp
        omega
      · intro x hx
        rcases List.mem_cons.1 hx with e | e
        · subst e; simp [List.getD]
        · have := hall x e
          simp [List.getD]
          omega
/-- The first place at which a list doesn't ascend. -/
theorem first_descent (l : List Int) : (∀ j, j + 1 < l.length → l.getD j 0 < l.getD (j + 1) 0) ∨ ∃ p, p + 1 < l.length ∧ (∀ j, j < p → l.getD j 0 < l.getD (j + 1) 0) ∧ ¬ l.getD p 0 < l.getD (p + 1) 0 := by
  induction l with
  | nil => exact .inl fun j hj => by simp at hj
  | cons a l ih =>
    by_cases hab : 1 < (a :: l).length ∧ ¬ (a :: l).getD 0 0 < (a :: l).getD 1 0
    · exact .inr ⟨0, hab.1, fun j hj => by omega, hab.2⟩
    · rcases ih with ih | ⟨p, hp, h1, h2⟩
      · refine .inl fun j hj => ?_
        cases j with
        | zero => exact Classical.byContradiction fun e => hab ⟨hj, e⟩
        | succ j =>
          rw [getD_cons, getD_cons]
          exact ih j (by simpa using hj)
      · refine .inr ⟨p + 1, by simpa using hp, fun j hj => ?_, by rw [getD_cons, getD_cons]; exact h2⟩
        cases j with
        | zero => exact Classical.byContradiction fun e => hab ⟨by simp; omega, e⟩
        | succ j =>
          rw [getD_cons, getD_cons]
          exact h1 j (by omega)
theorem getD_ne (l : List Int) (hn : l.Nodup) (p : Nat) (h : p + 1 < l.length) : l.getD p 0 ≠ l.getD (p + 1) 0 := by
  have g1 : l.getD p 0 = l[p] := by simp [List.getD, show p < l.length by omega]
  have g2 : l.getD (p + 1) 0 = l[p + 1] := by simp [List.getD, h]
  rw [g1, g2]
  intro e
  have := (List.pairwise_iff_getElem.1 hn) p (p + 1) (by omega) h (by omega)
  exact this e
theorem swapL_before (l : List Int) (p j : Nat) (hj : j < p) : (swapL l p).getD j 0 = l.getD j 0 := by
  unfold swapL
  rw [List.getD_eq_getElem?_getD, List.getElem?_set_ne (by omega), List.getElem?_set_ne (by omega), List.getD_eq_getElem?_getD]

/-! ### changes -/
theorem nodup_of_cover : ∀ (r l : List Int), r.Nodup → r ⊆ l → l.length ≤ r.length → l.Nodup
  | [], l, _, _, hl => by
    have : l = [] := List.eq_nil_of_length_eq_zero (by simpa using hl)
    subst this
    exact List.nodup_nil
  | a :: t, l, hn, hs, hl => by
    have ha : a ∈ l := hs List.mem_cons_self
    have hc := List.nodup_cons.1 hn
    have hlen := List.length_erase_of_mem ha
    have hpos := List.length_pos_of_mem ha
    have ht : t ⊆ l.erase a := fun x hx => (List.mem_erase_of_ne (by rintro rfl; exact hc.1 hx)).2 (hs (List.mem_cons_of_mem _ hx))
    have hl' : l.length ≤ t.length + 1 := by simpa using hl
    have ih := nodup_of_cover t (l.erase a) hc.2 ht (by omega)
    refine (List.perm_cons_erase ha).nodup_iff.2 (List.nodup_cons.2 ⟨fun hin => ?_, ih⟩)
    have hs' : (a :: t) ⊆ l.erase a := by
      intro x hx
      rcases List.mem_cons.1 hx with e | e
      · exact e ▸ hin
      · exact ht e
    have := List.Nodup.length_le_of_subset hn hs'
    simp at this
    omega
theorem range_nodup (n : Nat) : ((List.range n).map fun i : Nat => (i : Int)).Nodup := by
  refine List.Pairwise.map _ ?_ List.nodup_range
  intro a b hab he
  exact hab (by omega)
theorem change_nodup (l : List Int) (h : Change l) : l.Nodup := by
  refine nodup_of_cover _ l (range_nodup l.length) ?_ (by simp)
  intro y hy
  obtain ⟨i, hi, rfl⟩ := List.mem_map.1 hy
  exact h.2 i (List.mem_range.1 hi)

/-! ### law_FnExactFirstSideSwaps -/
theorem spec_first_scan (l out : List Int) (hl : l.length ≤ 10) (p : Nat) (hp : p + 1 < l.length) (ho : out.length ≤ 1000) (ha : ∀ j, j < p → l.getD j 0 < l.getD (j + 1) 0) (hd : ¬ l.getD p 0 < l.getD (p + 1) 0) (d : Nat) :
    ∀ k i, i ≤ p → p - i = d → spec_FirstSideSwaps.l1 (k + d + 1) out l (i : Int) = spec_FirstSideSwaps.l0 k (out ++ [(p : Int)]) (swapL l p) := by
  induction d with
  | zero =>
    intro k i hi he
    have : i = p := by omega
    subst this
    simp only [spec_FirstSideSwaps.l1]
    rw [wrap_one (n := l.length) (by omega) (by omega), if_pos (by omega), if_pos (by omega), if_pos (by omega), if_pos (by omega), rd_nat, rd_nat, if_neg hd, if_pos (by omega), spec_l10Swap_eq l i (by omega) hp, Option.bind_some]
  | succ d ih =>
    intro k i hi he
    rw [show k + (d + 1) + 1 = (k + d + 1) + 1 from by omega]
    simp only [spec_FirstSideSwaps.l1]
    rw [wrap_one (n := l.length) (by omega) (by omega), if_pos (by omega), if_pos (by omega), if_pos (by omega), if_pos (by omega), rd_nat, rd_nat, if_pos (ha i (by omega))]
    exact ih k (i + 1) (by omega) (by omega)
theorem impl_first_scan (l out : List Int) (hl : l.length ≤ 10) (p : Nat) (hp : p + 1 < l.length) (ho : out.length ≤ 1000) (ha : ∀ j, j < p → l.getD j 0 < l.getD (j + 1) 0) (hd : ¬ l.getD p 0 < l.getD (p + 1) 0) (d : Nat) :
    ∀ k i, i ≤ p → p - i = d → impl_FirstSideSwaps.l0 (k + d + 1) out l (i : Int) = impl_FirstSideSwaps.l0 k (out ++ [(p : Int)]) (swapL l p) ((p - 1 : Nat) : Int) := by
  induction d with
  | zero =>
    intro k i hi he
    have : i = p := by omega
    subst this
    conv => lhs; simp only [impl_FirstSideSwaps.l0]
    have hm : mx 0 (wrap64 ((i : Int) - 1)) = ((i - 1 : Nat) : Int) := by
      rw [wrap_id (by omega) (by omega)]
      unfold mx
      split <;> omega
    rw [wrap_one (n := l.length) (by omega) (by omega), if_pos (by omega), if_pos (by omega), if_pos (by omega), if_pos (by omega), rd_nat, rd_nat, if_neg hd, if_pos (by omega), hm, Int.toNat_natCast, Int.toNat_natCast]
    rfl
  | succ d ih =>
    intro k i hi he
    rw [show k + (d + 1) + 1 = (k + d + 1) + 1 from by omega]
    conv => lhs; simp only [impl_FirstSideSwaps.l0]
    rw [wrap_one (n := l.length) (by omega) (by omega), if_pos (by omega), if_pos (by omega), if_pos (by omega), if_pos (by omega), rd_nat, rd_nat, if_pos (ha i (by omega))]
    exact ih k (i + 1) (by omega) (by omega)
theorem impl_first_end (l out : List Int) (hl : l.length ≤ 10) (ha : ∀ j, j + 1 < l.length → l.getD j 0 < l.getD (j + 1) 0) (d : Nat) :
    ∀ k i, i < l.length → l.length - i = d → d < k → impl_FirstSideSwaps.l0 k out l (i : Int) = some (out, true) := by
  induction d with
  | zero => intro k i hi he; omega
  | succ d ih =>
    intro k i hi he hk
    obtain ⟨k, rfl, _⟩ := fuel hk
    simp only [impl_FirstSideSwaps.l0]
    rw [wrap_one (n := l.length) (by omega) (by omega)]
    by_cases h : i + 1 < l.length
    · rw [if_pos (by omega), if_pos (by omega), if_pos (by omega), if_pos (by omega), rd_nat, rd_nat, if_pos (ha i h)]
      exact ih k (i + 1) h (by omega) (by omega)
    · rw [if_neg (by omega)]
theorem first_both (m : Nat) : ∀ l : List Int, inv l = m → l.Nodup → 1 ≤ l.length → l.length ≤ 10 → m ≤ 100 → ∃ r : List Int, r.length = m ∧
    (∀ (out : List Int) (k : Nat), out.length + m ≤ 1000 → 200 * m + 200 ≤ k → spec_FirstSideSwaps.l0 k out l = some (out ++ r, true)) ∧
    (∀ (out : List Int) (k i : Nat), out.length + m ≤ 1000 → 200 * m + 200 ≤ k → i < l.length → (∀ j, j < i → l.getD j 0 < l.getD (j + 1) 0) → impl_FirstSideSwaps.l0 k out l (i : Int) = some (out ++ r, true)) := by
  induction m with
  | zero =>
    intro l hm hn h1 h2 _
    have ha : ∀ j, j + 1 < l.length → l.getD j 0 < l.getD (j + 1) 0 := by
      rcases first_descent l with h | ⟨p, hp, _, hd⟩
      · exact h
      · have := inv_swap l p hp (by have := getD_ne l hn p hp; omega)
        omega
    refine ⟨[], rfl, fun out k _ hk => ?_, fun out k i _ hk hi _ => ?_⟩
    · obtain ⟨k, rfl, _⟩ := fuel (show 199 < k by omega)
      have hq : l.length * (l.length + 2) ≤ 10 * 12 := Nat.mul_le_mul (by omega) (by omega)
      simp only [spec_FirstSideSwaps.l0]
      rw [spec_l10Pairs_eq l (by omega) k (by omega), Option.bind_some, if_neg (by omega), List.append_nil]
    · rw [List.append_nil]
      exact impl_first_end l out h2 ha (l.length - i) k i hi rfl (by omega)
  | succ m ih =>
    intro l hm hn h1 h2 h100
    rcases first_descent l with h | ⟨p, hp, ha, hd⟩
    · have := (inv_of_asc l h).1
      omega
    have hlt : l.getD (p + 1) 0 < l.getD p 0 := by have := getD_ne l hn p hp; omega
    obtain ⟨r, hr, hs, hi⟩ := ih (swapL l p) (by have := inv_swap l p hp hlt; omega) ((swapL_perm l p hp).nodup_iff.2 hn) (by rw [swapL_length]; exact h1) (by rw [swapL_length]; exact h2) (by omega)
    refine ⟨(p : Int) :: r, by simp [hr], fun out k ho hk => ?_, fun out k i ho hk hil hai => ?_⟩
    · obtain ⟨k, rfl, _⟩ := fuel (show 0 < k by omega)
      have hq : l.length * (l.length + 2) ≤ 10 * 12 := Nat.mul_le_mul (by omega) (by omega)
      simp only [spec_FirstSideSwaps.l0]
      rw [spec_l10Pairs_eq l (by omega) k (by omega), Option.bind_some, if_pos (by omega)]
      obtain ⟨k', rfl⟩ : ∃ k', k = k' + p + 1 := ⟨k - p - 1, by omega⟩
      have e := spec_first_scan l out h2 p hp (by omega) ha hd p k' 0 (by omega) (by omega)
      rw [show (0 : Int) = ((0 : Nat) : Int) from rfl, e, hs (out ++ [(p : Int)]) k' (by simp; omega) (by omega), List.append_assoc]
      rfl
    · have hip : i ≤ p := by
        rcases Nat.lt_or_ge p i with g | g
        · exact absurd (hai p g) hd
        · exact g
      obtain ⟨k', hk'⟩ : ∃ k', k = k' + (p - i) + 1 := ⟨k - (p - i) - 1, by omega⟩
      rw [hk', impl_first_scan l out h2 p hp (by omega) ha hd (p - i) k' i hip rfl]
      rw [hi (out ++ [(p : Int)]) k' (p - 1) (by simp; omega) (by omega) (by rw [swapL_length]; omega), List.append_assoc]
      · rfl
      · intro j hj
        rw [swapL_before l p j (by omega), swapL_before l p (j + 1) (by omega)]
        exact ha j (by omega)
theorem first_swaps (l : List Int) (hl : l.length ≤ 1048576) : ∃ (r : List Int) (b : Bool), r.length ≤ 1048576 ∧ ∀ k, 2 * l.length + 30000 < k → spec_FirstSideSwaps.f k l = some (r, b) ∧ impl_FirstSideSwaps.f k l = some (r, b) := by
  by_cases h : Change l
  · have h10 := h.1
    have hq : l.length * l.length ≤ 10 * 10 := Nat.mul_le_mul (by omega) (by omega)
    have hi := inv_le l
    obtain ⟨r, hr, hs, hm⟩ := first_both (inv l) l rfl (change_nodup l h) h10.1 h10.2 (by omega)
    refine ⟨r, true, by omega, fun k hk => ?_⟩
    unfold spec_FirstSideSwaps.f impl_FirstSideSwaps.f
    rw [Option.bind_some, spec_l10Change_eq l k hl (by omega), impl_isChange_eq l k hl (by omega), Option.bind_some, Option.bind_some]
    simp only [decide_eq_true_eq]
    rw [if_pos h, if_pos h, spec_l1Own_eq l (by omega), impl_Clone_eq l (by omega), Option.bind_some, Option.bind_some]
    exact ⟨hs [] k (by simp; omega) (by omega), hm [] k 0 (by simp; omega) (by omega) (by omega) (fun j hj => by omega)⟩
  · refine ⟨[], false, by simp, fun k hk => ?_⟩
    unfold spec_FirstSideSwaps.f impl_FirstSideSwaps.f
    rw [Option.bind_some, spec_l10Change_eq l k hl (by omega), impl_isChange_eq l k hl (by omega), Option.bind_some, Option.bind_some]
    simp only [decide_eq_true_eq]
    rw [if_neg h, if_neg h]
    exact ⟨rfl, rfl⟩
theorem FnExactFirstSideSwaps : laws_FnExactFirstSideSwaps.Pure := by
  intro l _ _ _
  by_cases hl : l.length ≤ 1048576
  · obtain ⟨r, b, hr, h⟩ := first_swaps l hl
    refine ⟨2 * l.length + r.length + 30005, ?_⟩
    generalize hk : 2 * l.length + r.length + 30002 = k
    rw [show 2 * l.length + r.length + 30005 = k + 3 from by omega]
    unfold laws_FnExactFirstSideSwaps.f
    rw [if_neg (by omega), laws_toIntS_eq l hl _ (by omega), Option.bind_some, (h (k + 3) (by omega)).1, Option.bind_some, Option.bind_some, (h (k + 3) (by omega)).2, Option.bind_some]
    dsimp only
    rw [laws_eqIntS_self r hr _ (by omega), Option.bind_some, if_pos rfl]
    simp only [laws_FnExactFirstSideSwaps.j0]
    rw [if_neg (by simp), laws_toIntS_eq l hl _ (by omega), Option.bind_some, laws_eqIntS_self l hl _ (by omega), Option.bind_some, if_pos rfl]
    rw [show (1 : Int) = ((1 : Nat) : Int) from rfl, laws_markIntS_eq l 1 _ hl (by omega) (by omega), Option.bind_some]
    dsimp only
    rw [if_neg (by omega), laws_eqIntS_self r hr _ (by omega), Option.bind_some, if_pos rfl]
    simp only [laws_FnExactFirstSideSwaps.j1]
    rw [if_neg (by simp), show (1 : Int) = ((1 : Nat) : Int) from rfl, laws_markIntS_eq r 1 _ hr (by omega) (by omega), Option.bind_some]
    dsimp only
    rw [laws_heldIntS_eq r.length 1 _ hr (by omega) (by omega), Option.bind_some, if_neg (by omega), if_pos rfl, laws_toIntS_eq l hl _ (by omega), Option.bind_some, (h _ (by omega)).2, Option.bind_some]
    dsimp only
    rw [laws_eqIntS_self r hr _ (by omega), Option.bind_some, if_pos rfl]
    simp only [laws_FnExactFirstSideSwaps.j2]
    rw [if_neg (by simp), show (1 : Int) = ((1 : Nat) : Int) from rfl, laws_heldIntS_eq r.length 1 _ hr (by omega) (by omega), Option.bind_some, if_neg (by omega), if_pos rfl]
  · refine ⟨1, ?_⟩
    unfold laws_FnExactFirstSideSwaps.f
    rw [if_pos (by omega)]

end Go.Proofs.Ytmcgamhipilbpaa.Pure
